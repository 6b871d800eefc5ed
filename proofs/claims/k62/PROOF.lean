import PyProof.Rows.All
import HandS.ForMost
import HandS.ForExc
import KE.DataEq
import HandS.TupAny
import HandS.IsInst
import HandS.TupSets
import HandS.Defaults
import HandS.Flow
import HandS.TryMany
import HandS.More
import HandS.ExcField
import HandS.WrittenGet
import HandS.Iter
import KE.GoesEnum
import KE.GoesMore
import HandS.Comp
import HandS.HeadEnd
import HandS.HeadHook1
import HandS.HeadHook2
import HandS.HeadHook3
import HandS.ExcInit
import HandS.Words
import PyProof.StrLawsRepr
import PySem.Challenge.RW_partsmet_k62_any_value_as_a_view
import HandS.Head0
import HandS.Head1
import HandS.Head2
set_option Elab.async false
set_option linter.all false
set_option maxRecDepth 100000
set_option maxHeartbeats 0
section -- Rx0
namespace RX
open PySem

inductive D where
  | non | bl (b : Bool) | int (i : Int) | str (s : List Nat) | lst (xs : List D) | tup (xs : List D)
deriving Inhabited
mutual
def D.py : D → PyData
  | .non => .none
  | .bl b => .bool b
  | .int i => .int i
  | .str s => .str ⟨s.toArray⟩
  | .lst xs => .list (D.pys xs)
  | .tup xs => .tuple (D.pys xs)
def D.pys : List D → List PyData
  | [] => []
  | x :: xs => D.py x :: D.pys xs
end
mutual
def D.depth : D → Nat
  | .lst xs => D.depths xs + 1
  | .tup xs => D.depths xs + 1
  | _ => 0
def D.depths : List D → Nat
  | [] => 0
  | x :: xs => max (D.depth x) (D.depths xs)
end
def b2i (b : Bool) : Int := if b then 1 else 0
mutual
/-- Python's == -/
def D.eqv : D → D → Bool
  | .non, .non => true
  | .bl a, .bl b => a == b
  | .bl a, .int b => b2i a == b
  | .int a, .bl b => a == b2i b
  | .int a, .int b => a == b
  | .str a, .str b => a == b
  | .lst a, .lst b => D.eqvs a b
  | .tup a, .tup b => D.eqvs a b
  | _, _ => false
def D.eqvs : List D → List D → Bool
  | [], [] => true
  | x :: xs, y :: ys => D.eqv x y && D.eqvs xs ys
  | _, _ => false
end
mutual
def D.beq : D → D → Bool
  | .non, .non => true
  | .bl a, .bl b => a == b
  | .int a, .int b => decide (a = b)
  | .str a, .str b => decide (a = b)
  | .lst a, .lst b => D.beqs a b
  | .tup a, .tup b => D.beqs a b
  | _, _ => false
def D.beqs : List D → List D → Bool
  | [], [] => true
  | x :: xs, y :: ys => D.beq x y && D.beqs xs ys
  | _, _ => false
end

/-- values of names, arguments, results: data, or a list that others may change -/
inductive Vl where
  | d (x : D) | c (i : Nat)
deriving Inhabited

inductive Bop where | add | sub | mul | fdiv | mod | pow
deriving DecidableEq
inductive Cop where | eq | ne | lt | le | gt | ge | isn | ntn | inn | nin
deriving DecidableEq
inductive Ty where | int | bool | str | list | tuple
deriving DecidableEq
inductive Bi where
  | len | abs | max2 | min2 | maxl | minl | sum | all | any | int1 | repr | list1 | tuple1 | sorted | sset | divmod | lset
deriving DecidableEq
inductive Mt where | index | count
deriving DecidableEq

mutual
inductive E where
  | var (i : Nat)
  | cst (c : D)
  | glo (g : Nat)
  | bin (o : Bop) (a b : E)
  | neg (a : E)
  | nt (a : E)
  | and (a b : E)
  | or (a b : E)
  | ife (c a b : E)
  | cmp (o : Cop) (a b : E)
  | chn (o p : Cop) (a b c : E)
  | call (f : Nat) (as : Es)
  | callk (f : Nat) (perm : List Nat) (as ks : Es)
  | bi (b : Bi) (as : Es)
  | mth (m : Mt) (o : E) (as : Es)
  | isi (a : E) (ts : List Ty)
  | idx (a i : E)
  | cidx (i : Nat) (k : Nat)
  | slc (a : E) (lo hi : Oe)
  | lst (as : Es)
  | clst (as : Es)
  | tup (as : Es)
  | lc (t : Tg) (s : Sr) (c : Oe) (e : E)
  | gin (neg : Bool) (a : E) (g : Nat)
  | gget (g : Nat) (a : E)
  | exf (i k : Nat)
  | lc2 (t : Tg) (s : Sr) (c : Oe) (t2 : Tg) (s2 : Sr) (c2 : Oe) (e : E)
inductive Es where
  | nil
  | cons (e : E) (es : Es)
inductive Oe where
  | no
  | yes (e : E)
inductive Sr where
  | seq (e : E)
  | rng1 (a : E)
  | rng2 (a b : E)
  | chars (e : E)
  | enum (e : E)
  | zip (a b : E)
inductive Tg where
  | nm (i : Nat)
  | tp (is : List Nat)
end

mutual
inductive S where
  | asg (i : Nat) (e : E)
  | asgN (i : Nat) (e : E)
  | asgT (is : List Nat) (e : E)
  | par (is : List Nat) (es : Es) (ns : List Bool)
  | app (i : Nat) (e : E)
  | ext (i : Nat) (e : E)
  | pop1 (j i : Nat)
  | popT (js : List Nat) (i : Nat)
  | set1 (i : Nat) (k e : E)
  | cset (i k : Nat) (e : E)
  | csetT (i k j : Nat) (e : E)
  | ex (e : E)
  | iff (c : E) (a b : Ss)
  | for (t : Tg) (s : Sr) (b : Ss)
  | whl (c : E) (b : Ss)
  | ret (e : E)
  | rais (k : Nat) (as : Es)
  | tri (b : Ss) (k i : Nat) (h : Ss)
  | frz (i : Nat)
inductive Ss where
  | nil
  | cons (s : S) (ss : Ss)
end
def Es.ofL : List E → Es
  | [] => .nil
  | e :: es => .cons e (Es.ofL es)
def Ss.ofL : List S → Ss
  | [] => .nil
  | e :: es => .cons e (Ss.ofL es)

abbrev Cells := List (List D)
inductive R (α : Type) where
  | ok (a : α) (c : Cells) | exc (k : Nat) (ds : List D) (c : Cells) | stuck
def M (α : Type) := Cells → R α
def M.pure {α} (a : α) : M α := fun c => .ok a c
def M.bind {α β} (m : M α) (f : α → M β) : M β := fun c => match m c with
  | .ok a c' => f a c'
  | .exc k ds c' => .exc k ds c'
  | .stuck => .stuck
def M.fail {α} : M α := fun _ => .stuck
def M.opt {α} : Option α → M α
  | some a => .pure a
  | none => .fail
/-- what may not raise -/
def M.calm {α} (m : M α) : M α := fun c => match m c with
  | .exc _ _ _ => .stuck
  | r => r
instance : Monad M where
  pure := M.pure
  bind := M.bind

def szLine : Nat := 16777216
def D.truth : D → Option Bool
  | .non => some false
  | .bl b => some b
  | .int i => some (i != 0)
  | .str s => if s.length ≤ szLine then some (!s.isEmpty) else none
  | .lst xs => some (!xs.isEmpty)
  | .tup xs => some (!xs.isEmpty)
def mulOk (i j : Int) : Bool := (decide (-(2 ^ 64) < i) && decide (i < 2 ^ 64)) || (decide (-(2 ^ 64) < j) && decide (j < 2 ^ 64))
def Bop.run : Bop → D → D → Option D
  | .add, .int a, .int b => some (.int (a + b))
  | .add, .str a, .str b => if a.length + b.length ≤ szLine then some (.str (a ++ b)) else none
  | .add, .lst a, .lst b => if a.length + b.length ≤ szLine then some (.lst (a ++ b)) else none
  | .add, .tup a, .tup b => if a.length + b.length ≤ szLine then some (.tup (a ++ b)) else none
  | .sub, .int a, .int b => some (.int (a - b))
  | .mul, .int a, .int b => if mulOk a b then some (.int (a * b)) else none
  | .fdiv, .int a, .int b => if decide (0 < b) && decide (b < 1073741824) then some (.int (a / b)) else none
  | .mod, .int a, .int b => if decide (0 < b) then some (.int (a % b)) else none
  | .pow, .int a, .int b => if decide (0 ≤ b) && decide (b ≤ 1000000) && decide (a.natAbs < 2 ^ 64) then some (.int (a ^ b.toNat)) else none
  | _, _, _ => none
def eqOk (a b : D) : Bool := decide (min a.depth b.depth ≤ 64)
def D.isNon : D → Bool
  | .non => true
  | _ => false
def mems (x : D) (xs : List D) : Bool := xs.any fun y => D.eqv y x
def strLt : List Nat → List Nat → Bool := fun a b => decide (a < b)
def Cop.run : Cop → D → D → Option Bool
  | .eq, a, b => if eqOk a b then some (D.eqv a b) else none
  | .ne, a, b => if eqOk a b then some (!D.eqv a b) else none
  | .lt, .int a, .int b => some (decide (a < b))
  | .le, .int a, .int b => some (decide (a ≤ b))
  | .gt, .int a, .int b => some (decide (b < a))
  | .ge, .int a, .int b => some (decide (b ≤ a))
  | .isn, a, .non => some a.isNon
  | .ntn, a, .non => some (!a.isNon)
  | .inn, a, .lst xs => if decide (min (D.depths xs) a.depth ≤ 64) then some (mems a xs) else none
  | .inn, a, .tup xs => if decide (min (D.depths xs) a.depth ≤ 64) then some (mems a xs) else none
  | .inn, .str [c], .str s => some (decide (c ∈ s))
  | .nin, a, .lst xs => if decide (min (D.depths xs) a.depth ≤ 64) then some (!mems a xs) else none
  | .nin, a, .tup xs => if decide (min (D.depths xs) a.depth ≤ 64) then some (!mems a xs) else none
  | .nin, .str [c], .str s => some (!decide (c ∈ s))
  | _, _, _ => none
def D.isTy : D → Ty → Bool
  | .bl _, .bool => true
  | .bl _, .int => true
  | .int _, .int => true
  | .str _, .str => true
  | .lst _, .list => true
  | .tup _, .tuple => true
  | _, _ => false
/-- the place that an index means -/
def ixAt (n : Nat) (i : Int) : Option Nat := if 0 ≤ i then (if i < n then some i.toNat else none) else if -(n : Int) ≤ i then some (i + n).toNat else none
def getAt (xs : List D) (i : Int) : Option D := (ixAt xs.length i).bind fun j => xs[j]?
def D.idx : D → D → Option D
  | .lst xs, .int i => getAt xs i
  | .tup xs, .int i => getAt xs i
  | .str s, .int i => if s.length ≤ szLine then ((ixAt s.length i).bind fun j => s[j]?).map fun c => .str [c] else none
  | _, _ => none
/-- a slice's bound among n -/
def cutIx (n d : Nat) : Option Int → Nat
  | none => d
  | some v => if v < 0 then (v + (n : Int)).toNat else min v.toNat n
def cut {α} (xs : List α) (lo hi : Option Int) : List α := (xs.drop (cutIx xs.length 0 lo)).take (cutIx xs.length xs.length hi - cutIx xs.length 0 lo)
def D.slc : D → Option Int → Option Int → Option D
  | .lst xs, lo, hi => some (.lst (cut xs lo hi))
  | .tup xs, lo, hi => some (.tup (cut xs lo hi))
  | .str s, lo, hi => if s.length ≤ szLine then some (.str (cut s lo hi)) else none
  | _, _, _ => none
def D.items : D → Option (List D)
  | .lst xs => some xs
  | .tup xs => some xs
  | _ => none
def asInts : List D → Option (List Int)
  | [] => some []
  | .int i :: r => (asInts r).map (i :: ·)
  | _ :: _ => none
def asBls : List D → Option (List Bool)
  | [] => some []
  | .bl i :: r => (asBls r).map (i :: ·)
  | _ :: _ => none
def maxI : Int → List Int → Int
  | m, [] => m
  | m, x :: r => maxI (if x > m then x else m) r
def minI : Int → List Int → Int
  | m, [] => m
  | m, x :: r => minI (if x < m then x else m) r
def D.shown (d : D) : List Nat := d.py.shown.cps.toList
def showOk (d : D) : Bool := d.py.showable && decide (d.shown.length ≤ szLine) && decide (d.depth ≤ 64)
/-- sorted: what may be sorted here: ints; tuples of ints of one length -/
def leInts (a b : List Int) : Bool := decide (a ≤ b)
def tupInts : List D → Option (List (List Int))
  | [] => some []
  | .tup xs :: r => (asInts xs).bind fun i => (tupInts r).map (i :: ·)
  | _ :: _ => none
def insI (x : Int) : List Int → List Int
  | [] => [x]
  | y :: r => if x ≤ y then x :: y :: r else y :: insI x r
def sortI : List Int → List Int
  | [] => []
  | x :: r => insI x (sortI r)
/-- pairs of small ints, sorted, none twice -/
def pairs64 : List D → Option (List (Int × Int))
  | [] => some []
  | .tup [.int x, .int y] :: r => if decide (0 ≤ x) && decide (x < 64) && decide (0 ≤ y) && decide (y < 64) then (pairs64 r).map ((x, y) :: ·) else none
  | _ :: _ => none
def insU (p : Int × Int) : List (Int × Int) → List (Int × Int)
  | [] => [p]
  | q :: r => if p.1 * 64 + p.2 < q.1 * 64 + q.2 then p :: q :: r else if p = q then q :: r else q :: insU p r
def sortU : List (Int × Int) → List (Int × Int)
  | [] => []
  | p :: r => insU p (sortU r)
def pairD (p : Int × Int) : D := .tup [.int p.1, .int p.2]
def Bi.run : Bi → List D → Option D
  | .len, [.str s] => if s.length ≤ szLine then some (.int s.length) else none
  | .len, [.lst xs] => some (.int xs.length)
  | .len, [.tup xs] => some (.int xs.length)
  | .abs, [.int i] => some (.int (if i < 0 then -i else i))
  | .max2, [.int i, .int j] => some (.int (if j > i then j else i))
  | .min2, [.int i, .int j] => some (.int (if j < i then j else i))
  | .maxl, [.lst xs] => (asInts xs).bind fun | [] => none | m :: r => some (.int (maxI m r))
  | .minl, [.lst xs] => (asInts xs).bind fun | [] => none | m :: r => some (.int (minI m r))
  | .sum, [.lst xs] => (asInts xs).map fun l => .int l.sum
  | .all, [.lst xs] => (asBls xs).map fun l => .bl (l.all id)
  | .any, [.lst xs] => (asBls xs).map fun l => .bl (l.any id)
  | .int1, [.int i] => some (.int i)
  | .int1, [.bl b] => some (.int (b2i b))
  | .repr, [d] => if showOk d then some (.str d.shown) else none
  | .list1, [.lst xs] => some (.lst xs)
  | .list1, [.tup xs] => some (.lst xs)
  | .tuple1, [.lst xs] => some (.tup xs)
  | .tuple1, [.tup xs] => some (.tup xs)
  | .sorted, [.lst xs] => if xs.length < 64 then (asInts xs).map fun l => .lst ((sortI l).map .int) else none
  | .sset, [.lst xs] => if xs.length < 64 then (pairs64 xs).map fun l => .lst ((sortU l).map pairD) else none
  | .divmod, [.int i, .int j] => if decide (0 < j) && decide (j < 1073741824) then some (.tup [.int (i / j), .int (i % j)]) else none
  | _, _ => none

inductive Sl where
  | no | v (x : Vl) | own (xs : List D) | exn (k : Nat) (ds : List D)
abbrev EnvD := List Sl
def Sl.noX : Sl → Sl
  | .exn _ _ => .no
  | s => s
def EnvD.look (env : EnvD) (i : Nat) : Sl := env.getD i .no
def Tg.bind : Tg → D → EnvD → Option EnvD
  | .nm i, x, env => some (env.set i (.v (.d x)))
  | .tp is, .tup xs, env => if is.length = xs.length then some ((is.zip xs).foldl (fun e p => e.set p.1 (.v (.d p.2))) env) else none
  | _, _, _ => none
def Tg.slots : Tg → List Nat
  | .nm i => [i]
  | .tp is => is
def wipeE (env : EnvD) : List Nat → EnvD
  | [] => env
  | i :: is => (wipeE env is).set i .no
/-- a constant of the module: a value, a dict by texts -/
inductive GV where
  | v (x : D) | t (kvs : List (List Nat × D))
def lookT (k : List Nat) : List (List Nat × D) → Option D
  | [] => none
  | (x, d) :: r => if x = k then some d else lookT k r
def rangeI (lo : Int) (n : Nat) : List D := (List.range n).map fun (k : Nat) => .int (lo + (k : Int))
def rngOk (i : Int) : Bool := decide (i.natAbs < 4611686018427387904)
def enumI : Nat → List D → List D
  | _, [] => []
  | k, x :: r => .tup [.int k, x] :: enumI (k + 1) r

section
variable (call : Nat → List Vl → M Vl) (gl : Nat → Option GV)
/-- a comprehension's loop -/
def lcRun (f : D → M (Option D)) : List D → M (List D)
  | [] => M.pure []
  | x :: r => M.bind (M.calm (f x)) fun o => M.bind (lcRun f r) fun ys => M.pure (match o with | some y => y :: ys | none => ys)
def lcCat (f : D → M (List D)) : List D → M (List D)
  | [] => M.pure []
  | x :: r => M.bind (f x) fun o => M.bind (lcCat f r) fun ys => M.pure (o ++ ys)
def asD : Vl → M D
  | .d x => M.pure x
  | .c _ => M.fail
def truM (v : Vl) : M Bool := M.bind (asD v) fun d => M.opt d.truth
mutual
def ev : E → Bool → EnvD → M Vl
  | .var i, b, env => match env.look i with
    | .v x => M.pure x
    | .own xs => if b then M.pure (.d (.lst xs)) else M.fail
    | _ => M.fail
  | .cst c, b, _ => M.pure (.d c)
  | .glo g, b, _ => match gl g with
    | some (.v x) => M.pure (.d x)
    | _ => M.fail
  | .bin o x y, b, env => M.bind (ev x true env) fun v => M.bind (asD v) fun v => M.bind (ev y true env) fun u => M.bind (asD u) fun u => M.bind (M.opt (o.run v u)) fun z => M.pure (.d z)
  | .neg x, b, env => M.bind (ev x true env) fun v => M.bind (asD v) fun v => match v with
    | .int i => M.pure (.d (.int (-i)))
    | _ => M.fail
  | .nt x, b, env => M.bind (ev x true env) fun v => M.bind (truM v) fun k => M.pure (.d (.bl !k))
  | .and x y, b, env => M.bind (ev x b env) fun v => M.bind (truM v) fun k => if k then ev y b env else M.pure v
  | .or x y, b, env => M.bind (ev x b env) fun v => M.bind (truM v) fun k => if k then M.pure v else ev y b env
  | .ife c x y, b, env => M.bind (ev c true env) fun v => M.bind (truM v) fun k => if k then ev x b env else ev y b env
  | .cmp o x y, b, env => M.bind (ev x true env) fun v => M.bind (asD v) fun v => M.bind (ev y true env) fun u => M.bind (asD u) fun u => M.bind (M.opt (o.run v u)) fun z => M.pure (.d (.bl z))
  | .chn o p x y z, b, env => M.bind (ev x true env) fun v => M.bind (asD v) fun v => M.bind (ev y true env) fun u => M.bind (asD u) fun u => M.bind (M.opt (o.run v u)) fun k =>
      if k then M.bind (ev z true env) fun w => M.bind (asD w) fun w => M.bind (M.opt (p.run u w)) fun k => M.pure (.d (.bl k)) else M.pure (.d (.bl false))
  | .call f as, b, env => M.bind (evs as env) fun vs => call f vs
  | .callk f perm as ks, b, env => M.bind (evs as env) fun vs => M.bind (evs ks env) fun us => M.bind (M.opt (perm.mapM fun i => (vs ++ us)[i]?)) fun ws => call f ws
  | .bi o as, b, env => M.bind (evB as env) fun vs => M.bind (M.opt (o.run vs)) fun z => M.pure (.d z)
  | .mth _ _ _, b, _ => M.fail
  | .isi x ts, b, env => M.bind (ev x true env) fun v => M.bind (asD v) fun v => M.pure (.d (.bl (ts.any v.isTy)))
  | .idx x i, b, env => M.bind (ev x true env) fun v => M.bind (asD v) fun v => M.bind (ev i true env) fun u => M.bind (asD u) fun u => M.bind (M.opt (v.idx u)) fun z => M.pure (.d z)
  | .cidx i k, b, env => match env.look i with
    | .v (.c j) => fun c => match (c[j]?).bind (·[k]?) with
      | some x => .ok (.d x) c
      | none => .stuck
    | _ => M.fail
  | .slc x lo hi, b, env => M.bind (ev x true env) fun v => M.bind (asD v) fun v => M.bind (evO lo env) fun l => M.bind (evO hi env) fun h => M.bind (M.opt (v.slc l h)) fun z => M.pure (.d z)
  | .lst as, b, env => M.bind (evs as env) fun vs => M.bind (M.opt (vs.mapM fun | .d x => some x | .c _ => none)) fun xs => if xs.length ≤ szLine then M.pure (.d (.lst xs)) else M.fail
  | .clst as, b, env => M.bind (evs as env) fun vs => M.bind (M.opt (vs.mapM fun | .d x => some x | .c _ => none)) fun xs => if xs.length ≤ szLine then (fun c => .ok (.c c.length) (c ++ [xs])) else M.fail
  | .tup as, b, env => M.bind (evs as env) fun vs => M.bind (M.opt (vs.mapM fun | .d x => some x | .c _ => none)) fun xs => if xs.length ≤ szLine then M.pure (.d (.tup xs)) else M.fail
  | .lc t s c e, b, env => M.bind (evR s true env) fun xs => M.bind (lcRun (fun x => M.bind (M.opt (t.bind x (wipeE env t.slots))) fun env' => M.bind (evC c env') fun k => if k then M.bind (ev e false env') fun v => M.bind (asD v) fun v => M.pure (some v) else M.pure none) xs) fun ys =>
      if ys.length ≤ szLine then M.pure (.d (.lst ys)) else M.fail
  | .gin neg x g, b, env => M.bind (ev x true env) fun v => M.bind (asD v) fun v => match v, gl g with
    | .str k, some (.t kvs) => M.pure (.d (.bl (neg != (lookT k kvs).isSome)))
    | _, _ => M.fail
  | .gget g x, b, env => M.bind (ev x true env) fun v => M.bind (asD v) fun v => match v, gl g with
    | .str k, some (.t kvs) => M.bind (M.opt (lookT k kvs)) fun d => M.pure (.d d)
    | _, _ => M.fail
  | .exf i k, b, env => match env.look i with
    | .exn _ ds => M.bind (M.opt ds[k]?) fun d => M.pure (.d d)
    | _ => M.fail
  | .lc2 t s c t2 s2 c2 e, b, env => M.bind (evR s true env) fun xs => M.bind (lcCat (fun x => M.bind (M.opt (t.bind x (wipeE env t2.slots))) fun env' => M.bind (M.calm (evC c env')) fun k =>
      if k then M.bind (M.calm (evR s2 true env')) fun zs => lcRun (fun z => M.bind (M.opt (t2.bind z env')) fun env2 => M.bind (evC c2 env2) fun k => if k then M.bind (ev e false env2) fun v => M.bind (asD v) fun v => M.pure (some v) else M.pure none) zs
      else M.pure []) xs) fun ys => if ys.length ≤ szLine then M.pure (.d (.lst ys)) else M.fail
def evs : Es → EnvD → M (List Vl)
  | .nil, _ => M.pure []
  | .cons e es, env => M.bind (ev e false env) fun v => M.bind (evs es env) fun vs => M.pure (v :: vs)
def evB : Es → EnvD → M (List D)
  | .nil, _ => M.pure []
  | .cons e es, env => M.bind (ev e true env) fun v => M.bind (asD v) fun v => M.bind (evB es env) fun vs => M.pure (v :: vs)
def evO : Oe → EnvD → M (Option Int)
  | .no, _ => M.pure none
  | .yes e, env => M.bind (ev e true env) fun v => M.bind (asD v) fun v => match v with
    | .int i => M.pure (some i)
    | _ => M.fail
def evC : Oe → EnvD → M Bool
  | .no, _ => M.pure true
  | .yes e, env => M.bind (ev e true env) truM
/-- what is walked -/
def evR : Sr → Bool → EnvD → M (List D)
  | .seq e, b, env => M.bind (ev e b env) fun v => M.bind (asD v) fun v => M.opt v.items
  | .rng1 a, b, env => M.bind (ev a true env) fun v => M.bind (asD v) fun v => match v with
    | .int j => if rngOk j then M.pure (rangeI 0 j.toNat) else M.fail
    | _ => M.fail
  | .rng2 a e, b, env => M.bind (ev a true env) fun v => M.bind (asD v) fun v => M.bind (ev e true env) fun u => M.bind (asD u) fun u => match v, u with
    | .int i, .int j => if rngOk i && rngOk j then M.pure (rangeI i (j - i).toNat) else M.fail
    | _, _ => M.fail
  | .chars e, b, env => M.bind (ev e true env) fun v => M.bind (asD v) fun v => match v with
    | .str s => M.pure (s.map fun c => .str [c])
    | _ => M.fail
  | .enum e, b, env => M.bind (ev e b env) fun v => M.bind (asD v) fun v => M.bind (M.opt v.items) fun xs => M.pure (enumI 0 xs)
  | .zip a e, b, env => M.bind (ev a b env) fun v => M.bind (asD v) fun v => M.bind (ev e b env) fun u => M.bind (asD u) fun u => match v, u with
    | .lst xs, .lst ys => M.pure (List.zipWith (fun x y => .tup [x, y]) xs ys)
    | _, _ => M.fail
end
inductive SR where
  | nx (env : EnvD) (c : Cells)
  | rt (v : Vl) (c : Cells)
  | exc (k : Nat) (ds : List D) (env : EnvD) (c : Cells)
  | stuck
def SR.thn : SR → (EnvD → Cells → SR) → SR
  | .nx env c, f => f env c
  | r, _ => r
/-- an expression's result within a statement -/
def onR {α : Type} (env : EnvD) : R α → (α → Cells → SR) → SR
  | .ok a c, f => f a c
  | .exc k ds c, _ => .exc k ds env c
  | .stuck, _ => .stuck
def forRun (f : D → EnvD → Cells → SR) : List D → EnvD → Cells → SR
  | [], env, c => .nx env c
  | x :: r, env, c => (f x env c).thn (forRun f r)
/-- n turns of a while at most -/
def whlN (t : EnvD → M Bool) (b : EnvD → Cells → SR) : Nat → EnvD → Cells → SR
  | 0, _, _ => .stuck
  | n + 1, env, c => onR env (t env c) fun k c => if k then (b env c).thn (whlN t b n) else .nx env c
open Classical in
/-- a while, with as many turns as it wants; stuck where it does not end -/
noncomputable def whl (t : EnvD → M Bool) (b : EnvD → Cells → SR) (env : EnvD) (c : Cells) : SR :=
  if h : ∃ n, whlN t b n env c ≠ .stuck then whlN t b h.choose env c else .stuck
/-- a name's new state: a list of one's own where that is wanted -/
def slN (p : Vl × Bool) : Option Sl := if p.2 then (match p.1 with | .d (.lst xs) => some (Sl.own xs) | _ => none) else some (Sl.v p.1)
def setsE (env : EnvD) (is : List Nat) (xs : List Sl) : EnvD := (is.zip xs).foldl (fun e p => e.set p.1 p.2) env
mutual
noncomputable def exs : Ss → EnvD → Cells → SR
  | .nil, env, c => .nx env c
  | .cons s ss, env, c => (exS s env c).thn (exs ss)
noncomputable def exS : S → EnvD → Cells → SR
  | .asg i e, env, c => onR env (ev call gl e false env c) fun v c => .nx (env.set i (.v v)) c
  | .asgN i e, env, c => onR env (ev call gl e false env c) fun v c => match v with
    | .d (.lst xs) => .nx (env.set i (.own xs)) c
    | _ => .stuck
  | .asgT is e, env, c => onR env (ev call gl e false env c) fun v c => match v with
    | .d (.tup xs) => if is.length = xs.length then .nx (setsE env is (xs.map fun x => .v (.d x))) c else .stuck
    | _ => .stuck
  | .par is es ns, env, c => onR env (evs call gl es env c) fun vs c => if is.length = vs.length ∧ ns.length = vs.length ∧ vs.length ≤ szLine then
      (match (vs.zip ns).mapM slN with
      | some sl => .nx (setsE env is sl) c
      | none => .stuck) else .stuck
  | .app i e, env, c => match env.look i with
    | .own xs => onR env (ev call gl e false env c) fun v c => (match v with
      | .d x => if xs.length < szLine then .nx (env.set i (.own (xs ++ [x]))) c else .stuck
      | _ => .stuck)
    | _ => .stuck
  | .ext i e, env, c => match env.look i with
    | .own xs => onR env (ev call gl e false env c) fun v c => (match v with
      | .d (.lst ys) => if xs.length + ys.length ≤ szLine then .nx (env.set i (.own (xs ++ ys))) c else .stuck
      | _ => .stuck)
    | _ => .stuck
  | .pop1 j i, env, c => match env.look i with
    | .own xs => (match xs[xs.length - 1]? with
      | some x => .nx ((env.set i (.own xs.dropLast)).set j (.v (.d x))) c
      | none => .stuck)
    | _ => .stuck
  | .popT js i, env, c => match env.look i with
    | .own xs => (match xs[xs.length - 1]? with
      | some (.tup ys) => if js.length = ys.length then .nx (setsE (env.set i (.own xs.dropLast)) js (ys.map fun x => .v (.d x))) c else .stuck
      | _ => .stuck)
    | _ => .stuck
  | .set1 i k e, env, c => match env.look i with
    | .own xs => onR env (ev call gl e false env c) fun v c => onR env (ev call gl k true env c) fun u c => (match v, u with
      | .d x, .d (.int k) => (match ixAt xs.length k with
        | some j => .nx (env.set i (.own (xs.set j x))) c
        | none => .stuck)
      | _, _ => .stuck)
    | _ => .stuck
  | .cset i k e, env, c => match env.look i with
    | .v (.c j) => onR env (ev call gl e false env c) fun v c => (match v, c[j]? with
      | .d x, some xs => if k < xs.length then .nx env (c.set j (xs.set k x)) else .stuck
      | _, _ => .stuck)
    | _ => .stuck
  | .csetT i k j e, env, c => match env.look i with
    | .v (.c m) => onR env (ev call gl e false env c) fun v c => (match v, c[m]? with
      | .d (.tup [x, y]), some xs => if k < xs.length then .nx (env.set j (.v (.d y))) (c.set m (xs.set k x)) else .stuck
      | _, _ => .stuck)
    | _ => .stuck
  | .ex e, env, c => onR env (ev call gl e true env c) fun _ c => .nx env c
  | .iff t a b, env, c => onR env (M.bind (ev call gl t true env) truM c) fun k c => if k then exs a env c else exs b env c
  | .for t s b, env, c => onR env (evR call gl s false env c) fun xs c => forRun (fun x env c => match t.bind x env with
      | some env' => exs b env' c
      | none => .stuck) xs env c
  | .whl t b, env, c => whl (fun env => M.bind (ev call gl t true env) truM) (exs b) env c
  | .ret e, env, c => onR env (ev call gl e false env c) fun v c => .rt v c
  | .rais k as, env, c => onR env (evs call gl as env c) fun vs c => match vs.mapM fun | Vl.d x => some x | .c _ => none with
    | some ds => .exc k ds env c
    | none => .stuck
  | .tri b k i h, env, c => match exs b env c with
    | .exc k' ds env' c' => if k' = k then (match exs h (env'.set i (.exn k ds)) c' with
        | .nx env2 c2 => .nx ((env2.map Sl.noX).set i .no) c2
        | .rt v c2 => .rt v c2
        | _ => .stuck) else .exc k' ds env' c'
    | r => r
  | .frz i, env, c => match env.look i with
    | .own xs => .nx (env.set i (.v (.d (.lst xs)))) c
    | _ => .stuck
end
end
structure Fn where
  arity : Nat
  slots : Nat
  body : Ss
noncomputable def run (T : Nat → Option Fn) (gl : Nat → Option GV) : Nat → Nat → List Vl → M Vl
  | 0, _, _ => M.fail
  | n + 1, f, vs => fun c => match T f with
    | some fn => if vs.length = fn.arity then (match exs (run T gl n) gl fn.body (vs.map Sl.v ++ List.replicate (fn.slots - fn.arity) .no) c with
        | .nx _ c => .ok (.d .non) c
        | .rt v c => .ok v c
        | .exc k ds _ c => .exc k ds c
        | .stuck => .stuck) else .stuck
    | none => .stuck
end RX
end
section -- Rx1
namespace RX
open PySem PySem.Spec PyProof.Rows L2

mutual
inductive Rep (K : PySem.W.Frag) (F : Hp) : V → D → Prop
  | non : Rep K F .non .non
  | bl (b : Bool) : Rep K F (.bl b) (.bl b)
  | int (i : Int) : Rep K F (.int i) (.int i)
  | str (s : List Nat) : Rep K F (.str ⟨s.toArray⟩) (.str s)
  | lst {a : Addr} {xs : List V} {ds : List D} : Rd F a (.lst xs) → RepL K F xs ds → Rep K F (.ref a) (.lst ds)
  | tup {a : Addr} {xs : List V} {ds : List D} : SqT K F a xs → RepL K F xs ds → Rep K F (.ref a) (.tup ds)
inductive RepL (K : PySem.W.Frag) (F : Hp) : List V → List D → Prop
  | nil : RepL K F [] []
  | cons {v : V} {vs : List V} {d : D} {ds : List D} : Rep K F v d → RepL K F vs ds → RepL K F (v :: vs) (d :: ds)
end
mutual
theorem Rep.dp {K : PySem.W.Frag} {F : Hp} : ∀ {d : D} {v : V}, Rep K F v d → Dp K F v d.py
  | .non, _, h => by cases h; exact .non
  | .bl _, _, h => by cases h; exact .bl _
  | .int _, _, h => by cases h; exact .int _
  | .str _, _, h => by cases h; exact .str _
  | .lst ds, _, h => by
    cases h with
    | lst h1 h2 => exact .lst (.inl h1) (RepL.dp h2)
  | .tup ds, _, h => by
    cases h with
    | tup h1 h2 => exact .tup h1 (RepL.dp h2)
theorem RepL.dp {K : PySem.W.Frag} {F : Hp} : ∀ {ds : List D} {vs : List V}, RepL K F vs ds → DpAll K F vs (D.pys ds)
  | [], _, h => by cases h; exact .nil
  | d :: ds, _, h => by
    cases h with
    | cons h1 h2 => exact .cons (Rep.dp h1) (RepL.dp h2)
end
def Sub (F H : Hp) : Prop := ∀ a o, F a = some o → H a = some o
theorem Sub.refl {H : Hp} : Sub H H := fun _ _ h => h
theorem Sub.trans {F G H : Hp} (a : Sub F G) (b : Sub G H) : Sub F H := fun x o h => b x o (a x o h)
theorem Sub.upd {F H : Hp} {p : Addr} {o : HO} (s : Sub F H) (hp : H p = none) : Sub F (upd H p o) := fun a u h => by
  rw [upd_ne (ne_of_none (s a u h) hp)]
  exact s a u h
theorem Sub.upd2 {F H : Hp} {p : Addr} {o : HO} (s : Sub F H) (hp : H p = none) : Sub (L2.upd F p o) (L2.upd H p o) := fun a u h => by
  by_cases e : a = p
  · subst e
    rw [upd_same] at h ⊢
    exact h
  · rw [upd_ne e] at h ⊢
    exact s a u h
theorem Sub.none {F H : Hp} {p : Addr} (s : Sub F H) (hp : H p = Option.none) : F p = Option.none := by
  cases e : F p with
  | none => rfl
  | some o => rw [s p o e] at hp; cases hp
theorem sub_new {F : Hp} {p : Addr} {o : HO} (h : F p = Option.none) : Sub F (L2.upd F p o) := fun a u e => by
  rw [upd_ne (ne_of_none e h)]
  exact e
section
variable {K : PySem.W.Frag} {F H : Hp}
theorem Rd.mono {a : Addr} {u : HO} (s : Sub F H) (h : Rd F a u) : Rd H a u := by
  rcases h with h | ⟨o, h⟩
  · exact .inl (s _ _ h)
  · exact .inr ⟨o, s _ _ h⟩
theorem SqT.mono {a : Addr} {xs : List V} (s : Sub F H) (h : SqT K F a xs) : SqT K H a xs := by
  rcases h with (h | ⟨o, h⟩) | h
  · exact .inl (.inl (s _ _ h))
  · exact .inl (.inr ⟨o, s _ _ h⟩)
  · exact .inr h
mutual
theorem Rep.mono (s : Sub F H) : ∀ {d : D} {v : V}, Rep K F v d → Rep K H v d
  | .non, _, h => by cases h; exact .non
  | .bl _, _, h => by cases h; exact .bl _
  | .int _, _, h => by cases h; exact .int _
  | .str _, _, h => by cases h; exact .str _
  | .lst _, _, h => by
    cases h with
    | lst h1 h2 => exact .lst (Rd.mono s h1) (RepL.mono s h2)
  | .tup _, _, h => by
    cases h with
    | tup h1 h2 => exact .tup (SqT.mono s h1) (RepL.mono s h2)
theorem RepL.mono (s : Sub F H) : ∀ {ds : List D} {vs : List V}, RepL K F vs ds → RepL K H vs ds
  | [], _, h => by cases h; exact .nil
  | _ :: _, _, h => by
    cases h with
    | cons h1 h2 => exact .cons (Rep.mono s h1) (RepL.mono s h2)
end
theorem pys_map : ∀ xs : List D, D.pys xs = xs.map D.py
  | [] => rfl
  | x :: r => by rw [D.pys, pys_map r, List.map_cons]
theorem pys_append (xs ys : List D) : D.pys (xs ++ ys) = D.pys xs ++ D.pys ys := by simp only [pys_map, List.map_append]
theorem Rep.ofNon {v : V} (h : Rep K F v .non) : v = .non := by cases h; rfl
theorem Rep.ofBl {v : V} {b : Bool} (h : Rep K F v (.bl b)) : v = .bl b := by cases h; rfl
theorem Rep.ofInt {v : V} {b : Int} (h : Rep K F v (.int b)) : v = .int b := by cases h; rfl
theorem Rep.ofStr {v : V} {b : List Nat} (h : Rep K F v (.str b)) : v = .str ⟨b.toArray⟩ := by cases h; rfl
theorem Rep.ofLst {v : V} {b : List D} (h : Rep K F v (.lst b)) : ∃ a xs, v = .ref a ∧ Rd F a (.lst xs) ∧ RepL K F xs b := by
  cases h with
  | lst h1 h2 => exact ⟨_, _, rfl, h1, h2⟩
theorem Rep.ofTup {v : V} {b : List D} (h : Rep K F v (.tup b)) : ∃ a xs, v = .ref a ∧ SqT K F a xs ∧ RepL K F xs b := by
  cases h with
  | tup h1 h2 => exact ⟨_, _, rfl, h1, h2⟩
theorem RepL.nil_inv {vs : List V} (h : RepL K F vs []) : vs = [] := by cases h; rfl
theorem RepL.cons_inv {vs : List V} {d : D} {ds : List D} (h : RepL K F vs (d :: ds)) : ∃ v r, vs = v :: r ∧ Rep K F v d ∧ RepL K F r ds := by
  cases h with
  | cons h1 h2 => exact ⟨_, _, rfl, h1, h2⟩
theorem RepL.length : ∀ {ds : List D} {vs : List V}, RepL K F vs ds → vs.length = ds.length
  | [], _, h => by rw [h.nil_inv]; rfl
  | d :: ds, _, h => by
    obtain ⟨v, r, rfl, _, h2⟩ := h.cons_inv
    simp [RepL.length h2]
theorem RepL.append : ∀ {ds es : List D} {vs us : List V}, RepL K F vs ds → RepL K F us es → RepL K F (vs ++ us) (ds ++ es)
  | [], _, _, _, h, h' => by rw [h.nil_inv]; exact h'
  | d :: ds, _, _, _, h, h' => by
    obtain ⟨v, r, rfl, h1, h2⟩ := h.cons_inv
    exact RepL.cons h1 (RepL.append h2 h')
theorem RepL.drop : ∀ {ds : List D} {vs : List V} (n : Nat), RepL K F vs ds → RepL K F (vs.drop n) (ds.drop n)
  | _, _, 0, h => h
  | [], _, n + 1, h => by rw [h.nil_inv]; exact RepL.nil
  | d :: ds, _, n + 1, h => by
    obtain ⟨v, r, rfl, h1, h2⟩ := h.cons_inv
    exact RepL.drop n h2
theorem RepL.take : ∀ {ds : List D} {vs : List V} (n : Nat), RepL K F vs ds → RepL K F (vs.take n) (ds.take n)
  | _, _, 0, _ => RepL.nil
  | [], _, n + 1, h => by rw [h.nil_inv]; exact RepL.nil
  | d :: ds, _, n + 1, h => by
    obtain ⟨v, r, rfl, h1, h2⟩ := h.cons_inv
    exact RepL.cons h1 (RepL.take n h2)
theorem RepL.get : ∀ {ds : List D} {vs : List V} {i : Nat} {d : D}, RepL K F vs ds → ds[i]? = some d → ∃ v, vs[i]? = some v ∧ Rep K F v d
  | [], _, _, _, _, e => by simp at e
  | x :: ds, _, 0, d, h, e => by
    obtain ⟨v, r, rfl, h1, h2⟩ := h.cons_inv
    simp at e; subst e
    exact ⟨v, rfl, h1⟩
  | x :: ds, _, i + 1, d, h, e => by
    obtain ⟨v, r, rfl, h1, h2⟩ := h.cons_inv
    obtain ⟨u, e1, e2⟩ := RepL.get (i := i) h2 (by simpa using e)
    exact ⟨u, by simpa using e1, e2⟩
theorem RepL.getV : ∀ {ds : List D} {vs : List V} {i : Nat} {v : V}, RepL K F vs ds → vs[i]? = some v → ∃ d, ds[i]? = some d ∧ Rep K F v d
  | [], _, _, _, h, e => by rw [h.nil_inv] at e; simp at e
  | x :: ds, _, 0, d, h, e => by
    obtain ⟨v, r, rfl, h1, h2⟩ := h.cons_inv
    simp at e; subst e
    exact ⟨x, rfl, h1⟩
  | x :: ds, _, i + 1, d, h, e => by
    obtain ⟨v, r, rfl, h1, h2⟩ := h.cons_inv
    obtain ⟨u, e1, e2⟩ := RepL.getV (i := i) h2 (by simpa using e)
    exact ⟨u, by simpa using e1, e2⟩
theorem RepL.set : ∀ {ds : List D} {vs : List V} (i : Nat) {v : V} {d : D}, RepL K F vs ds → Rep K F v d → RepL K F (vs.set i v) (ds.set i d)
  | [], _, i, _, _, h, _ => by rw [h.nil_inv]; exact RepL.nil
  | x :: ds, _, 0, v, d, h, r => by
    obtain ⟨v', r', rfl, h1, h2⟩ := h.cons_inv
    exact RepL.cons r h2
  | x :: ds, _, i + 1, v, d, h, r => by
    obtain ⟨v', r', rfl, h1, h2⟩ := h.cons_inv
    exact RepL.cons h1 (RepL.set i h2 r)
theorem RepL.dropLast {ds : List D} {vs : List V} (h : RepL K F vs ds) : RepL K F vs.dropLast ds.dropLast := by
  rw [List.dropLast_eq_take, List.dropLast_eq_take, h.length]
  exact h.take _
theorem cut_eq {α} (xs : List α) (lo hi : Option Int) : cut xs lo hi = (xs.drop (HT.sIx xs.length 0 lo)).take (HT.sIx xs.length xs.length hi - HT.sIx xs.length 0 lo) := by
  have e : ∀ n d o, cutIx n d o = HT.sIx n d o := fun n d o => by cases o <;> rfl
  unfold cut
  rw [e, e]
theorem RepL.cut {ds : List D} {vs : List V} (lo hi : Option Int) (h : RepL K F vs ds) : RepL K F (cutV vs lo hi) (cut ds lo hi) := by
  rw [cut_eq]
  unfold cutV
  rw [h.length]
  exact (h.drop _).take _
theorem RepL.ints : ∀ {ds : List D} {vs : List V} {is : List Int}, RepL K F vs ds → asInts ds = some is → vs = is.map V.int
  | [], _, is, h, e => by
    rw [h.nil_inv]
    cases e; rfl
  | .int i :: ds, _, is, h, e => by
    obtain ⟨v, r, rfl, h1, h2⟩ := h.cons_inv
    simp only [asInts, Option.map_eq_some_iff] at e
    obtain ⟨l, e1, rfl⟩ := e
    rw [RepL.ints h2 e1, h1.ofInt, List.map_cons]
  | .non :: _, _, _, _, e => by simp [asInts] at e
  | .bl _ :: _, _, _, _, e => by simp [asInts] at e
  | .str _ :: _, _, _, _, e => by simp [asInts] at e
  | .lst _ :: _, _, _, _, e => by simp [asInts] at e
  | .tup _ :: _, _, _, _, e => by simp [asInts] at e
theorem RepL.bls : ∀ {ds : List D} {vs : List V} {is : List Bool}, RepL K F vs ds → asBls ds = some is → vs = is.map V.bl
  | [], _, is, h, e => by
    rw [h.nil_inv]
    cases e; rfl
  | .bl i :: ds, _, is, h, e => by
    obtain ⟨v, r, rfl, h1, h2⟩ := h.cons_inv
    simp only [asBls, Option.map_eq_some_iff] at e
    obtain ⟨l, e1, rfl⟩ := e
    rw [RepL.bls h2 e1, h1.ofBl, List.map_cons]
  | .non :: _, _, _, _, e => by simp [asBls] at e
  | .int _ :: _, _, _, _, e => by simp [asBls] at e
  | .str _ :: _, _, _, _, e => by simp [asBls] at e
  | .lst _ :: _, _, _, _, e => by simp [asBls] at e
  | .tup _ :: _, _, _, _, e => by simp [asBls] at e
theorem repL_ints : ∀ is : List Int, RepL K F (is.map V.int) (is.map D.int)
  | [] => RepL.nil
  | i :: r => RepL.cons (.int i) (repL_ints r)

/-- a value that is looked at: data, or a list by itself -/
inductive RepB (K : PySem.W.Frag) (F H : Hp) : V → D → Prop
  | rep {v : V} {d : D} : Rep K F v d → RepB K F H v d
  | own {a : Addr} {xs : List V} {ds : List D} : H a = some (.lst xs) → RepL K F xs ds → RepB K F H (.ref a) (.lst ds)
inductive RepBs (K : PySem.W.Frag) (F H : Hp) : List V → List D → Prop
  | nil : RepBs K F H [] []
  | cons {v : V} {vs : List V} {d : D} {ds : List D} : RepB K F H v d → RepBs K F H vs ds → RepBs K F H (v :: vs) (d :: ds)
theorem RepB.dp {v : V} {d : D} (s : Sub F H) (h : RepB K F H v d) : Dp K H v d.py := by
  cases h with
  | rep h => exact (h.mono s).dp
  | own h1 h2 => exact .lst (.inl (.inl h1)) (h2.mono s).dp
theorem RepB.ofNon {v : V} (h : RepB K F H v .non) : v = .non := by
  cases h with
  | rep h => exact h.ofNon
theorem RepB.ofBl {v : V} {b : Bool} (h : RepB K F H v (.bl b)) : v = .bl b := by
  cases h with
  | rep h => exact h.ofBl
theorem RepB.ofInt {v : V} {b : Int} (h : RepB K F H v (.int b)) : v = .int b := by
  cases h with
  | rep h => exact h.ofInt
theorem RepB.ofStr {v : V} {b : List Nat} (h : RepB K F H v (.str b)) : v = .str ⟨b.toArray⟩ := by
  cases h with
  | rep h => exact h.ofStr
theorem RepB.ofLst {v : V} {b : List D} (s : Sub F H) (h : RepB K F H v (.lst b)) : ∃ a xs, v = .ref a ∧ Rd H a (.lst xs) ∧ RepL K F xs b := by
  cases h with
  | rep h =>
    obtain ⟨a, xs, e, h1, h2⟩ := h.ofLst
    exact ⟨a, xs, e, Rd.mono s h1, h2⟩
  | own h1 h2 => exact ⟨_, _, rfl, .inl h1, h2⟩
theorem RepB.ofTup {v : V} {b : List D} (s : Sub F H) (h : RepB K F H v (.tup b)) : ∃ a xs, v = .ref a ∧ SqT K H a xs ∧ RepL K F xs b := by
  cases h with
  | rep h =>
    obtain ⟨a, xs, e, h1, h2⟩ := h.ofTup
    exact ⟨a, xs, e, SqT.mono s h1, h2⟩
theorem RepB.tupRep {v : V} {b : List D} (h : RepB K F H v (.tup b)) : Rep K F v (.tup b) := by
  cases h with
  | rep h => exact h
theorem RepBs.nil_inv {vs : List V} (h : RepBs K F H vs []) : vs = [] := by cases h; rfl
theorem RepBs.cons_inv {vs : List V} {d : D} {ds : List D} (h : RepBs K F H vs (d :: ds)) : ∃ v r, vs = v :: r ∧ RepB K F H v d ∧ RepBs K F H r ds := by
  cases h with
  | cons h1 h2 => exact ⟨_, _, rfl, h1, h2⟩
theorem RepBs.one {vs : List V} {d : D} (h : RepBs K F H vs [d]) : ∃ v, vs = [v] ∧ RepB K F H v d := by
  obtain ⟨v, r, rfl, h1, h2⟩ := h.cons_inv
  rw [h2.nil_inv]
  exact ⟨v, rfl, h1⟩
theorem RepBs.two {vs : List V} {d e : D} (h : RepBs K F H vs [d, e]) : ∃ v u, vs = [v, u] ∧ RepB K F H v d ∧ RepB K F H u e := by
  obtain ⟨v, r, rfl, h1, h2⟩ := h.cons_inv
  obtain ⟨u, rfl, h3⟩ := h2.one
  exact ⟨v, u, rfl, h1, h3⟩

/-- what a rule leaves: z, new where it is a list -/
def Fin (K : PySem.W.Frag) (F H : Hp) (z : D) (Q : VK) : Prop :=
  match z with
  | .lst ds => ∀ p vs, H p = none → RepL K F vs ds → Q (.ref p) (upd H p (.lst vs))
  | .tup ds => (∀ v, Rep K F v (.tup ds) → Q v H) ∧ ∀ p vs, H p = none → RepL K F vs ds → Q (.ref p) (upd H p (.tup vs))
  | z => ∀ v, Rep K F v z → Q v H
end

section
variable {X : Cx}
theorem rd_obj {P : Program} {w : World} {H : Hp} {h : Heap} {a : Addr} {xs : List V} (hok : HOk P w H h) (r : Rd H a (.lst xs)) : xs.length ≤ sizeLine ∧ ∃ (its : List Value) (n : Nat), Vals xs its ∧ xs.length = its.length ∧ h.get? a = some { cls := .type "list", data := .seq its.toArray n } := by
  obtain ⟨z, its, n, v, e⟩ := r.ok hok
  exact ⟨z, its, n, v, v.length, e⟩
theorem line_eq : sizeLine = szLine := by rw [sizeLine_eq]; rfl
/-- xs + ys -/
theorem op_catR : OpR X (binaryOp .Add) (fun x y H Q => ∃ l b xs zs, x = .ref l ∧ y = .ref b ∧ Rd H l (.lst xs) ∧ Rd H b (.lst zs) ∧ xs.length + zs.length ≤ sizeLine ∧ ∀ p, H p = none → Q (.ref p) (upd H p (.lst (xs ++ zs)))) := by
  intro pins s σ H x y v u Q I rx ry h
  obtain ⟨l, b, xs, zs, rfl, rfl, hH, hB, hz, q⟩ := h
  cases rx
  cases ry
  obtain ⟨_, i1, n, r, l1, e⟩ := rd_obj I.hok hH
  obtain ⟨_, i2, m, r2, l2, e2⟩ := rd_obj I.hok hB
  refine PySem.P.add_list e e2 ?_ (by simp only [List.size_toArray]; omega)
  rw [show i1.toArray ++ i2.toArray = (i1 ++ i2).toArray by simp]
  exact ⟨.ref _, _, I.lnew (t' := s.toks) (r.append r2) (by simp only [List.length_append]; omega), rfl, q _ I.fresh⟩
/-- two values by an operator -/
def rBop (K : PySem.W.Frag) (o : Bop) : R2 := fun x y H Q => ∃ F d e z, Sub F H ∧ RepB K F H x d ∧ RepB K F H y e ∧ o.run d e = some z ∧ Fin K F H z Q
theorem bop_add : OpR X (binaryOp .Add) (rBop X.K .add) := by
  intro pins s σ H x y v u Q I rx ry h
  obtain ⟨F, d, e, z, sub, hd, he, hr, fin⟩ := h
  cases d <;> cases e <;> try (simp only [Bop.run, reduceCtorEq] at hr; done)
  · rename_i a b
    rw [hd.ofInt] at rx; rw [he.ofInt] at ry
    cases hr
    exact op_add pins s σ H _ _ v u Q I rx ry ⟨_, _, rfl, rfl, fin _ (.int _)⟩
  · rename_i a b
    rw [hd.ofStr] at rx; rw [he.ofStr] at ry
    simp only [Bop.run] at hr
    split at hr <;> cases hr
    rename_i hz
    refine op_add_str pins s σ H _ _ v u Q I rx ry ⟨_, _, rfl, rfl, ?_, ?_⟩
    · rw [line_eq]; exact hz
    · have := fin _ (.str (a ++ b))
      have e : (⟨a.toArray⟩ : Str) ++ ⟨b.toArray⟩ = ⟨(a ++ b).toArray⟩ := by
        show Str.append _ _ = _
        simp [Str.append]
      rw [e]
      exact this
  · rename_i a b
    obtain ⟨l, xs, rfl, h1, h2⟩ := hd.ofLst sub
    obtain ⟨m, ys, rfl, h3, h4⟩ := he.ofLst sub
    simp only [Bop.run] at hr
    split at hr <;> cases hr
    rename_i hz
    exact op_catR pins s σ H _ _ v u Q I rx ry ⟨_, _, _, _, rfl, rfl, h1, h3, by rw [h2.length, h4.length, line_eq]; exact hz, fun p hp => fin p _ hp (h2.append h4)⟩
  · rename_i a b
    have dr := hd.tupRep
    have er := he.tupRep
    obtain ⟨l, xs, rfl, h1, h2⟩ := dr.ofTup
    obtain ⟨m, ys, rfl, h3, h4⟩ := er.ofTup
    simp only [Bop.run] at hr
    split at hr <;> cases hr
    rename_i hz
    refine op_catA pins s σ H _ _ v u Q I rx ry ⟨_, _, _, _, rfl, rfl, SqT.mono sub h1, SqT.mono sub h3, by rw [h2.length, h4.length, line_eq]; exact hz, fun e => ?_, fun _ e => ?_, fun _ _ p hp => fin.2 p _ hp (h2.append h4)⟩
    · subst e
      have : a = [] := by
        have := h2.length
        cases a with
        | nil => rfl
        | cons _ _ => simp at this
      subst this
      exact fin.1 _ er
    · subst e
      have : b = [] := by
        have := h4.length
        cases b with
        | nil => rfl
        | cons _ _ => simp at this
      subst this
      rw [List.append_nil] at fin
      exact fin.1 _ dr
theorem bop_sub : OpR X (binaryOp .Sub) (rBop X.K .sub) := by
  intro pins s σ H x y v u Q I rx ry h
  obtain ⟨F, d, e, z, sub, hd, he, hr, fin⟩ := h
  cases d <;> cases e <;> try (simp only [Bop.run, reduceCtorEq] at hr; done)
  rw [hd.ofInt] at rx; rw [he.ofInt] at ry
  cases hr
  exact op_sub pins s σ H _ _ v u Q I rx ry ⟨_, _, rfl, rfl, fin _ (.int _)⟩
theorem bop_mul : OpR X (binaryOp .Mult) (rBop X.K .mul) := by
  intro pins s σ H x y v u Q I rx ry h
  obtain ⟨F, d, e, z, sub, hd, he, hr, fin⟩ := h
  cases d <;> cases e <;> try (simp only [Bop.run, reduceCtorEq] at hr; done)
  rw [hd.ofInt] at rx; rw [he.ofInt] at ry
  simp only [Bop.run] at hr
  split at hr <;> cases hr
  rename_i hz
  refine op_mul pins s σ H _ _ v u Q I rx ry ⟨_, _, rfl, rfl, ?_, fin _ (.int _)⟩
  simpa [mulOk, CMul] using hz
theorem bop_fdiv : OpR X (binaryOp .FloorDiv) (rBop X.K .fdiv) := by
  intro pins s σ H x y v u Q I rx ry h
  obtain ⟨F, d, e, z, sub, hd, he, hr, fin⟩ := h
  cases d <;> cases e <;> try (simp only [Bop.run, reduceCtorEq] at hr; done)
  rw [hd.ofInt] at rx; rw [he.ofInt] at ry
  simp only [Bop.run] at hr
  split at hr <;> cases hr
  rename_i hz
  refine op_fdiv pins s σ H _ _ v u Q I rx ry ⟨_, _, rfl, rfl, ?_, fin _ (.int _)⟩
  simpa [CDiv] using hz
theorem bop_mod : OpR X (binaryOp .Mod) (rBop X.K .mod) := by
  intro pins s σ H x y v u Q I rx ry h
  obtain ⟨F, d, e, z, sub, hd, he, hr, fin⟩ := h
  cases d <;> cases e <;> try (simp only [Bop.run, reduceCtorEq] at hr; done)
  rw [hd.ofInt] at rx; rw [he.ofInt] at ry
  simp only [Bop.run] at hr
  split at hr <;> cases hr
  rename_i hz
  exact op_mod pins s σ H _ _ v u Q I rx ry ⟨_, _, rfl, rfl, by simpa using hz, fin _ (.int _)⟩
theorem bop_pow : OpR X (binaryOp .Pow) (rBop X.K .pow) := by
  intro pins s σ H x y v u Q I rx ry h
  obtain ⟨F, d, e, z, sub, hd, he, hr, fin⟩ := h
  cases d <;> cases e <;> try (simp only [Bop.run, reduceCtorEq] at hr; done)
  rw [hd.ofInt] at rx; rw [he.ofInt] at ry
  simp only [Bop.run] at hr
  split at hr <;> cases hr
  rename_i hz
  refine op_pow pins s σ H _ _ v u Q I rx ry ⟨_, _, rfl, rfl, ?_, fin _ (.int _)⟩
  simp only [Bool.and_eq_true, decide_eq_true_eq] at hz
  exact ⟨hz.1.1, hz.1.2, hz.2⟩
def Bop.py : Bop → Operator
  | .add => .Add | .sub => .Sub | .mul => .Mult | .fdiv => .FloorDiv | .mod => .Mod | .pow => .Pow
theorem bop_all (o : Bop) : OpR X (binaryOp o.py) (rBop X.K o) := by
  cases o
  · exact bop_add
  · exact bop_sub
  · exact bop_mul
  · exact bop_fdiv
  · exact bop_mod
  · exact bop_pow
end
end RX
end
section -- Rx2
namespace RX
open PySem PySem.Spec PyProof.Rows L2

mutual
theorem py_plain : ∀ d : D, d.py.plain = true
  | .non => rfl
  | .bl _ => rfl
  | .int _ => rfl
  | .str _ => rfl
  | .lst xs => by rw [D.py, PyData.plain]; exact pys_plain xs
  | .tup xs => by rw [D.py, PyData.plain]; exact pys_plain xs
theorem pys_plain : ∀ ds : List D, PyData.plainAll (D.pys ds) = true
  | [] => rfl
  | d :: ds => by rw [D.pys, PyData.plainAll, py_plain d, pys_plain ds]; rfl
end
mutual
theorem py_depth : ∀ d : D, d.py.depth = d.depth
  | .non => rfl
  | .bl _ => rfl
  | .int _ => rfl
  | .str _ => rfl
  | .lst xs => by rw [D.py, PyData.depth, D.depth, pys_depth xs]
  | .tup xs => by rw [D.py, PyData.depth, D.depth, pys_depth xs]
theorem pys_depth : ∀ ds : List D, PyData.depthAll (D.pys ds) = D.depths ds
  | [] => rfl
  | d :: ds => by rw [D.pys, PyData.depthAll, D.depths, py_depth d, pys_depth ds]
end
theorem str_beq (a b : List Nat) : ((⟨a.toArray⟩ : Str) == ⟨b.toArray⟩) = (a == b) := by
  rw [Bool.eq_iff_iff]
  simp
mutual
theorem py_eqv : ∀ d e : D, PyData.eqv d.py e.py = D.eqv d e
  | .non, e => by cases e <;> simp only [D.py, PyData.eqv, D.eqv]
  | .bl a, e => by
    cases e <;> simp only [D.py, PyData.eqv, D.eqv, b2i]
  | .int a, e => by
    cases e <;> simp only [D.py, PyData.eqv, D.eqv, b2i]
  | .str a, e => by
    cases e <;> simp only [D.py, PyData.eqv, D.eqv, str_beq]
  | .lst xs, e => by
    cases e <;> simp only [D.py, PyData.eqv, D.eqv]
    exact pys_eqv xs _
  | .tup xs, e => by
    cases e <;> simp only [D.py, PyData.eqv, D.eqv]
    exact pys_eqv xs _
theorem pys_eqv : ∀ ds es : List D, PyData.eqvAll (D.pys ds) (D.pys es) = D.eqvs ds es
  | [], [] => rfl
  | [], _ :: _ => rfl
  | _ :: _, [] => rfl
  | d :: ds, e :: es => by rw [D.pys, D.pys, PyData.eqvAll, D.eqvs, py_eqv d e, pys_eqv ds es]
end
section
variable {X : Cx}
theorem fin_bool {pins : List (Addr × Obj)} {σ : L2.St} {H : Hp} {s : Shared} {Q : VK} {k : Bool} {F : Hp} (I : Inv X pins σ H s) (f : ∀ v, Rep X.K F v (.bl k) → Q v H) : EP X pins σ Q (.bool k) s := ⟨.bl k, H, I, rfl, f _ (.bl k)⟩
def rCop (K : PySem.W.Frag) (o : Cop) : R2 := fun x y H Q => ∃ F d e k, Sub F H ∧ RepB K F H x d ∧ RepB K F H y e ∧ o.run d e = some k ∧ ∀ v, Rep K F v (.bl k) → Q v H
theorem cop_eq (hu : X.A.units + 65 < cLine) : OpR X (compareOp .Eq) (rCop X.K .eq) := by
  intro pins s σ H x y v u Q I rx ry h
  obtain ⟨F, d, e, k, sub, hd, he, hr, fin⟩ := h
  obtain ⟨as, ra⟩ := Dp.reads I _ _ _ (hd.dp sub) rx
  obtain ⟨bs, rb⟩ := Dp.reads I _ _ _ (he.dp sub) ry
  simp only [Cop.run] at hr
  split at hr <;> cases hr
  rename_i ok
  have ok' : min d.depth e.depth ≤ 64 := of_decide_eq_true ok
  refine SeqAt.eq_plain ra rb (py_plain d) (py_plain e) (by rw [py_depth, py_depth]; omega) ?_
  rw [py_eqv]
  exact fin_bool I fin
theorem cop_ne (hu : X.A.units + 65 < cLine) : OpR X (compareOp .NotEq) (rCop X.K .ne) := by
  intro pins s σ H x y v u Q I rx ry h
  obtain ⟨F, d, e, k, sub, hd, he, hr, fin⟩ := h
  obtain ⟨as, ra⟩ := Dp.reads I _ _ _ (hd.dp sub) rx
  obtain ⟨bs, rb⟩ := Dp.reads I _ _ _ (he.dp sub) ry
  simp only [Cop.run] at hr
  split at hr <;> cases hr
  rename_i ok
  have ok' : min d.depth e.depth ≤ 64 := of_decide_eq_true ok
  refine SeqAt.ne_plain ra rb (py_plain d) (py_plain e) (by rw [py_depth, py_depth]; omega) ?_
  rw [py_eqv]
  exact fin_bool I fin
theorem cop_int {o : Cop} {op : CmpOp} {p : Int → Int → Bool} (hr : OpR X (compareOp op) (rI0 fun i j => .bl (p i j))) (ho : ∀ d e k, o.run d e = some k → ∃ i j, d = .int i ∧ e = .int j ∧ k = p i j) : OpR X (compareOp op) (rCop X.K o) := by
  intro pins s σ H x y v u Q I rx ry h
  obtain ⟨F, d, e, k, sub, hd, he, hk, fin⟩ := h
  obtain ⟨i, j, rfl, rfl, rfl⟩ := ho d e k hk
  rw [hd.ofInt] at rx; rw [he.ofInt] at ry
  exact hr pins s σ H _ _ v u Q I rx ry ⟨_, _, rfl, rfl, fin _ (.bl _)⟩
theorem cop_lt : OpR X (compareOp .Lt) (rCop X.K .lt) := cop_int op_lt fun d e k h => by
  cases d <;> cases e <;> simp only [Cop.run, reduceCtorEq, Option.some.injEq] at h
  exact ⟨_, _, rfl, rfl, h.symm⟩
theorem cop_le : OpR X (compareOp .LtE) (rCop X.K .le) := cop_int op_le fun d e k h => by
  cases d <;> cases e <;> simp only [Cop.run, reduceCtorEq, Option.some.injEq] at h
  exact ⟨_, _, rfl, rfl, h.symm⟩
theorem cop_gt : OpR X (compareOp .Gt) (rCop X.K .gt) := cop_int op_gt fun d e k h => by
  cases d <;> cases e <;> simp only [Cop.run, reduceCtorEq, Option.some.injEq] at h
  exact ⟨_, _, rfl, rfl, h.symm⟩
theorem cop_ge : OpR X (compareOp .GtE) (rCop X.K .ge) := cop_int op_ge fun d e k h => by
  cases d <;> cases e <;> simp only [Cop.run, reduceCtorEq, Option.some.injEq] at h
  exact ⟨_, _, rfl, rfl, h.symm⟩
theorem rep_isNon {K : PySem.W.Frag} {F H : Hp} {x : V} {d : D} (h : RepB K F H x d) : decide (x = V.non) = d.isNon := by
  cases h with
  | rep h => cases h <;> simp [D.isNon]
  | own _ _ => simp [D.isNon]
theorem cop_isn : OpR X (compareOp .Is) (rCop X.K .isn) := by
  intro pins s σ H x y v u Q I rx ry h
  obtain ⟨F, d, e, k, sub, hd, he, hk, fin⟩ := h
  cases e <;> simp only [Cop.run, reduceCtorEq, Option.some.injEq] at hk
  subst hk
  rw [he.ofNon] at ry
  exact op_isN pins s σ H _ _ v u Q I rx ry ⟨rfl, by rw [rep_isNon hd]; exact fin _ (.bl _)⟩
theorem cop_ntn : OpR X (compareOp .IsNot) (rCop X.K .ntn) := by
  intro pins s σ H x y v u Q I rx ry h
  obtain ⟨F, d, e, k, sub, hd, he, hk, fin⟩ := h
  cases e <;> simp only [Cop.run, reduceCtorEq, Option.some.injEq] at hk
  subst hk
  rw [he.ofNon] at ry
  exact op_notN pins s σ H _ _ v u Q I rx ry ⟨rfl, by rw [rep_isNon hd]; exact fin _ (.bl _)⟩
theorem any_pys (d : D) : ∀ xs : List D, ((D.pys xs).any fun y => PyData.eqv y d.py) = mems d xs
  | [] => rfl
  | x :: r => by
    have ih := any_pys d r
    unfold mems at ih ⊢
    rw [D.pys, List.any_cons, List.any_cons, py_eqv, ih]
theorem in_lst {F H : Hp} {x y : V} {d : D} {xs : List D} {pins : List (Addr × Obj)} {s : Shared} {σ : L2.St} {v u : Value} (hu : X.A.units + 66 < cLine) (I : Inv X pins σ H s) (rx : RelV x v) (ry : RelV y u) (sub : Sub F H) (hd : RepB X.K F H x d) (he : Dp X.K H y (.list (D.pys xs)) ∨ Dp X.K H y (.tuple (D.pys xs)))
    (ok : min (D.depths xs) d.depth ≤ 64) (neg : Bool) {Q : Value → Shared → Prop} {E : Value → Shared → Prop} (q : Q (.bool (if neg then !mems d xs else mems d xs)) s) : wpAny (model X.prog X.w) X.A (compareOp (if neg then .NotIn else .In) v u) Q E s := by
  obtain ⟨as, ra⟩ := Dp.reads I _ _ _ (hd.dp sub) rx
  have hu2 : X.A.units + 1 + min (PyData.depthAll (D.pys xs)) d.py.depth < cLine := by rw [pys_depth, py_depth]; omega
  rcases he with he | he
  · obtain ⟨bs, rb⟩ := Dp.reads I _ _ _ he ry
    cases neg with
    | false => exact SeqAt.in_list_data rb ra (pys_plain xs) (py_plain d) hu2 (by rw [any_pys]; exact q)
    | true => exact SeqAt.notIn_list_data rb ra (pys_plain xs) (py_plain d) hu2 (by rw [any_pys]; exact q)
  · obtain ⟨bs, rb⟩ := Dp.reads I _ _ _ he ry
    cases neg with
    | false => exact SeqAt.in_tuple_data rb ra (pys_plain xs) (py_plain d) hu2 (by rw [any_pys]; exact q)
    | true => exact SeqAt.notIn_tuple_data rb ra (pys_plain xs) (py_plain d) hu2 (by rw [any_pys]; exact q)
theorem cop_inn (hu : X.A.units + 66 < cLine) : OpR X (compareOp .In) (rCop X.K .inn) := by
  intro pins s σ H x y v u Q I rx ry h
  obtain ⟨F, d, e, k, sub, hd, he, hk, fin⟩ := h
  unfold Cop.run at hk
  split at hk <;> first | (rename_i h1; cases h1; done) | skip
  · rename_i xs _
    split at hk <;> cases hk
    rename_i ok
    exact in_lst hu I rx ry sub hd (.inl (he.dp sub)) (of_decide_eq_true ok) false (fin_bool I fin)
  · rename_i xs _
    split at hk <;> cases hk
    rename_i ok
    exact in_lst hu I rx ry sub hd (.inr (he.dp sub)) (of_decide_eq_true ok) false (fin_bool I fin)
  · rename_i c t _ 
    cases hk
    rw [hd.ofStr] at rx; rw [he.ofStr] at ry
    exact op_in_sign pins s σ H _ _ v u Q I rx ry ⟨_, _, rfl, rfl, by simpa using fin _ (.bl _)⟩
  · cases hk
theorem cop_nin (hu : X.A.units + 66 < cLine) : OpR X (compareOp .NotIn) (rCop X.K .nin) := by
  intro pins s σ H x y v u Q I rx ry h
  obtain ⟨F, d, e, k, sub, hd, he, hk, fin⟩ := h
  unfold Cop.run at hk
  split at hk <;> first | (rename_i h1; cases h1; done) | skip
  · rename_i xs _
    split at hk <;> cases hk
    rename_i ok
    exact in_lst hu I rx ry sub hd (.inl (he.dp sub)) (of_decide_eq_true ok) true (fin_bool I fin)
  · rename_i xs _
    split at hk <;> cases hk
    rename_i ok
    exact in_lst hu I rx ry sub hd (.inr (he.dp sub)) (of_decide_eq_true ok) true (fin_bool I fin)
  · rename_i c t _ 
    cases hk
    rw [hd.ofStr] at rx; rw [he.ofStr] at ry
    exact op_notIn_sign pins s σ H _ _ v u Q I rx ry ⟨_, _, rfl, rfl, by simpa using fin _ (.bl _)⟩
  · cases hk
def Cop.py : Cop → CmpOp
  | .eq => .Eq | .ne => .NotEq | .lt => .Lt | .le => .LtE | .gt => .Gt | .ge => .GtE | .isn => .Is | .ntn => .IsNot | .inn => .In | .nin => .NotIn
theorem cop_all (hu : X.A.units + 66 < cLine) (o : Cop) : OpR X (compareOp o.py) (rCop X.K o) := by
  cases o
  · exact cop_eq (by omega)
  · exact cop_ne (by omega)
  · exact cop_lt
  · exact cop_le
  · exact cop_gt
  · exact cop_ge
  · exact cop_isn
  · exact cop_ntn
  · exact cop_inn hu
  · exact cop_nin hu

theorem truV {F H : Hp} {x : V} {d : D} {k : Bool} (sub : Sub F H) (h : RepB X.K F H x d) (e : d.truth = some k) : TruV X.K x H k := by
  cases d with
  | non => rw [h.ofNon]; cases e; rfl
  | bl b => rw [h.ofBl]; cases e; rfl
  | int i => rw [h.ofInt]; cases e; rfl
  | str t =>
    rw [h.ofStr]
    simp only [D.truth] at e
    split at e <;> cases e
    rename_i hz
    have hl : (⟨t.toArray⟩ : Str).length = t.length := by show t.toArray.size = _; simp
    refine ⟨by rw [hl, line_eq]; exact hz, ?_⟩
    rw [hl]
    cases t with
    | nil => rfl
    | cons c t =>
      have e : (((c :: t).length : Int) != 0) = true := bne_iff_ne.mpr (by simp only [List.length_cons]; omega)
      rw [e]
      rfl
  | lst xs =>
    obtain ⟨a, ys, rfl, h1, h2⟩ := h.ofLst sub
    cases e
    refine .inl ⟨ys, .inl h1, ?_⟩
    have := h2.length
    cases xs <;> cases ys <;> simp_all
  | tup xs =>
    obtain ⟨a, ys, rfl, h1, h2⟩ := h.ofTup sub
    cases e
    refine .inr (.inl ⟨ys, h1, ?_⟩)
    have := h2.length
    cases xs <;> cases ys <;> simp_all
theorem ixAt_eq (n : Nat) (i : Int) : ixAt n i = ixN n i := rfl
theorem RepL.at {K : PySem.W.Frag} {F : Hp} {vs : List V} {ds : List D} {i : Int} {d : D} (h : RepL K F vs ds) (e : getAt ds i = some d) : ∃ v, atI vs i = some v ∧ Rep K F v d := by
  unfold getAt at e
  unfold atI
  rw [← ixAt_eq, h.length]
  cases q : ixAt ds.length i with
  | none => rw [q] at e; cases e
  | some j =>
    rw [q] at e
    exact h.get e
def rIdx (K : PySem.W.Frag) : R2 := fun x y H Q => ∃ F d e z, Sub F H ∧ RepB K F H x d ∧ RepB K F H y e ∧ D.idx d e = some z ∧ ∀ v, Rep K F v z → Q v H
theorem idx_all : IxR X (rIdx X.K) := by
  intro value slice pins s σ H x y v u Q I rx ry h hs
  obtain ⟨F, d, e, z, sub, hd, he, hz, fin⟩ := h
  unfold D.idx at hz
  split at hz
  · rename_i xs i
    obtain ⟨a, ys, rfl, h1, h2⟩ := hd.ofLst sub
    rw [he.ofInt] at ry
    obtain ⟨w, e1, e2⟩ := h2.at hz
    exact ix_list value slice pins s σ H _ _ v u Q I rx ry ⟨_, _, _, _, rfl, rfl, .inl h1, e1, fin _ e2⟩ hs
  · rename_i xs i
    obtain ⟨a, ys, rfl, h1, h2⟩ := hd.ofTup sub
    rw [he.ofInt] at ry
    obtain ⟨w, e1, e2⟩ := h2.at hz
    exact ix_tup value slice pins s σ H _ _ v u Q I rx ry ⟨_, _, _, _, rfl, rfl, h1, e1, fin _ e2⟩ hs
  · rename_i t i
    rw [hd.ofStr] at rx; rw [he.ofInt] at ry
    split at hz
    · rename_i hl
      obtain ⟨c, hc, rfl⟩ := Option.map_eq_some_iff.mp hz
      have hlen : (⟨t.toArray⟩ : Str).length = t.length := by show t.toArray.size = _; simp
      refine ix_str value slice pins s σ H _ _ v u Q I rx ry ⟨_, _, c, rfl, rfl, by rw [hlen, line_eq]; exact hl, ?_, fin _ (.str [c])⟩ hs
      unfold atI
      simpa [ixAt_eq] using hc
    · cases hz
  · cases hz
def rSlc (K : PySem.W.Frag) : V → Option Int → Option Int → Hp → VK → Prop := fun x lo hi H Q => ∃ F d z, Sub F H ∧ RepB K F H x d ∧ D.slc d lo hi = some z ∧ Fin K F H z Q
theorem slc_list : SlR X (fun x lo hi H Q => ∃ a xs, x = .ref a ∧ Rd H a (.lst xs) ∧ ∀ p, H p = none → Q (.ref p) (upd H p (.lst (cutV xs lo hi)))) := by
  intro pins s σ H x v vl vu lo hi sl Q I rx hs pl pu h
  obtain ⟨a, xs, rfl, h1, q⟩ := h
  exact sl_list pins s σ H _ v vl vu lo hi sl Q I rx hs pl pu ⟨a, xs, rfl, .inl h1, q⟩
theorem slc_all : SlR X (rSlc X.K) := by
  intro pins s σ H x v vl vu lo hi sl Q I rx hs pl pu h
  obtain ⟨F, d, z, sub, hd, hz, fin⟩ := h
  unfold D.slc at hz
  split at hz
  · rename_i xs
    cases hz
    obtain ⟨a, ys, rfl, h1, h2⟩ := hd.ofLst sub
    exact slc_list pins s σ H _ v vl vu lo hi sl Q I rx hs pl pu ⟨a, ys, rfl, h1, fun p hp => fin p _ hp (h2.cut lo hi)⟩
  · rename_i xs
    cases hz
    have hr := hd.tupRep
    obtain ⟨a, ys, rfl, h1, h2⟩ := hr.ofTup
    refine sl_tupA pins s σ H _ v vl vu lo hi sl Q I rx hs pl pu ⟨a, ys, rfl, SqT.mono sub h1, fun e => ?_, fun _ p hp => fin.2 p _ hp (h2.cut lo hi)⟩
    have e2 : cut xs lo hi = xs := by
      rw [cut_eq, ← h2.length, e.1, e.2, List.drop_zero, Nat.sub_zero]
      rw [h2.length]
      exact List.take_length
    rw [e2] at fin
    exact fin.1 _ hr
  · rename_i t
    rw [hd.ofStr] at rx
    split at hz <;> cases hz
    rename_i hl
    have hlen : (⟨t.toArray⟩ : Str).length = t.length := by show t.toArray.size = _; simp
    refine sl_str pins s σ H _ v vl vu lo hi sl Q I rx hs pl pu ⟨_, rfl, by rw [hlen, line_eq]; exact hl, ?_⟩
    have e : cutS ⟨t.toArray⟩ lo hi = ⟨(cut t lo hi).toArray⟩ := by
      unfold cutS
      rw [cut_eq, hlen]
    rw [e]
    exact fin _ (.str _)
  · cases hz
end
end RX
end
section -- Rx3
namespace RX
open PySem PySem.Spec PyProof.Rows L2

theorem insI_perm (x : Int) : ∀ l, (insI x l).Perm (x :: l)
  | [] => .refl _
  | y :: r => by
    unfold insI
    split
    · exact .refl _
    · exact ((insI_perm x r).cons y).trans (.swap x y r)
theorem sortI_perm : ∀ l, (sortI l).Perm l
  | [] => .refl _
  | x :: r => (insI_perm x _).trans ((sortI_perm r).cons x)
theorem insI_sorted (x : Int) : ∀ l : List Int, l.Pairwise (· ≤ ·) → (insI x l).Pairwise (· ≤ ·)
  | [], _ => by simp [insI]
  | y :: r, h => by
    have h' := List.pairwise_cons.mp h
    unfold insI
    split
    · rename_i hxy
      refine List.pairwise_cons.mpr ⟨fun z hz => ?_, h⟩
      rcases List.mem_cons.mp hz with rfl | hz
      · exact hxy
      · exact Int.le_trans hxy (h'.1 z hz)
    · rename_i hxy
      refine List.pairwise_cons.mpr ⟨fun z hz => ?_, insI_sorted x r h'.2⟩
      rcases List.mem_cons.mp ((insI_perm x r).mem_iff.mp hz) with rfl | hz
      · omega
      · exact h'.1 z hz
theorem sortI_sorted : ∀ l, (sortI l).Pairwise (· ≤ ·)
  | [] => .nil
  | x :: r => insI_sorted x _ (sortI_sorted r)
theorem sorted_uniq : ∀ {l m : List Int}, l.Perm m → l.Pairwise (· ≤ ·) → m.Pairwise (· ≤ ·) → l = m
  | [], m, p, _, _ => (List.nil_perm.mp p).symm
  | x :: l, [], p, _, _ => by cases p.length_eq
  | x :: l, y :: m, p, h, h' => by
    have a := List.pairwise_cons.mp h
    have b := List.pairwise_cons.mp h'
    have e : x = y := by
      have h1 : x ≤ y := by
        rcases List.mem_cons.mp (p.mem_iff.mpr List.mem_cons_self : y ∈ x :: l) with e | e
        · omega
        · exact a.1 y e
      have h2 : y ≤ x := by
        rcases List.mem_cons.mp (p.mem_iff.mp List.mem_cons_self : x ∈ y :: m) with e | e
        · omega
        · exact b.1 x e
      omega
    subst e
    rw [sorted_uniq ((List.perm_cons x).mp p) a.2 b.2]

section
variable {X : Cx}
def rBi (K : PySem.W.Frag) (b : Bi) : List V → Hp → VK → Prop := fun xs H Q => ∃ F ds z, Sub F H ∧ RepBs K F H xs ds ∧ b.run ds = some z ∧ Fin K F H z Q
/-- one argument -/
theorem bi_one {f : Value} {b : Bi} (h : ∀ (pins : List (Addr × Obj)) (s : Shared) (σ : L2.St) (H : Hp) (x : V) (u : Value) (Q : VK) (F : Hp) (d z : D), Inv X pins σ H s → RelV x u → Sub F H → RepB X.K F H x d → b.run [d] = some z → Fin X.K F H z Q →
      wpAny (model X.prog X.w) X.A (call f [u]) (EP X pins σ Q) X.xe s) (hl : ∀ ds z, b.run ds = some z → ∃ d, ds = [d]) : CallR X f (rBi X.K b) := by
  intro pins s σ H xs us Q I r hh
  obtain ⟨F, ds, z, sub, hr, hz, fin⟩ := hh
  obtain ⟨d, rfl⟩ := hl ds z hz
  obtain ⟨x, rfl, h1⟩ := hr.one
  obtain ⟨u, rfl, ru⟩ := vals1 r
  exact h pins s σ H x u Q F d z I ru sub h1 hz fin
theorem toCall {f : Value} {r : List V → Hp → VK → Prop} (h : CallR X f r) {pins : List (Addr × Obj)} {s : Shared} {σ : L2.St} {H : Hp} {x : V} {u : Value} {Q : VK} (I : Inv X pins σ H s) (ru : RelV x u) (q : r [x] H Q) : wpAny (model X.prog X.w) X.A (call f [u]) (EP X pins σ Q) X.xe s :=
  h pins s σ H [x] [u] Q I (.cons ru .nil) q
theorem one_of {b : Bi} (h0 : b.run [] = none) (h2 : ∀ d e r, b.run (d :: e :: r) = none) : ∀ ds z, b.run ds = some z → ∃ d, ds = [d]
  | [], z, h => by rw [h0] at h; cases h
  | [d], _, _ => ⟨d, rfl⟩
  | d :: e :: r, z, h => by rw [h2] at h; cases h
theorem slen (t : List Nat) : (⟨t.toArray⟩ : Str).length = t.length := by show t.toArray.size = _; simp
theorem bi_len : CallR X (.builtin "len") (rBi X.K .len) := by
  refine bi_one (fun pins s σ H x u Q F d z I ru sub hd hz fin => ?_) (one_of rfl fun _ _ _ => by simp [Bi.run])
  cases d <;> simp only [Bi.run, reduceCtorEq] at hz
  · rw [hd.ofStr] at ru
    split at hz <;> cases hz
    rename_i t hl
    exact toCall call_len_str I ru ⟨_, rfl, by rw [slen, line_eq]; exact hl, by rw [slen]; exact fin _ (.int _)⟩
  · cases hz
    obtain ⟨a, ys, rfl, h1, h2⟩ := hd.ofLst sub
    exact toCall call_len_seq I ru ⟨_, ys, rfl, .inl (.inl h1), by rw [h2.length]; exact fin _ (.int _)⟩
  · cases hz
    obtain ⟨a, ys, rfl, h1, h2⟩ := hd.ofTup sub
    exact toCall call_len_seq I ru ⟨_, ys, rfl, .inr h1, by rw [h2.length]; exact fin _ (.int _)⟩
theorem bi_abs : CallR X (.builtin "abs") (rBi X.K .abs) := by
  refine bi_one (fun pins s σ H x u Q F d z I ru sub hd hz fin => ?_) (one_of rfl fun _ _ _ => by simp [Bi.run])
  cases d <;> simp only [Bi.run, reduceCtorEq] at hz
  cases hz
  rw [hd.ofInt] at ru
  exact toCall call_abs I ru ⟨_, rfl, fin _ (.int _)⟩
theorem bi_int : CallR X (.type "int") (rBi X.K .int1) := by
  refine bi_one (fun pins s σ H x u Q F d z I ru sub hd hz fin => ?_) (one_of rfl fun _ _ _ => by simp [Bi.run])
  cases d <;> simp only [Bi.run, reduceCtorEq] at hz
  · cases hz
    rw [hd.ofBl] at ru
    exact toCall call_int1 I ru (.inr ⟨_, rfl, fin _ (.int _)⟩)
  · cases hz
    rw [hd.ofInt] at ru
    exact toCall call_int1 I ru (.inl ⟨_, rfl, fin _ (.int _)⟩)
theorem bi_list : CallR X (.type "list") (rBi X.K .list1) := by
  refine bi_one (fun pins s σ H x u Q F d z I ru sub hd hz fin => ?_) (one_of rfl fun _ _ _ => by simp [Bi.run])
  cases d <;> simp only [Bi.run, reduceCtorEq] at hz
  · cases hz
    obtain ⟨a, ys, rfl, h1, h2⟩ := hd.ofLst sub
    exact toCall call_list_of I ru ⟨_, ys, rfl, .inl (.inl h1), fun p hp => fin p _ hp h2⟩
  · cases hz
    obtain ⟨a, ys, rfl, h1, h2⟩ := hd.ofTup sub
    exact toCall call_list_of I ru ⟨_, ys, rfl, .inr h1, fun p hp => fin p _ hp h2⟩
theorem bi_tuple : CallR X (.type "tuple") (rBi X.K .tuple1) := by
  refine bi_one (fun pins s σ H x u Q F d z I ru sub hd hz fin => ?_) (one_of rfl fun _ _ _ => by simp [Bi.run])
  cases d <;> simp only [Bi.run, reduceCtorEq] at hz
  · cases hz
    obtain ⟨a, ys, rfl, h1, h2⟩ := hd.ofLst sub
    exact toCall call_tuple_of I ru ⟨_, ys, rfl, .inl ⟨.inl h1, fun p hp => fin.2 p _ hp h2⟩⟩
  · cases hz
    have hr := hd.tupRep
    obtain ⟨a, ys, rfl, h1, h2⟩ := hr.ofTup
    exact toCall call_tuple_of I ru ⟨_, ys, rfl, .inr ⟨SqT.mono sub h1, fin.1 _ hr⟩⟩
theorem bi_all (hc : X.calm = true) : CallR X (.builtin "all") (rBi X.K .all) := by
  refine bi_one (fun pins s σ H x u Q F d z I ru sub hd hz fin => ?_) (one_of rfl fun _ _ _ => by simp [Bi.run])
  cases d <;> simp only [Bi.run, reduceCtorEq] at hz
  obtain ⟨l, hl, rfl⟩ := Option.map_eq_some_iff.mp hz
  obtain ⟨a, ys, rfl, h1, h2⟩ := hd.ofLst sub
  rw [h2.bls hl] at h1
  exact toCall (cr_all hc) I ru ⟨_, l, rfl, .inl h1, fin _ (.bl _)⟩
theorem bi_any (hc : X.calm = true) : CallR X (.builtin "any") (rBi X.K .any) := by
  refine bi_one (fun pins s σ H x u Q F d z I ru sub hd hz fin => ?_) (one_of rfl fun _ _ _ => by simp [Bi.run])
  cases d <;> simp only [Bi.run, reduceCtorEq] at hz
  obtain ⟨l, hl, rfl⟩ := Option.map_eq_some_iff.mp hz
  obtain ⟨a, ys, rfl, h1, h2⟩ := hd.ofLst sub
  rw [h2.bls hl] at h1
  exact toCall (cr_any hc) I ru ⟨_, l, rfl, .inl h1, fin _ (.bl _)⟩
theorem bi_sum (hc : X.calm = true) : CallR X (.builtin "sum") (rBi X.K .sum) := by
  refine bi_one (fun pins s σ H x u Q F d z I ru sub hd hz fin => ?_) (one_of rfl fun _ _ _ => by simp [Bi.run])
  cases d <;> simp only [Bi.run, reduceCtorEq] at hz
  obtain ⟨l, hl, rfl⟩ := Option.map_eq_some_iff.mp hz
  obtain ⟨a, ys, rfl, h1, h2⟩ := hd.ofLst sub
  rw [h2.ints hl] at h1
  exact toCall (cr_sum hc) I ru ⟨_, l, rfl, .inl h1, fin _ (.int _)⟩
theorem maxI_spec : ∀ (l : List Int) (m : Int), maxI m l ∈ m :: l ∧ ∀ y ∈ m :: l, y ≤ maxI m l
  | [], m => ⟨List.mem_cons_self, fun y h => by rcases List.mem_cons.mp h with rfl | h; exact Int.le_refl _; cases h⟩
  | x :: r, m => by
    unfold maxI
    obtain ⟨h1, h2⟩ := maxI_spec r (if x > m then x else m)
    constructor
    · rcases List.mem_cons.mp h1 with e | e
      · rw [e]
        by_cases c : x > m
        · rw [if_pos c]; exact List.mem_cons_of_mem _ List.mem_cons_self
        · rw [if_neg c]; exact List.mem_cons_self
      · exact List.mem_cons_of_mem _ (List.mem_cons_of_mem _ e)
    · intro y hy
      have h3 := h2 _ List.mem_cons_self
      rcases List.mem_cons.mp hy with rfl | hy
      · refine Int.le_trans ?_ h3
        split <;> omega
      · rcases List.mem_cons.mp hy with rfl | hy
        · refine Int.le_trans ?_ h3
          split <;> omega
        · exact h2 y (List.mem_cons_of_mem _ hy)
theorem minI_spec : ∀ (l : List Int) (m : Int), minI m l ∈ m :: l ∧ ∀ y ∈ m :: l, minI m l ≤ y
  | [], m => ⟨List.mem_cons_self, fun y h => by rcases List.mem_cons.mp h with rfl | h; exact Int.le_refl _; cases h⟩
  | x :: r, m => by
    unfold minI
    obtain ⟨h1, h2⟩ := minI_spec r (if x < m then x else m)
    constructor
    · rcases List.mem_cons.mp h1 with e | e
      · rw [e]
        by_cases c : x < m
        · rw [if_pos c]; exact List.mem_cons_of_mem _ List.mem_cons_self
        · rw [if_neg c]; exact List.mem_cons_self
      · exact List.mem_cons_of_mem _ (List.mem_cons_of_mem _ e)
    · intro y hy
      have h3 := h2 _ List.mem_cons_self
      rcases List.mem_cons.mp hy with rfl | hy
      · refine Int.le_trans h3 ?_
        split <;> omega
      · rcases List.mem_cons.mp hy with rfl | hy
        · refine Int.le_trans h3 ?_
          split <;> omega
        · exact h2 y (List.mem_cons_of_mem _ hy)
theorem bi_maxl (hc : X.calm = true) : CallR X (.builtin "max") (rBi X.K .maxl) := by
  refine bi_one (fun pins s σ H x u Q F d z I ru sub hd hz fin => ?_) (one_of rfl fun _ _ _ => by simp [Bi.run])
  cases d <;> simp only [Bi.run, reduceCtorEq] at hz
  obtain ⟨l, hl, hz⟩ := Option.bind_eq_some_iff.mp hz
  obtain ⟨a, ys, rfl, h1, h2⟩ := hd.ofLst sub
  rw [h2.ints hl] at h1
  cases l with
  | nil => cases hz
  | cons m r =>
    cases hz
    refine toCall (cr_max hc) I ru ⟨_, m :: r, rfl, .inl h1, by simp, fun k hk hm => ?_⟩
    obtain ⟨s1, s2⟩ := maxI_spec r m
    have : k = maxI m r := Int.le_antisymm (s2 k hk) (hm _ s1)
    rw [this]
    exact fin _ (.int _)
theorem bi_minl (hc : X.calm = true) : CallR X (.builtin "min") (rBi X.K .minl) := by
  refine bi_one (fun pins s σ H x u Q F d z I ru sub hd hz fin => ?_) (one_of rfl fun _ _ _ => by simp [Bi.run])
  cases d <;> simp only [Bi.run, reduceCtorEq] at hz
  obtain ⟨l, hl, hz⟩ := Option.bind_eq_some_iff.mp hz
  obtain ⟨a, ys, rfl, h1, h2⟩ := hd.ofLst sub
  rw [h2.ints hl] at h1
  cases l with
  | nil => cases hz
  | cons m r =>
    cases hz
    refine toCall (cr_min hc) I ru ⟨_, m :: r, rfl, .inl h1, by simp, fun k hk hm => ?_⟩
    obtain ⟨s1, s2⟩ := minI_spec r m
    have : k = minI m r := Int.le_antisymm (hm _ s1) (s2 k hk)
    rw [this]
    exact fin _ (.int _)
theorem bi_sorted : CallR X (.builtin "sorted") (rBi X.K .sorted) := by
  refine bi_one (fun pins s σ H x u Q F d z I ru sub hd hz fin => ?_) (one_of rfl fun _ _ _ => by simp [Bi.run])
  cases d <;> simp only [Bi.run, reduceCtorEq] at hz
  split at hz
  · rename_i hlen
    obtain ⟨l, hl, rfl⟩ := Option.map_eq_some_iff.mp hz
    obtain ⟨a, ys, rfl, h1, h2⟩ := hd.ofLst sub
    have e := h2.ints hl
    have hl2 : l.length < 64 := by
      have := h2.length
      rw [e, List.length_map] at this
      omega
    rw [e] at h1
    refine toCall cr_sorted I ru ⟨_, l, rfl, .inl h1, hl2, fun ns p hp hs hn => ?_⟩
    have : ns = sortI l := sorted_uniq (hp.trans (sortI_perm l).symm) hs (sortI_sorted l)
    rw [this]
    exact fin p _ hn (repL_ints _)
  · cases hz
theorem two_of {b : Bi} (h0 : b.run [] = none) (h1 : ∀ d, b.run [d] = none) (h2 : ∀ d e f r, b.run (d :: e :: f :: r) = none) : ∀ ds z, b.run ds = some z → ∃ d e, ds = [d, e]
  | [], z, h => by rw [h0] at h; cases h
  | [d], z, h => by rw [h1] at h; cases h
  | [d, e], _, _ => ⟨d, e, rfl⟩
  | d :: e :: f :: r, z, h => by rw [h2] at h; cases h
theorem bi_max2 (hc : X.calm = true) : CallR X (.builtin "max") (rBi X.K .max2) := by
  intro pins s σ H xs us Q I r hh
  obtain ⟨F, ds, z, sub, hr, hz, fin⟩ := hh
  obtain ⟨d, e, rfl⟩ := two_of (b := .max2) rfl (fun _ => by simp [Bi.run]) (fun _ _ _ _ => by simp [Bi.run]) ds z hz
  obtain ⟨x, y, rfl, h1, h2⟩ := hr.two
  cases d <;> cases e <;> simp only [Bi.run, reduceCtorEq] at hz
  cases hz
  rw [h1.ofInt, h2.ofInt] at r
  exact call_max2 hc pins s σ H _ us Q I r ⟨_, _, rfl, fin _ (.int _)⟩
theorem bi_min2 (hc : X.calm = true) : CallR X (.builtin "min") (rBi X.K .min2) := by
  intro pins s σ H xs us Q I r hh
  obtain ⟨F, ds, z, sub, hr, hz, fin⟩ := hh
  obtain ⟨d, e, rfl⟩ := two_of (b := .min2) rfl (fun _ => by simp [Bi.run]) (fun _ _ _ _ => by simp [Bi.run]) ds z hz
  obtain ⟨x, y, rfl, h1, h2⟩ := hr.two
  cases d <;> cases e <;> simp only [Bi.run, reduceCtorEq] at hz
  cases hz
  rw [h1.ofInt, h2.ofInt] at r
  exact call_min2 hc pins s σ H _ us Q I r ⟨_, _, rfl, fin _ (.int _)⟩
theorem bi_divmod : CallR X (.builtin "divmod") (rBi X.K .divmod) := by
  intro pins s σ H xs us Q I r hh
  obtain ⟨F, ds, z, sub, hr, hz, fin⟩ := hh
  obtain ⟨d, e, rfl⟩ := two_of (b := .divmod) rfl (fun _ => by simp [Bi.run]) (fun _ _ _ _ => by simp [Bi.run]) ds z hz
  obtain ⟨x, y, rfl, h1, h2⟩ := hr.two
  cases d <;> cases e <;> simp only [Bi.run, reduceCtorEq] at hz
  rw [h1.ofInt, h2.ofInt] at r
  split at hz <;> cases hz
  rename_i ok
  exact call_divmod pins s σ H _ us Q I r ⟨_, _, rfl, by simpa [CDiv] using ok, fun p hp => fin.2 p _ hp (.cons (.int _) (.cons (.int _) .nil))⟩
end
mutual
theorem py_noDict : ∀ d : D, d.py.hasDict = false
  | .non => rfl
  | .bl _ => rfl
  | .int _ => rfl
  | .str _ => rfl
  | .lst xs => by rw [D.py, PyData.hasDict]; exact pys_noDict xs
  | .tup xs => by rw [D.py, PyData.hasDict]; exact pys_noDict xs
theorem pys_noDict : ∀ ds : List D, PyData.hasDictAll (D.pys ds) = false
  | [] => rfl
  | d :: ds => by rw [D.pys, PyData.hasDictAll, py_noDict d, pys_noDict ds]; rfl
end
section
variable {X : Cx}
/-- repr -/
theorem bi_repr (hg : X.A.guards = some []) (hu : X.A.units + 70 < cLine) : CallR X (.builtin "repr") (rBi X.K .repr) := by
  refine bi_one (fun pins s σ H x u Q F d z I ru sub hd hz fin => ?_) (one_of rfl fun _ _ _ => by simp [Bi.run])
  simp only [Bi.run] at hz
  split at hz <;> cases hz
  rename_i ok
  unfold showOk at ok
  simp only [Bool.and_eq_true, decide_eq_true_eq] at ok
  obtain ⟨⟨o1, o2⟩, o3⟩ := ok
  obtain ⟨as, ra⟩ := Dp.reads I _ _ _ (hd.dp sub) ru
  have hsz : d.py.shown.length ≤ sizeLine := by
    rw [line_eq]
    have : d.shown.length = d.py.shown.length := by show d.py.shown.cps.toList.length = _; simp [Str.length]
    omega
  have es : (⟨d.shown.toArray⟩ : Str) = d.py.shown := by
    show (⟨d.py.shown.cps.toList.toArray⟩ : Str) = _
    simp
  have fin' : ∀ s' u', Inv X pins σ H s' → u' = Value.str d.py.shown s'.toks → True := fun _ _ _ _ => trivial
  have q : Q (.str d.py.shown) H := by rw [← es]; exact fin _ (.str _)
  have noD := py_noDict d
  cases d with
  | non =>
    rw [hd.ofNon] at ru
    cases ru
    exact PySem.P.repr_of_none ⟨.str _, H, I.tok _, ⟨_, rfl⟩, q⟩
  | bl b =>
    rw [hd.ofBl] at ru
    cases ru
    refine PySem.P.repr_of_bool ⟨.str _, H, I.tok _, ⟨_, rfl⟩, ?_⟩
    cases b <;> exact q
  | int i =>
    rw [hd.ofInt] at ru
    obtain ⟨t, rfl⟩ := ru
    exact PySem.P.repr_of_int (of_decide_eq_true o1) ⟨.str _, H, I.tok _, ⟨_, rfl⟩, q⟩
  | str t =>
    rw [hd.ofStr] at ru
    obtain ⟨t, rfl⟩ := ru
    exact PySem.P.repr_of_str ⟨.str _, H, I.tok _, ⟨_, rfl⟩, q⟩ hsz
  | lst ds =>
    obtain ⟨a, ys, rfl, h1, h2⟩ := hd.ofLst sub
    cases ru
    refine repr_of_reads' (h₀ := s.heap) ra o1 (PyData.noDict_hsm noD) hg (by rw [py_depth]; omega) (fun _ _ e => e) (fun h' u tk k => ⟨.str _, H, I.kept (t' := tk) k, ⟨_, rfl⟩, q⟩) hsz
  | tup ds =>
    obtain ⟨a, ys, rfl, h1, h2⟩ := hd.ofTup sub
    cases ru
    refine repr_of_reads' (h₀ := s.heap) ra o1 (PyData.noDict_hsm noD) hg (by rw [py_depth]; omega) (fun _ _ e => e) (fun h' u tk k => ⟨.str _, H, I.kept (t' := tk) k, ⟨_, rfl⟩, q⟩) hsz
end
end RX
end
section -- Rx4
namespace RX
open PySem PySem.Spec PyProof.Rows L2

/-- what is fixed: the written part, the error classes (where they stand, their fields), the exception that a suite holds -/
structure Par where
  K : PySem.W.Frag
  cls : Nat → Option (Addr × List Str)
  exa : Option (Addr × Value × Option Addr)
/-- what is frozen; where the lists stand that others may change -/
structure Gh where
  F : Hp
  ca : List Addr
def RV (P : Par) (g : Gh) (v : V) : Vl → Prop
  | .d x => Rep P.K g.F v x
  | .c k => ∃ a, v = .ref a ∧ g.ca[k]? = some a
inductive RVs (P : Par) (g : Gh) : List V → List Vl → Prop
  | nil : RVs P g [] []
  | cons {v : V} {vs : List V} {x : Vl} {xs : List Vl} : RV P g v x → RVs P g vs xs → RVs P g (v :: vs) (x :: xs)
def SlotR (P : Par) (g : Gh) (H : Hp) (s : Option (Option V)) : Sl → Prop
  | .no => True
  | .v x => ∃ v, s = some (some v) ∧ RV P g v x
  | .own xs => ∃ a vs, s = some (some (.ref a)) ∧ H a = some (.lst vs) ∧ RepL P.K g.F vs xs ∧ g.F a = none ∧ a ∉ g.ca
  | .exn k ds => ∃ a C fs dd vs, P.exa = some (a, .ref C, some dd) ∧ s = some (some (.ref a)) ∧ P.cls k = some (C, fs) ∧ H dd = some (.xd (fs.zip vs)) ∧ fs.length = vs.length ∧ RepL P.K g.F vs ds ∧ dd ∉ g.ca
structure CRel (P : Par) (g : Gh) (c : Cells) (H : Hp) : Prop where
  sub : Sub g.F H
  clen : c.length = g.ca.length
  cnd : g.ca.Nodup
  cell : ∀ (k : Nat) (a : Addr) (xs : List D), g.ca[k]? = some a → c[k]? = some xs → ∃ vs, H a = some (.lst vs) ∧ RepL P.K g.F vs xs ∧ g.F a = none
structure Rel (P : Par) (g : Gh) (env : EnvD) (c : Cells) (σ : L2.St) (H : Hp) : Prop extends CRel P g c H where
  slot : ∀ i, SlotR P g H σ[i]? (env.look i)
  dis : ∀ (i j : Nat) (xs ys : List D) (a : Addr), i ≠ j → env.look i = .own xs → env.look j = .own ys → σ[i]? = some (some (.ref a)) → σ[j]? = some (some (.ref a)) → False
  elen : env.length ≤ σ.length
structure Ext (g : Gh) (H : Hp) (g' : Gh) (H' : Hp) : Prop where
  F : Sub g.F g'.F
  ca : ∃ more, g'.ca = g.ca ++ more
  keep : ∀ a o, H a = some o → a ∉ g.ca → H' a = some o
  nF : ∀ a, H a ≠ none → g.F a = none → g'.F a = none
  nC : ∀ a, H a ≠ none → a ∉ g.ca → a ∉ g'.ca
  dom : ∀ a, H a ≠ none → H' a ≠ none
theorem Ext.refl {g : Gh} {H : Hp} : Ext g H g H := ⟨Sub.refl, ⟨[], by simp⟩, fun _ _ h _ => h, fun _ _ h => h, fun _ _ h => h, fun _ h => h⟩
theorem Ext.trans {g g1 g2 : Gh} {H H1 H2 : Hp} (a : Ext g H g1 H1) (b : Ext g1 H1 g2 H2) : Ext g H g2 H2 := by
  refine ⟨a.F.trans b.F, ?_, fun x o h n => ?_, fun x h n => ?_, fun x h n => ?_, fun x h => b.dom x (a.dom x h)⟩
  · obtain ⟨m, e⟩ := a.ca
    obtain ⟨m', e'⟩ := b.ca
    exact ⟨m ++ m', by rw [e', e, List.append_assoc]⟩
  · have h1 := a.keep x o h n
    exact b.keep x o h1 (a.nC x (by rw [h]; simp) n)
  · exact b.nF x (a.dom x h) (a.nF x h n)
  · exact b.nC x (a.dom x h) (a.nC x h n)
theorem ca_mono {g g' : Gh} (h : ∃ more, g'.ca = g.ca ++ more) {k : Nat} {a : Addr} (e : g.ca[k]? = some a) : g'.ca[k]? = some a := by
  obtain ⟨m, q⟩ := h
  rw [q, List.getElem?_append_left (List.getElem?_eq_some_iff.mp e).1]
  exact e
section
variable {P : Par} {g g' : Gh} {H H' : Hp} {env : EnvD} {c c' : Cells} {σ : L2.St}
theorem RV.mono {v : V} {x : Vl} (hF : Sub g.F g'.F) (hc : ∃ more, g'.ca = g.ca ++ more) (h : RV P g v x) : RV P g' v x := by
  cases x with
  | d x => exact Rep.mono hF h
  | c k =>
    obtain ⟨a, e, q⟩ := h
    exact ⟨a, e, ca_mono hc q⟩
theorem RVs.mono {vs : List V} {xs : List Vl} (hF : Sub g.F g'.F) (hc : ∃ more, g'.ca = g.ca ++ more) (h : RVs P g vs xs) : RVs P g' vs xs := by
  induction h with
  | nil => exact .nil
  | cons h _ ih => exact .cons (h.mono hF hc) ih
theorem RVs.length {vs : List V} {xs : List Vl} (h : RVs P g vs xs) : vs.length = xs.length := by
  induction h with
  | nil => rfl
  | cons _ _ ih => simp [ih]
theorem SlotR.ext {s : Option (Option V)} {x : Sl} (e : Ext g H g' H') (h : SlotR P g H s x) : SlotR P g' H' s x := by
  cases x with
  | no => trivial
  | v x =>
    obtain ⟨v, h1, h2⟩ := h
    exact ⟨v, h1, h2.mono e.F e.ca⟩
  | own xs =>
    obtain ⟨a, vs, h1, h2, h3, h4, h5⟩ := h
    have d : H a ≠ none := by rw [h2]; simp
    exact ⟨a, vs, h1, e.keep a _ h2 h5, h3.mono e.F, e.nF a d h4, e.nC a d h5⟩
  | exn k ds =>
    obtain ⟨a, C, fs, dd, vs, h1, h2, h3, h4, h5, h6, h7⟩ := h
    exact ⟨a, C, fs, dd, vs, h1, h2, h3, e.keep dd _ h4 h7, h5, h6.mono e.F, e.nC dd (by rw [h4]; simp) h7⟩
theorem Rel.ext (r : Rel P g env c σ H) (e : Ext g H g' H') (n : CRel P g' c' H') : Rel P g' env c' σ H' :=
  ⟨n, fun i => (r.slot i).ext e, r.dis, r.elen⟩
theorem CRel.dom (r : CRel P g c H) {a : Addr} (h : a ∈ g.ca) : H a ≠ none := by
  obtain ⟨k, hk⟩ := List.getElem?_of_mem h
  have hl : k < c.length := by rw [r.clen]; exact (List.getElem?_eq_some_iff.mp hk).1
  obtain ⟨vs, h1, _⟩ := r.cell k a c[k] hk (by simp [hl])
  rw [h1]; simp
theorem CRel.ne (r : CRel P g c H) {p a : Addr} (hp : H p = none) (h : a ∈ g.ca) : a ≠ p := fun e => by subst e; exact r.dom h hp
/-- a new object, not frozen -/
theorem Ext.alloc {p : Addr} {o : HO} (hp : H p = none) : Ext g H g (upd H p o) :=
  ⟨Sub.refl, ⟨[], by simp⟩, fun a u h _ => by rw [upd_ne (ne_of_none h hp)]; exact h, fun _ _ h => h, fun _ _ h => h, fun a h => by
    by_cases e : a = p
    · subst e; exact absurd hp h
    · rw [upd_ne e]; exact h⟩
/-- a new object, frozen -/
theorem Ext.allocF {p : Addr} {o : HO} (hp : H p = none) (s : Sub g.F H) : Ext g H { g with F := upd g.F p o } (upd H p o) :=
  ⟨sub_new (s.none hp), ⟨[], by simp⟩, fun a u h _ => by rw [upd_ne (ne_of_none h hp)]; exact h, fun a h n => by
    show upd g.F p o a = none
    rw [upd_ne (fun e => by subst e; exact h hp)]
    exact n, fun _ _ h => h, fun a h => by
    by_cases e : a = p
    · subst e; exact absurd hp h
    · rw [upd_ne e]; exact h⟩
theorem CRel.alloc (r : CRel P g c H) {p : Addr} {o : HO} (hp : H p = none) : CRel P g c (upd H p o) :=
  ⟨r.sub.upd hp, r.clen, r.cnd, fun k a xs h1 h2 => by
    obtain ⟨vs, q1, q2, q3⟩ := r.cell k a xs h1 h2
    exact ⟨vs, by rw [upd_ne (ne_of_none q1 hp)]; exact q1, q2, q3⟩⟩
theorem CRel.allocF (r : CRel P g c H) {p : Addr} {o : HO} (hp : H p = none) : CRel P { g with F := upd g.F p o } c (upd H p o) :=
  ⟨r.sub.upd2 hp, r.clen, r.cnd, fun k a xs h1 h2 => by
    obtain ⟨vs, q1, q2, q3⟩ := r.cell k a xs h1 h2
    refine ⟨vs, by rw [upd_ne (ne_of_none q1 hp)]; exact q1, q2.mono (sub_new (r.sub.none hp)), ?_⟩
    show upd g.F p o a = none
    rw [upd_ne (ne_of_none q1 hp)]
    exact q3⟩
end

/-- how an error lies: its own dict -/
def ExcAt (P : Par) (g : Gh) (H : Hp) (fs : List Str) (ds : List D) (d : Option Addr) : Prop :=
  ∃ dd vs, d = some dd ∧ H dd = some (.xd (fs.zip vs)) ∧ fs.length = vs.length ∧ RepL P.K g.F vs ds ∧ dd ∉ g.ca
abbrev RRT (β α : Type) := Hp → Gh → Hp → β → α → Prop
def Aft {α β : Type} (P : Par) (W : WX) (σ : L2.St) (g : Gh) (env : EnvD) (H : Hp) (r : R α) (RR : RRT β α) (Q : β → Hp → Prop) : Prop :=
  match r with
  | .ok a c' => ∀ g' H' v, Ext g H g' H' → Rel P g' env c' σ H' → RR H g' H' v a → Q v H'
  | .exc k ds c' => ∀ g' H' C fs d, Ext g H g' H' → Rel P g' env c' σ H' → P.cls k = some (C, fs) → ExcAt P g' H' fs ds d → W (.ref C) d σ H'
  | .stuck => False
def TM {α β : Type} (P : Par) (W : WX) (m : EnvD → M α) (RR : RRT β α) : L2.St → Hp → (β → Hp → Prop) → Prop := fun σ H Q =>
  ∃ g env c, Rel P g env c σ H ∧ Aft P W σ g env H (m env c) RR Q
/-- a relation that does not lean on the start but by what was new then -/
def Mono {β α : Type} (RR : RRT β α) : Prop := ∀ H0 H1 g H v a, (∀ a, H0 a ≠ none → H1 a ≠ none) → RR H1 g H v a → RR H0 g H v a
section
variable {P : Par} {W : WX} {g g' : Gh} {H H' : Hp} {env : EnvD} {c c' : Cells} {σ : L2.St}
theorem Aft.ext {α β : Type} {RR : RRT β α} (mo : Mono RR) {r : R α} {Q : β → Hp → Prop} (h : Aft P W σ g env H r RR Q) (e : Ext g H g' H') : Aft P W σ g' env H' r RR Q := by
  cases r with
  | ok a c' => exact fun g2 H2 v e2 r2 q => h g2 H2 v (e.trans e2) r2 (mo _ _ _ _ _ _ e.dom q)
  | exc k ds c' => exact fun g2 H2 C fs d e2 r2 => h g2 H2 C fs d (e.trans e2) r2
  | stuck => exact h
theorem Aft.bind {α β γ δ : Type} {RR : RRT δ γ} (mo : Mono RR) {m : M α} {k : α → M γ} {RR1 : RRT β α} {Q : δ → Hp → Prop} (h : Aft P W σ g env H (M.bind m k c) RR Q) :
    Aft P W σ g env H (m c) RR1 fun v H1 => ∃ g1 c1 a, Ext g H g1 H1 ∧ Rel P g1 env c1 σ H1 ∧ RR1 H g1 H1 v a ∧ Aft P W σ g1 env H1 (k a c1) RR Q := by
  unfold M.bind at h
  cases e : m c with
  | ok a c1 =>
    rw [e] at h
    exact fun g1 H1 v e1 r1 q1 => ⟨g1, c1, a, e1, r1, q1, h.ext mo e1⟩
  | exc k ds c1 => rw [e] at h; exact h
  | stuck => rw [e] at h; exact h
/-- data that are looked at -/
def rB (P : Par) : RRT V Vl := fun _ g H v x => RV P g v x ∨ ∃ a xs ds, v = .ref a ∧ x = .d (.lst ds) ∧ H a = some (.lst xs) ∧ RepL P.K g.F xs ds ∧ a ∉ g.ca
def rV (P : Par) : RRT V Vl := fun _ g _ v x => RV P g v x
def rN (P : Par) : RRT V Vl := fun H0 g H v x => (RV P g v x ∧ ∀ ds, x ≠ .d (.lst ds)) ∨ ∃ a xs ds, v = .ref a ∧ x = .d (.lst ds) ∧ H a = some (.lst xs) ∧ RepL P.K g.F xs ds ∧ g.F a = none ∧ a ∉ g.ca ∧ H0 a = none
theorem mono_rB : Mono (rB P) := fun _ _ _ _ _ _ _ h => h
theorem mono_rV : Mono (rV P) := fun _ _ _ _ _ _ _ h => h
theorem mono_rN : Mono (rN P) := fun H0 H1 g H v a d h => by
  rcases h with h | ⟨a, xs, ds, h1, h2, h3, h4, h5, h6, h7⟩
  · exact .inl h
  · refine .inr ⟨a, xs, ds, h1, h2, h3, h4, h5, h6, ?_⟩
    cases q : H0 a with
    | none => rfl
    | some o => exact absurd h7 (d a (by rw [q]; simp))
/-- what an operand gives, kept through what comes -/
theorem rB.ext {H0 H1 : Hp} {v : V} {x : Vl} (h : rB P H0 g H v x) (e : Ext g H g' H') : rB P H1 g' H' v x := by
  rcases h with h | ⟨a, xs, ds, h1, h2, h3, h4, h5⟩
  · exact .inl (h.mono e.F e.ca)
  · exact .inr ⟨a, xs, ds, h1, h2, e.keep a _ h3 h5, h4.mono e.F, e.nC a (by rw [h3]; simp) h5⟩
theorem rB.rep {H0 : Hp} {v : V} {x : D} (h : rB P H0 g H v (.d x)) : RepB P.K g.F H v x := by
  rcases h with h | ⟨a, xs, ds, h1, h2, h3, h4, h5⟩
  · exact .rep h
  · subst h1
    cases h2
    exact .own h3 h4
/-- a way to hand a value on -/
structure Good (P : Par) (RR : RRT V Vl) : Prop where
  mono : Mono RR
  rep : ∀ H0 g H v z, (∀ ds, z ≠ D.lst ds) → Rep P.K g.F v z → RR H0 g H v (.d z)
  close : ∀ g1 H1 g env c σ H p vs ds, Ext g1 H1 g H → H1 p = none → Rel P g env c σ H → H p = some (.lst vs) → g.F p = none → p ∉ g.ca → (∀ (i : Nat) (a : Addr) (xs : List D), env.look i = .own xs → σ[i]? = some (some (.ref a)) → a ≠ p) → RepL P.K g.F vs ds →
    ∃ g', Ext g1 H1 g' H ∧ Rel P g' env c σ H ∧ RR H1 g' H (.ref p) (.d (.lst ds))
  new : ∀ g env c σ H p vs ds, Rel P g env c σ H → H p = none → RepL P.K g.F vs ds → ∃ g', Ext g H g' (upd H p (.lst vs)) ∧ Rel P g' env c σ (upd H p (.lst vs)) ∧ RR H g' (upd H p (.lst vs)) (.ref p) (.d (.lst ds))
theorem Rel.allocF (r : Rel P g env c σ H) {p : Addr} {o : HO} (hp : H p = none) : Rel P { g with F := upd g.F p o } env c σ (upd H p o) := r.ext (.allocF hp r.sub) (r.toCRel.allocF hp)
theorem Rel.alloc (r : Rel P g env c σ H) {p : Addr} {o : HO} (hp : H p = none) : Rel P g env c σ (upd H p o) := r.ext (.alloc hp) (r.toCRel.alloc hp)
theorem new_rep {p : Addr} {vs : List V} {ds : List D} (hp : H p = none) (s : Sub g.F H) (h : RepL P.K g.F vs ds) : Rep P.K (upd g.F p (.lst vs)) (.ref p) (.lst ds) :=
  .lst (.inl upd_same) (h.mono (sub_new (s.none hp)))
theorem Rel.frz (r : Rel P g env c σ H) {p : Addr} {o : HO} (hp : H p = some o) (hF : g.F p = none) (hc : p ∉ g.ca) (hn : ∀ (i : Nat) (a : Addr) (xs : List D), env.look i = .own xs → σ[i]? = some (some (.ref a)) → a ≠ p) : Rel P { g with F := upd g.F p o } env c σ H := by
  have s : Sub g.F (upd g.F p o) := sub_new hF
  refine ⟨⟨fun a u h => ?_, r.clen, r.cnd, fun k a xs h1 h2 => ?_⟩, fun i => ?_, r.dis, r.elen⟩
  · have h : upd g.F p o a = some u := h
    by_cases e : a = p
    · subst e; rw [upd_same] at h; cases h; exact hp
    · rw [upd_ne e] at h; exact r.sub a u h
  · obtain ⟨vs, q1, q2, q3⟩ := r.cell k a xs h1 h2
    refine ⟨vs, q1, q2.mono s, ?_⟩
    show upd g.F p o a = none
    rw [upd_ne (fun e => by subst e; exact hc (List.mem_of_getElem? h1))]
    exact q3
  · have h := r.slot i
    cases e : env.look i with
    | no => trivial
    | v x =>
      rw [e] at h
      obtain ⟨v, h1, h2⟩ := h
      exact ⟨v, h1, h2.mono s ⟨[], by simp⟩⟩
    | own xs =>
      rw [e] at h
      obtain ⟨a, vs, h1, h2, h3, h4, h5⟩ := h
      refine ⟨a, vs, h1, h2, h3.mono s, ?_, h5⟩
      show upd g.F p o a = none
      rw [upd_ne (hn i a xs e h1)]
      exact h4
    | exn k ds =>
      rw [e] at h
      obtain ⟨a, C, fs, dd, vs, h1, h2, h3, h4, h5, h6, h7⟩ := h
      exact ⟨a, C, fs, dd, vs, h1, h2, h3, h4, h5, h6.mono s, h7⟩
theorem Ext.frz {g1 : Gh} {H1 : Hp} (e : Ext g1 H1 g H) {p : Addr} {o : HO} (h1 : H1 p = none) (hF : g.F p = none) : Ext g1 H1 { g with F := upd g.F p o } H :=
  ⟨e.F.trans (sub_new hF), e.ca, e.keep, fun a h n => by
    show upd g.F p o a = none
    rw [upd_ne (fun z => by subst z; exact h h1)]
    exact e.nF a h n, e.nC, e.dom⟩
theorem seal_rep {p : Addr} {vs : List V} {ds : List D} (hF : g.F p = none) (h : RepL P.K g.F vs ds) : Rep P.K (upd g.F p (.lst vs)) (.ref p) (.lst ds) := .lst (.inl upd_same) (h.mono (sub_new hF))
theorem good_rV : Good P (rV P) := ⟨mono_rV, fun _ _ _ _ _ _ h => h, fun g1 H1 g env c σ H p vs ds e hn r hp hF hc ho h => ⟨_, e.frz hn hF, r.frz hp hF hc ho, seal_rep hF h⟩, fun g env c σ H p vs ds r hp h => ⟨_, .allocF hp r.sub, r.allocF hp, new_rep hp r.sub h⟩⟩
theorem good_rB : Good P (rB P) := ⟨mono_rB, fun _ _ _ _ _ _ h => .inl h, fun g1 H1 g env c σ H p vs ds e hn r hp hF hc ho h => ⟨_, e.frz hn hF, r.frz hp hF hc ho, .inl (seal_rep hF h)⟩, fun g env c σ H p vs ds r hp h => ⟨_, .allocF hp r.sub, r.allocF hp, .inl (new_rep hp r.sub h)⟩⟩
theorem good_rN : Good P (rN P) := ⟨mono_rN, fun _ _ _ _ _ n h => .inl ⟨h, fun ds e => n ds (Vl.d.inj e)⟩, fun g1 H1 g env c σ H p vs ds e hn r hp hF hc ho h => ⟨g, e, r, .inr ⟨p, vs, ds, rfl, rfl, hp, h, hF, hc, hn⟩⟩, fun g env c σ H p vs ds r hp h =>
  ⟨g, .alloc hp, r.alloc hp, .inr ⟨p, vs, ds, rfl, rfl, upd_same, h, r.sub.none hp, fun m => r.toCRel.ne hp m rfl, hp⟩⟩⟩
/-- a rule's end -/
theorem fin_of {RR : RRT V Vl} (go : Good P RR) {z : D} {Q : VK} (r : Rel P g env c σ H) (h : Aft P W σ g env H (R.ok (Vl.d z) c) RR Q) : Fin P.K g.F H z Q := by
  have h' : ∀ g' H' v, Ext g H g' H' → Rel P g' env c σ H' → RR H g' H' v (.d z) → Q v H' := h
  have sc : (∀ ds, z ≠ D.lst ds) → ∀ v, Rep P.K g.F v z → Q v H := fun n v hv => h' g H v .refl r (go.rep _ _ _ _ _ n hv)
  cases z with
  | lst ds =>
    intro p vs hp hr
    obtain ⟨g', e, r', q⟩ := go.new g env c σ H p vs ds r hp hr
    exact h' g' _ _ e r' q
  | tup ds =>
    refine ⟨sc (fun _ => by simp), fun p vs hp hr => ?_⟩
    refine h' { g with F := upd g.F p (.tup vs) } _ _ (.allocF hp r.sub) (r.allocF hp) (go.rep _ _ _ _ _ (fun _ => by simp) ?_)
    exact .tup (.inl (.inl upd_same)) (hr.mono (sub_new (r.sub.none hp)))
  | non => exact sc (fun _ => by simp)
  | bl _ => exact sc (fun _ => by simp)
  | int _ => exact sc (fun _ => by simp)
  | str _ => exact sc (fun _ => by simp)
end
end RX
end
section -- Rx5
namespace RX
open PySem PySem.Spec PyProof.Rows L2

/-- a def that keeps its promise, called where nothing is being shown (repr) -/
structure FnG (P : Program) (w : World) (K : PySem.W.Frag) (mg : Str → Option Value) (base : Heap) (k : Nat) (f : Addr) (fd : FuncData) (ps : List Str) (sp : Sp) : Prop where
  len : ∀ vs H Q E, sp vs H Q E → vs.length = ps.length
  run : ∀ (A : Around) (outer : List PySem.Env) (s : Shared) (H : Hp) (args : Args) (us : List Value) (vs : List V) (Q : VK) (E : XK), A.guards = some [] → Room k A → Env0 P w K mg base A outer s H → BindsTo s fd args (ps.zip us) →
    Vals vs us → sp vs H Q E → codeAny (model P w) A (.call (.ref f) args) (CR (CX P w) outer P w H s Q E) s
theorem FnG.mono {P : Program} {w : World} {K : PySem.W.Frag} {mg : Str → Option Value} {base : Heap} {j k : Nat} {f : Addr} {fd : FuncData} {ps : List Str} {sp : Sp} (F : FnG P w K mg base j f fd ps sp) (h : j ≤ k) : FnG P w K mg base k f fd ps sp :=
  ⟨F.len, fun A outer s H args us vs Q E g r => F.run A outer s H args us vs Q E g (r.mono h)⟩
theorem deeper_guards {A : Around} (env : PySem.Env) (h : A.guards = some []) : (A.deeper env).guards = some [] := by
  unfold Around.deeper
  exact h
/-- by its body -/
theorem FnG.of {P : Program} {w : World} {K : PySem.W.Frag} {mg : Str → Option Value} {base : Heap} {k : Nat} {f : Addr} {name qual : Str} {params : Arguments} {body : List Stmt} {scope : Scope} {dV kV doc pm cdv ct oc : Value} {an od : Option Addr}
    {osl : Array (Option Value)} {N ps : List Str} {sp : Sp} (lk : K.lookup f = some ⟨oc, od, .func (PySem.W.fnOf name qual params body scope dV kV doc pm an cdv ct), osl⟩) (cd : PySem.W.codeIn K cdv qual = true) (S : FnScope N ps scope)
    (len : ∀ vs H Q E, sp vs H Q E → vs.length = ps.length)
    (hb : ∀ (A : Around) (outer : List PySem.Env) (s : Shared) (H : Hp) (vs : List V) (Q : VK) (E : XK), A.guards = some [] → Room k (A.deeper (envOfC qual scope s.heap.objs.size f cdv)) → sp vs H Q E →
      ∃ t, PSs (cxOf (CX P w) P w K mg base N qual scope f cdv A outer s H E) body t ∧ t { nx := fun _ H' => Q .non H', rt := Q } (start N vs) H) :
    FnG P w K mg base (k + 1) f (PySem.W.fnOf name qual params body scope dV kV doc pm an cdv ct) ps sp := by
  refine ⟨len, fun A outer s H args us vs Q E hg room e0 bnd vv hsp => ?_⟩
  have l0 := len _ _ _ _ hsp
  have inK : K.In s.heap := e0.mod.kin.keeps fun b o e => (e0.bs b o e).1
  have noL : s.heap.NoLimit := e0.mod.nolimit.keeps fun b o e => (e0.bs b o e).1
  have kinds : ∀ y ∈ ps.zip us, scope.names.lookup y.1 = some .local ∨
      (scope.names.lookup y.1 = some .cell ∧ ((cellsFrom (s.heap.objs.size + 1) scope.names []).lookup y.1).isSome = true) := by
    rintro ⟨n, v⟩ hy
    rcases S.par n (List.of_mem_zip hy).1 with q | q
    · exact Or.inl q
    · exact Or.inr ⟨q, PySem.W.cellsFrom_some _ _ _ (.inl q)⟩
  refine codeAny_call_function room.depth (inK _ _ lk) rfl S.co S.gen rfl (PySem.W.codeRec_of inK cd) (bnd _ _ _ _ ?_)
  refine wpAny_newFunctionEnv_cells S.kind kinds fun env he s1 x => ?_
  cases he
  refine ⟨noL.keeps x.toInCall.keep, codeAny_func ?_⟩
  obtain ⟨t, pt, qt⟩ := hb A outer s H vs Q E hg (room.deeper _) hsp
  have I0 : Inv (cxOf (CX P w) P w K mg base N qual scope f cdv A outer s H E) [] (start N vs) H s1 := inv_start S room.hd e0 l0 vv x
  refine wpAny_mono (pt.run [] s1 (start N vs) H _ I0 qt) (fun fl s' hs => ?_) fun e s' hs => hs
  cases fl with
  | ret u =>
    obtain ⟨v, _, H', J, rv, q⟩ := hs
    exact ⟨v, H', J.os, J.bare, J.base, J.hok, rv, q⟩
  | next =>
    obtain ⟨_, H', J, q⟩ := hs
    exact ⟨V.non, H', J.os, J.bare, J.base, J.hok, rfl, q⟩
  | brk =>
    obtain ⟨_, _, _, q⟩ := hs
    exact False.elim q
  | cont =>
    obtain ⟨_, _, _, q⟩ := hs
    exact False.elim q
section
variable {X : Cx} {k : Nat} {f : Addr} {fd : FuncData} {ps : List Str} {sp : Sp} {W : WX} {x : Str} {p pos : Pos} {e : Expr} {es : List Expr} {t : TA}
/-- f(..): errors are wished for at the slots as they stand -/
def tCallG (sp : Sp) (W : WX) (g : List V → List V) (t : TA) : TE := fun σ H Q => t σ H fun vs H1 => sp (g vs) H1 Q fun cls d H' => W cls d σ H'
theorem run_fnG {pins : List (Addr × Obj)} {σ : L2.St} {H : Hp} {s : Shared} {Q : VK} {us : List Value} {vs : List V} {ar : Args} (F : FnG X.prog X.w X.K X.mg X.base k f fd ps sp) (hg : X.A.guards = some []) (hr : Room k X.A) (tk : Takes X W)
    (I : Inv X pins σ H s) (hb : BindsTo s fd ar (ps.zip us)) (r : Vals vs us) (h : sp vs H Q fun cls d H' => W cls d σ H') : codeAny (model X.prog X.w) X.A (.call (.ref f) ar) (fun r s' => match r with
      | .ok (.ret v) => EP X pins σ Q v s'
      | .ok _ => False
      | .error e => X.xe e s') s := by
  refine codeAny_mono (F.run X.A X.stack s H ar us vs Q _ hg hr I.env0 hb r h) fun r s' hq => ?_
  cases r with
  | error e => exact tk e s' (XE.of_call I (fun _ _ _ h => h) hq)
  | ok fl =>
    cases fl with
    | ret u => exact I.after hq
    | next => exact hq.elim
    | brk => exact hq.elim
    | cont => exact hq.elim
theorem starOk {e : Expr} {es : List Expr} {env : PySem.Env} (h : PySem.W.isStarred e = false) : starEach (e :: es) env = (false, eval e env) :: starEach es env := by
  cases e <;> first | rfl | cases h
theorem plainOk {pos : Pos} {env : PySem.Env} : ∀ {es : List Expr}, es.all (fun e => !PySem.W.isStarred e) = true → (backTo pos (starEach es env)).any (·.1) = false
  | [], _ => rfl
  | e :: es, h => by
    rw [List.all_cons, Bool.and_eq_true] at h
    have h1 : PySem.W.isStarred e = false := by simpa using h.1
    have ih := plainOk (pos := pos) (env := env) h.2
    unfold backTo at ih ⊢
    rw [starOk h1, List.map_cons, List.any_cons, ih]
    rfl
theorem pe_callG (F : FnG X.prog X.w X.K X.mg X.base k f fd ps sp) (hg : X.A.guards = some []) (hr : Room k X.A) (tk : Takes X W) (gx : Gl X x) (hm : X.mg x = some (.ref f)) (hk : PySem.W.keepIn X.K (.ref f) = true)
    (hb : ∀ (s : Shared) (us : List Value), us.length = ps.length → BindsTo s fd ⟨us, []⟩ (ps.zip us)) (ha : PA X (e :: es) t) (hst : (e :: es).all (fun e => !PySem.W.isStarred e) = true) (hdb : (x == ("__debug__" : Str)) = false) :
    PE X (.Call (.Name x p) (e :: es) [] pos) (tCallG sp W id t) := by
  refine ⟨fun pins s σ H Q I h => ?_⟩
  rw [List.all_cons, Bool.and_eq_true] at hst
  refine wpAny_Call_Name_kw (ld_glob I gx hm ?_ hdb)
  refine PySem.W.callWith_K (h₀ := X.base) I.ok.mod.kin hk (thn (ha.run pos pins s σ H _ I h) fun us s1 ⟨vs, H1, I1, r, q⟩ => ⟨I1.kIn, ?_⟩) (starOk (by simpa using hst.1)) (plainOk hst.2)
  have l := F.len _ _ _ _ q
  exact wpAny_call (run_fnG F hg hr tk I1 (hb s1 us (by rw [← r.length]; exact l)) r q)
/-- keywords alone -/
theorem kw_all {pos : Pos} {env : PySem.Env} : ∀ {kws : List Keyword}, kws.all (fun k => k.arg.isSome) = true → (backToKw pos (keywordEach kws env)).all (·.1.isSome) = true ∧ (backToKw pos (keywordEach kws env)).any (·.1.isNone) = false ∧
    (backToKw pos (keywordEach kws env)).filterMap (·.1) = kws.filterMap (·.arg)
  | [], _ => ⟨rfl, rfl, rfl⟩
  | ⟨n, v, kp⟩ :: r, h => by
    rw [List.all_cons, Bool.and_eq_true] at h
    obtain ⟨h1, h2, h3⟩ := kw_all (pos := pos) (env := env) h.2
    unfold backToKw at h1 h2 h3 ⊢
    unfold keywordEach
    rw [List.map_cons, List.all_cons, List.any_cons, List.filterMap_cons, List.filterMap_cons, h1, h2, h3]
    cases n with
    | none => simp at h
    | some n => exact ⟨rfl, rfl, rfl⟩
theorem pe_callGK {kws : List Keyword} {tk' : TA} {ks : List Str} {g : List Value → List Value} {gV : List V → List V} (F : FnG X.prog X.w X.K X.mg X.base k f fd ps sp) (hg : X.A.guards = some []) (hr : Room k X.A) (tk : Takes X W) (gx : Gl X x) (hm : X.mg x = some (.ref f)) (hk : PySem.W.keepIn X.K (.ref f) = true)
    (hb : ∀ (s : Shared) (ws : List Value), ws.length = ks.length → BindsTo s fd ⟨[], ks.zip ws⟩ (ps.zip (g ws))) (hgv : ∀ (zs : List V) (ws : List Value), zs.length = ks.length → Vals zs ws → Vals (gV zs) (g ws)) (ha : PK X kws tk') (hall : kws.all (fun k => k.arg.isSome) = true) (hks : kws.filterMap (·.arg) = ks)
    (hlen : ∀ σ H Q, tk' σ H Q → tk' σ H fun vs H' => vs.length = ks.length ∧ Q vs H') (hdb : (x == ("__debug__" : Str)) = false) :
    PE X (.Call (.Name x p) [] kws pos) (tCallG sp W gV tk') := by
  refine ⟨fun pins s σ H Q I h => ?_⟩
  obtain ⟨k1, k2, k3⟩ := kw_all (pos := pos) (env := X.env) hall
  refine wpAny_Call_Name_kw (ld_glob I gx hm ?_ hdb)
  refine PySem.W.callWith_KW0 (h₀ := X.base) I.ok.mod.kin hk k1 ?_ (by rw [k2]; rfl)
  refine thn (ha.run pos pins s σ H _ I (hlen σ H _ h)) fun ws s2 ⟨zs, H2, I2, rz, l, q2⟩ => ⟨I2.kIn, ?_⟩
  rw [k3, hks]
  exact wpAny_call (run_fnG F hg hr tk I2 (hb s2 ws (by rw [← rz.length]; exact l)) (hgv zs ws l rz) q2)
end
theorem lookup_zip {x : Str} {ps : List Str} {us : List Value} (hl : us.length = ps.length) (h : x ∈ ps) : ((ps.zip us).lookup x).isSome = true := by
  induction ps generalizing us with
  | nil => cases h
  | cons p r ih =>
    cases us with
    | nil => simp at hl
    | cons u w =>
      simp only [List.zip_cons_cons, List.lookup_cons]
      by_cases e : x = p
      · subst e; simp
      · have : (x == p) = false := by simpa using e
        rw [this]
        exact ih (by simpa using hl) ((List.mem_cons.mp h).resolve_left e)
theorem fm_congr {α β : Type} {f g : α → Option β} : ∀ {l : List α}, (∀ x ∈ l, f x = g x) → l.filterMap f = l.filterMap g
  | [], _ => rfl
  | x :: r, h => by rw [List.filterMap_cons, List.filterMap_cons, h x List.mem_cons_self, fm_congr fun y hy => h y (List.mem_cons_of_mem _ hy)]
theorem filterMap_zip {ps : List Str} {us : List Value} (hl : us.length = ps.length) (nd : ps.Nodup) : ps.filterMap (fun n => ((ps.zip us).lookup n).map (fun v => (n, v))) = ps.zip us := by
  induction ps generalizing us with
  | nil => cases us <;> rfl
  | cons p r ih =>
    cases us with
    | nil => simp at hl
    | cons u w =>
      have nd' := List.nodup_cons.mp nd
      have e : r.filterMap (fun n => (((p :: r).zip (u :: w)).lookup n).map (fun v => (n, v))) = r.filterMap (fun n => ((r.zip w).lookup n).map (fun v => (n, v))) := by
        refine fm_congr fun x hx => ?_
        have : (x == p) = false := by
          have : x ≠ p := fun e => nd'.1 (e ▸ hx)
          simpa using this
        simp only [List.zip_cons_cons, List.lookup_cons, this]
      rw [List.filterMap_cons]
      have e2 : (((p :: r).zip (u :: w)).lookup p) = some u := by simp [List.zip_cons_cons, List.lookup_cons]
      rw [e2, e, ih (by simpa using hl) nd'.2]
      rfl
theorem bind_plain {as : List Arg} {us : List Value} (hl : us.length = as.length) (nd : (as.map (·.arg)).Nodup) {nm qn : Str} {body : FuncBody} {sc : Scope} {gb : Addr} {clo : List (Str × Addr)} {kV doc pm cd ct : Value} {an : Option Addr} {bl : Addr} :
    bindArgs ⟨nm, qn, ⟨[], as, none, [], [], none, []⟩, body, sc, gb, clo, .none, kV, doc, pm, an, cd, ct, bl⟩ ⟨us, []⟩ = pure ((as.map (·.arg)).zip us) := by
  have hm : ((as.map (·.arg)).filter fun n => (((as.map (·.arg)).zip us).lookup n).isNone) = [] := by
    rw [List.filter_eq_nil_iff]
    intro x hx
    have := lookup_zip (x := x) (ps := as.map (·.arg)) (us := us) (by simpa using hl) hx
    simp [Option.isNone_iff_eq_none, Option.isSome_iff_ne_none.mp this]
  have hz := filterMap_zip (ps := as.map (·.arg)) (us := us) (by simpa using hl) nd
  rw [List.filterMap_map] at hz
  have ns : notAStandIn Value.none = (pure () : Sem Unit) := rfl
  have ht : List.take as.length (as.map (·.arg)) = as.map (·.arg) := by
    have : as.length = (as.map (·.arg)).length := by simp
    rw [this, List.take_length]
  unfold bindArgs
  simp [hl, seqItems?, ns, ht, hm]
  exact congrArg pure hz
end RX
end
section -- Rx6
namespace RX
open PySem PySem.Spec PyProof.Rows L2

end RX
namespace L2
open PySem PySem.Spec PyProof.Rows
section
variable {X : Cx} {e : Expr} {es : List Expr}
theorem PE.imp {t t' : TE} (h : PE X e t) (i : ∀ σ H Q, t' σ H Q → t σ H Q) : PE X e t' := ⟨fun pins s σ H Q I q => h.run pins s σ H Q I (i σ H Q q)⟩
theorem PT.imp {t t' : TT} (h : PT X e t) (i : ∀ σ H Q, t' σ H Q → t σ H Q) : PT X e t' := ⟨fun pins s σ H Q I q => h.run pins s σ H Q I (i σ H Q q)⟩
theorem PW.imp {t t' : TT} (h : PW X e t) (i : ∀ σ H Q, t' σ H Q → t σ H Q) : PW X e t' := ⟨fun wh pins s σ H Q I q => h.run wh pins s σ H Q I (i σ H Q q)⟩
theorem PA.imp {t t' : TA} (h : PA X es t) (i : ∀ σ H Q, t' σ H Q → t σ H Q) : PA X es t' := ⟨fun pos pins s σ H Q I q => h.run pos pins s σ H Q I (i σ H Q q)⟩
theorem PO.imp {o : Option Expr} {t t' : TO} (h : PO X o t) (i : ∀ σ H Q, t' σ H Q → t σ H Q) : PO X o t' := ⟨fun pins s σ H Q I q => h.run pins s σ H Q I (i σ H Q q)⟩
end

end L2
namespace RX
open PySem PySem.Spec PyProof.Rows L2
section
variable {P : Par} {W : WX} {g : Gh} {H : Hp} {env : EnvD} {c : Cells} {σ : L2.St} {γ δ : Type} {RR : RRT δ γ}
theorem Aft.bindD (mo : Mono RR) {m : M Vl} {k : D → M γ} {Q : δ → Hp → Prop} (h : Aft P W σ g env H (M.bind m (fun v => M.bind (asD v) k) c) RR Q) :
    Aft P W σ g env H (m c) (rB P) fun v H1 => ∃ g1 c1 d, Ext g H g1 H1 ∧ Rel P g1 env c1 σ H1 ∧ rB P H g1 H1 v (.d d) ∧ Aft P W σ g1 env H1 (k d c1) RR Q := by
  have h1 := h.bind mo (RR1 := rB P)
  cases e : m c with
  | ok a c' =>
    rw [e] at h1
    intro g' H' v e1 r1 q1
    obtain ⟨g1, c1, a', x1, x2, x3, x4⟩ := h1 g' H' v e1 r1 q1
    cases a' with
    | d d => exact ⟨g1, c1, d, x1, x2, x3, x4⟩
    | c i => exact x4.elim
  | exc k ds c' => rw [e] at h1; exact h1
  | stuck => rw [e] at h1; exact h1
theorem TM.d1 (mo : Mono RR) {m : EnvD → M Vl} {k : EnvD → D → M γ} {Q : δ → Hp → Prop} (h : TM P W (fun env => M.bind (m env) fun v => M.bind (asD v) (k env)) RR σ H Q) :
    TM P W m (rB P) σ H fun v H1 => ∃ g env c d, Rel P g env c σ H1 ∧ rB P H g H1 v (.d d) ∧ Aft P W σ g env H1 (k env d c) RR Q := by
  obtain ⟨g, env, c, r, a⟩ := h
  refine ⟨g, env, c, r, ?_⟩
  have a' := a.bindD mo
  cases e : m env c with
  | ok x c' =>
    rw [e] at a'
    intro g' H' v e1 r1 q1
    obtain ⟨g1, c1, d, x1, x2, x3, x4⟩ := a' g' H' v e1 r1 q1
    exact ⟨g1, env, c1, d, x2, x3, x4⟩
  | exc k ds c' => rw [e] at a'; exact a'
  | stuck => rw [e] at a'; exact a'
theorem TM.d2 (mo : Mono RR) {m n : EnvD → M Vl} {k : EnvD → D → D → M γ} {Q : δ → Hp → Prop} (h : TM P W (fun env => M.bind (m env) fun v => M.bind (asD v) fun v => M.bind (n env) fun u => M.bind (asD u) (k env v)) RR σ H Q) :
    TM P W m (rB P) σ H fun v H1 => TM P W n (rB P) σ H1 fun u H2 => ∃ g env c d e, Rel P g env c σ H2 ∧ rB P H g H2 v (.d d) ∧ rB P H g H2 u (.d e) ∧ Aft P W σ g env H2 (k env d e c) RR Q := by
  obtain ⟨g, env, c, r, a⟩ := h
  refine ⟨g, env, c, r, ?_⟩
  have a' := a.bindD mo
  cases e : m env c with
  | ok x c' =>
    rw [e] at a'
    intro g' H' v e1 r1 q1
    obtain ⟨g1, c1, d, x1, x2, x3, x4⟩ := a' g' H' v e1 r1 q1
    refine ⟨g1, env, c1, x2, ?_⟩
    have b := x4.bindD mo
    cases e2 : n env c1 with
    | ok x c2 =>
      rw [e2] at b
      intro g' H'' u e1 r1 q1
      obtain ⟨g2, c2, d2, y1, y2, y3, y4⟩ := b g' H'' u e1 r1 q1
      exact ⟨g2, env, c2, d, d2, y2, x3.ext y1, y3, y4⟩
    | exc k ds c' => rw [e2] at b; exact b
    | stuck => rw [e2] at b; exact b
  | exc k ds c' => rw [e] at a'; exact a'
  | stuck => rw [e] at a'; exact a'
theorem TM.bind2 {α β : Type} (mo : Mono RR) {m : EnvD → M α} {RR1 : RRT β α} {k : EnvD → α → M γ} {Q : δ → Hp → Prop} (h : TM P W (fun env => M.bind (m env) (k env)) RR σ H Q) :
    TM P W m RR1 σ H fun v H1 => ∃ g env c a, Rel P g env c σ H1 ∧ RR1 H g H1 v a ∧ Aft P W σ g env H1 (k env a c) RR Q := by
  obtain ⟨g, env, c, r, a⟩ := h
  refine ⟨g, env, c, r, ?_⟩
  have a' := a.bind mo (RR1 := RR1)
  cases e : m env c with
  | ok x c' =>
    rw [e] at a'
    intro g' H' v e1 r1 q1
    obtain ⟨g1, c1, d, x1, x2, x3, x4⟩ := a' g' H' v e1 r1 q1
    exact ⟨g1, env, c1, d, x2, x3, x4⟩
  | exc k ds c' => rw [e] at a'; exact a'
  | stuck => rw [e] at a'; exact a'
def rTru : RRT Bool Bool := fun _ _ _ k k' => k = k'
theorem mono_rTru : Mono rTru := fun _ _ _ _ _ _ _ h => h
def rVs (P : Par) : RRT (List V) (List Vl) := fun _ g _ vs xs => RVs P g vs xs
theorem mono_rVs : Mono (rVs P) := fun _ _ _ _ _ _ _ h => h
/-- several that are looked at -/
inductive RBs (P : Par) (g : Gh) (H : Hp) : List V → List D → Prop
  | nil : RBs P g H [] []
  | cons {v : V} {vs : List V} {d : D} {ds : List D} : rB P H g H v (.d d) → RBs P g H vs ds → RBs P g H (v :: vs) (d :: ds)
def rBs (P : Par) : RRT (List V) (List D) := fun _ g H vs xs => RBs P g H vs xs
theorem mono_rBs : Mono (rBs P) := fun _ _ _ _ _ _ _ h => h
theorem RBs.reps {vs : List V} {ds : List D} (h : RBs P g H vs ds) : RepBs P.K g.F H vs ds := by
  induction h with
  | nil => exact .nil
  | cons h _ ih => exact .cons h.rep ih
def rInt : RRT (Option Int) (Option Int) := fun _ _ _ a b => a = b
theorem mono_rInt : Mono rInt := fun _ _ _ _ _ _ _ h => h
theorem Aft.opt {α : Type} {o : Option α} {k : α → M γ} {Q : δ → Hp → Prop} (h : Aft P W σ g env H (M.bind (M.opt o) k c) RR Q) : ∃ a, o = some a ∧ Aft P W σ g env H (k a c) RR Q := by
  cases o with
  | none => exact h.elim
  | some a => exact ⟨a, rfl, h⟩
end
theorem D.truth_of {d : D} {P : Par} {W : WX} {g : Gh} {H : Hp} {env : EnvD} {c : Cells} {σ : L2.St} {Q : Bool → Hp → Prop} (h : Aft P W σ g env H (M.opt d.truth c) rTru Q) (r : Rel P g env c σ H) : ∃ k, d.truth = some k ∧ Q k H := by
  cases e : d.truth with
  | none => rw [e] at h; exact h.elim
  | some k => rw [e] at h; exact ⟨k, rfl, h g H k .refl r rfl⟩

/-- names: of the def's slots, of the defs, of the module's constants, of the error classes and their fields -/
structure Nm where
  N : List Str
  fn : Nat → Option (Str × List Str)
  gl : Nat → Option Str
  gt : Nat → Option Str
  ex : Nat → Option (Str × List Str)
  xf : Nat → Option Str
def nmOk (x : Str) : Bool := !(x == ("__debug__" : Str)) && !(x == ("__classdict__" : Str)) && !(x == ("__name__" : Str))
def visB (sc : Scope) (x : Str) : Bool := match sc.names.lookup x with
  | some .local => true
  | some .cell => true
  | some .free => true
  | _ => false
def glB (sc : Scope) (x : Str) : Bool := (match sc.names.lookup x with
  | some .globalImplicit => true
  | _ => false) && nmOk x
def constB : D → Const → Bool
  | .non, .none => true
  | .bl b, .bool c => b == c
  | .int i, .int j => decide (i = j)
  | .str s, .str t => decide (t = ⟨s.toArray⟩)
  | _, _ => false
def noStar (es : List Expr) : Bool := es.all fun e => !PySem.W.isStarred e
def notSet : Expr → Bool
  | .Set _ _ _ => false
  | _ => true
def notSlice : Expr → Bool
  | .Slice _ _ _ _ => false
  | _ => true
def biName : Bi → Str
  | .len => "len" | .abs => "abs" | .max2 => "max" | .min2 => "min" | .maxl => "max" | .minl => "min" | .sum => "sum" | .all => "all" | .any => "any" | .int1 => "int" | .repr => "repr" | .list1 => "list" | .tuple1 => "tuple"
  | .sorted => "sorted" | .sset => "sorted" | .divmod => "divmod" | .lset => "len"
def biArity : Bi → Nat
  | .max2 => 2 | .min2 => 2 | .divmod => 2 | _ => 1
/-- may it stand in an except suite -/
def biHot : Bi → Bool
  | .repr => true | .len => true | .list1 => true | .tuple1 => true | .int1 => true | .abs => true
  | _ => false
def tyName : Ty → Str
  | .int => "int" | .bool => "bool" | .str => "str" | .list => "list" | .tuple => "tuple"
def tyB (sc : Scope) (t : Ty) : Expr → Bool
  | .Name x _ => decide (x = tyName t) && glB sc x
  | _ => false
def tysB (sc : Scope) : List Ty → List Expr → Bool
  | [], [] => true
  | t :: ts, e :: es => tyB sc t e && tysB sc ts es
  | _, _ => false
def isNew : E → Bool
  | .bin _ _ _ => true
  | .bi _ _ => true
  | .slc _ _ _ => true
  | .lst _ => true
  | .lc _ _ _ _ => true
  | .lc2 _ _ _ _ _ _ _ => true
  | _ => false
def locB (sc : Scope) (x : Str) : Bool := match sc.names.lookup x with
  | some .local => true
  | some .cell => true
  | _ => false
section
variable (nm : Nm)
def mTgN (sc : Scope) (i : Nat) : Expr → Bool
  | .Name x _ => decide (nm.N[i]? = some x) && locB sc x
  | _ => false
def mTgs (sc : Scope) : List Nat → List Expr → Bool
  | [], [] => true
  | i :: is, e :: es => mTgN nm sc i e && mTgs sc is es
  | _, _ => false
def mTg (sc : Scope) : Tg → Expr → Bool
  | .nm i, e => mTgN nm sc i e
  | .tp is, .Tuple es _ _ => mTgs nm sc is es
  | _, _ => false
/-- a comprehension's own names -/
def ownOf (N : List Str) (is : List Nat) : List (Str × Nat) := is.filterMap fun i => (N[i]?).map fun x => (x, i)
mutual
def mE (sc : Scope) (hot : Bool) : E → Expr → Bool
  | .var i, .Name x _ => decide (nm.N[i]? = some x) && visB sc x && nmOk x
  | .cst c, .Constant k _ _ => constB c k
  | .glo g, .Name x _ => decide (nm.gl g = some x) && glB sc x
  | .bin o a b, .BinOp x op y _ => decide (op = o.py) && mE sc hot a x && mE sc hot b y
  | .neg a, .UnaryOp .USub x _ => mE sc hot a x
  | .nt a, .UnaryOp .Not x _ => mE sc hot a x
  | .and a b, .BoolOp .And [x, y] _ => mE sc hot a x && mE sc hot b y
  | .and a b, .BoolOp .And (x :: y :: z :: r) p => mE sc hot a x && mE sc hot b (.BoolOp .And (y :: z :: r) p)
  | .or a b, .BoolOp .Or [x, y] _ => mE sc hot a x && mE sc hot b y
  | .or a b, .BoolOp .Or (x :: y :: z :: r) p => mE sc hot a x && mE sc hot b (.BoolOp .Or (y :: z :: r) p)
  | .ife c a b, .IfExp z x y _ => mE sc hot c z && mE sc hot a x && mE sc hot b y
  | .cmp o a b, .Compare x [op] [y] _ => decide (op = o.py) && notSet y && mE sc hot a x && mE sc hot b y
  | .chn o p a b c, .Compare x [op, op'] [y, z] _ => decide (op = o.py) && decide (op' = p.py) && notSet z && mE sc hot a x && mE sc hot b y && mE sc hot c z
  | .call f as, .Call (.Name x _) (e :: es) [] _ => !hot && decide ((nm.fn f).map (·.1) = some x) && glB sc x && noStar (e :: es) && mEs sc hot as (e :: es)
  | .callk f perm .nil ks, .Call (.Name x _) [] kws _ => !hot && decide ((nm.fn f).map (·.1) = some x) && glB sc x && kws.all (fun k => k.arg.isSome) && decide ((nm.fn f).map (·.2) = perm.mapM fun i => (kws.filterMap (·.arg))[i]?) &&
      decide ((kws.filterMap (·.arg)).Nodup) && decide (perm.length = kws.length) && mKs sc hot ks kws
  | .bi .sset as, .Call (.Name x _) [.Call (.Name y _) (e :: es) [] _] [] _ => !hot && decide (x = ("sorted" : Str)) && decide (y = ("set" : Str)) && glB sc x && glB sc y && noStar (e :: es) && mEs sc hot as (e :: es) && decide (es = [] ∨ False)
  | .bi .lset _, _ => false
  | .bi b as, .Call (.Name x _) (e :: es) [] _ => decide (b ≠ .sset) && decide (x = biName b) && glB sc x && (biHot b || !hot) && decide (es.length + 1 = biArity b) && noStar (e :: es) && mEs sc hot as (e :: es)
  | .isi a [t], .Call (.Name x _) [e, .Name y q] [] _ => decide (x = ("isinstance" : Str)) && glB sc x && !PySem.W.isStarred e && tyB sc t (.Name y q) && mE sc hot a e
  | .isi a ts, .Call (.Name x _) [e, .Tuple es _ _] [] _ => decide (x = ("isinstance" : Str)) && glB sc x && !PySem.W.isStarred e && decide (ts.length ≤ 8) && tysB sc ts es && mE sc hot a e
  | .gin neg a g, .Compare x [op] [.Name y _] _ => decide (op = (if neg then .NotIn else .In)) && decide (nm.gt g = some y) && glB sc y && mE sc hot a x
  | .gget g a, .Subscript (.Name y _) x _ => decide (nm.gt g = some y) && glB sc y && notSlice x && mE sc hot a x
  | .exf i k, .Attribute (.Name x _) f _ => decide (nm.N[i]? = some x) && visB sc x && nmOk x && decide (nm.xf k = some f)
  | .idx a i, .Subscript x y _ => notSlice y && mE sc hot a x && mE sc hot i y
  | .cidx i k, .Subscript (.Name x _) (.Constant (.int j) _ _) _ => decide (nm.N[i]? = some x) && visB sc x && nmOk x && decide (j = (k : Int))
  | .slc a lo hi, .Subscript x (.Slice l h none _) _ => mE sc hot a x && mO sc hot lo l && mO sc hot hi h
  | .lst as, .List es _ => noStar es && mEs sc hot as es
  | .clst as, .List es _ => noStar es && mEs sc hot as es
  | .tup as, .Tuple es _ _ => noStar es && mEs sc hot as es
  | .lc t s c e, .ListComp x [⟨tg, it, ifs, 0⟩] sc2 _ => !hot && mR sc hot s t it && blkC nm.N sc sc2 (ownOf nm.N t.slots) && decide ((ownOf nm.N t.slots).map (·.2) = t.slots) && decide (t.slots.Nodup) && mTg nm sc2 t tg && mC sc2 hot c ifs && mE sc2 hot e x
  | _, _ => false
def mEs (sc : Scope) (hot : Bool) : Es → List Expr → Bool
  | .nil, [] => true
  | .cons e es, x :: xs => mE sc hot e x && mEs sc hot es xs
  | _, _ => false
def mKs (sc : Scope) (hot : Bool) : Es → List Keyword → Bool
  | .nil, [] => true
  | .cons e es, ⟨_, x, _⟩ :: xs => mE sc hot e x && mKs sc hot es xs
  | _, _ => false
def mO (sc : Scope) (hot : Bool) : Oe → Option Expr → Bool
  | .no, none => true
  | .yes e, some x => mE sc hot e x
  | _, _ => false
def mC (sc : Scope) (hot : Bool) : Oe → List Expr → Bool
  | .no, [] => true
  | .yes e, [x] => mE sc hot e x
  | _, _ => false
def mR (sc : Scope) (hot : Bool) : Sr → Tg → Expr → Bool
  | .rng1 a, _, .Call (.Name x _) [e] [] _ => decide (x = ("range" : Str)) && glB sc x && !PySem.W.isStarred e && mE sc hot a e
  | .rng2 a b, _, .Call (.Name x _) [e, f] [] _ => decide (x = ("range" : Str)) && glB sc x && !PySem.W.isStarred e && !PySem.W.isStarred f && mE sc hot a e && mE sc hot b f
  | .enum a, .tp _, .Call (.Name x _) [e] [] _ => decide (x = ("enumerate" : Str)) && glB sc x && !PySem.W.isStarred e && mE sc hot a e
  | .chars a, _, e => notSet e && mE sc hot a e
  | .seq a, _, e => notSet e && mE sc hot a e
  | _, _, _ => false
end
end
end RX
end
section -- Rx6b
namespace RX
open PySem
section
variable {call : Nat → List Vl → M Vl} {gl : Nat → Option GV}
theorem ev_var {i b} : ev call gl (E.var i) b = fun env => match env.look i with
    | .v x => M.pure x
    | .own xs => if b then M.pure (.d (.lst xs)) else M.fail
    | _ => M.fail := rfl
theorem ev_cst {c b} : ev call gl (E.cst c) b = fun env => M.pure (.d c) := rfl
theorem ev_glo {g b} : ev call gl (E.glo g) b = fun env => match gl g with
    | some (.v x) => M.pure (.d x)
    | _ => M.fail := rfl
theorem ev_bin {o x y b} : ev call gl (E.bin o x y) b = fun env => M.bind (ev call gl x true env) fun v => M.bind (asD v) fun v => M.bind (ev call gl y true env) fun u => M.bind (asD u) fun u => M.bind (M.opt (o.run v u)) fun z => M.pure (.d z) := rfl
theorem ev_neg {x b} : ev call gl (E.neg x) b = fun env => M.bind (ev call gl x true env) fun v => M.bind (asD v) fun v => match v with
    | .int i => M.pure (.d (.int (-i)))
    | _ => M.fail := rfl
theorem ev_nt {x b} : ev call gl (E.nt x) b = fun env => M.bind (ev call gl x true env) fun v => M.bind (truM v) fun k => M.pure (.d (.bl !k)) := rfl
theorem ev_and {x y b} : ev call gl (E.and x y) b = fun env => M.bind (ev call gl x b env) fun v => M.bind (truM v) fun k => if k then ev call gl y b env else M.pure v := rfl
theorem ev_or {x y b} : ev call gl (E.or x y) b = fun env => M.bind (ev call gl x b env) fun v => M.bind (truM v) fun k => if k then M.pure v else ev call gl y b env := rfl
theorem ev_ife {c x y b} : ev call gl (E.ife c x y) b = fun env => M.bind (ev call gl c true env) fun v => M.bind (truM v) fun k => if k then ev call gl x b env else ev call gl y b env := rfl
theorem ev_cmp {o x y b} : ev call gl (E.cmp o x y) b = fun env => M.bind (ev call gl x true env) fun v => M.bind (asD v) fun v => M.bind (ev call gl y true env) fun u => M.bind (asD u) fun u => M.bind (M.opt (o.run v u)) fun z => M.pure (.d (.bl z)) := rfl
theorem ev_chn {o p x y z b} : ev call gl (E.chn o p x y z) b = fun env => M.bind (ev call gl x true env) fun v => M.bind (asD v) fun v => M.bind (ev call gl y true env) fun u => M.bind (asD u) fun u => M.bind (M.opt (o.run v u)) fun k =>
      if k then M.bind (ev call gl z true env) fun w => M.bind (asD w) fun w => M.bind (M.opt (p.run u w)) fun k => M.pure (.d (.bl k)) else M.pure (.d (.bl false)) := rfl
theorem ev_call {f as b} : ev call gl (E.call f as) b = fun env => M.bind (evs call gl as env) fun vs => call f vs := rfl
theorem ev_callk {f perm as ks b} : ev call gl (E.callk f perm as ks) b = fun env => M.bind (evs call gl as env) fun vs => M.bind (evs call gl ks env) fun us => M.bind (M.opt (perm.mapM fun i => (vs ++ us)[i]?)) fun ws => call f ws := rfl
theorem ev_bi {o as b} : ev call gl (E.bi o as) b = fun env => M.bind (evB call gl as env) fun vs => M.bind (M.opt (o.run vs)) fun z => M.pure (.d z) := rfl
theorem ev_isi {x ts b} : ev call gl (E.isi x ts) b = fun env => M.bind (ev call gl x true env) fun v => M.bind (asD v) fun v => M.pure (.d (.bl (ts.any v.isTy))) := rfl
theorem ev_idx {x i b} : ev call gl (E.idx x i) b = fun env => M.bind (ev call gl x true env) fun v => M.bind (asD v) fun v => M.bind (ev call gl i true env) fun u => M.bind (asD u) fun u => M.bind (M.opt (v.idx u)) fun z => M.pure (.d z) := rfl
theorem ev_cidx {i k b} : ev call gl (E.cidx i k) b = fun env => match env.look i with
    | .v (.c j) => fun c => match (c[j]?).bind (·[k]?) with
      | some x => .ok (.d x) c
      | none => .stuck
    | _ => M.fail := rfl
theorem ev_slc {x lo hi b} : ev call gl (E.slc x lo hi) b = fun env => M.bind (ev call gl x true env) fun v => M.bind (asD v) fun v => M.bind (evO call gl lo env) fun l => M.bind (evO call gl hi env) fun h => M.bind (M.opt (v.slc l h)) fun z => M.pure (.d z) := rfl
theorem ev_lst {as b} : ev call gl (E.lst as) b = fun env => M.bind (evs call gl as env) fun vs => M.bind (M.opt (vs.mapM fun | .d x => some x | .c _ => none)) fun xs => if xs.length ≤ szLine then M.pure (.d (.lst xs)) else M.fail := rfl
theorem ev_clst {as b} : ev call gl (E.clst as) b = fun env => M.bind (evs call gl as env) fun vs => M.bind (M.opt (vs.mapM fun | .d x => some x | .c _ => none)) fun xs => if xs.length ≤ szLine then (fun c => .ok (.c c.length) (c ++ [xs])) else M.fail := rfl
theorem ev_tup {as b} : ev call gl (E.tup as) b = fun env => M.bind (evs call gl as env) fun vs => M.bind (M.opt (vs.mapM fun | .d x => some x | .c _ => none)) fun xs => if xs.length ≤ szLine then M.pure (.d (.tup xs)) else M.fail := rfl
theorem ev_lc {t s c e b} : ev call gl (E.lc t s c e) b = fun env => M.bind (evR call gl s true env) fun xs => M.bind (lcRun (fun x => M.bind (M.opt (t.bind x (wipeE env t.slots))) fun env' => M.bind (evC call gl c env') fun k => if k then M.bind (ev call gl e false env') fun v => M.bind (asD v) fun v => M.pure (some v) else M.pure none) xs) fun ys =>
      if ys.length ≤ szLine then M.pure (.d (.lst ys)) else M.fail := rfl
theorem ev_gin {neg x g b} : ev call gl (E.gin neg x g) b = fun env => M.bind (ev call gl x true env) fun v => M.bind (asD v) fun v => match v, gl g with
    | .str k, some (.t kvs) => M.pure (.d (.bl (neg != (lookT k kvs).isSome)))
    | _, _ => M.fail := rfl
theorem ev_gget {g x b} : ev call gl (E.gget g x) b = fun env => M.bind (ev call gl x true env) fun v => M.bind (asD v) fun v => match v, gl g with
    | .str k, some (.t kvs) => M.bind (M.opt (lookT k kvs)) fun d => M.pure (.d d)
    | _, _ => M.fail := rfl
theorem ev_exf {i k b} : ev call gl (E.exf i k) b = fun env => match env.look i with
    | .exn _ ds => M.bind (M.opt ds[k]?) fun d => M.pure (.d d)
    | _ => M.fail := rfl
theorem ev_lc2 {t s c t2 s2 c2 e b} : ev call gl (E.lc2 t s c t2 s2 c2 e) b = fun env => M.bind (evR call gl s true env) fun xs => M.bind (lcCat (fun x => M.bind (M.opt (t.bind x (wipeE env t2.slots))) fun env' => M.bind (M.calm (evC call gl c env')) fun k =>
      if k then M.bind (M.calm (evR call gl s2 true env')) fun zs => lcRun (fun z => M.bind (M.opt (t2.bind z env')) fun env2 => M.bind (evC call gl c2 env2) fun k => if k then M.bind (ev call gl e false env2) fun v => M.bind (asD v) fun v => M.pure (some v) else M.pure none) zs
      else M.pure []) xs) fun ys => if ys.length ≤ szLine then M.pure (.d (.lst ys)) else M.fail := rfl
theorem evs_nil : evs call gl (Es.nil) = fun env => M.pure [] := rfl
theorem evs_cons {e es} : evs call gl (Es.cons e es) = fun env => M.bind (ev call gl e false env) fun v => M.bind (evs call gl es env) fun vs => M.pure (v :: vs) := rfl
theorem evB_nil : evB call gl (Es.nil) = fun env => M.pure [] := rfl
theorem evB_cons {e es} : evB call gl (Es.cons e es) = fun env => M.bind (ev call gl e true env) fun v => M.bind (asD v) fun v => M.bind (evB call gl es env) fun vs => M.pure (v :: vs) := rfl
theorem evO_no : evO call gl (Oe.no) = fun env => M.pure none := rfl
theorem evO_yes {e} : evO call gl (Oe.yes e) = fun env => M.bind (ev call gl e true env) fun v => M.bind (asD v) fun v => match v with
    | .int i => M.pure (some i)
    | _ => M.fail := rfl
theorem evC_no : evC call gl (Oe.no) = fun env => M.pure true := rfl
theorem evC_yes {e} : evC call gl (Oe.yes e) = fun env => M.bind (ev call gl e true env) truM := rfl
theorem evR_seq {e b} : evR call gl (Sr.seq e) b = fun env => M.bind (ev call gl e b env) fun v => M.bind (asD v) fun v => M.opt v.items := rfl
theorem evR_rng1 {a b} : evR call gl (Sr.rng1 a) b = fun env => M.bind (ev call gl a true env) fun v => M.bind (asD v) fun v => match v with
    | .int j => if rngOk j then M.pure (rangeI 0 j.toNat) else M.fail
    | _ => M.fail := rfl
theorem evR_rng2 {a e b} : evR call gl (Sr.rng2 a e) b = fun env => M.bind (ev call gl a true env) fun v => M.bind (asD v) fun v => M.bind (ev call gl e true env) fun u => M.bind (asD u) fun u => match v, u with
    | .int i, .int j => if rngOk i && rngOk j then M.pure (rangeI i (j - i).toNat) else M.fail
    | _, _ => M.fail := rfl
theorem evR_chars {e b} : evR call gl (Sr.chars e) b = fun env => M.bind (ev call gl e true env) fun v => M.bind (asD v) fun v => match v with
    | .str s => M.pure (s.map fun c => .str [c])
    | _ => M.fail := rfl
theorem evR_enum {e b} : evR call gl (Sr.enum e) b = fun env => M.bind (ev call gl e b env) fun v => M.bind (asD v) fun v => M.bind (M.opt v.items) fun xs => M.pure (enumI 0 xs) := rfl
theorem evR_zip {a e b} : evR call gl (Sr.zip a e) b = fun env => M.bind (ev call gl a b env) fun v => M.bind (asD v) fun v => M.bind (ev call gl e b env) fun u => M.bind (asD u) fun u => match v, u with
    | .lst xs, .lst ys => M.pure (List.zipWith (fun x y => .tup [x, y]) xs ys)
    | _, _ => M.fail := rfl
end
end RX
end
section -- Rx7
namespace RX
open PySem PySem.Spec PyProof.Rows L2

/-- the names that must still be the built-in ones -/
def blts : List Str := ["len", "range", "isinstance", "int", "all", "any", "sorted", "set", "list", "tuple", "dict", "abs", "max", "min", "sum", "divmod", "repr", "enumerate", "zip", "str", "bool"]
def AftF (P : Par) (g : Gh) (H : Hp) (r : R Vl) (Q : VK) (E : XK) : Prop :=
  match r with
  | .ok x c' => ∀ g' H' v, Ext g H g' H' → CRel P g' c' H' → RV P g' v x → Q v H'
  | .exc k ds c' => ∀ g' H' C fs d, Ext g H g' H' → CRel P g' c' H' → P.cls k = some (C, fs) → ExcAt P g' H' fs ds d → E (.ref C) d H'
  | .stuck => False
/-- a def's promise -/
def spF (P : Par) (ps : List Str) (m : List Vl → M Vl) : Sp := fun vs H Q E => vs.length = ps.length ∧ ∃ g c xs, CRel P g c H ∧ RVs P g vs xs ∧ AftF P g H (m xs c) Q E
def lkR (K : PySem.W.Frag) (r : Option Value) : Option D → Prop
  | none => r = none
  | some dd => ∃ u v, r = some u ∧ RelV v u ∧ ∀ F, Rep K F v dd
def GtOk (X : Cx) (x : Str) (kvs : List (List Nat × D)) : Prop := ∃ d es n, X.mg x = some (.ref d) ∧ KDict X.K X.w d es n ∧ ∀ z : List Nat, ∃ r, PySem.W.nsIn X.K d ⟨z.toArray⟩ = some r ∧ lkR X.K r (lookT z kvs)
/-- the scope that runs, from the written one: a captured name may have become a cell -/
def ScR (A B : Scope) : Prop := ∀ x k, B.names.lookup x = some k → ∃ k', A.names.lookup x = some k' ∧ (k' = k ∨ (k = .free ∧ k' = .cell))
theorem ScR.refl {A : Scope} : ScR A A := fun _ k h => ⟨k, h, .inl rfl⟩
structure XOk (X : Cx) (P : Par) (W : WX) (nm : Nm) (n : Nat) (call : Nat → List Vl → M Vl) (gl : Nat → Option GV) (sc : Scope) (hot : Bool) : Prop where
  K : P.K = X.K
  N : X.N = nm.N
  nd : nm.N.Nodup
  scr : ScR X.env.scope sc
  fn : ∀ x, locB sc x = true → X.fn x = true ∨ X.env.scope.names.lookup x = some .local
  guards : X.A.guards = some []
  units : X.A.units + 80 < cLine
  calm : hot = false → X.calm = true
  room : hot = false → Room n X.A
  takes : Takes X W
  fns : hot = false → ∀ f x ps, nm.fn f = some (x, ps) → ∃ a fd, X.mg x = some (.ref a) ∧ PySem.W.keepIn X.K (.ref a) = true ∧ (∀ (s : Shared) (us : List Value), us.length = ps.length → BindsTo s fd ⟨us, []⟩ (ps.zip us)) ∧
    (∀ (s : Shared) (ks : List Str) (ws : List Value) (perm : List Nat) (vs : List Value), ks.Nodup → ws.length = ks.length → perm.length = ks.length → some ps = (perm.mapM fun i => ks[i]?) → (perm.mapM fun i => ws[i]?) = some vs → BindsTo s fd ⟨[], ks.zip ws⟩ (ps.zip vs)) ∧
    (∀ xs c, call f xs c ≠ .stuck → xs.length = ps.length) ∧ FnG X.prog X.w X.K X.mg X.base n a fd ps (spF P ps (call f))
  blt : ∀ x ∈ blts, X.mg x = none
  exa : hot = false → P.exa = none
  xnd : ∀ k C fs, P.cls k = some (C, fs) → fs.Nodup
  xfn : ∀ k C fs j f, P.cls k = some (C, fs) → nm.xf j = some f → j < fs.length → fs[j]? = some f
  xf : ∀ a cls d, P.exa = some (a, cls, d) → ∀ k C fs j f, P.cls k = some (C, fs) → nm.xf j = some f → ∀ {e : Expr} {te : TE} {pos : Pos}, PE X e te → attributeBase e f X.env (eval e X.env) = eval e X.env → PE X (.Attribute e f pos) (tXf a cls d C f te)
  gts : ∀ i x, nm.gt i = some x → ∃ kvs, gl i = some (.t kvs) ∧ GtOk X x kvs
  gls : ∀ i x d, nm.gl i = some x → gl i = some (.v d) → ∃ v u, X.mg x = some u ∧ RelV v u ∧ ∀ F, Rep X.K F v d
section
variable {X : Cx} {P : Par} {W : WX} {nm : Nm} {n : Nat} {call : Nat → List Vl → M Vl} {gl : Nat → Option GV} {sc : Scope} {hot : Bool}
theorem nm_debug {x : Str} (h : nmOk x = true) : (x == ("__debug__" : Str)) = false ∧ (x == ("__classdict__" : Str)) = false ∧ x ≠ "__name__" := by
  unfold nmOk at h
  simp only [Bool.and_eq_true, Bool.not_eq_true'] at h
  exact ⟨h.1.1, h.1.2, by simpa using h.2⟩
theorem vis_of (ok : XOk X P W nm n call gl sc hot) {x : Str} (h : visB sc x = true) : Vis X.env.scope x := by
  unfold visB at h
  unfold Vis
  split at h <;> first | (rename_i e; obtain ⟨k', e1, e2⟩ := ok.scr x _ e; rcases e2 with e2 | ⟨e2, e3⟩ <;> first | (cases e2; done) | (simp [e1, e2]; done) | (simp [e1, e3]; done)) | cases h
theorem gl_of (ok : XOk X P W nm n call gl sc hot) {x : Str} (h : glB sc x = true) : Gl X x ∧ (x == ("__debug__" : Str)) = false ∧ x ≠ "__name__" := by
  unfold glB at h
  rw [Bool.and_eq_true] at h
  obtain ⟨h1, h2⟩ := h
  have := nm_debug h2
  refine ⟨?_, this.1, this.2.2⟩
  unfold Gl
  show X.env.scope.names.lookup x = _
  split at h1
  · rename_i e
    obtain ⟨k', e1, e2⟩ := ok.scr x _ e
    rcases e2 with e2 | ⟨e2, _⟩
    · rw [e1, e2]
    · cases e2
  · cases h1
def isBO : Expr → Bool
  | .BoolOp _ _ _ => true
  | _ => false
/-- what is had of an expression -/
structure SE (X : Cx) (P : Par) (W : WX) (call : Nat → List Vl → M Vl) (gl : Nat → Option GV) (e : E) (x : Expr) : Prop where
  pe : PE X x (TM P W (ev call gl e false) (rV P))
  pb : PE X x (TM P W (ev call gl e true) (rB P))
  pn : isNew e = true → PE X x (TM P W (ev call gl e false) (rN P))
  pt : PT X x (TM P W (fun env => M.bind (ev call gl e true env) truM) rTru)
  pw : isBO x = true → PW X x (TM P W (fun env => M.bind (ev call gl e true env) truM) rTru)
def Plain (x : Expr) (env : PySem.Env) : Prop := ∀ whole, isTrue x env whole = (do let v ← whole; standAt x.pos; holding [v] (truthy v))
theorem truB {P : Par} {H0 H : Hp} {K : PySem.W.Frag} {g : Gh} {v : V} {d : D} {k : Bool} {X : Cx} (hK : P.K = X.K) (s : Sub g.F H) (r : rB P H0 g H v (.d d)) (e : d.truth = some k) : TruV X.K v H k := by
  have := r.rep
  rw [hK] at this
  exact truV s this e
/-- a test by truth -/
theorem pt_plain (hK : P.K = X.K) {x : Expr} {m : EnvD → M Vl} (h : PE X x (TM P W m (rB P))) (pl : Plain x X.env) : PT X x (TM P W (fun env => M.bind (m env) truM) rTru) := by
  refine (pt_truth h pl).imp fun σ H Q q => ?_
  have q1 := TM.d1 mono_rTru q
  obtain ⟨g, env, c, r, a⟩ := q1
  refine ⟨g, env, c, r, ?_⟩
  cases e : m env c with
  | ok y c' =>
    rw [e] at a
    intro g' H' v e1 r1 q1
    obtain ⟨g2, env2, c2, d, r2, b2, a2⟩ := a g' H' v e1 r1 q1
    obtain ⟨k, hk, hq⟩ := D.truth_of a2 r2
    exact ⟨k, truB (K := P.K) hK r2.sub b2 hk, hq⟩
  | exc k ds c' => rw [e] at a; exact a
  | stuck => rw [e] at a; exact a
/-- monotone readings -/
theorem TM.imp {α β : Type} {m : EnvD → M α} {RR : RRT β α} {σ : L2.St} {H : Hp} {Q Q' : β → Hp → Prop} (h : TM P W m RR σ H Q) (i : ∀ v H', Q v H' → Q' v H') : TM P W m RR σ H Q' := by
  obtain ⟨g, env, c, r, a⟩ := h
  refine ⟨g, env, c, r, ?_⟩
  cases e : m env c with
  | ok y c' => rw [e] at a; exact fun g' H' v e1 r1 q1 => i _ _ (a g' H' v e1 r1 q1)
  | exc k ds c' => rw [e] at a; exact a
  | stuck => rw [e] at a; exact a
theorem SE.all {e : E} {x : Expr} (hK : P.K = X.K) (h : ∀ (m : Bool) (RR : RRT V Vl), Good P RR → PE X x (TM P W (ev call gl e m) RR)) (pl : Plain x X.env) (nb : isBO x = false := by rfl) : SE X P W call gl e x :=
  ⟨h _ _ good_rV, h _ _ good_rB, fun _ => h _ _ good_rN, pt_plain hK (h _ _ good_rB) pl, fun q => by rw [nb] at q; cases q⟩
theorem SE.eb {e : E} {x : Expr} (hK : P.K = X.K) (hn : isNew e = false) (h1 : PE X x (TM P W (ev call gl e false) (rV P))) (h2 : PE X x (TM P W (ev call gl e true) (rB P))) (pl : Plain x X.env) (nb : isBO x = false := by rfl) : SE X P W call gl e x :=
  ⟨h1, h2, fun q => (by rw [hn] at q; cases q), pt_plain hK h2 pl, fun q => by rw [nb] at q; cases q⟩
theorem Aft.pureD {RR : RRT V Vl} (go : Good P RR) {g : Gh} {env : EnvD} {c : Cells} {σ : L2.St} {H : Hp} {z : D} {Q : VK} (h : Aft P W σ g env H (M.pure (Vl.d z) c) RR Q) (r : Rel P g env c σ H) (n : ∀ ds, z ≠ D.lst ds) {v : V} (hv : Rep P.K g.F v z) : Q v H :=
  h g H v .refl r (go.rep _ _ _ _ _ n hv)

theorem se_var (ok : XOk X P W nm n call gl sc hot) {i : Nat} {x : Str} {p : Pos} (h : mE nm sc hot (.var i) (.Name x p) = true) : SE X P W call gl (.var i) (.Name x p) := by
  simp only [mE, Bool.and_eq_true, decide_eq_true_eq] at h
  obtain ⟨⟨h1, h2⟩, h3⟩ := h
  have hd := nm_debug h3
  have pv := pe_var (X := X) (i := i) (x := x) (pos := p) (by rw [ok.N]; exact h1) (vis_of ok h2) hd.1 hd.2.1
  refine SE.eb ok.K rfl (pv.imp fun σ H Q q => ?_) (pv.imp fun σ H Q q => ?_) (fun _ => rfl)
  · obtain ⟨g, env, c, r, a⟩ := q
    have s := r.slot i
    rw [ev_var] at a
    dsimp only at a
    cases e : env.look i with
    | no => rw [e] at a; exact a.elim
    | v y =>
      rw [e] at a s
      obtain ⟨v, s1, s2⟩ := s
      exact ⟨v, s1, a g H v .refl r s2⟩
    | own xs => rw [e] at a; exact a.elim
    | exn k ds => rw [e] at a; exact a.elim
  · obtain ⟨g, env, c, r, a⟩ := q
    have s := r.slot i
    rw [ev_var] at a
    dsimp only at a
    cases e : env.look i with
    | no => rw [e] at a; exact a.elim
    | v y =>
      rw [e] at a s
      obtain ⟨v, s1, s2⟩ := s
      exact ⟨v, s1, a g H v .refl r (.inl s2)⟩
    | own xs =>
      rw [e] at a s
      obtain ⟨b, vs, s1, s2, s3, s4, s5⟩ := s
      exact ⟨_, s1, a g H _ .refl r (.inr ⟨b, vs, xs, rfl, rfl, s2, s3, s5⟩)⟩
    | exn k ds => rw [e] at a; exact a.elim
theorem se_cst (ok : XOk X P W nm n call gl sc hot) {c : D} {k : Const} {j : Nat} {p : Pos} (h : constB c k = true) : SE X P W call gl (.cst c) (.Constant k j p) := by
  refine SE.all ok.K (fun m RR go => ?_) (fun _ => rfl)
  have fin : ∀ {v : V}, (∀ ds, c ≠ D.lst ds) → (∀ F, Rep P.K F v c) → ∀ σ H Q, TM P W (ev call gl (.cst c) m) RR σ H Q → tC v σ H Q := fun n hr σ H Q q => by
    obtain ⟨g, env, cc, r, a⟩ := q
    rw [ev_cst] at a
    dsimp only at a
    exact Aft.pureD go a r n (hr g.F)
  cases c with
  | non =>
    cases k <;> first | cases h | skip
    exact pe_non.imp (fin (fun _ => by simp) fun _ => .non)
  | bl b =>
    cases k <;> first | cases h | skip
    rename_i b'
    have e : b = b' := by simpa [constB] using h
    subst e
    exact pe_bl.imp (fin (fun _ => by simp) fun _ => .bl b)
  | int i =>
    cases k <;> first | cases h | skip
    rename_i b'
    have e : i = b' := by simpa [constB] using h
    subst e
    exact pe_int.imp (fin (fun _ => by simp) fun _ => .int i)
  | str t =>
    cases k <;> first | cases h | skip
    rename_i b'
    have e : b' = ⟨t.toArray⟩ := by simpa [constB] using h
    subst e
    exact pe_str.imp (fin (fun _ => by simp) fun _ => .str t)
  | lst _ => cases h
  | tup _ => cases h
theorem se_glo (ok : XOk X P W nm n call gl sc hot) {i : Nat} {x : Str} {p : Pos} (h : mE nm sc hot (.glo i) (.Name x p) = true) : SE X P W call gl (.glo i) (.Name x p) := by
  simp only [mE, Bool.and_eq_true, decide_eq_true_eq] at h
  obtain ⟨h1, h2⟩ := h
  obtain ⟨gx, hd, _⟩ := gl_of ok h2
  cases e : gl i with
  | none =>
    have : ∀ m RR, PE X (.Name x p) (TM P W (ev call gl (.glo i) m) RR) := fun m RR => ⟨fun pins s σ H Q I q => by
      obtain ⟨g, env, c, r, a⟩ := q
      rw [ev_glo] at a
      dsimp only at a
      rw [e] at a
      exact a.elim⟩
    exact SE.all ok.K (fun m RR _ => this m RR) (fun _ => rfl)
  | some v =>
    cases v with
    | t kvs =>
      have : ∀ m RR, PE X (.Name x p) (TM P W (ev call gl (.glo i) m) RR) := fun m RR => ⟨fun pins s σ H Q I q => by
        obtain ⟨g, env, c, r, a⟩ := q
        rw [ev_glo] at a
        dsimp only at a
        rw [e] at a
        exact a.elim⟩
      exact SE.all ok.K (fun m RR _ => this m RR) (fun _ => rfl)
    | v d =>
      obtain ⟨v, u, h3, h4, h5⟩ := ok.gls i x d h1 e
      refine SE.eb ok.K rfl ((pe_glob gx h3 h4 hd).imp fun σ H Q q => ?_) ((pe_glob gx h3 h4 hd).imp fun σ H Q q => ?_) (fun _ => rfl)
      · obtain ⟨g, env, c, r, a⟩ := q
        rw [ev_glo] at a
        dsimp only at a
        rw [e] at a
        exact a g H v .refl r (by show Rep P.K g.F v d; rw [ok.K]; exact h5 g.F)
      · obtain ⟨g, env, c, r, a⟩ := q
        rw [ev_glo] at a
        dsimp only at a
        rw [e] at a
        exact a g H v .refl r (.inl (by show Rep P.K g.F v d; rw [ok.K]; exact h5 g.F))
theorem se_bin (ok : XOk X P W nm n call gl sc hot) {o : Bop} {a b : E} {x y : Expr} {p : Pos} (ha : SE X P W call gl a x) (hb : SE X P W call gl b y) : SE X P W call gl (.bin o a b) (.BinOp x o.py y p) := by
  refine SE.all ok.K (fun m RR go => ?_) (fun _ => rfl)
  refine (pe_op (bop_all o) ha.pb hb.pb).imp fun σ H Q q => ?_
  rw [ev_bin] at q
  refine (TM.d2 go.mono q).imp fun v H1 q1 => q1.imp fun u H2 q2 => ?_
  obtain ⟨g, env, c, d, e, r, b1, b2, af⟩ := q2
  obtain ⟨z, hz, af⟩ := af.opt
  have f := fin_of go r af
  rw [ok.K] at f
  exact ⟨g.F, d, e, z, r.sub, by rw [← ok.K]; exact b1.rep, by rw [← ok.K]; exact b2.rep, hz, f⟩
theorem se_neg (ok : XOk X P W nm n call gl sc hot) {a : E} {x : Expr} {p : Pos} (ha : SE X P W call gl a x) : SE X P W call gl (.neg a) (.UnaryOp .USub x p) := by
  refine SE.all ok.K (fun m RR go => ?_) (fun _ => rfl)
  refine (pe_un un_neg ha.pb).imp fun σ H Q q => ?_
  rw [ev_neg] at q
  refine (TM.d1 go.mono q).imp fun v H1 q1 => ?_
  obtain ⟨g, env, c, d, r, b1, af⟩ := q1
  cases d <;> first | exact af.elim | skip
  rename_i i
  rw [b1.rep.ofInt]
  exact ⟨i, rfl, Aft.pureD go af r (fun _ => by simp) (.int _)⟩
theorem se_cmp (ok : XOk X P W nm n call gl sc hot) {o : Cop} {a b : E} {x y : Expr} {p : Pos} (ha : SE X P W call gl a x) (hb : SE X P W call gl b y) (hs : notSet y = true) : SE X P W call gl (.cmp o a b) (.Compare x [o.py] [y] p) := by
  have hm : behindInMarks o.py y = false := by cases y <;> first | rfl | cases hs
  have key : ∀ {RR : RRT V Vl} {m : Bool} {σ : L2.St} {H : Hp} {Q : VK}, Good P RR → TM P W (ev call gl (.cmp o a b) m) RR σ H Q → tOp (rCop X.K o) (TM P W (ev call gl a true) (rB P)) (TM P W (ev call gl b true) (rB P)) σ H Q := fun {RR m σ H Q} go q => by
    rw [ev_cmp] at q
    refine (TM.d2 go.mono q).imp fun v H1 q1 => q1.imp fun u H2 q2 => ?_
    obtain ⟨g, env, c, d, e, r, b1, b2, af⟩ := q2
    obtain ⟨z, hz, af⟩ := af.opt
    exact ⟨g.F, d, e, z, r.sub, by rw [← ok.K]; exact b1.rep, by rw [← ok.K]; exact b2.rep, hz, fun v hv => Aft.pureD go af r (fun _ => by simp) (by rw [ok.K]; exact hv)⟩
  have pe := pe_cmpR (pos := p) (cop_all (by have := ok.units; omega) o) ha.pb hb.pb hm
  have pt := pt_cmpR (pos := p) (cop_all (by have := ok.units; omega) o) ha.pb hb.pb hm
  refine ⟨pe.imp fun σ H Q q => key good_rV q, pe.imp fun σ H Q q => key good_rB q, fun _ => pe.imp fun σ H Q q => key good_rN q, pt.imp fun σ H Q q => ?_, fun q => by cases q⟩
  have q' : TM P W (fun env => M.bind (ev call gl a true env) fun v => M.bind (asD v) fun v => M.bind (ev call gl b true env) fun u => M.bind (asD u) fun u => M.bind (M.bind (M.opt (o.run v u)) fun z => M.pure (.d (.bl z))) truM) rTru σ H Q := by
    obtain ⟨g, env, c, r, af⟩ := q
    refine ⟨g, env, c, r, ?_⟩
    rw [ev_cmp] at af
    simp only [M.bind] at af ⊢
    cases e1 : ev call gl a true env c with
    | ok v c1 =>
      rw [e1] at af
      cases v with
      | c i => exact af
      | d v =>
        simp only [asD, M.pure] at af ⊢
        cases e2 : ev call gl b true env c1 with
        | ok u c2 => rw [e2] at af; cases u <;> exact af
        | exc k ds c2 => rw [e2] at af; exact af
        | stuck => rw [e2] at af; exact af
    | exc k ds c1 => rw [e1] at af; exact af
    | stuck => rw [e1] at af; exact af
  show TM P W (ev call gl a true) (rB P) σ H _
  refine (TM.d2 mono_rTru q').imp fun v H1 q1 => q1.imp fun u H2 q2 => ?_
  obtain ⟨g, env, c, d, e, r, b1, b2, af⟩ := q2
  cases e3 : o.run d e with
  | none => rw [e3] at af; exact af.elim
  | some k =>
    rw [e3] at af
    refine ⟨g.F, d, e, k, r.sub, by rw [← ok.K]; exact b1.rep, by rw [← ok.K]; exact b2.rep, e3, fun v hv => ?_⟩
    exact ⟨k, hv.ofBl, af g H2 k .refl r rfl⟩
end
end RX
end
section -- Rx8
namespace RX
open PySem PySem.Spec PyProof.Rows L2
theorem M.assoc {α β γ : Type} (m : M α) (f : α → M β) (k : β → M γ) : M.bind (M.bind m f) k = M.bind m fun a => M.bind (f a) k := by
  funext c
  unfold M.bind
  cases m c <;> rfl
theorem M.pureB {α β : Type} (a : α) (f : α → M β) : M.bind (M.pure a) f = f a := rfl
section
variable {X : Cx} {P : Par} {W : WX} {nm : Nm} {n : Nat} {call : Nat → List Vl → M Vl} {gl : Nat → Option GV} {sc : Scope} {hot : Bool}
variable {γ δ : Type} {RR : RRT δ γ} {σ : L2.St} {H : Hp}
/-- a value and its truth -/
theorem TM.tru (mo : Mono RR) {m : EnvD → M Vl} {RR1 : RRT V Vl} {k : EnvD → Vl → Bool → M γ} {Q : δ → Hp → Prop} (h : TM P W (fun env => M.bind (m env) fun v => M.bind (truM v) (k env v)) RR σ H Q) :
    TM P W m RR1 σ H fun v H1 => ∃ g env c d kk, Rel P g env c σ H1 ∧ RR1 H g H1 v (.d d) ∧ d.truth = some kk ∧ Aft P W σ g env H1 (k env (.d d) kk c) RR Q := by
  refine (TM.bind2 (RR1 := RR1) mo h).imp fun v H1 q => ?_
  obtain ⟨g, env, c, a, r, b, af⟩ := q
  cases a with
  | c i => exact af.elim
  | d d =>
    unfold truM at af
    rw [M.assoc] at af
    have af : Aft P W σ g env H1 (M.bind (M.opt d.truth) (k env (.d d)) c) RR Q := af
    obtain ⟨kk, e, af⟩ := af.opt
    exact ⟨g, env, c, d, kk, r, b, e, af⟩
theorem TM.mapT {m : EnvD → M Bool} {f : Bool → Bool} {Q : Bool → Hp → Prop} (h : TM P W (fun env => M.bind (m env) fun k => M.pure (f k)) rTru σ H Q) : TM P W m rTru σ H fun k H1 => Q (f k) H1 := by
  refine (TM.bind2 (RR1 := rTru) mono_rTru h).imp fun v H1 q => ?_
  obtain ⟨g, env, c, a, r, b, af⟩ := q
  cases b
  exact af g H1 _ .refl r rfl
theorem TM.congr {α β : Type} {m m' : EnvD → M α} {RR : RRT β α} {Q : β → Hp → Prop} (h : TM P W m RR σ H Q) (e : ∀ env, m env = m' env) : TM P W m' RR σ H Q := by
  have : m = m' := funext e
  rw [← this]
  exact h
theorem se_nt (ok : XOk X P W nm n call gl sc hot) {a : E} {x : Expr} {p : Pos} (ha : SE X P W call gl a x) : SE X P W call gl (.nt a) (.UnaryOp .Not x p) := by
  have key : ∀ {RR : RRT V Vl} {m : Bool}, Good P RR → PE X (.UnaryOp .Not x p) (TM P W (ev call gl (.nt a) m) RR) := fun {RR m} go => by
    refine (pe_notT ha.pb).imp fun σ H Q q => ?_
    rw [ev_nt] at q
    refine (TM.tru go.mono q).imp fun v H1 q1 => ?_
    obtain ⟨g, env, c, d, kk, r, b, e, af⟩ := q1
    exact ⟨kk, truB (K := P.K) ok.K r.sub b e, Aft.pureD go af r (fun _ => by simp) (.bl _)⟩
  refine ⟨key good_rV, key good_rB, fun _ => key good_rN, (pt_not ha.pt).imp fun σ H Q q => ?_, fun q => by cases q⟩
  refine TM.mapT (f := fun k => !k) (TM.congr q fun env => ?_)
  rw [ev_nt]
  simp only [M.assoc]
  rfl
/-- rV with looking off, rB with looking on -/
inductive Md (P : Par) : Bool → RRT V Vl → Prop
  | e : Md P false (rV P)
  | b : Md P true (rB P)
theorem Md.good {m : Bool} {RR : RRT V Vl} (h : Md P m RR) : Good P RR := by
  cases h
  · exact good_rV
  · exact good_rB
theorem Md.toB {m : Bool} {RR : RRT V Vl} (h : Md P m RR) {H0 H : Hp} {g : Gh} {v : V} {x : Vl} (q : RR H0 g H v x) : rB P H0 g H v x := by
  cases h
  · exact .inl q
  · exact q
theorem SE.md {e : E} {x : Expr} (h : SE X P W call gl e x) {m : Bool} {RR : RRT V Vl} (md : Md P m RR) : PE X x (TM P W (ev call gl e m) RR) := by
  cases md
  · exact h.pe
  · exact h.pb
theorem md_keep {m : Bool} {RR : RRT V Vl} (md : Md P m RR) {H0 H : Hp} {g : Gh} {env : EnvD} {c : Cells} {v : V} {x : Vl} {Q : VK} (h : Aft P W σ g env H (M.pure x c) RR Q) (r : Rel P g env c σ H) (q : RR H0 g H v x) : Q v H := by
  refine h g H v .refl r ?_
  cases md
  · exact q
  · exact q
theorem se_and (ok : XOk X P W nm n call gl sc hot) {a b : E} {x y : Expr} {r : List Expr} {p : Pos} (ha : SE X P W call gl a x) (hb : ∀ {m : Bool} {RR : RRT V Vl}, Md P m RR → PE X (.BoolOp .And (y :: r) p) (TM P W (ev call gl b m) RR))
    (hw : PW X (.BoolOp .And (y :: r) p) (TM P W (fun env => M.bind (ev call gl b true env) truM) rTru)) : SE X P W call gl (.and a b) (.BoolOp .And (x :: y :: r) p) := by
  have key : ∀ {RR : RRT V Vl} {m : Bool}, Md P m RR → PE X (.BoolOp .And (x :: y :: r) p) (TM P W (ev call gl (.and a b) m) RR) := fun {RR m} md => by
    refine (pe_andT (ha.md md) (hb md)).imp fun σ H Q q => ?_
    rw [ev_and] at q
    refine (TM.tru md.good.mono q).imp fun v H1 q1 => ?_
    obtain ⟨g, env, c, d, kk, r, b, e, af⟩ := q1
    refine ⟨kk, truB (K := P.K) ok.K r.sub (md.toB b) e, ?_⟩
    cases kk with
    | true => exact ⟨g, env, c, r, af⟩
    | false => exact md_keep md af r b
  have pw : PW X (.BoolOp .And (x :: y :: r) p) (TM P W (fun env => M.bind (ev call gl (.and a b) true env) truM) rTru) := by
    refine (pw_and ha.pt hw).imp fun σ H Q q => ?_
    have q' : TM P W (fun env => M.bind (M.bind (ev call gl a true env) truM) fun k => if k then M.bind (ev call gl b true env) truM else M.pure false) rTru σ H Q := by
      obtain ⟨g, env, c, r, af⟩ := q
      refine ⟨g, env, c, r, ?_⟩
      rw [ev_and] at af
      simp only [M.assoc] at af ⊢
      unfold M.bind at af ⊢
      cases e1 : ev call gl a true env c with
      | ok v c1 =>
        rw [e1] at af
        dsimp only at af ⊢
        cases v with
        | c i => exact af
        | d v =>
          cases e2 : v.truth with
          | none => simp only [truM, asD, M.bind, M.pure, M.opt, e2, M.fail] at af ⊢; exact af
          | some k =>
            simp only [truM, asD, M.bind, M.pure, M.opt, e2] at af ⊢
            cases k with
            | true => exact af
            | false => 
              simp only [Bool.false_eq_true, if_false, M.pure, M.opt, e2] at af ⊢
              exact af
      | exc k ds c1 => rw [e1] at af; exact af
      | stuck => rw [e1] at af; exact af
    refine (TM.bind2 (RR1 := rTru) mono_rTru q').imp fun k H1 q1 => ?_
    obtain ⟨g, env, c, a', r, b', af⟩ := q1
    cases b'
    cases k with
    | true => exact ⟨g, env, c, r, af⟩
    | false => exact af g H1 _ .refl r rfl
  exact ⟨key .e, key .b, (fun q => by cases q), pw.pt, fun _ => pw⟩
theorem se_or (ok : XOk X P W nm n call gl sc hot) {a b : E} {x y : Expr} {r : List Expr} {p : Pos} (ha : SE X P W call gl a x) (hb : ∀ {m : Bool} {RR : RRT V Vl}, Md P m RR → PE X (.BoolOp .Or (y :: r) p) (TM P W (ev call gl b m) RR))
    (hw : PW X (.BoolOp .Or (y :: r) p) (TM P W (fun env => M.bind (ev call gl b true env) truM) rTru)) : SE X P W call gl (.or a b) (.BoolOp .Or (x :: y :: r) p) := by
  have key : ∀ {RR : RRT V Vl} {m : Bool}, Md P m RR → PE X (.BoolOp .Or (x :: y :: r) p) (TM P W (ev call gl (.or a b) m) RR) := fun {RR m} md => by
    refine (pe_orT (ha.md md) (hb md)).imp fun σ H Q q => ?_
    rw [ev_or] at q
    refine (TM.tru md.good.mono q).imp fun v H1 q1 => ?_
    obtain ⟨g, env, c, d, kk, r, b, e, af⟩ := q1
    refine ⟨kk, truB (K := P.K) ok.K r.sub (md.toB b) e, ?_⟩
    cases kk with
    | false => exact ⟨g, env, c, r, af⟩
    | true => exact md_keep md af r b
  have pw : PW X (.BoolOp .Or (x :: y :: r) p) (TM P W (fun env => M.bind (ev call gl (.or a b) true env) truM) rTru) := by
    refine (pw_or ha.pt hw).imp fun σ H Q q => ?_
    have q' : TM P W (fun env => M.bind (M.bind (ev call gl a true env) truM) fun k => if k then M.pure true else M.bind (ev call gl b true env) truM) rTru σ H Q := by
      obtain ⟨g, env, c, r, af⟩ := q
      refine ⟨g, env, c, r, ?_⟩
      rw [ev_or] at af
      simp only [M.assoc] at af ⊢
      unfold M.bind at af ⊢
      cases e1 : ev call gl a true env c with
      | ok v c1 =>
        rw [e1] at af
        dsimp only at af ⊢
        cases v with
        | c i => exact af
        | d v =>
          cases e2 : v.truth with
          | none => simp only [truM, asD, M.bind, M.pure, M.opt, e2, M.fail] at af ⊢; exact af
          | some k =>
            simp only [truM, asD, M.bind, M.pure, M.opt, e2] at af ⊢
            cases k with
            | false => exact af
            | true => 
              simp only [if_true, M.pure, M.opt, e2] at af ⊢
              exact af
      | exc k ds c1 => rw [e1] at af; exact af
      | stuck => rw [e1] at af; exact af
    refine (TM.bind2 (RR1 := rTru) mono_rTru q').imp fun k H1 q1 => ?_
    obtain ⟨g, env, c, a', r, b', af⟩ := q1
    cases b'
    cases k with
    | false => exact ⟨g, env, c, r, af⟩
    | true => exact af g H1 _ .refl r rfl
  exact ⟨key .e, key .b, (fun q => by cases q), pw.pt, fun _ => pw⟩
/-- one alone at the end -/
theorem se_bo1 {op : BoolOp} {b : E} {y : Expr} {p : Pos} (hb : SE X P W call gl b y) {m : Bool} {RR : RRT V Vl} (md : Md P m RR) : PE X (.BoolOp op [y] p) (TM P W (ev call gl b m) RR) := pe_one (hb.md md)
/-- a if t else b, as a test -/
theorem pt_ifExp {c a b : Expr} {tc ta tb : TT} {pos : Pos} (hc : PT X c tc) (ha : PT X a ta) (hb : PT X b tb) : PT X (.IfExp c a b pos) (fun σ H Q => tc σ H fun k H1 => if k = true then ta σ H1 Q else tb σ H1 Q) := by
  refine ⟨fun pins s σ H Q I h => ?_⟩
  refine isTrue_IfExp (thn (hc.run pins s σ H _ I h) fun d s1 ⟨H1, I1, q1⟩ => ?_)
  cases d with
  | true => exact ha.run pins s1 σ H1 Q I1 q1
  | false => exact hb.run pins s1 σ H1 Q I1 q1
theorem se_ife (ok : XOk X P W nm n call gl sc hot) {c a b : E} {z x y : Expr} {p : Pos} (hc : SE X P W call gl c z) (ha : SE X P W call gl a x) (hb : SE X P W call gl b y) : SE X P W call gl (.ife c a b) (.IfExp z x y p) := by
  have split : ∀ {γ δ : Type} {RR : RRT δ γ} {f g : EnvD → M γ} {σ : L2.St} {H : Hp} {Q : δ → Hp → Prop}, Mono RR → TM P W (fun env => M.bind (ev call gl c true env) fun v => M.bind (truM v) fun k => if k then f env else g env) RR σ H Q →
      TM P W (fun env => M.bind (ev call gl c true env) truM) rTru σ H fun k H1 => if k = true then TM P W f RR σ H1 Q else TM P W g RR σ H1 Q := fun {γ δ RR f g' σ H Q} mo q => by
    have q' : TM P W (fun env => M.bind (M.bind (ev call gl c true env) truM) fun k => if k then f env else g' env) RR σ H Q := TM.congr q fun env => by rw [M.assoc]
    refine (TM.bind2 (RR1 := rTru) mo q').imp fun k H1 q1 => ?_
    obtain ⟨g, env, c, a', r, b', af⟩ := q1
    cases b'
    cases k with
    | true => exact ⟨g, env, c, r, af⟩
    | false => exact ⟨g, env, c, r, af⟩
  refine ⟨(pe_ifExp hc.pt ha.pe hb.pe).imp fun σ H Q q => ?_, (pe_ifExp hc.pt ha.pb hb.pb).imp fun σ H Q q => ?_, (fun q => by cases q), (pt_ifExp hc.pt ha.pt hb.pt).imp fun σ H Q q => ?_, fun q => by cases q⟩
  · rw [ev_ife] at q
    exact split good_rV.mono q
  · rw [ev_ife] at q
    exact split good_rB.mono q
  · refine split mono_rTru (TM.congr q fun env => ?_)
    rw [ev_ife]
    simp only [M.assoc]
    congr 1
    funext v
    congr 1
    funext k
    cases k <;> rfl
end
end RX
end
section -- Rx9
namespace RX
open PySem PySem.Spec PyProof.Rows L2
section
variable {X : Cx} {P : Par} {W : WX} {nm : Nm} {n : Nat} {call : Nat → List Vl → M Vl} {gl : Nat → Option GV} {sc : Scope} {hot : Bool}
section
variable {γ δ : Type} {RR : RRT δ γ} {σ : L2.St} {H : Hp} {g : Gh} {env : EnvD} {c : Cells}
theorem Aft.step {α β : Type} {RR1 : RRT β α} (mo : Mono RR) {m : EnvD → M α} {k : α → M γ} {Q : δ → Hp → Prop} (h : Aft P W σ g env H (M.bind (m env) k c) RR Q) (r : Rel P g env c σ H) :
    TM P W m RR1 σ H fun v H1 => ∃ g1 c1 a, Ext g H g1 H1 ∧ Rel P g1 env c1 σ H1 ∧ RR1 H g1 H1 v a ∧ Aft P W σ g1 env H1 (k a c1) RR Q := ⟨g, env, c, r, h.bind mo⟩
theorem Aft.stepD (mo : Mono RR) {m : EnvD → M Vl} {k : D → M γ} {Q : δ → Hp → Prop} (h : Aft P W σ g env H (M.bind (m env) (fun v => M.bind (asD v) k) c) RR Q) (r : Rel P g env c σ H) :
    TM P W m (rB P) σ H fun v H1 => ∃ g1 c1 d, Ext g H g1 H1 ∧ Rel P g1 env c1 σ H1 ∧ rB P H g1 H1 v (.d d) ∧ Aft P W σ g1 env H1 (k d c1) RR Q := ⟨g, env, c, r, h.bindD mo⟩
end
theorem se_chn (ok : XOk X P W nm n call gl sc hot) {o o' : Cop} {a b c : E} {x y z : Expr} {p : Pos} (ha : SE X P W call gl a x) (hb : SE X P W call gl b y) (hc : SE X P W call gl c z) (hs : notSet z = true) : SE X P W call gl (.chn o o' a b c) (.Compare x [o.py, o'.py] [y, z] p) := by
  have hm : lastMarks [o.py, o'.py] [y, z] = false := by
    show behindInMarks o'.py z = false
    cases z <;> first | rfl | cases hs
  have hu : X.A.units + 66 < cLine := by have := ok.units; omega
  have core : ∀ {γ δ : Type} {RR : RRT δ γ} {f : Bool → M γ} {σ : L2.St} {H : Hp} {Q : VK} {Q' : δ → Hp → Prop}, Mono RR → (∀ g env c H k v, Rel P g env c σ H → Aft P W σ g env H (f k c) RR Q' → Rep P.K g.F v (.bl k) → Q v H) →
      TM P W (fun env => M.bind (ev call gl a true env) fun v => M.bind (asD v) fun v => M.bind (ev call gl b true env) fun u => M.bind (asD u) fun u => M.bind (M.opt (o.run v u)) fun k =>
        if k then M.bind (ev call gl c true env) fun w => M.bind (asD w) fun w => M.bind (M.opt (o'.run u w)) f else f false) RR σ H Q' →
      tChain (rCop X.K o) (rCop X.K o') (TM P W (ev call gl a true) (rB P)) (TM P W (ev call gl b true) (rB P)) (TM P W (ev call gl c true) (rB P)) σ H Q := fun {γ δ RR f σ H Q Q'} mo fin q => by
    obtain ⟨g0, env, c0, r0, af⟩ := q
    refine (af.stepD (m := ev call gl a true) mo r0).imp fun v H1 ⟨g1, c1, d, e1, r1, b1, af⟩ => ?_
    refine (af.stepD (m := ev call gl b true) mo r1).imp fun u H2 ⟨g2, c2, e, e2, r2, b2, af⟩ => ?_
    obtain ⟨k, hk, af⟩ := af.opt
    refine ⟨g2.F, d, e, k, r2.sub, by rw [← ok.K]; exact (b1.ext (H1 := H) e2).rep, by rw [← ok.K]; exact b2.rep, hk, fun v hv => ⟨k, hv.ofBl, ?_⟩⟩
    cases k with
    | false => exact fin g2 env c2 H2 false _ r2 af (.bl _)
    | true =>
      refine (Aft.stepD (m := ev call gl c true) mo af r2).imp fun w H3 ⟨g3, c3, h, e3, r3, b3, af⟩ => ?_
      obtain ⟨k, hk, af⟩ := af.opt
      exact ⟨g3.F, e, h, k, r3.sub, by rw [← ok.K]; exact (b2.ext (H1 := H) e3).rep, by rw [← ok.K]; exact b3.rep, hk, fun v hv => fin g3 env c3 H3 k _ r3 af (by rw [ok.K]; exact hv)⟩
  have pe := pe_chain (pos := p) (cop_all hu o) (cop_all hu o') ha.pb hb.pb hc.pb hm
  have pt := pt_chain (pos := p) (cop_all hu o) (cop_all hu o') ha.pb hb.pb hc.pb hm
  have key : ∀ {RR : RRT V Vl} {m : Bool}, Good P RR → PE X (.Compare x [o.py, o'.py] [y, z] p) (TM P W (ev call gl (.chn o o' a b c) m) RR) := fun {RR m} go => by
    refine pe.imp fun σ H Q q => core (f := fun k => M.pure (.d (.bl k))) go.mono (fun g env c H k v r af hv => Aft.pureD go af r (fun _ => by simp) hv) (TM.congr q fun env => ?_)
    rw [ev_chn]
  refine ⟨key good_rV, key good_rB, fun _ => key good_rN, pt.imp fun σ H Q q => ?_, fun q => by cases q⟩
  refine core (f := fun k => M.pure k) mono_rTru (fun g env c H k v r af hv => ⟨k, hv.ofBl, af g H k .refl r rfl⟩) (TM.congr q fun env => ?_)
  rw [ev_chn]
  funext cc
  simp only [M.bind]
  cases ev call gl a true env cc with
  | ok v c1 =>
    cases v with
    | c i => rfl
    | d v =>
      simp only [asD, M.pure]
      cases ev call gl b true env c1 with
      | ok u c2 =>
        cases u with
        | c i => rfl
        | d u =>
          simp only [asD, M.pure]
          cases o.run v u with
          | none => rfl
          | some k =>
            cases k with
            | false => rfl
            | true =>
              simp only [M.opt, M.pure, if_true, M.bind]
              cases ev call gl c true env c2 with
              | ok w c3 =>
                cases w with
                | c i => rfl
                | d w =>
                  simp only [asD, M.pure]
                  cases o'.run u w <;> rfl
              | exc _ _ _ => rfl
              | stuck => rfl
      | exc _ _ _ => rfl
      | stuck => rfl
  | exc _ _ _ => rfl
  | stuck => rfl
theorem pas_nil : PA X [] (TM P W (evs call gl .nil) (rVs P)) := pa_nil.imp fun σ H Q q => by
  obtain ⟨g, env, c, r, af⟩ := q
  exact af g H [] .refl r .nil
theorem pas_cons {e : E} {es : Es} {x : Expr} {xs : List Expr} (he : SE X P W call gl e x) (hs : PA X xs (TM P W (evs call gl es) (rVs P))) (st : PySem.W.isStarred x = false) : PA X (x :: xs) (TM P W (evs call gl (.cons e es)) (rVs P)) := by
  refine (pa_cons he.pe hs (starOk st)).imp fun σ H Q q => ?_
  obtain ⟨g0, env, c0, r0, af⟩ := q
  rw [evs_cons] at af
  refine (Aft.step (RR1 := rV P) (m := ev call gl e false) mono_rVs af r0).imp fun v H1 ⟨g1, c1, a, e1, r1, b1, af⟩ => ?_
  refine (Aft.step (RR1 := rVs P) (m := evs call gl es) mono_rVs af r1).imp fun vs H2 ⟨g2, c2, as, e2, r2, b2, af⟩ => ?_
  exact af g2 H2 _ .refl r2 (.cons (RV.mono e2.F e2.ca b1) b2)
theorem pab_nil : PA X [] (TM P W (evB call gl .nil) (rBs P)) := pa_nil.imp fun σ H Q q => by
  obtain ⟨g, env, c, r, af⟩ := q
  exact af g H [] .refl r .nil
theorem pab_cons {e : E} {es : Es} {x : Expr} {xs : List Expr} (he : SE X P W call gl e x) (hs : PA X xs (TM P W (evB call gl es) (rBs P))) (st : PySem.W.isStarred x = false) : PA X (x :: xs) (TM P W (evB call gl (.cons e es)) (rBs P)) := by
  refine (pa_cons he.pb hs (starOk st)).imp fun σ H Q q => ?_
  obtain ⟨g0, env, c0, r0, af⟩ := q
  rw [evB_cons] at af
  refine (Aft.stepD (m := ev call gl e true) mono_rBs af r0).imp fun v H1 ⟨g1, c1, a, e1, r1, b1, af⟩ => ?_
  refine (Aft.step (RR1 := rBs P) (m := evB call gl es) mono_rBs af r1).imp fun vs H2 ⟨g2, c2, as, e2, r2, b2, af⟩ => ?_
  exact af g2 H2 _ .refl r2 (.cons (b1.ext e2) b2)
theorem pks_nil : PK X [] (TM P W (evs call gl .nil) (rVs P)) := ⟨fun pos pins s σ H Q I q => by
  obtain ⟨g, env, c, r, af⟩ := q
  exact (pk_nil (X := X)).run pos pins s σ H Q I (af g H [] .refl r .nil)⟩
theorem pks_cons {e : E} {es : Es} {x : Expr} {k : Option Str} {kp : Pos} {xs : List Keyword} (he : SE X P W call gl e x) (hs : PK X xs (TM P W (evs call gl es) (rVs P))) : PK X (⟨k, x, kp⟩ :: xs) (TM P W (evs call gl (.cons e es)) (rVs P)) := ⟨fun pos pins s σ H Q I q => by
  refine (pk_cons he.pe hs).run pos pins s σ H Q I ?_
  obtain ⟨g0, env, c0, r0, af⟩ := q
  rw [evs_cons] at af
  refine (Aft.step (RR1 := rV P) (m := ev call gl e false) mono_rVs af r0).imp fun v H1 ⟨g1, c1, a, e1, r1, b1, af⟩ => ?_
  refine (Aft.step (RR1 := rVs P) (m := evs call gl es) mono_rVs af r1).imp fun vs H2 ⟨g2, c2, as, e2, r2, b2, af⟩ => ?_
  exact af g2 H2 _ .refl r2 (.cons (RV.mono e2.F e2.ca b1) b2)⟩
/-- a def's result, handed on -/
theorem aftF_of {σ : L2.St} {g : Gh} {env : EnvD} {c : Cells} {H : Hp} {r : R Vl} {m : Bool} {RR : RRT V Vl} (md : Md P m RR) {Q : VK} (h : Aft P W σ g env H r RR Q) (rel : Rel P g env c σ H) : AftF P g H r Q fun cls d H' => W cls d σ H' := by
  cases r with
  | ok x c' =>
    intro g' H' v e n q
    refine h g' H' v e (rel.ext e n) ?_
    cases md
    · exact q
    · exact .inl q
  | exc k ds c' => exact fun g' H' C fs d e n => h g' H' C fs d e (rel.ext e n)
  | stuck => exact h
theorem se_call (ok : XOk X P W nm n call gl sc hot) (hh : hot = false) {f : Nat} {as : Es} {x : Str} {ps : List Str} {e : Expr} {es : List Expr} {p q : Pos} (hf : nm.fn f = some (x, ps)) (hg : glB sc x = true) (hst : noStar (e :: es) = true) (ha : PA X (e :: es) (TM P W (evs call gl as) (rVs P))) :
    SE X P W call gl (.call f as) (.Call (.Name x q) (e :: es) [] p) := by
  obtain ⟨gx, hd, _⟩ := gl_of ok hg
  obtain ⟨a, fd, h1, h2, h3, _, h4, h5⟩ := ok.fns hh f x ps hf
  have key : ∀ {m : Bool} {RR : RRT V Vl}, Md P m RR → PE X (.Call (.Name x q) (e :: es) [] p) (TM P W (ev call gl (.call f as) m) RR) := fun {m RR} md => by
    refine (pe_callG h5 ok.guards (ok.room hh) ok.takes gx h1 h2 h3 ha hst hd).imp fun σ H Q q => ?_
    obtain ⟨g0, env, c0, r0, af⟩ := q
    rw [ev_call] at af
    refine (Aft.step (RR1 := rVs P) (m := evs call gl as) md.good.mono af r0).imp fun vs H1 ⟨g1, c1, xs, e1, r1, b1, af⟩ => ?_
    have b1 : RVs P g1 vs xs := b1
    refine ⟨?_, g1, c1, xs, r1.toCRel, b1, aftF_of md af r1⟩
    rw [id, b1.length]
    exact h4 xs c1 fun e => by rw [e] at af; exact af
  exact SE.eb ok.K rfl (key .e) (key .b) (fun _ => rfl)
theorem vals_perm {zs : List V} {ws : List Value} (h : Vals zs ws) : ∀ {perm : List Nat} {vs : List V}, (perm.mapM fun i => zs[i]?) = some vs → ∃ us, (perm.mapM fun i => ws[i]?) = some us ∧ Vals vs us
  | [], vs, e => by
    cases e
    exact ⟨[], rfl, .nil⟩
  | i :: perm, vs, e => by
    rw [List.mapM_cons] at e
    obtain ⟨v, e1, e⟩ := Option.bind_eq_some_iff.mp e
    obtain ⟨r, e2, e⟩ := Option.bind_eq_some_iff.mp e
    cases e
    obtain ⟨u, h1, h2⟩ := h.get e1
    obtain ⟨us, h3, h4⟩ := vals_perm h e2
    exact ⟨u :: us, by rw [List.mapM_cons, h1, h3]; rfl, .cons h2 h4⟩
theorem rvs_perm {g : Gh} {zs : List V} {xs : List Vl} (h : RVs P g zs xs) : ∀ {perm : List Nat} {ys : List Vl}, (perm.mapM fun i => xs[i]?) = some ys → ∃ vs, (perm.mapM fun i => zs[i]?) = some vs ∧ RVs P g vs ys
  | [], ys, e => by
    cases e
    exact ⟨[], rfl, .nil⟩
  | i :: perm, ys, e => by
    rw [List.mapM_cons] at e
    obtain ⟨x, e1, e⟩ := Option.bind_eq_some_iff.mp e
    obtain ⟨r, e2, e⟩ := Option.bind_eq_some_iff.mp e
    cases e
    have get : ∀ {zs : List V} {xs : List Vl} {i : Nat} {x : Vl}, RVs P g zs xs → xs[i]? = some x → ∃ v, zs[i]? = some v ∧ RV P g v x := by
      intro zs xs i x h
      induction h generalizing i with
      | nil => intro e; simp at e
      | cons h1 _ ih =>
        intro e
        cases i with
        | zero => simp at e; subst e; exact ⟨_, rfl, h1⟩
        | succ i =>
          obtain ⟨v, e1, e2⟩ := ih (by simpa using e)
          exact ⟨v, by simpa using e1, e2⟩
    obtain ⟨v, h1, h2⟩ := get h e1
    obtain ⟨vs, h3, h4⟩ := rvs_perm h e2
    exact ⟨v :: vs, by rw [List.mapM_cons, h1, h3]; rfl, .cons h2 h4⟩
theorem perm_some {α β : Type} {ns : List α} {zs : List β} : ∀ {perm : List Nat} {ps : List α}, (perm.mapM fun i => ns[i]?) = some ps → zs.length = ns.length → ∃ vs, (perm.mapM fun i => zs[i]?) = some vs
  | [], ps, e, l => ⟨[], rfl⟩
  | i :: perm, ps, e, l => by
    rw [List.mapM_cons] at e
    obtain ⟨v, e1, e⟩ := Option.bind_eq_some_iff.mp e
    obtain ⟨r, e2, e⟩ := Option.bind_eq_some_iff.mp e
    obtain ⟨vs, h⟩ := perm_some (zs := zs) e2 l
    have hi : i < zs.length := by rw [l]; exact (List.getElem?_eq_some_iff.mp e1).1
    exact ⟨zs[i] :: vs, by rw [List.mapM_cons, List.getElem?_eq_getElem hi, h]; rfl⟩
theorem se_callk (ok : XOk X P W nm n call gl sc hot) (hh : hot = false) {f : Nat} {perm : List Nat} {ks : Es} {x : Str} {ps : List Str} {kws : List Keyword} {p q : Pos} (hf : nm.fn f = some (x, ps)) (hg : glB sc x = true) (hall : kws.all (fun k => k.arg.isSome) = true)
    (hps : some ps = perm.mapM fun i => (kws.filterMap (·.arg))[i]?) (hnd : (kws.filterMap (·.arg)).Nodup) (hl : perm.length = kws.length) (ha : PK X kws (TM P W (evs call gl ks) (rVs P))) (hel : ∀ env c vs c', evs call gl ks env c = .ok vs c' → vs.length = kws.length) :
    SE X P W call gl (.callk f perm .nil ks) (.Call (.Name x q) [] kws p) := by
  obtain ⟨gx, hd, _⟩ := gl_of ok hg
  obtain ⟨a, fd, h1, h2, _, h3, h4, h5⟩ := ok.fns hh f x ps hf
  have lk : (kws.filterMap (·.arg)).length = kws.length := by
    clear hps hnd hl ha hel
    induction kws with
    | nil => rfl
    | cons k r ih =>
      rw [List.all_cons, Bool.and_eq_true] at hall
      obtain ⟨y, hy⟩ := Option.isSome_iff_exists.mp hall.1
      rw [List.filterMap_cons, hy]
      simp [ih hall.2]
  have key : ∀ {m : Bool} {RR : RRT V Vl}, Md P m RR → PE X (.Call (.Name x q) [] kws p) (TM P W (ev call gl (.callk f perm .nil ks) m) RR) := fun {m RR} md => by
    refine (pe_callGK (gV := fun zs => (perm.mapM fun i => zs[i]?).getD []) (g := fun ws => (perm.mapM fun i => ws[i]?).getD []) h5 ok.guards (ok.room hh) ok.takes gx h1 h2 (fun s ws l => ?_) (fun zs ws l v => ?_) ha hall rfl (fun σ H Q q => ?_) hd).imp ?_
    · obtain ⟨vs, hv⟩ := perm_some (zs := ws) hps.symm l
      have := h3 s (kws.filterMap (·.arg)) ws perm vs hnd l (by rw [lk]; exact hl) hps hv
      simpa only [hv, Option.getD_some] using this
    · obtain ⟨vs, hv⟩ := perm_some (zs := zs) hps.symm l
      obtain ⟨us, hu, r⟩ := vals_perm v hv
      simpa only [hv, hu, Option.getD_some] using r
    · obtain ⟨g, env, c, r, af⟩ := q
      refine ⟨g, env, c, r, ?_⟩
      cases e : evs call gl ks env c with
      | ok vs c' =>
        rw [e] at af
        intro g' H' zs e1 r1 q1
        have q2 : RVs P g' zs vs := q1
        exact ⟨by rw [q2.length, hel _ _ _ _ e, lk], af g' H' zs e1 r1 q1⟩
      | exc k ds c' => rw [e] at af; exact af
      | stuck => rw [e] at af; exact af
    · intro σ H Q q
      obtain ⟨g0, env, c0, r0, af⟩ := q
      rw [ev_callk] at af
      have af : Aft P W σ g0 env H (M.bind (evs call gl ks env) (fun us => M.bind (M.opt (perm.mapM fun i => us[i]?)) fun ws => call f ws) c0) RR Q := af
      refine (Aft.step (RR1 := rVs P) (m := evs call gl ks) md.good.mono af r0).imp fun vs H1 ⟨g1, c1, xs, e1, r1, b1, af⟩ => ?_
      have b1 : RVs P g1 vs xs := b1
      obtain ⟨ys, hy, af⟩ := af.opt
      obtain ⟨us, hu, b2⟩ := rvs_perm b1 hy
      show spF P ps (call f) ((perm.mapM fun i => vs[i]?).getD []) H1 Q _
      rw [hu]
      refine ⟨?_, g1, c1, ys, r1.toCRel, b2, aftF_of md af r1⟩
      rw [Option.getD_some, b2.length]
      exact h4 ys c1 fun e => by rw [e] at af; exact af
  exact SE.eb ok.K rfl (key .e) (key .b) (fun _ => rfl)
end
end RX
end
section -- Rx10
namespace RX
open PySem PySem.Spec PyProof.Rows L2
/-- what a built-in's name stands for -/
def biV : Bi → Value
  | .int1 => .type "int" | .list1 => .type "list" | .tuple1 => .type "tuple"
  | .len => .builtin "len" | .abs => .builtin "abs" | .max2 => .builtin "max" | .min2 => .builtin "min" | .maxl => .builtin "max" | .minl => .builtin "min" | .sum => .builtin "sum" | .all => .builtin "all" | .any => .builtin "any" | .repr => .builtin "repr"
  | .sorted => .builtin "sorted" | .sset => .builtin "sorted" | .divmod => .builtin "divmod" | .lset => .builtin "len"
section
variable {X : Cx} {P : Par} {W : WX} {nm : Nm} {n : Nat} {call : Nat → List Vl → M Vl} {gl : Nat → Option GV} {sc : Scope} {hot : Bool}
theorem bi_any_of {b : Bi} (hg : X.A.guards = some []) (hu : X.A.units + 80 < cLine) (hc : X.calm = true ∨ biHot b = true) (h1 : b ≠ .sset) (h2 : b ≠ .lset) : CallR X (biV b) (rBi X.K b) := by
  cases b with
  | len => exact bi_len
  | abs => exact bi_abs
  | max2 => exact bi_max2 (hc.resolve_right (by decide))
  | min2 => exact bi_min2 (hc.resolve_right (by decide))
  | maxl => exact bi_maxl (hc.resolve_right (by decide))
  | minl => exact bi_minl (hc.resolve_right (by decide))
  | sum => exact bi_sum (hc.resolve_right (by decide))
  | all => exact bi_all (hc.resolve_right (by decide))
  | any => exact bi_any (hc.resolve_right (by decide))
  | int1 => exact bi_int
  | repr => exact bi_repr hg (by omega)
  | list1 => exact bi_list
  | tuple1 => exact bi_tuple
  | sorted => exact bi_sorted
  | sset => exact absurd rfl h1
  | divmod => exact bi_divmod
  | lset => exact absurd rfl h2
theorem bi_blt (b : Bi) : (∃ id, biV b = .builtin id ∧ bootBuiltins (biName b) = some (.builtin id)) ∨ ∃ T, biV b = .type T ∧ bootBuiltins (biName b) = some (.type T) := by
  cases b <;> first | exact .inl ⟨_, rfl, by kernel_rfl⟩ | exact .inr ⟨_, rfl, by kernel_rfl⟩
theorem biName_mem (b : Bi) : biName b ∈ blts ∧ biName b ≠ "__name__" ∧ ((biName b == ("__debug__" : Str)) = false) := by
  cases b <;> decide
theorem se_bi (ok : XOk X P W nm n call gl sc hot) {b : Bi} {as : Es} {x : Str} {e : Expr} {es : List Expr} {p q : Pos} (hx : x = biName b) (hg : glB sc x = true) (hh : biHot b = true ∨ hot = false) (h1 : b ≠ .sset) (h2 : b ≠ .lset) (hst : noStar (e :: es) = true)
    (ha : PA X (e :: es) (TM P W (evB call gl as) (rBs P))) : SE X P W call gl (.bi b as) (.Call (.Name x q) (e :: es) [] p) := by
  obtain ⟨gx, hd, hnm⟩ := gl_of ok hg
  subst hx
  have hm := ok.blt _ (biName_mem b).1
  have cr : CallR X (biV b) (rBi X.K b) := bi_any_of ok.guards ok.units (hh.symm.imp (fun h => ok.calm h) id) h1 h2
  have hst' : PySem.W.isStarred e = false ∧ es.all (fun e => !PySem.W.isStarred e) = true := by
    unfold noStar at hst
    rw [List.all_cons, Bool.and_eq_true] at hst
    exact ⟨by simpa using hst.1, hst.2⟩
  have pe : PE X (.Call (.Name (biName b) q) (e :: es) [] p) (tCB (rBi X.K b) (TM P W (evB call gl as) (rBs P))) := by
    rcases bi_blt b with ⟨id, e1, e2⟩ | ⟨T, e1, e2⟩
    · rw [e1] at cr
      exact pe_callB cr gx hm e2 ha hnm hd (starOk hst'.1) (plainOk hst'.2)
    · rw [e1] at cr
      exact pe_callTy cr gx hm e2 ha hnm hd (starOk hst'.1) (plainOk hst'.2)
  refine SE.all ok.K (fun m RR go => pe.imp fun σ H Q q => ?_) (fun _ => rfl)
  obtain ⟨g0, env, c0, r0, af⟩ := q
  rw [ev_bi] at af
  refine (Aft.step (RR1 := rBs P) (m := evB call gl as) go.mono af r0).imp fun vs H1 ⟨g1, c1, ds, e1, r1, b1, af⟩ => ?_
  have b1 : RBs P g1 H1 vs ds := b1
  obtain ⟨z, hz, af⟩ := af.opt
  have f := fin_of go r1 af
  rw [ok.K] at f
  exact ⟨g1.F, ds, z, r1.sub, by rw [← ok.K]; exact b1.reps, hz, f⟩
def tyV : Ty → Value
  | .int => .type "int" | .bool => .type "bool" | .str => .type "str" | .list => .type "list" | .tuple => .type "tuple"
def tyN : Ty → String
  | .int => "int" | .bool => "bool" | .str => "str" | .list => "list" | .tuple => "tuple"
def D.ty : D → Value
  | .non => .type "NoneType" | .bl _ => .type "bool" | .int _ => .type "int" | .str _ => .type "str" | .lst _ => .type "list" | .tup _ => .type "tuple"
theorem kit_one (K : PySem.W.Frag) (d : D) (t : Ty) : PySem.W.kitOne K d.ty (.type (tyN t)) = some (d.isTy t) := by
  cases d <;> cases t <;> rfl
theorem kit_any (K : PySem.W.Frag) (d : D) : ∀ ts : List Ty, PySem.W.kitAny K d.ty (ts.map fun t => .type (tyN t)) = some (ts.any d.isTy)
  | [] => rfl
  | t :: ts => by
    rw [List.map_cons, List.any_cons]
    unfold PySem.W.kitAny
    rw [kit_one]
    cases d.isTy t with
    | true => rfl
    | false => exact kit_any K d ts
theorem rep_ty {K : PySem.W.Frag} {F H : Hp} {v : V} {d : D} (s : Sub F H) (h : RepB K F H v d) : TyX K H v d.ty := by
  cases h with
  | own h _ => exact .base (.lst h)
  | rep h =>
    cases h with
    | non => exact .base .non
    | bl b => exact .base (.bl b)
    | int i => exact .base (.int i)
    | str t => exact .base (.str _)
    | lst r _ =>
      rcases r with r | ⟨o, r⟩
      · exact .base (.lst (s _ _ r))
      · exact .base (.frz (s _ _ r))
    | tup r _ =>
      rcases r with r | ⟨o, its, n, e, c, _⟩
      · rcases r with r | ⟨o, r⟩
        · exact .base (.tup (s _ _ r))
        · exact .fTuple (s _ _ r)
      · exact .kTuple e c
theorem ty_blt (t : Ty) : bootBuiltins (tyName t) = some (.type (tyN t)) ∧ tyName t ∈ blts ∧ tyName t ≠ "__name__" ∧ (tyName t == ("__debug__" : Str)) = false := by
  cases t <;> exact ⟨by kernel_rfl, by decide, by decide, by decide⟩
theorem pe_ty (ok : XOk X P W nm n call gl sc hot) {t : Ty} {x : Expr} (h : tyB sc t x = true) : PE X x (tC (.ty (tyN t))) := by
  unfold tyB at h
  split at h
  · rename_i y p
    rw [Bool.and_eq_true, decide_eq_true_eq] at h
    obtain ⟨h1, h2⟩ := h
    subst h1
    obtain ⟨gx, hd, hnm⟩ := gl_of ok h2
    exact pe_bltn gx (ok.blt _ (ty_blt t).2.1) (ty_blt t).1 rfl hnm hd
  · cases h
theorem pa_tys (ok : XOk X P W nm n call gl sc hot) : ∀ {ts : List Ty} {xs : List Expr}, tysB sc ts xs = true → PA X xs (fun σ H Q => Q (ts.map fun t => V.ty (tyN t)) H)
  | [], [], _ => pa_nil
  | t :: ts, x :: xs, h => by
    simp only [tysB, Bool.and_eq_true] at h
    have hx : PySem.W.isStarred x = false := by
      have h1 := h.1
      unfold tyB at h1
      cases x <;> first | rfl | cases h1
    exact (pa_cons (pe_ty ok h.1) (pa_tys ok h.2) (starOk hx)).imp fun σ H Q q => q
  | [], _ :: _, h => by cases h
  | _ :: _, [], h => by cases h
theorem isi_blt : bootBuiltins "isinstance" = some (.builtin "isinstance") := by kernel_rfl
theorem se_isi1 (ok : XOk X P W nm n call gl sc hot) {a : E} {t : Ty} {e y : Expr} {p q : Pos} (hg : glB sc "isinstance" = true) (ha : SE X P W call gl a e) (hs : PySem.W.isStarred e = false) (hy : tyB sc t y = true) : SE X P W call gl (.isi a [t]) (.Call (.Name "isinstance" q) [e, y] [] p) := by
  obtain ⟨gx, hd, hnm⟩ := gl_of ok hg
  have ys : PySem.W.isStarred y = false := by
    unfold tyB at hy
    cases y <;> first | rfl | cases hy
  have pe := pe_callB (p := q) (pos := p) call_isi gx (ok.blt _ (by decide)) isi_blt (pa_cons ha.pb (pa_cons (pe_ty ok hy) pa_nil (starOk ys)) (starOk hs)) hnm hd (starOk hs) (plainOk (by simp [ys]))
  refine SE.all ok.K (fun m RR go => pe.imp fun σ H Q q => ?_) (fun _ => rfl)
  rw [ev_isi] at q
  refine (TM.d1 go.mono q).imp fun v H1 ⟨g, env, c, d, r, b, af⟩ => ?_
  have b := b.rep
  rw [ok.K] at b
  exact ⟨v, .ty (tyN t), _, _, _, rfl, .ty _, rep_ty r.sub b, kit_one X.K d t, Aft.pureD go af r (fun _ => by simp) (by simp only [List.any_cons, List.any_nil, Bool.or_false]; exact .bl _)⟩
theorem paired_tys : ∀ ts : List Ty, Paired ClsV (ts.map fun t => V.ty (tyN t)) (ts.map fun t => Value.type (tyN t))
  | [] => .nil
  | t :: ts => .cons (.ty _) (paired_tys ts)
theorem se_isiT (ok : XOk X P W nm n call gl sc hot) {a : E} {ts : List Ty} {e : Expr} {es : List Expr} {k : Nat} {p q p2 : Pos} (hg : glB sc "isinstance" = true) (ha : SE X P W call gl a e) (hs : PySem.W.isStarred e = false) (hl8 : ts.length ≤ 8) (hy : tysB sc ts es = true) :
    SE X P W call gl (.isi a ts) (.Call (.Name "isinstance" q) [e, .Tuple es k p2] [] p) := by
  obtain ⟨gx, hd, hnm⟩ := gl_of ok hg
  have pe := pe_callB (p := q) (pos := p) call_isiT gx (ok.blt _ (by decide)) isi_blt (pa_cons ha.pb (pa_cons (pe_tup (pos := p2) (x1 := k) (pa_tys ok hy)) pa_nil) (starOk hs)) hnm hd (starOk hs) (plainOk rfl)
  refine SE.all ok.K (fun m RR go => pe.imp fun σ H Q q => ?_) (fun _ => rfl)
  rw [ev_isi] at q
  refine (TM.d1 go.mono q).imp fun v H1 ⟨g, env, c, d, r, b, af⟩ => ?_
  have hl : (ts.map fun t => V.ty (tyN t)).length ≤ sizeLine := by
    rw [List.length_map, line_eq]
    exact Nat.le_trans hl8 (by decide)
  refine ⟨hl, fun tp htp => ?_⟩
  have r' := r.alloc (o := .tup (ts.map fun t => V.ty (tyN t))) htp
  have b' := (b.ext (H1 := H) (g' := g) (Ext.alloc (o := .tup (ts.map fun t => V.ty (tyN t))) htp)).rep
  rw [ok.K] at b'
  refine ⟨v, tp, ts.map fun t => V.ty (tyN t), _, ts.map fun t => Value.type (tyN t), _, rfl, upd_same, ?_, rep_ty r'.sub b', kit_any X.K d ts, ?_⟩
  · exact paired_tys ts
  · have af := af.ext go.mono (Ext.alloc (o := .tup (ts.map fun t => V.ty (tyN t))) htp)
    exact Aft.pureD go af r' (fun _ => by simp) (.bl _)
theorem plainIx {y : Expr} (h : notSlice y = true) : PlainIx y := by
  intro o i
  cases y <;> first | rfl | cases h
theorem Md.rep {m : Bool} {RR : RRT V Vl} (md : Md P m RR) {H0 H : Hp} {g : Gh} {v : V} {x : Vl} (h : RV P g v x) : RR H0 g H v x := by
  cases md
  · exact h
  · exact .inl h
theorem Aft.pureV {m : Bool} {RR : RRT V Vl} (md : Md P m RR) {g : Gh} {env : EnvD} {c : Cells} {σ : L2.St} {H : Hp} {z : Vl} {Q : VK} (h : Aft P W σ g env H (M.pure z c) RR Q) (r : Rel P g env c σ H) {v : V} (hv : RV P g v z) : Q v H :=
  h g H v .refl r (md.rep hv)
theorem se_idx (ok : XOk X P W nm n call gl sc hot) {a i : E} {x y : Expr} {p : Pos} (ha : SE X P W call gl a x) (hi : SE X P W call gl i y) (hs : notSlice y = true) : SE X P W call gl (.idx a i) (.Subscript x y p) := by
  have key : ∀ {m : Bool} {RR : RRT V Vl}, Md P m RR → PE X (.Subscript x y p) (TM P W (ev call gl (.idx a i) m) RR) := fun {m RR} md => by
    refine (pe_ix idx_all ha.pb hi.pb (plainIx hs)).imp fun σ H Q q => ?_
    rw [ev_idx] at q
    refine (TM.d2 md.good.mono q).imp fun v H1 q1 => q1.imp fun u H2 q2 => ?_
    obtain ⟨g, env, c, d, e, r, b1, b2, af⟩ := q2
    obtain ⟨z, hz, af⟩ := af.opt
    refine ⟨g.F, d, e, z, r.sub, by rw [← ok.K]; exact b1.rep, by rw [← ok.K]; exact b2.rep, hz, fun v hv => ?_⟩
    rw [← ok.K] at hv
    exact Aft.pureV md af r hv
  exact SE.eb ok.K rfl (key .e) (key .b) (fun _ => rfl)
theorem se_cidx (ok : XOk X P W nm n call gl sc hot) {i k : Nat} {x : Str} {j p q : Pos} {t : Nat} (h1 : nm.N[i]? = some x) (h2 : visB sc x = true) (h3 : nmOk x = true) :
    SE X P W call gl (.cidx i k) (.Subscript (.Name x p) (.Constant (.int (k : Int)) t j) q) := by
  have hd := nm_debug h3
  have pv := pe_var (X := X) (i := i) (x := x) (pos := p) (by rw [ok.N]; exact h1) (vis_of ok h2) hd.1 hd.2.1
  have pe := pe_ix (pos := q) ix_list pv (pe_int (X := X) (i := (k : Int)) (j := t) (pos := j)) (plainIx rfl)
  have key : ∀ {m : Bool} {RR : RRT V Vl}, Md P m RR → PE X (.Subscript (.Name x p) (.Constant (.int (k : Int)) t j) q) (TM P W (ev call gl (.cidx i k) m) RR) := fun {m RR} md => by
    refine pe.imp fun σ H Q q => ?_
    obtain ⟨g, env, c, r, af⟩ := q
    rw [ev_cidx] at af
    dsimp only at af
    have s := r.slot i
    cases e : env.look i with
    | no => rw [e] at af; exact af.elim
    | own xs => rw [e] at af; exact af.elim
    | exn k ds => rw [e] at af; exact af.elim
    | v y =>
      rw [e] at af s
      cases y with
      | d y => exact af.elim
      | c m =>
        obtain ⟨v, s1, a, s2, s3⟩ := s
        subst s2
        dsimp only at af
        cases e2 : c[m]? with
        | none => rw [e2] at af; exact af.elim
        | some xs =>
          rw [e2] at af
          have af : Aft P W σ g env H (match xs[k]? with | some x => .ok (.d x) c | none => .stuck) RR Q := af
          obtain ⟨vs, h4, h5, h6⟩ := r.cell m a xs s3 e2
          cases e3 : xs[k]? with
          | none => rw [e3] at af; exact af.elim
          | some d =>
            rw [e3] at af
            obtain ⟨u, h7, h8⟩ := h5.get e3
            refine ⟨_, s1, a, vs, (k : Int), u, rfl, rfl, .inl (.inl h4), ?_, af g H u .refl r (md.rep h8)⟩
            have hk : k < vs.length := (List.getElem?_eq_some_iff.mp h7).1
            have : ixN vs.length (k : Int) = some k := by
              rw [← ixAt_eq]
              unfold ixAt
              rw [if_pos (by omega), if_pos (by omega)]
              simp
            unfold atI
            rw [this]
            exact h7
  exact SE.eb ok.K rfl (key .e) (key .b) (fun _ => rfl)
theorem po_of (ok : XOk X P W nm n call gl sc hot) {e : E} {x : Expr} (h : SE X P W call gl e x) : PO X (some x) (TM P W (evO call gl (.yes e)) rInt) := by
  refine (po_some h.pb).imp fun σ H Q q => ?_
  rw [evO_yes] at q
  refine (TM.d1 mono_rInt q).imp fun v H1 ⟨g, env, c, d, r, b, af⟩ => ?_
  cases d <;> first | exact af.elim | skip
  rename_i i
  rw [b.rep.ofInt]
  exact ⟨i, rfl, af g H1 _ .refl r rfl⟩
theorem po_no : PO X none (TM P W (evO call gl .no) rInt) := po_none.imp fun σ H Q q => by
  obtain ⟨g, env, c, r, af⟩ := q
  exact af g H none .refl r rfl
theorem se_slc (ok : XOk X P W nm n call gl sc hot) {a : E} {lo hi : Oe} {x : Expr} {l h : Option Expr} {p p2 : Pos} (ha : SE X P W call gl a x) (hl : PO X l (TM P W (evO call gl lo) rInt)) (hh : PO X h (TM P W (evO call gl hi) rInt)) :
    SE X P W call gl (.slc a lo hi) (.Subscript x (.Slice l h none p2) p) := by
  refine SE.all ok.K (fun m RR go => ?_) (fun _ => rfl)
  refine (pe_slice slc_all ha.pb hl hh).imp fun σ H Q q => ?_
  obtain ⟨g0, env, c0, r0, af⟩ := q
  rw [ev_slc] at af
  refine (Aft.stepD (m := ev call gl a true) go.mono af r0).imp fun v H1 ⟨g1, c1, d, e1, r1, b1, af⟩ => ?_
  refine (Aft.step (RR1 := rInt) (m := evO call gl lo) go.mono af r1).imp fun i H2 ⟨g2, c2, i', e2, r2, b2, af⟩ => ?_
  refine (Aft.step (RR1 := rInt) (m := evO call gl hi) go.mono af r2).imp fun j H3 ⟨g3, c3, j', e3, r3, b3, af⟩ => ?_
  obtain rfl : i = i' := b2
  obtain rfl : j = j' := b3
  obtain ⟨z, hz, af⟩ := af.opt
  have f := fin_of go r3 af
  rw [ok.K] at f
  exact ⟨g3.F, d, z, r3.sub, by rw [← ok.K]; exact ((b1.ext (H1 := H) e2).ext (H1 := H) e3).rep, hz, f⟩
def allD (vs : List Vl) : Option (List D) := vs.mapM fun | .d x => some x | .c _ => none
theorem rvs_all {g : Gh} {vs : List V} {xs : List Vl} (h : RVs P g vs xs) : ∀ {ds : List D}, (xs.mapM fun | .d x => some x | .c _ => none) = some ds → RepL P.K g.F vs ds := by
  induction h with
  | nil => intro ds e; cases e; exact .nil
  | @cons v vs x xs h1 _ ih =>
    intro ds e
    cases x with
    | c i => simp at e
    | d x =>
      simp only [List.mapM_cons, Option.pure_def, Option.bind_eq_bind, Option.bind_some] at e
      obtain ⟨r, e1, e2⟩ := Option.bind_eq_some_iff.mp e
      cases e2
      exact .cons h1 (ih e1)
theorem disp {σ : L2.St} {g : Gh} {env : EnvD} {c : Cells} {H : Hp} {RR : RRT V Vl} {k : List D → M Vl} {Q : VK} {vs : List V} {xs : List Vl} (b : RVs P g vs xs)
    (af : Aft P W σ g env H (M.bind (M.opt (xs.mapM fun | .d x => some x | .c _ => none)) (fun xs => if xs.length ≤ szLine then k xs else M.fail) c) RR Q) :
    ∃ ds, RepL P.K g.F vs ds ∧ vs.length ≤ sizeLine ∧ Aft P W σ g env H (k ds c) RR Q := by
  obtain ⟨ds, e, af⟩ := af.opt
  have hr := rvs_all b e
  split at af
  · rename_i hl
    exact ⟨ds, hr, by rw [hr.length, line_eq]; exact hl, af⟩
  · exact af.elim
theorem se_lst (ok : XOk X P W nm n call gl sc hot) {as : Es} {es : List Expr} {p : Pos} (ha : PA X es (TM P W (evs call gl as) (rVs P))) : SE X P W call gl (.lst as) (.List es p) := by
  refine SE.all ok.K (fun m RR go => ?_) (fun _ => rfl)
  refine (pe_lst ha).imp fun σ H Q q => ?_
  obtain ⟨g0, env, c0, r0, af⟩ := q
  rw [ev_lst] at af
  refine (Aft.step (RR1 := rVs P) (m := evs call gl as) go.mono af r0).imp fun vs H1 ⟨g1, c1, xs, e1, r1, b1, af⟩ => ?_
  obtain ⟨ds, hr, hl, af⟩ := disp b1 af
  exact ⟨hl, fun p hp => fin_of go r1 af p vs hp hr⟩
theorem se_tup (ok : XOk X P W nm n call gl sc hot) {as : Es} {es : List Expr} {p : Pos} {k : Nat} (ha : PA X es (TM P W (evs call gl as) (rVs P))) : SE X P W call gl (.tup as) (.Tuple es k p) := by
  refine SE.all ok.K (fun m RR go => ?_) (fun _ => rfl)
  refine (pe_tup ha).imp fun σ H Q q => ?_
  obtain ⟨g0, env, c0, r0, af⟩ := q
  rw [ev_tup] at af
  refine (Aft.step (RR1 := rVs P) (m := evs call gl as) go.mono af r0).imp fun vs H1 ⟨g1, c1, xs, e1, r1, b1, af⟩ => ?_
  obtain ⟨ds, hr, hl, af⟩ := disp b1 af
  exact ⟨hl, fun p hp => (fin_of go r1 af).2 p vs hp hr⟩
theorem Ext.cell {g : Gh} {H : Hp} {p : Addr} {o : HO} (hp : H p = none) : Ext g H { g with ca := g.ca ++ [p] } (upd H p o) :=
  ⟨Sub.refl, ⟨[p], rfl⟩, fun a u h _ => by rw [upd_ne (ne_of_none h hp)]; exact h, fun _ _ h => h, fun a h n => by
    rw [List.mem_append, List.mem_singleton]
    rintro (q | q)
    · exact n q
    · subst q; exact h hp, fun a h => by
    by_cases e : a = p
    · subst e; exact absurd hp h
    · rw [upd_ne e]; exact h⟩
theorem CRel.new {g : Gh} {c : Cells} {H : Hp} (r : CRel P g c H) {p : Addr} {vs : List V} {ds : List D} (hp : H p = none) (h : RepL P.K g.F vs ds) : CRel P { g with ca := g.ca ++ [p] } (c ++ [ds]) (upd H p (.lst vs)) := by
  refine ⟨r.sub.upd hp, by simp [r.clen], ?_, fun k a xs h1 h2 => ?_⟩
  · rw [List.nodup_append]
    refine ⟨r.cnd, by simp, fun a ha b hb => ?_⟩
    rw [List.mem_singleton] at hb
    subst hb
    exact r.ne hp ha
  · have h1 : (g.ca ++ [p])[k]? = some a := h1
    by_cases hk : k < c.length
    · rw [List.getElem?_append_left (by rw [← r.clen]; exact hk)] at h1
      rw [List.getElem?_append_left hk] at h2
      obtain ⟨ws, q1, q2, q3⟩ := r.cell k a xs h1 h2
      exact ⟨ws, by rw [upd_ne (ne_of_none q1 hp)]; exact q1, q2, q3⟩
    · have hk2 : k = c.length := by
        have := (List.getElem?_eq_some_iff.mp h2).1
        simp at this
        omega
      subst hk2
      rw [List.getElem?_append_right (by rw [r.clen]; exact Nat.le_refl _), r.clen] at h1
      rw [List.getElem?_append_right (Nat.le_refl _)] at h2
      simp at h1 h2
      subst h1 h2
      exact ⟨vs, upd_same, h, r.sub.none hp⟩
theorem se_clst (ok : XOk X P W nm n call gl sc hot) {as : Es} {es : List Expr} {p : Pos} (ha : PA X es (TM P W (evs call gl as) (rVs P))) : SE X P W call gl (.clst as) (.List es p) := by
  have key : ∀ {m : Bool} {RR : RRT V Vl}, Md P m RR → PE X (.List es p) (TM P W (ev call gl (.clst as) m) RR) := fun {m RR} md => by
    refine (pe_lst ha).imp fun σ H Q q => ?_
    obtain ⟨g0, env, c0, r0, af⟩ := q
    rw [ev_clst] at af
    refine (Aft.step (RR1 := rVs P) (m := evs call gl as) md.good.mono af r0).imp fun vs H1 ⟨g1, c1, xs, e1, r1, b1, af⟩ => ?_
    obtain ⟨ds, hr, hl, af⟩ := disp b1 af
    refine ⟨hl, fun p hp => ?_⟩
    refine af { g1 with ca := g1.ca ++ [p] } _ _ (Ext.cell hp) (r1.ext (Ext.cell hp) (r1.toCRel.new hp hr)) (md.rep ⟨p, rfl, ?_⟩)
    rw [r1.toCRel.clen]
    simp
  exact SE.eb ok.K rfl (key .e) (key .b) (fun _ => rfl)
theorem lkR.some {K : PySem.W.Frag} {r : Option Value} {o : Option D} (h : lkR K r o) : r.isSome = o.isSome := by
  cases o with
  | none => rw [show r = Option.none from h]; rfl
  | some d => obtain ⟨u, v, e, _⟩ := h; rw [e]; rfl
theorem se_gin (ok : XOk X P W nm n call gl sc hot) {neg : Bool} {a : E} {e : Expr} {g : Nat} {kvs : List (List Nat × D)} {x : Str} {p q : Pos} (hgl : gl g = some (.t kvs)) (gt : GtOk X x kvs) (hg : glB sc x = true) (ha : SE X P W call gl a e) :
    SE X P W call gl (.gin neg a g) (.Compare e [if neg then .NotIn else .In] [.Name x q] p) := by
  obtain ⟨gx, hd, hnm⟩ := gl_of ok hg
  obtain ⟨d, es, n, h1, D0, h2⟩ := gt
  have op : OpR X (compareOp (if neg then .NotIn else .In)) (fun x y H Q => ∃ (z : Str) (r : Option Value), x = .str z ∧ y = .ref d ∧ PySem.W.nsIn X.K d z = some r ∧ Q (.bl (neg != r.isSome)) H) := by
    cases neg with
    | false =>
      intro pins s σ H x y v u Q I rx ry h
      obtain ⟨z, r, e1, e2, e3, e4⟩ := h
      exact op_in_kd D0 pins s σ H x y v u Q I rx ry ⟨z, r, e1, e2, e3, by simpa using e4⟩
    | true =>
      intro pins s σ H x y v u Q I rx ry h
      obtain ⟨z, r, e1, e2, e3, e4⟩ := h
      exact op_notIn_kd D0 pins s σ H x y v u Q I rx ry ⟨z, r, e1, e2, e3, by simpa using e4⟩
  have pn : PE X (.Name x q) (tC (.ref d)) := pe_glob gx h1 rfl hd
  have pe := pe_cmpR (pos := p) op ha.pb pn (by cases neg <;> rfl)
  have pt := pt_cmpR (pos := p) op ha.pb pn (by cases neg <;> rfl)
  have core : ∀ {γ δ : Type} {RR : RRT δ γ} {f : Bool → M γ} {σ : L2.St} {H : Hp} {Q : VK} {Q' : δ → Hp → Prop}, Mono RR → (∀ g env c H k v, Rel P g env c σ H → Aft P W σ g env H (f k c) RR Q' → Rep P.K g.F v (.bl k) → Q v H) →
      TM P W (fun env => M.bind (ev call gl a true env) fun v => M.bind (asD v) fun v => match v, gl g with | .str k, some (.t kvs) => f (neg != (lookT k kvs).isSome) | _, _ => M.fail) RR σ H Q' →
      tOp (fun x y H Q => ∃ (z : Str) (r : Option Value), x = .str z ∧ y = .ref d ∧ PySem.W.nsIn X.K d z = some r ∧ Q (.bl (neg != r.isSome)) H) (TM P W (ev call gl a true) (rB P)) (tC (.ref d)) σ H Q := fun {γ δ RR f σ H Q Q'} mo fin q => by
    refine (TM.d1 mo q).imp fun v H1 ⟨g, env, c, dd, r, b, af⟩ => ?_
    rw [hgl] at af
    cases dd <;> first | exact af.elim | skip
    rename_i z
    obtain ⟨rr, e1, e2⟩ := h2 z
    refine ⟨_, rr, b.rep.ofStr, rfl, e1, fin g env c H1 _ _ r af ?_⟩
    rw [e2.some]
    exact .bl _
  have key : ∀ {RR : RRT V Vl} {m : Bool}, Good P RR → PE X (.Compare e [if neg then .NotIn else .In] [.Name x q] p) (TM P W (ev call gl (.gin neg a g) m) RR) := fun {RR m} go => by
    refine pe.imp fun σ H Q q => core (f := fun k => M.pure (.d (.bl k))) go.mono (fun g env c H k v r af hv => Aft.pureD go af r (fun _ => by simp) hv) (TM.congr q fun env => ?_)
    rw [ev_gin]
    all_goals funext cc
    all_goals simp only [M.bind]
    all_goals cases ev call gl a true env cc with
    | ok v c1 =>
      cases v with
      | c i => rfl
      | d v =>
        simp only [asD, M.pure]
        rw [hgl]
        cases v <;> rfl
    | exc _ _ _ => rfl
    | stuck => rfl
  refine ⟨key good_rV, key good_rB, fun _ => key good_rN, pt.imp fun σ H Q q => ?_, fun q => by cases q⟩
  refine core (f := fun k => M.pure k) mono_rTru (fun g env c H k v r af hv => ⟨k, hv.ofBl, af g H k .refl r rfl⟩) (TM.congr q fun env => ?_)
  rw [ev_gin]
  all_goals funext cc
  all_goals simp only [M.bind]
  all_goals cases ev call gl a true env cc with
  | ok v c1 =>
    cases v with
    | c i => rfl
    | d v =>
      simp only [asD, M.pure]
      rw [hgl]
      cases v <;> rfl
  | exc _ _ _ => rfl
  | stuck => rfl
theorem se_gget (ok : XOk X P W nm n call gl sc hot) {a : E} {e : Expr} {g : Nat} {kvs : List (List Nat × D)} {x : Str} {p q : Pos} (hgl : gl g = some (.t kvs)) (gt : GtOk X x kvs) (hg : glB sc x = true) (hs : notSlice e = true) (ha : SE X P W call gl a e) :
    SE X P W call gl (.gget g a) (.Subscript (.Name x q) e p) := by
  obtain ⟨gx, hd, hnm⟩ := gl_of ok hg
  obtain ⟨d, es, n, h1, D0, h2⟩ := gt
  have pn : PE X (.Name x q) (tC (.ref d)) := pe_glob gx h1 rfl hd
  have pe := pe_ix (pos := p) ix_kdict pn ha.pb (plainIx hs)
  have key : ∀ {m : Bool} {RR : RRT V Vl}, Md P m RR → PE X (.Subscript (.Name x q) e p) (TM P W (ev call gl (.gget g a) m) RR) := fun {m RR} md => by
    refine pe.imp fun σ H Q q => ?_
    rw [ev_gget] at q
    refine (TM.d1 md.good.mono q).imp fun v H1 ⟨g, env, c, dd, r, b, af⟩ => ?_
    rw [hgl] at af
    cases dd <;> first | exact af.elim | skip
    rename_i z
    have af : Aft P W σ g env H1 (M.bind (M.opt (lookT z kvs)) (fun d => M.pure (.d d)) c) RR Q := af
    obtain ⟨dd, e3, af⟩ := af.opt
    obtain ⟨rr, e1, e2⟩ := h2 z
    rw [e3] at e2
    obtain ⟨u, v0, e4, e5, e6⟩ := e2
    subst e4
    exact ⟨d, _, v0, rfl, b.rep.ofStr, ⟨es, n, u, D0.at_, D0.lit, e1, e5⟩, Aft.pureV md af r (by show Rep P.K _ _ _; rw [ok.K]; exact e6 _)⟩
  exact SE.eb ok.K rfl (key .e) (key .b) (fun _ => rfl)
theorem look_zipF {fs : List Str} {vs : List V} {j : Nat} {f : Str} {v : V} (nd : fs.Nodup) (h1 : fs[j]? = some f) (h2 : vs[j]? = some v) : (fs.zip vs).lookup f = some v := by
  induction fs generalizing vs j with
  | nil => simp at h1
  | cons x fs ih =>
    cases vs with
    | nil => simp at h2
    | cons u vs =>
      rw [List.zip_cons_cons, List.lookup_cons]
      cases j with
      | zero =>
        simp at h1 h2
        subst h1 h2
        simp
      | succ j =>
        simp at h1 h2
        have : (f == x) = false := by
          have := (List.nodup_cons.mp nd).1
          have hne : f ≠ x := fun e => this (by rw [← e]; exact List.mem_of_getElem? h1)
          simpa using hne
        rw [this]
        exact ih (List.nodup_cons.mp nd).2 h1 h2
theorem se_exf (ok : XOk X P W nm n call gl sc hot) {i k : Nat} {x f : Str} {p q : Pos} (h1 : nm.N[i]? = some x) (h2 : visB sc x = true) (h3 : nmOk x = true) (h4 : nm.xf k = some f) : SE X P W call gl (.exf i k) (.Attribute (.Name x p) f q) := by
  have hd := nm_debug h3
  have pv := pe_var (X := X) (i := i) (x := x) (pos := p) (by rw [ok.N]; exact h1) (vis_of ok h2) hd.1 hd.2.1
  have key : ∀ {m : Bool} {RR : RRT V Vl}, Md P m RR → PE X (.Attribute (.Name x p) f q) (TM P W (ev call gl (.exf i k) m) RR) := fun {m RR} md => by
    refine ⟨fun pins s σ H Q I q => ?_⟩
    obtain ⟨g, env, c, r, af⟩ := q
    rw [ev_exf] at af
    dsimp only at af
    have sl := r.slot i
    cases e : env.look i with
    | no => rw [e] at af; exact af.elim
    | v y => rw [e] at af; exact af.elim
    | own xs => rw [e] at af; exact af.elim
    | exn kk ds =>
      rw [e] at af sl
      dsimp only at af
      obtain ⟨a, C, fs, dd, vs, s1, s2, s3, s4, s5, s6, s7⟩ := sl
      obtain ⟨d, ed, af⟩ := af.opt
      obtain ⟨v, hv, rv⟩ := s6.get ed
      have hj : k < fs.length := by
        rw [s5]
        exact (List.getElem?_eq_some_iff.mp hv).1
      have hf := ok.xfn kk C fs k f s3 h4 hj
      refine (ok.xf _ _ _ s1 kk C fs k f s3 h4 pv rfl).run pins s σ H Q I ?_
      exact ⟨_, s2, rfl, rfl, dd, _, v, rfl, s4, look_zipF (ok.xnd kk C fs s3) hf hv, Aft.pureV md af r rv⟩
  exact SE.eb ok.K rfl (key .e) (key .b) (fun _ => rfl)
end
end RX
end
section -- Rx11
namespace PySem
open Builtin PySem.AutoSeq1
theorem rx_enum_new {u : Value} {oi : Obj} {Hh : Heap → Prop} (B : Begins u oi Hh) :
    Meets (Builtin.«enumerate.__new__» ⟨[.type "enumerate", u], []⟩) (fun _ R s => Hh s.heap ∧ R (.ok (.ret (.ref (s.heap.push oi).objs.size)))
      { s with heap := (s.heap.push oi).push { cls := .type "enumerate", data := .fields #[.none, .bool false, .ref s.heap.objs.size, rawInt 0, .none, .none] } }) :=
  .of_wp fun pr ww AA RR sh hh => by
    obtain ⟨hq, gq, dq, tq, oq⟩ := sh
    obtain ⟨hB, hR⟩ := hh
    have hsub := sub_enumerate
    have it1 : ∀ {A' : Around} {E' : Value → Shared → Prop} {Q' : Value → Shared → Prop}, Q' (.ref hq.objs.size) ⟨hq.push oi, gq, dq, tq, oq⟩ → wpAny (model pr ww) A' (pyIter u) Q' E' ⟨hq, gq, dq, tq, oq⟩ := fun z => B.iter pr ww _ _ ⟨hq, gq, dq, tq, oq⟩ _ hB z
    wp_walk using it1
    refine wpAny_stack_any fun stk => wpAny_pure ?_
    split
    · rename_i cc _ _ _ _ _
      cases (cc == Value.type "enumerate") <;> (wp_walk using it1; exact ⟨_, rfl, hR⟩)
    · wp_walk using it1; exact ⟨_, rfl, hR⟩
theorem rx_enum_call {prog : Program} {w : World} {A : Around} {E : Value → Shared → Prop} {s : Shared} {u : Value} {oi : Obj} {Hh : Heap → Prop} {Q : Value → Shared → Prop} (B : Begins u oi Hh) (h1 : Hh s.heap)
    (h : ∀ h', IsEnum h' (s.heap.objs.size + 1) s.heap.objs.size 0 .none → h'.get? s.heap.objs.size = some oi → h'.objs.size = s.heap.objs.size + 2 → (∀ b o, s.heap.get? b = some o → h'.get? b = some o) → Q (.ref (s.heap.objs.size + 1)) { s with heap := h' }) :
    wpAny (model prog w) A (call (.type "enumerate") [u]) Q E s := by
  refine callType_new F.called_enumerate (by decide) (F.typeCall_enumerate_1 _) (F.newCall_enumerate_1 _) (fun ob => F.args_object_init_2 ob _) F.entry_enumerate_new (rx_enum_new B) ⟨h1, ?_⟩
  have sz1 : (s.heap.push oi).objs.size = s.heap.objs.size + 1 := Heap.size_push ..
  have en : IsEnum ((s.heap.push oi).push { cls := .type "enumerate", data := .fields #[.none, .bool false, .ref s.heap.objs.size, rawInt 0, .none, .none] }) (s.heap.objs.size + 1) s.heap.objs.size 0 .none := by
    have z := Heap.get?_push_size (s.heap.push oi) (o := { cls := .type "enumerate", data := .fields #[.none, .bool false, .ref s.heap.objs.size, rawInt 0, .none, .none] }) rfl
    rw [sz1] at z; exact z
  show _ ∧ _
  rw [sz1]
  exact ⟨⟨_, en, rfl⟩, h _ en (Heap.get?_push_of_some _ (Heap.get?_push_size _ B.free)) (by rw [Heap.size_push, sz1]) fun b o y => Heap.get?_push_of_some _ (Heap.get?_push_of_some _ y)⟩
end PySem
namespace RX
open PySem PySem.Spec PyProof.Rows L2
/-- the tuple at a, each item in a new pair -/
def ItE (K : PySem.W.Frag) (a : Addr) : It :=
  ⟨fun i H => ∃ (xs : List V) (x : V), SqT K H a xs ∧ xs[i]? = some x, fun i H v H' => ∃ T x, v = .ref T ∧ H T = none ∧ H' = upd H T (.tup [.int (i : Nat), x]) ∧ ∀ xs, SqT K H a xs → xs[i]? = some x, fun i H => ∃ xs : List V, SqT K H a xs ∧ xs.length = i⟩
theorem turnE {P : Program} {w : World} {K : PySem.W.Frag} {elts : List Expr} {kk : Nat} {tpos : Pos} (a e it : Addr) :
    Turn P w K (.Tuple elts kk tpos) (ItE K a) [e, it] e (fun i h => (∃ old, IsEnum h e it ((i : Nat) : Int) old) ∧ h.IsTupleIter it a i ∧ e ≠ it ∧ a ≠ e ∧ a ≠ it) where
  mem := by simp
  obj := fun i h st b hb => by
    obtain ⟨⟨old, he⟩, ⟨o, ho, hc, hd⟩, _⟩ := st
    rcases (show b = e ∨ b = it by simpa using hb) with z | z
    · rw [z]; exact ⟨_, he, fun v q => nomatch q⟩
    · rw [z]; exact ⟨o, ho, fun v q => by rw [hd] at q; cases q⟩
  keep := fun i h h' st k => let ⟨⟨old, he⟩, hi, hne⟩ := st; ⟨⟨old, k e (by simp) _ he⟩, hi.at fun o q => k it (by simp) o q, hne⟩
  item := by
    intro X hP hw hK hc i pins s σ H E I hf st hg
    subst hP hw hK
    obtain ⟨⟨old, he⟩, hit, hne, hae, hai⟩ := st
    obtain ⟨xs, x, hq, hx⟩ := hg
    obtain ⟨its, rv, p, hz⟩ := I.tuple hq
    obtain ⟨u, hu, ru⟩ := rv.get hx
    have pT : s.heap.IsTuple a its.toArray := p
    have hel : e < s.heap.objs.size := Heap.lt_size he
    have hil : it < s.heap.objs.size := by obtain ⟨_, q, _⟩ := hit; exact Heap.lt_size q
    have hlt : i < its.toArray.size := by
      have := (List.getElem?_eq_some_iff.mp hu).1
      simpa using this
    refine wpAny_pyNext_enum_itemD (PySem.Draws.tuple (prog := X.prog) (w := X.w) (A := X.A.in1) (show X.A.in1.handled = none from I.ok.hd hc) it a hai its.toArray) he ⟨hit, pT⟩ hlt hne (by simp [hne, Ne.symm hae]) fun y h' tk hy ho st' hT hsz hk => ?_
    have hy : y = u := by
      have hu' : its.toArray[i]? = some u := by simpa using hu
      rw [hu'] at hy
      exact (Option.some.inj hy).symm
    subst hy
    refine ⟨_, rfl, wpAny_letOwnedTupleGo_enum (s := { s with heap := h', toks := tk + 1 }) ho fun h'' he' sb => ?_⟩
    have hT2 : h''.get? s.heap.objs.size = some { cls := .type "tuple", data := .seq #[.int i tk, y] } := (sb.2 _ (Nat.ne_of_gt hel)).trans hT
    have I1 : Inv X pins σ (upd H s.heap.objs.size (.tup [.int (i : Nat), x])) { s with heap := h'', toks := tk + 1 } :=
      I.turnedNew (ch := [e, it]) (fun b ob hb q => (sb.2 b (fun z => hb (by simp [z]))).trans (hk b ob (fun z => hb (by simp [z])) (fun z => hb (by simp [z])) q)) hf (Nat.le_refl _)
        ⟨by show 2 ≤ sizeLine; decide, [.int i tk, y], .cons ⟨_, rfl⟩ (.cons ru .nil), ⟨_, hT2, rfl, _, rfl⟩⟩
    refine ⟨.ref s.heap.objs.size, _, I1, rfl, ⟨_, x, rfl, I.hok.fresh (Nat.le_refl _), rfl, fun ys hy => by rw [I.tuple_inj hy hq]; exact hx⟩, ⟨⟨y, ?_⟩, st'.1.at fun o q => (sb.2 it (Ne.symm hne)).trans q, hne, hae, hai⟩, fun b hb => ?_⟩
    · have e1 : ((i + 1 : Nat) : Int) = (i : Int) + 1 := by omega
      rw [e1]; exact he'
    · have hb' : b < s.heap.objs.size := by
        rcases (show b = e ∨ b = it by simpa using hb) with z | z
        · rw [z]; exact hel
        · rw [z]; exact hil
      rw [upd_ne (Nat.ne_of_lt hb')]
      exact (hf b hb).1
  done := by
    intro X hP hw hK hc i pins s σ H E I hf st hg
    subst hP hw hK
    obtain ⟨⟨old, he⟩, hit, hne, hae, hai⟩ := st
    obtain ⟨xs, hq, hx⟩ := hg
    obtain ⟨its, rv, p, hz⟩ := I.tuple hq
    have pT : s.heap.IsTuple a its.toArray := p
    have hl : its.toArray.size = i := by rw [← hx, rv.length]; simp
    refine wpAny_pyNext_enum_endD (PySem.Draws.tuple (prog := X.prog) (w := X.w) (A := X.A.in1) (show X.A.in1.handled = none from I.ok.hd hc) it a hai its.toArray) he ⟨by rw [hl]; exact hit, pT⟩ fun h' eb => ⟨rfl, ?_⟩
    obtain ⟨f0, f1, f2, f3, f4, f5⟩ := hf it (by simp)
    exact I.turned (t' := s.toks) (fun b o hb q => eb b o hb q) f0 f1 f3 f4 f5
  self := fun A i s Q E st h => let ⟨⟨_, he⟩, _⟩ := st; wpAny_pyIter_enum he h
end RX
end
section -- Rx12
namespace RX
open PySem PySem.Spec PyProof.Rows L2
structure ExtW (b : Bool) (g : Gh) (H : Hp) (g' : Gh) (H' : Hp) : Prop where
  F : Sub g.F g'.F
  S : Sub g'.F H'
  keep : b = true → ∀ a o, H a = some o → a ∉ g.ca → H' a = some o
/-- an iterator gives these data -/
def Wk (P : Par) (b : Bool) (J : It) (g : Gh) (H : Hp) (xs : List D) : Prop :=
  ∀ g' H', ExtW b g H g' H' → (∀ i, i < xs.length → J.go i H') ∧ J.stop xs.length H' ∧ ∀ i d x H2, xs[i]? = some d → J.yld i H' x H2 →
    (H2 = H' ∧ Rep P.K g'.F x d) ∨ ∃ T vs ds, x = .ref T ∧ d = .tup ds ∧ H' T = none ∧ H2 = upd H' T (.tup vs) ∧ RepL P.K g'.F vs ds
def rW (P : Par) (b : Bool) : RRT It (List D) := fun _ g H J xs => Wk P b J g H xs
theorem mono_rW {P : Par} {b : Bool} : Mono (rW P b) := fun _ _ _ _ _ _ _ h => h
section
variable {P : Par} {b : Bool} {g : Gh} {H : Hp} {a : Addr} {vs : List V} {ds : List D}
theorem wk_lst (r : RepL P.K g.F vs ds) (h : Rd g.F a (.lst vs) ∨ (b = true ∧ H a = some (.lst vs) ∧ a ∉ g.ca)) : Wk P b (Itl P.K a) g H ds := by
  intro g' H' e
  have q : SqL P.K H' a vs := by
    rcases h with h | ⟨h1, h2, h3⟩
    · exact .inl (Rd.mono e.S (Rd.mono e.F h))
    · exact .inl (.inl (e.keep h1 a _ h2 h3))
  have hl := r.length
  refine ⟨fun i hi => ⟨vs, vs[i]'(by omega), q, by simp⟩, ⟨vs, q, by omega⟩, fun i d x H2 hd hy => ?_⟩
  obtain ⟨h1, h2⟩ := hy
  obtain ⟨v, h3, h4⟩ := r.get hd
  have := h2 vs q
  rw [h3] at this
  cases this
  exact .inl ⟨h1, h4.mono e.F⟩
theorem wk_tup (r : RepL P.K g.F vs ds) (h : SqT P.K g.F a vs) : Wk P b (Itt P.K a) g H ds := by
  intro g' H' e
  have q : SqT P.K H' a vs := SqT.mono e.S (SqT.mono e.F h)
  have hl := r.length
  refine ⟨fun i hi => ⟨vs, vs[i]'(by omega), q, by simp⟩, ⟨vs, q, by omega⟩, fun i d x H2 hd hy => ?_⟩
  obtain ⟨h1, h2⟩ := hy
  obtain ⟨v, h3, h4⟩ := r.get hd
  have := h2 vs q
  rw [h3] at this
  cases this
  exact .inl ⟨h1, h4.mono e.F⟩
theorem wk_rng (lo : Int) (n : Nat) : Wk P b (Itr lo n) g H (rangeI lo n) := by
  intro g' H' e
  have hl : (rangeI lo n).length = n := by simp [rangeI]
  refine ⟨fun i hi => by rw [hl] at hi; exact hi, by rw [hl]; exact Nat.le_refl _, fun i d x H2 hd hy => ?_⟩
  obtain ⟨h1, h2⟩ := hy
  have hi : i < n := by rw [← hl]; exact (List.getElem?_eq_some_iff.mp hd).1
  have : d = .int (lo + (i : Int)) := by
    simp [rangeI, hi] at hd
    exact hd.symm
  subst this
  subst h2
  exact .inl ⟨h1, .int _⟩
theorem wk_str (s : List Nat) : Wk P b (Its ⟨s.toArray⟩) g H (s.map fun c => .str [c]) := by
  intro g' H' e
  refine ⟨fun i hi => by simpa [Its] using hi, by simp [Its], fun i d x H2 hd hy => ?_⟩
  obtain ⟨h1, c, h2, h3⟩ := hy
  have h2 : s[i]? = some c := by simpa using h2
  have : d = .str [c] := by
    simp [h2] at hd
    exact hd.symm
  subst this
  subst h3
  exact .inl ⟨h1, .str [c]⟩
theorem enumI_get : ∀ (xs : List D) (k i : Nat), (enumI k xs)[i]? = (xs[i]?).map fun x => .tup [.int ((k + i : Nat) : Int), x]
  | [], k, i => by simp [enumI]
  | x :: xs, k, 0 => by simp [enumI]
  | x :: xs, k, i + 1 => by
    simp only [enumI, List.getElem?_cons_succ]
    rw [enumI_get xs (k + 1) i]
    congr 1
    funext y
    congr 3
    congr 1
    omega
theorem enumI_length : ∀ (xs : List D) (k : Nat), (enumI k xs).length = xs.length
  | [], _ => rfl
  | _ :: xs, k => by simp [enumI, enumI_length xs]
theorem wk_enL (r : RepL P.K g.F vs ds) (h : Rd g.F a (.lst vs) ∨ (b = true ∧ H a = some (.lst vs) ∧ a ∉ g.ca)) : Wk P b (Ite P.K a) g H (enumI 0 ds) := by
  intro g' H' e
  have q : SqL P.K H' a vs := by
    rcases h with h | ⟨h1, h2, h3⟩
    · exact .inl (Rd.mono e.S (Rd.mono e.F h))
    · exact .inl (.inl (e.keep h1 a _ h2 h3))
  have hl := r.length
  have hz := enumI_length ds 0
  refine ⟨fun i hi => ⟨vs, vs[i]'(by omega), q, by simp⟩, ⟨vs, q, by omega⟩, fun i d x H2 hd hy => ?_⟩
  obtain ⟨T, y, h1, h2, h3, h4⟩ := hy
  rw [enumI_get] at hd
  obtain ⟨d', h5, h6⟩ := Option.map_eq_some_iff.mp hd
  obtain ⟨v, h7, h8⟩ := r.get h5
  have := h4 vs q
  rw [h7] at this
  cases this
  rw [Nat.zero_add] at h6
  exact .inr ⟨T, _, _, h1, h6.symm, h2, h3, .cons (.int _) (.cons (h8.mono e.F) .nil)⟩
theorem wk_enT (r : RepL P.K g.F vs ds) (h : SqT P.K g.F a vs) : Wk P b (ItE P.K a) g H (enumI 0 ds) := by
  intro g' H' e
  have q : SqT P.K H' a vs := SqT.mono e.S (SqT.mono e.F h)
  have hl := r.length
  have hz := enumI_length ds 0
  refine ⟨fun i hi => ⟨vs, vs[i]'(by omega), q, by simp⟩, ⟨vs, q, by omega⟩, fun i d x H2 hd hy => ?_⟩
  obtain ⟨T, y, h1, h2, h3, h4⟩ := hy
  rw [enumI_get] at hd
  obtain ⟨d', h5, h6⟩ := Option.map_eq_some_iff.mp hd
  obtain ⟨v, h7, h8⟩ := r.get h5
  have := h4 vs q
  rw [h7] at this
  cases this
  rw [Nat.zero_add] at h6
  exact .inr ⟨T, _, _, h1, h6.symm, h2, h3, .cons (.int _) (.cons (h8.mono e.F) .nil)⟩
end
section
variable {X : Cx} {tg : Expr}
/-- a list or a tuple -/
theorem pi_seq {l : Expr} {tl : TE} (hl : PE X l tl) : PI X tg l (fun σ H R => tl σ H fun x H1 => ∃ a, x = .ref a ∧ (((∃ xs, SqL X.K H1 a xs) ∧ R (Itl X.K a) H1) ∨ ((∃ xs, SqT X.K H1 a xs) ∧ R (Itt X.K a) H1))) := by
  refine ⟨fun pins s σ H R I h => thn (hl.run pins s σ H _ I h) fun v s1 ⟨x, H1, I1, r1, a, e, q⟩ => ?_⟩
  subst e
  obtain rfl : v = Value.ref a := r1
  rcases q with ⟨⟨xs, hq⟩, q⟩ | ⟨⟨xs, hq⟩, q⟩
  · obtain ⟨its, rv, p, hz⟩ := I1.list hq
    exact wpAny_pyIter_list p.isList (pi_one (tk := s1.toks) I1 _ (turn_list a _) ⟨_, Heap.get?_push_size _ rfl, rfl, rfl⟩ q)
  · obtain ⟨its, rv, p, hz⟩ := I1.tuple hq
    exact wpAny_pyIter_tuple (show s1.heap.IsTuple a its.toArray from p) (pi_one (tk := s1.toks) I1 _ (turn_tuple a _) ⟨_, Heap.get?_push_size _ rfl, rfl, rfl⟩ q)
theorem IsTupleIter.new {h' : Heap} {b a : Addr} (e : h'.get? b = some { cls := .type "tuple_iterator", data := .fields #[.ref a, .int 0 0] }) : h'.IsTupleIter b a 0 := ⟨_, e, rfl, rfl⟩
/-- enumerate(a list or a tuple) -/
theorem pi_en {e : Expr} {ta : TA} {p pos tpos : Pos} {elts : List Expr} {kk : Nat} (hg : Gl X "enumerate") (hm : X.mg "enumerate" = none) (ha : PA X [e] ta) (hs : starEach [e] X.env = [(false, eval e X.env)]) :
    PI X (.Tuple elts kk tpos) (.Call (.Name "enumerate" p) [e] [] pos) (fun σ H R => ta σ H fun vs H1 => ∃ a, vs = [.ref a] ∧ (((∃ xs, SqL X.K H1 a xs) ∧ R (Ite X.K a) H1) ∨ ((∃ xs, SqT X.K H1 a xs) ∧ R (ItE X.K a) H1))) := by
  refine ⟨fun pins s σ H R I h => Call_ (ld_blt I hg hm boot_enumerate (PyProof.Rows.callWith_type1 (thn (ha.run pos pins s σ H _ I h) fun us s1 ⟨vs, H1, I1, r1, a, ex, q⟩ => ?_) hs rfl))⟩
  subst ex
  rw [Vals.ref1 r1]
  have stand : ∀ b, b ∈ [s1.heap.objs.size + 1, s1.heap.objs.size] → FpOk X pins H1 b := fun b hb => by
    have hle : s1.heap.objs.size ≤ b := by
      rcases (show b = s1.heap.objs.size + 1 ∨ b = s1.heap.objs.size by simpa using hb) with z | z <;> omega
    exact I1.fpOk hle (I1.hok.fresh hle)
  rcases q with ⟨⟨xs, hq⟩, q⟩ | ⟨⟨xs, hq⟩, q⟩
  · obtain ⟨its, rv, p', hz⟩ := I1.list hq
    refine call_enumerate_list p'.isList fun h' he hit hsz hk => wpAny_pyIter_enum he ?_
    exact ⟨_, [s1.heap.objs.size + 1, s1.heap.objs.size], _, _, H1, rfl, I1.kept (t' := s1.toks) hk, turn_enum a (s1.heap.objs.size + 1) s1.heap.objs.size, ⟨⟨.none, he⟩, hit, Nat.succ_ne_self _⟩, stand, q⟩
  · obtain ⟨its, rv, p', hz⟩ := I1.tuple hq
    have pT : s1.heap.IsTuple a its.toArray := p'
    have la : a < s1.heap.objs.size := by
      obtain ⟨o, e, _⟩ := pT
      exact Heap.lt_size e
    refine rx_enum_call (begins_tuple a its.toArray) pT fun h' he hit hsz hk => wpAny_pyIter_enum he ?_
    exact ⟨_, [s1.heap.objs.size + 1, s1.heap.objs.size], _, _, H1, rfl, I1.kept (t' := s1.toks) hk, turnE a (s1.heap.objs.size + 1) s1.heap.objs.size, ⟨⟨.none, he⟩, IsTupleIter.new hit, Nat.succ_ne_self _, Nat.ne_of_lt (Nat.lt_succ_of_lt la), Nat.ne_of_lt la⟩, stand, q⟩
end
section
variable {X : Cx} {P : Par} {W : WX} {nm : Nm} {n : Nat} {call : Nat → List Vl → M Vl} {gl : Nat → Option GV} {sc : Scope} {hot : Bool}
/-- the rules' shape -/
structure SI (X : Cx) (P : Par) (W : WX) (call : Nat → List Vl → M Vl) (gl : Nat → Option GV) (s : Sr) (b : Bool) (tg it : Expr) : Prop where
  pi : PI X tg it (TM P W (evR call gl s b) (rW P b))
  fs : ∀ x, foldedSetIterable it X.env x = pure x
theorem TM.dM {γ δ : Type} {RR : RRT δ γ} {σ : L2.St} {H : Hp} (mo : Mono RR) {RR1 : RRT V Vl} {m : EnvD → M Vl} {k : EnvD → D → M γ} {Q : δ → Hp → Prop} (h : TM P W (fun env => M.bind (m env) fun v => M.bind (asD v) (k env)) RR σ H Q) :
    TM P W m RR1 σ H fun v H1 => ∃ g env c d, Rel P g env c σ H1 ∧ RR1 H g H1 v (.d d) ∧ Aft P W σ g env H1 (k env d c) RR Q := by
  refine (TM.bind2 (RR1 := RR1) mo h).imp fun v H1 ⟨g, env, c, a, r, b, af⟩ => ?_
  cases a with
  | d d => exact ⟨g, env, c, d, r, b, af⟩
  | c i => exact af.elim
/-- a list or a tuple that is walked -/
theorem seqV {b : Bool} {RR1 : RRT V Vl} (md : Md P b RR1) {g : Gh} {H H0 : Hp} {v : V} {d : D} {xs : List D} (hd : d.items = some xs) (hb : RR1 H0 g H v (.d d)) (s : Sub g.F H) :
    ∃ a, v = .ref a ∧ ((∃ vs, SqL P.K H a vs ∧ RepL P.K g.F vs xs ∧ (Rd g.F a (.lst vs) ∨ (b = true ∧ H a = some (.lst vs) ∧ a ∉ g.ca))) ∨ ∃ vs, SqT P.K H a vs ∧ RepL P.K g.F vs xs ∧ SqT P.K g.F a vs) := by
  have rep : ∀ {v : V}, Rep P.K g.F v d → ∃ a, v = .ref a ∧ ((∃ vs, SqL P.K H a vs ∧ RepL P.K g.F vs xs ∧ (Rd g.F a (.lst vs) ∨ (b = true ∧ H a = some (.lst vs) ∧ a ∉ g.ca))) ∨ ∃ vs, SqT P.K H a vs ∧ RepL P.K g.F vs xs ∧ SqT P.K g.F a vs) := fun {v} h => by
    cases d <;> first | cases hd | skip
    · obtain ⟨a, vs, e, h1, h2⟩ := h.ofLst
      exact ⟨a, e, .inl ⟨vs, .inl (Rd.mono s h1), h2, .inl h1⟩⟩
    · obtain ⟨a, vs, e, h1, h2⟩ := h.ofTup
      exact ⟨a, e, .inr ⟨vs, SqT.mono s h1, h2, h1⟩⟩
  cases md with
  | e => exact rep hb
  | b =>
    rcases hb with hb | ⟨a, vs, ds, h1, h2, h3, h4, h5⟩
    · exact rep hb
    · cases h2
      cases hd
      exact ⟨a, h1, .inl ⟨vs, .inl (.inl h3), h4, .inr ⟨rfl, h3, h5⟩⟩⟩
theorem si_seq (ok : XOk X P W nm n call gl sc hot) {e : E} {x tg : Expr} {b : Bool} {RR1 : RRT V Vl} (md : Md P b RR1) (he : SE X P W call gl e x) (hs : notSet x = true) : SI X P W call gl (.seq e) b tg x := by
  refine ⟨⟨fun pins s σ H R I q => (pi_seq (he.md md)).run pins s σ H R I ?_⟩, fun y => by cases x <;> first | rfl | cases hs⟩
  rw [evR_seq] at q
  refine (TM.dM (RR1 := RR1) mono_rW q).imp fun v H1 ⟨g, env, c, d, r, hb, af⟩ => ?_
  cases hd : d.items with
  | none => rw [hd] at af; exact af.elim
  | some xs =>
    rw [hd] at af
    obtain ⟨a, e1, h⟩ := seqV md hd hb r.sub
    rw [← ok.K]
    rcases h with ⟨vs, h1, h2, h3⟩ | ⟨vs, h1, h2, h3⟩
    · exact ⟨a, e1, .inl ⟨⟨vs, h1⟩, af g H1 _ .refl r (wk_lst h2 h3)⟩⟩
    · exact ⟨a, e1, .inr ⟨⟨vs, h1⟩, af g H1 _ .refl r (wk_tup h2 h3)⟩⟩
theorem star1 {e : Expr} {env : PySem.Env} (h : PySem.W.isStarred e = false) : starEach [e] env = [(false, eval e env)] := by rw [starOk h]; rfl
theorem si_enum (ok : XOk X P W nm n call gl sc hot) {e : E} {x : Expr} {p q tp : Pos} {es : List Expr} {k : Nat} {b : Bool} {RR1 : RRT V Vl} (md : Md P b RR1) (hg : glB sc "enumerate" = true) (he : SE X P W call gl e x) (hs : PySem.W.isStarred x = false) :
    SI X P W call gl (.enum e) b (.Tuple es k tp) (.Call (.Name "enumerate" q) [x] [] p) := by
  obtain ⟨gx, hd, hnm⟩ := gl_of ok hg
  refine ⟨⟨fun pins s σ H R I q => (pi_en gx (ok.blt _ (by decide)) (pa_cons (he.md md) pa_nil (starOk hs)) (star1 hs)).run pins s σ H R I ?_⟩, fun y => rfl⟩
  rw [evR_enum] at q
  refine (TM.dM (RR1 := RR1) mono_rW q).imp fun v H1 ⟨g, env, c, d, r, hb, af⟩ => ?_
  cases hd : d.items with
  | none => rw [hd] at af; exact af.elim
  | some xs =>
    rw [hd] at af
    obtain ⟨a, e1, h⟩ := seqV md hd hb r.sub
    rw [← ok.K]
    rcases h with ⟨vs, h1, h2, h3⟩ | ⟨vs, h1, h2, h3⟩
    · exact ⟨a, by rw [e1], .inl ⟨⟨vs, h1⟩, af g H1 _ .refl r (wk_enL h2 h3)⟩⟩
    · exact ⟨a, by rw [e1], .inr ⟨⟨vs, h1⟩, af g H1 _ .refl r (wk_enT h2 h3)⟩⟩
theorem si_chars (ok : XOk X P W nm n call gl sc hot) {e : E} {x tg : Expr} {b : Bool} (he : SE X P W call gl e x) (hs : notSet x = true) : SI X P W call gl (.chars e) b tg x := by
  refine ⟨⟨fun pins s σ H R I q => (pi_str he.pb).run pins s σ H R I ?_⟩, fun y => by cases x <;> first | rfl | cases hs⟩
  rw [evR_chars] at q
  refine (TM.d1 mono_rW q).imp fun v H1 ⟨g, env, c, d, r, hb, af⟩ => ?_
  cases d <;> first | exact af.elim | skip
  rename_i t
  exact ⟨_, hb.rep.ofStr, af g H1 _ .refl r (wk_str t)⟩
theorem rngOk_of {j : Int} (h : rngOk j = true) : -(2 ^ 62) ≤ j ∧ j < 2 ^ 62 := by
  have e : (2 : Int) ^ 62 = 4611686018427387904 := by decide
  unfold rngOk at h
  rw [decide_eq_true_eq] at h
  rw [e]
  omega
theorem si_rng1 (ok : XOk X P W nm n call gl sc hot) {e : E} {x tg : Expr} {p q : Pos} {b : Bool} (hg : glB sc "range" = true) (he : SE X P W call gl e x) (hs : PySem.W.isStarred x = false) : SI X P W call gl (.rng1 e) b tg (.Call (.Name "range" q) [x] [] p) := by
  obtain ⟨gx, hd, hnm⟩ := gl_of ok hg
  refine ⟨⟨fun pins s σ H R I q => (pi_range1 gx (ok.blt _ (by decide)) (pa_cons he.pb pa_nil (starOk hs)) (star1 hs)).run pins s σ H R I ?_⟩, fun y => rfl⟩
  rw [evR_rng1] at q
  refine (TM.d1 mono_rW q).imp fun v H1 ⟨g, env, c, d, r, hb, af⟩ => ?_
  cases d <;> first | exact af.elim | skip
  rename_i j
  dsimp only at af
  split at af
  · rename_i hj
    exact ⟨j, by rw [hb.rep.ofInt], (rngOk_of hj).1, (rngOk_of hj).2, af g H1 _ .refl r (wk_rng 0 _)⟩
  · exact af.elim
theorem si_rng2 (ok : XOk X P W nm n call gl sc hot) {e f : E} {x y tg : Expr} {p q : Pos} {b : Bool} (hg : glB sc "range" = true) (he : SE X P W call gl e x) (hf : SE X P W call gl f y) (hs : PySem.W.isStarred x = false) (hs2 : PySem.W.isStarred y = false) :
    SI X P W call gl (.rng2 e f) b tg (.Call (.Name "range" q) [x, y] [] p) := by
  obtain ⟨gx, hd, hnm⟩ := gl_of ok hg
  refine ⟨⟨fun pins s σ H R I q => (pi_range2 gx (ok.blt _ (by decide)) (pa_cons he.pb (pa_cons hf.pb pa_nil (starOk hs2)) (starOk hs)) (by rw [starOk hs, star1 hs2]) (star1 hs2)).run pins s σ H R I ?_⟩, fun y => rfl⟩
  rw [evR_rng2] at q
  refine (TM.d2 mono_rW q).imp fun v H1 q1 => q1.imp fun u H2 ⟨g, env, c, d, d2, r, hb, hb2, af⟩ => ?_
  cases d <;> cases d2 <;> first | exact af.elim | skip
  rename_i i j
  dsimp only at af
  split at af
  · rename_i hj
    rw [Bool.and_eq_true] at hj
    exact ⟨i, j, by rw [hb.rep.ofInt, hb2.rep.ofInt], ⟨(rngOk_of hj.1).1, (rngOk_of hj.1).2, (rngOk_of hj.2).1, (rngOk_of hj.2).2⟩, af g H2 _ .refl r (wk_rng i _)⟩
  · exact af.elim
end
end RX
end
section -- Rx13
namespace RX
open PySem PySem.Spec PyProof.Rows L2
section
variable {P : Par} {g : Gh} {env : EnvD} {c : Cells} {σ : L2.St} {H : Hp}
theorem look_set {env : EnvD} {i j : Nat} {x : Sl} : EnvD.look (env.set i x) j = if i = j ∧ i < env.length then x else env.look j := by
  unfold EnvD.look
  rw [List.getD_eq_getElem?_getD, List.getD_eq_getElem?_getD, List.getElem?_set]
  by_cases h : i = j
  · subst h
    by_cases h2 : i < env.length
    · simp [h2]
    · simp [h2]
  · simp [h]
theorem look_len {env : EnvD} {i : Nat} (h : env.length ≤ i) : env.look i = .no := by
  unfold EnvD.look
  rw [List.getD_eq_getElem?_getD, List.getElem?_eq_none h]
  rfl
/-- a name is set -/
theorem Rel.set1 (r : Rel P g env c σ H) (i : Nat) {u : Option V} {x : Sl} (h : i < σ.length → SlotR P g H (some u) x) (ho : ∀ xs, x ≠ .own xs) : Rel P g (env.set i x) c (σ.set i u) H := by
  refine ⟨r.toCRel, fun j => ?_, fun j k xs ys a hjk h1 h2 h3 h4 => ?_, by rw [List.length_set, List.length_set]; exact r.elen⟩
  · rw [look_set]
    by_cases hij : i = j ∧ i < env.length
    · rw [if_pos hij]
      obtain ⟨e, hl⟩ := hij
      subst e
      have hl2 : i < σ.length := Nat.lt_of_lt_of_le hl r.elen
      rw [List.getElem?_set_self hl2]
      exact h hl2
    · rw [if_neg hij]
      by_cases e : i = j
      · subst e
        have : env.length ≤ i := by
          have := fun q => hij ⟨rfl, q⟩
          omega
        rw [look_len this]
        trivial
      · rw [List.getElem?_set_ne e]
        exact r.slot j
  · rw [look_set] at h1 h2
    split at h1
    · exact ho _ h1
    · split at h2
      · exact ho _ h2
      · rename_i n1 n2
        have get : ∀ {m : Nat} {zs : List D}, env.look m = .own zs → ¬(i = m ∧ i < env.length) → (σ.set i u)[m]? = σ[m]? := fun {m zs} e n => by
          by_cases q : i = m
          · subst q
            have : env.length ≤ i := by
              have := fun q => n ⟨rfl, q⟩
              omega
            rw [look_len this] at e
            cases e
          · rw [List.getElem?_set_ne q]
        rw [get h1 n1] at h3
        rw [get h2 n2] at h4
        exact r.dis j k xs ys a hjk h1 h2 h3 h4
theorem Rel.setV (r : Rel P g env c σ H) (i : Nat) {v : V} {x : Vl} (h : RV P g v x) : Rel P g (env.set i (.v x)) c (σ.set i (some v)) H :=
  r.set1 i (fun _ => ⟨v, rfl, h⟩) (fun _ => by simp)
theorem Rel.setNo (r : Rel P g env c σ H) (i : Nat) (u : Option V) : Rel P g (env.set i .no) c (σ.set i u) H :=
  r.set1 i (fun _ => trivial) (fun _ => by simp)
theorem Rel.wipe (r : Rel P g env c σ H) : ∀ vs : List Nat, Rel P g (wipeE env vs) c (L2.wipe σ vs) H
  | [] => r
  | v :: vs => (Rel.wipe r vs).setNo v none
def setsV (σ : L2.St) (is : List Nat) (vs : List V) : L2.St := (is.zip vs).foldl (fun e p => e.set p.1 (some p.2)) σ
theorem Rel.setsV : ∀ {is : List Nat} {vs : List V} {ds : List D} {env : EnvD} {σ : L2.St}, Rel P g env c σ H → RepL P.K g.F vs ds → Rel P g ((is.zip ds).foldl (fun e p => e.set p.1 (.v (.d p.2))) env) c (setsV σ is vs) H
  | [], _, _, _, _, r, _ => by
    unfold RX.setsV
    exact r
  | i :: is, vs, ds, env, σ, r, h => by
    cases h with
    | nil => exact r
    | cons h1 h2 => exact Rel.setsV (is := is) (r.setV i (x := .d _) h1) h2
theorem wipe_get (σ : L2.St) (i : Nat) : ∀ vs : List Nat, (L2.wipe σ vs)[i]? = if i ∈ vs then (σ[i]?).map (fun _ => none) else σ[i]?
  | [] => by simp [L2.wipe]
  | v :: vs => by
    have ih := wipe_get σ i vs
    have hl := wipe_length σ vs
    unfold L2.wipe
    rw [List.getElem?_set, hl]
    by_cases h : v = i
    · subst h
      by_cases h2 : v < σ.length
      · simp [h2]
      · have : σ[v]? = none := List.getElem?_eq_none (by omega)
        simp [h2, this]
    · rw [if_neg h, ih]
      have : i ≠ v := fun e => h e.symm
      simp [this]
theorem setsV_len : ∀ (is : List Nat) (vs : List V) (σ : L2.St), (setsV σ is vs).length = σ.length
  | [], _, _ => rfl
  | i :: is, [], _ => rfl
  | i :: is, v :: vs, σ => by
    show (setsV (σ.set i (some v)) is vs).length = _
    rw [setsV_len is vs, List.length_set]
theorem setsV_get : ∀ (is : List Nat) (vs : List V) (σ : L2.St) (j : Nat), j ∉ is → (setsV σ is vs)[j]? = σ[j]?
  | [], _, _, _, _ => rfl
  | i :: is, [], _, _, _ => rfl
  | i :: is, v :: vs, σ, j, h => by
    show (setsV (σ.set i (some v)) is vs)[j]? = _
    rw [setsV_get is vs _ j (fun q => h (List.mem_cons_of_mem _ q)), List.getElem?_set_ne (fun e => h (by rw [e]; exact List.mem_cons_self))]
theorem wipe_same {σ σ' : L2.St} {vs : List Nat} (hl : σ'.length = σ.length) (h : ∀ j, j ∉ vs → σ'[j]? = (L2.wipe σ vs)[j]?) : L2.wipe σ' vs = L2.wipe σ vs := by
  apply List.ext_getElem?
  intro j
  rw [wipe_get, wipe_get]
  by_cases hj : j ∈ vs
  · rw [if_pos hj, if_pos hj]
    by_cases h2 : j < σ.length
    · rw [List.getElem?_eq_getElem h2, List.getElem?_eq_getElem (by omega)]
      rfl
    · rw [List.getElem?_eq_none (by omega), List.getElem?_eq_none (by omega)]
  · rw [if_neg hj, if_neg hj]
    rw [h j hj, wipe_get, if_neg hj]
end
def tgSet (K : PySem.W.Frag) (F : Hp) : Tg → V → D → L2.St → (L2.St → Prop) → Prop
  | .nm i, v, _, σ, Q => Q (σ.set i (some v))
  | .tp is, _, .tup ds, σ, Q => is.length = ds.length ∧ ∀ vs, RepL K F vs ds → Q (setsV σ is vs)
  | _, _, _, _, _ => False
def gTg (K : PySem.W.Frag) (t : Tg) : TG := fun v σ H Q => ∃ F d, Sub F H ∧ Rep K F v d ∧ tgSet K F t v d σ fun σ' => Q σ' H
section
variable {X : Cx} {P : Par} {W : WX} {nm : Nm} {n : Nat} {call : Nat → List Vl → M Vl} {gl : Nat → Option GV} {sc : Scope} {hot : Bool}
theorem locB_loc (ok : XOk X P W nm n call gl sc hot) {x : Str} (h : locB sc x = true) : L2.Loc X.env.scope x := by
  unfold locB at h
  unfold L2.Loc
  split at h
  · rename_i e
    obtain ⟨k', e1, e2⟩ := ok.scr x _ e
    rcases e2 with e2 | ⟨e2, _⟩
    · exact .inl (by rw [e1, e2])
    · cases e2
  · rename_i e
    obtain ⟨k', e1, e2⟩ := ok.scr x _ e
    rcases e2 with e2 | ⟨e2, _⟩
    · exact .inr (by rw [e1, e2])
    · cases e2
  · cases h
theorem pg_nm (ok : XOk X P W nm n call gl sc hot) {i : Nat} {x : Expr} (h : mTgN nm sc i x = true) : PG X x (gName i) := by
  unfold mTgN at h
  split at h
  · rw [Bool.and_eq_true, decide_eq_true_eq] at h
    exact pg_name (by rw [ok.N]; exact ok.nd) (by rw [ok.N]; exact h.1) (locB_loc ok h.2) (ok.fn _ h.2)
  · cases h
theorem mTgN_name {i : Nat} {x : Expr} (h : mTgN nm sc i x = true) : ∃ y p, x = .Name y p := by
  unfold mTgN at h
  split at h
  · exact ⟨_, _, rfl⟩
  · cases h
theorem assignEach_nm {y : Str} {p : Pos} {es : List Expr} {env : PySem.Env} : assignEach (.Name y p :: es) env = (false, assign (.Name y p) env) :: assignEach es env := rfl
theorem pgs_nms (ok : XOk X P W nm n call gl sc hot) : ∀ {is : List Nat} {es : List Expr}, mTgs nm sc is es = true → PGs X es (fun vs σ H Q => vs.length = is.length ∧ Q (setsV σ is vs) H) ∧ (assignEach es X.env).length = is.length ∧ (assignEach es X.env).findIdx? (·.1) = none
  | [], [], _ => ⟨⟨fun pins s σ H vs us Q I r h => (pgs_nil (X := X)).run pins s σ H vs us Q I r (by
      obtain ⟨h1, h2⟩ := h
      cases vs with
      | nil => exact ⟨rfl, h2⟩
      | cons v vs => simp at h1)⟩, rfl, rfl⟩
  | i :: is, e :: es, h => by
    simp only [mTgs, Bool.and_eq_true] at h
    obtain ⟨p1, p2, p3⟩ := pgs_nms ok h.2
    obtain ⟨y, p, ey⟩ := mTgN_name h.1
    have p0 := pg_nm ok h.1
    subst ey
    refine ⟨⟨fun pins s σ H vs us Q I r hq => (pgs_cons p0 p1 rfl).run pins s σ H vs us Q I r ?_⟩, ?_, ?_⟩
    · obtain ⟨h1, h2⟩ := hq
      cases vs with
      | nil => simp at h1
      | cons v vs => exact ⟨v, vs, rfl, by simpa using h1, h2⟩
    · rw [assignEach_nm, List.length_cons, p2, List.length_cons]
    · rw [assignEach_nm, List.findIdx?_cons, p3]
      rfl
  | [], _ :: _, h => by cases h
  | _ :: _, [], h => by cases h
theorem pg_tg (ok : XOk X P W nm n call gl sc hot) (hc : X.calm = true) {t : Tg} {x : Expr} (h : mTg nm sc t x = true) : PG X x (gTg X.K t) := by
  cases t with
  | nm i =>
    have p := pg_nm ok (show mTgN nm sc i x = true from h)
    exact ⟨fun pins s σ H v u Q I r ⟨F, d, _, _, q⟩ => p.run pins s σ H v u Q I r q⟩
  | tp is =>
    cases x <;> first | cases h | skip
    rename_i es k p
    obtain ⟨p1, p2, p3⟩ := pgs_nms ok (show mTgs nm sc is es = true from h)
    have pt := pg_tup (pos := p) (k := k) hc p1 p2 p3
    refine ⟨fun pins s σ H v u Q I r ⟨F, d, s1, rep, q⟩ => pt.run pins s σ H v u Q I r ?_⟩
    cases d <;> first | exact q.elim | skip
    rename_i ds
    obtain ⟨q1, q2⟩ := q
    obtain ⟨a, vs, e, h1, h2⟩ := rep.ofTup
    have hl := h2.length
    exact ⟨a, vs, e, SqT.mono s1 h1, by omega, by omega, q2 vs h2⟩
/-- the names behind a target -/
theorem tg_rel {t : Tg} {g : Gh} {env env' : EnvD} {c : Cells} {σ : L2.St} {H : Hp} {v : V} {d : D} {Q : L2.St → Prop} (r : Rel P g env c σ H) (h : Rep P.K g.F v d) (e : t.bind d env = some env')
    (q : ∀ σ', Rel P g env' c σ' H → σ'.length = σ.length → (∀ j, j ∉ t.slots → σ'[j]? = σ[j]?) → Q σ') : tgSet P.K g.F t v d σ Q := by
  cases t with
  | nm i =>
    cases e
    exact q _ (r.setV i h) (by rw [List.length_set]) fun j hj => by
      rw [List.getElem?_set_ne (fun e => hj (by rw [e]; exact List.mem_cons_self))]
  | tp is =>
    cases d <;> first | cases e | skip
    rename_i ds
    have e : (if is.length = ds.length then some ((is.zip ds).foldl (fun e p => e.set p.1 (.v (.d p.2))) env) else none) = some env' := e
    by_cases hl : is.length = ds.length
    · rw [if_pos hl] at e
      cases e
      exact ⟨hl, fun vs hv => q _ (r.setsV hv) (setsV_len _ _ _) fun j hj => setsV_get _ _ _ _ hj⟩
    · rw [if_neg hl] at e
      cases e
theorem M.bind_ok {α β : Type} {m : M α} {k : α → M β} {b : β} {c c' : Cells} (h : M.bind m k c = .ok b c') : ∃ a c1, m c = .ok a c1 ∧ k a c1 = .ok b c' := by
  unfold M.bind at h
  cases e : m c with
  | ok a c1 => rw [e] at h; exact ⟨a, c1, rfl, h⟩
  | exc _ _ _ => rw [e] at h; cases h
  | stuck => rw [e] at h; cases h
theorem M.opt_ok {α : Type} {o : Option α} {a : α} {c c' : Cells} (h : M.opt o c = .ok a c') : o = some a ∧ c' = c := by
  cases o with
  | none => cases h
  | some b => cases h; exact ⟨rfl, rfl⟩
theorem asD_ok {v : Vl} {d : D} {c c' : Cells} (h : asD v c = .ok d c') : v = .d d ∧ c' = c := by
  cases v with
  | d x => cases h; exact ⟨rfl, rfl⟩
  | c i => cases h
section
variable {γ δ : Type} {RR : RRT δ γ} {σ : L2.St} {H : Hp} {g : Gh} {env : EnvD} {c : Cells} {Q : δ → Hp → Prop}
theorem Aft.calm {α : Type} {m : M α} {k : α → M γ} (h : Aft P W σ g env H (M.bind (M.calm m) k c) RR Q) : ∃ a c', m c = .ok a c' ∧ Aft P W σ g env H (k a c') RR Q := by
  unfold M.bind M.calm at h
  cases e : m c with
  | ok a c' => rw [e] at h; exact ⟨a, c', rfl, h⟩
  | exc _ _ _ => rw [e] at h; exact h.elim
  | stuck => rw [e] at h; exact h.elim
end
/-- a result that is there -/
theorem TM.ok {α β : Type} {m : EnvD → M α} {RR : RRT β α} {g : Gh} {env : EnvD} {c c' : Cells} {σ : L2.St} {H : Hp} {a : α} {Q : β → Hp → Prop} (r : Rel P g env c σ H) (e : m env c = .ok a c')
    (q : ∀ g' H' v, Ext g H g' H' → Rel P g' env c' σ H' → RR H g' H' v a → Q v H') : TM P W m RR σ H Q := ⟨g, env, c, r, by rw [e]; exact q⟩
theorem Ext.updD {g1 g : Gh} {H1 H : Hp} {D : Addr} {o : HO} (e : Ext g1 H1 g H) (h : H1 D = none) : Ext g1 H1 g (upd H D o) :=
  ⟨e.F, e.ca, fun a u h1 h2 => by rw [upd_ne (fun z => by subst z; rw [h] at h1; cases h1)]; exact e.keep a u h1 h2, e.nF, e.nC, fun a h1 => by
    by_cases z : a = D
    · subst z; exact absurd h h1
    · rw [upd_ne z]; exact e.dom a h1⟩
theorem CRel.updD {g : Gh} {c : Cells} {H : Hp} {D : Addr} {o : HO} (r : CRel P g c H) (h1 : g.F D = none) (h2 : D ∉ g.ca) : CRel P g c (upd H D o) :=
  ⟨fun a u h => by rw [upd_ne (fun z => by subst z; rw [h1] at h; cases h)]; exact r.sub a u h, r.clen, r.cnd, fun k a xs e1 e2 => by
    obtain ⟨vs, q1, q2, q3⟩ := r.cell k a xs e1 e2
    exact ⟨vs, by rw [upd_ne (fun z => by subst z; exact h2 (List.mem_of_getElem? e1))]; exact q1, q2, q3⟩⟩
end
end RX
end
section -- Rx14
namespace RX
open PySem PySem.Spec PyProof.Rows L2
section
variable {X : Cx} {P : Par} {W : WX} {nm : Nm} {n : Nat} {call : Nat → List Vl → M Vl} {gl : Nat → Option GV} {sc : Scope} {hot : Bool}
abbrev noW : WX := fun _ _ _ _ => False
theorem relS_look {sc scope : Scope} : ScR (relS scope sc) scope := by
  intro x k h
  cases hk : k with
  | free =>
    subst hk
    unfold relS
    show ∃ k', (scope.names.map _).lookup x = some k' ∧ _
    generalize scope.names = l at h ⊢
    induction l with
    | nil => cases h
    | cons y r ih =>
      obtain ⟨z, kz⟩ := y
      rw [List.lookup_cons] at h
      cases hx : x == z with
      | true =>
        rw [hx] at h
        cases h
        simp only [List.map_cons]
        by_cases hc : (NameKind.free == NameKind.free && sc.kind == .function && sc.names.lookup z == some .cell) = true
        · rw [if_pos hc, List.lookup_cons, hx]
          exact ⟨_, rfl, .inr (by simp)⟩
        · rw [if_neg hc, List.lookup_cons, hx]
          exact ⟨_, rfl, .inl rfl⟩
      | false =>
        rw [hx] at h
        obtain ⟨k', e1, e2⟩ := ih h
        simp only [List.map_cons]
        refine ⟨k', ?_, by simpa using e2⟩
        split <;> (rw [List.lookup_cons, hx]; exact e1)
  | _ =>
    subst hk
    exact ⟨_, lookup_relS_keep (sc := sc) (by simp) h, .inl rfl⟩
theorem XOk.blk (ok : XOk X P W nm n call gl sc hot) (hh : hot = false) (s : Shared) (H : Hp) (scope : Scope) (C : Addr) (cl : List (Str × Addr)) (fp : List Addr) : XOk (X.blk s H scope (compEnvC scope cl C X.env) fp) P noW nm n call gl scope hot where
  K := ok.K
  N := ok.N
  nd := ok.nd
  scr := relS_look
  fn := fun x h => by
    unfold locB at h
    split at h
    · rename_i e
      obtain ⟨k', e1, e2⟩ := relS_look (sc := X.env.scope) x _ e
      rcases e2 with e2 | ⟨e2, _⟩
      · exact .inr (by rw [← e2]; exact e1)
      · cases e2
    · rename_i e
      exact .inl (by show (scope.names.lookup x == some .cell) = true; rw [e]; rfl)
    · cases h
  guards := ok.guards
  units := ok.units
  calm := ok.calm
  room := ok.room
  takes := fun u s' ⟨_, _, _, _, _, _, _, _, _, _, _, _, _, _, _, _, h⟩ => h.elim
  fns := ok.fns
  blt := ok.blt
  exa := ok.exa
  xnd := ok.xnd
  xfn := ok.xfn
  xf := fun a cls d h => by
    rw [ok.exa hh] at h
    cases h
  gts := ok.gts
  gls := ok.gls
theorem blk_rel (ok : XOk X P W nm n call gl sc hot) {scope : Scope} {own : List (Str × Nat)} (h : blkC nm.N sc scope own = true) : BlkOk X.N X.env.scope scope own := by
  have b := blkOk_by h
  rw [← ok.N] at b
  refine ⟨b.kind, b.uniq, b.ix, fun y hy e => ?_, b.own⟩
  rcases b.free y hy e with q | q
  · obtain ⟨k', e1, e2⟩ := ok.scr _ _ q
    rcases e2 with e2 | ⟨e2, _⟩
    · exact .inl (by rw [e1, e2])
    · cases e2
  · obtain ⟨k', e1, e2⟩ := ok.scr _ _ q
    rcases e2 with e2 | ⟨_, e2⟩
    · exact .inr (by rw [e1, e2])
    · exact .inl (by rw [e1, e2])
theorem pts_of {c : Oe} {ifs : List Expr} (h : (c = .no ∧ ifs = []) ∨ ∃ e x, c = .yes e ∧ ifs = [x] ∧ SE X P W call gl e x) : PTs X ifs (TM P W (evC call gl c) rTru) := by
  rcases h with ⟨e1, e2⟩ | ⟨e, x, e1, e2, h⟩
  · subst e1 e2
    exact ⟨fun pins s σ H Q I q => (pts_nil (X := X)).run pins s σ H Q I (by
      obtain ⟨g, env, c, r, af⟩ := q
      exact af g H true .refl r rfl)⟩
  · subst e1 e2
    exact ⟨fun pins s σ H Q I q => (pts_one h.pt).run pins s σ H Q I (by rw [evC_yes] at q; exact q)⟩
/-- one turn's outcome -/
def lcF (call : Nat → List Vl → M Vl) (gl : Nat → Option GV) (t : Tg) (c : Oe) (e : E) (env : EnvD) (x : D) : M (Option D) :=
  M.bind (M.opt (t.bind x (wipeE env t.slots))) fun env' => M.bind (evC call gl c env') fun k => if k then M.bind (ev call gl e false env') fun v => M.bind (asD v) fun v => M.pure (some v) else M.pure none
theorem lcRun_noexc {f : D → M (Option D)} : ∀ {xs : List D} {c c' : Cells} {k : Nat} {ds : List D}, lcRun f xs c ≠ .exc k ds c'
  | [], _, _, _, _ => fun h => by cases h
  | x :: xs, c, c', k, ds => fun h => by
    unfold lcRun M.bind M.calm at h
    cases e : f x c with
    | exc _ _ _ => rw [e] at h; cases h
    | stuck => rw [e] at h; cases h
    | ok o c1 =>
      rw [e] at h
      dsimp only at h
      cases e2 : lcRun f xs c1 with
      | exc _ _ _ => exact lcRun_noexc e2
      | stuck => rw [e2] at h; cases h
      | ok zs c2 => rw [e2] at h; cases h
theorem lc_len {RR : RRT V Vl} {σ : L2.St} {H : Hp} {g : Gh} {env : EnvD} {c : Cells} {Q : VK} {f : D → M (Option D)} {xs ys : List D} {y : D}
    (af : Aft P W σ g env H (M.bind (lcRun f xs) (fun zs => (fun zs => if (ys ++ zs).length ≤ szLine then (M.pure (.d (.lst (ys ++ zs))) : M Vl) else M.fail) (y :: zs)) c) RR Q) : ys.length < szLine := by
  unfold M.bind at af
  cases e : lcRun f xs c with
  | exc _ _ _ => exact (lcRun_noexc e).elim
  | stuck => rw [e] at af; exact af.elim
  | ok zs c2 =>
    rw [e] at af
    dsimp only at af
    split at af
    · rename_i h
      simp at h
      omega
    · exact af.elim
theorem lc_imp (ok : XOk X P W nm n call gl sc hot) {t : Tg} {s : Sr} {c : Oe} {e : E} {m : Bool} {RR : RRT V Vl} (go : Good P RR) {σ : L2.St} {H : Hp} {Q : VK} (q : TM P W (ev call gl (.lc t s c e) m) RR σ H Q) :
    tLc (TM P W (evR call gl s true) (rW P true)) (gTg X.K t) (TM P noW (evC call gl c) rTru) (TM P noW (ev call gl e false) (rV P)) t.slots σ H Q := by
  obtain ⟨g0, env, c0, r0, af⟩ := q
  rw [ev_lc] at af
  refine (Aft.step (RR1 := rW P true) (m := evR call gl s true) go.mono af r0).imp fun J H1 ⟨g1, c1, xs, e1, r1, wk, af⟩ => ?_
  have wk : Wk P true J g1 H1 xs := wk
  have af : Aft P W σ g1 env H1 (M.bind (lcRun (lcF call gl t c e env) xs) (fun ys => if ys.length ≤ szLine then M.pure (.d (.lst ys)) else M.fail) c1) RR Q := af
  intro D hD
  let Inn : Nat → Hp → Prop := fun i H => ∃ g cc acc ys, Ext g1 H1 g H ∧ CRel P g cc H ∧ H D = some (.lst acc) ∧ g.F D = none ∧ D ∉ g.ca ∧ RepL P.K g.F acc ys ∧
    Aft P W σ g1 env H1 (M.bind (lcRun (lcF call gl t c e env) (xs.drop i)) (fun zs => if (ys ++ zs).length ≤ szLine then M.pure (.d (.lst (ys ++ zs))) else M.fail) cc) RR Q
  refine ⟨fun i m H => m = xs.length - i ∧ i ≤ xs.length ∧ Inn i H, ⟨xs.length, by simp, Nat.zero_le _, g1, c1, [], [], Ext.alloc hD, r1.toCRel.alloc hD, upd_same, r1.sub.none hD, fun h => r1.toCRel.ne hD h rfl, .nil, by simpa using af⟩, ?_⟩
  rintro i m H2 ⟨rfl, hi, g, cc, acc, ys, ex, cr, hDl, hDF, hDc, hacc, af⟩
  have hrel : Rel P g env cc σ H2 := r1.ext ex cr
  have hW : ExtW true g1 H1 g H2 := ⟨ex.F, cr.sub, fun _ a o h1 h2 => ex.keep a o h1 h2⟩
  obtain ⟨w1, w2, w3⟩ := wk g H2 hW
  by_cases hlt : i < xs.length
  · refine .inr ⟨w1 i hlt, Inn (i + 1), fun H' h' => ⟨xs.length - (i + 1), by omega, rfl, hlt, h'⟩, fun v H3 hy => ?_⟩
    rw [List.drop_eq_getElem_cons hlt] at af
    have hxi : xs[i]? = some xs[i] := List.getElem?_eq_getElem hlt
    generalize xs[i] = xd at af hxi
    -- the item
    have item : ∃ g2, Ext g H2 g2 H3 ∧ CRel P g2 cc H3 ∧ Rep P.K g2.F v xd := by
      rcases w3 i xd v H3 hxi hy with ⟨q1, q2⟩ | ⟨T, vs, ds, q1, q2, q3, q4, q5⟩
      · subst q1; exact ⟨g, .refl, cr, q2⟩
      · subst q1 q2 q4
        exact ⟨_, Ext.allocF q3 cr.sub, cr.allocF q3, .tup (.inl (.inl upd_same)) (q5.mono (sub_new (cr.sub.none q3)))⟩
    obtain ⟨g2, ex2, cr2, rep⟩ := item
    have rw2 : Rel P g2 (wipeE env t.slots) cc (L2.wipe σ t.slots) H3 := (hrel.ext ex2 cr2).wipe t.slots
    -- the turn's outcome
    have af : Aft P W σ g1 env H1 (M.bind (M.calm (lcF call gl t c e env xd)) (fun o => M.bind (lcRun (lcF call gl t c e env) (xs.drop (i + 1))) fun zs => (fun zs => if (ys ++ zs).length ≤ szLine then M.pure (.d (.lst (ys ++ zs))) else M.fail) (match o with | some y => y :: zs | none => zs)) cc) RR Q := by
      have := af
      simp only [lcRun, M.assoc] at this
      exact this
    obtain ⟨o, cE, eo1, af⟩ := af.calm
    unfold lcF at eo1
    obtain ⟨env', cA, eA, eo2⟩ := M.bind_ok eo1
    obtain ⟨eb, hcA⟩ := M.opt_ok eA
    rw [hcA] at eo2
    obtain ⟨k, cB, ek, eo⟩ := M.bind_ok eo2
    clear eo1 eo2 eA
    refine ⟨g2.F, xd, cr2.sub, by rw [← ok.K]; exact rep, ?_⟩
    rw [← ok.K]
    refine tg_rel rw2 rep eb fun σ' r' hl' hj' => ⟨wipe_same (by rw [hl', wipe_length]) hj', ?_⟩
    refine TM.ok r' ek fun g3 H4 k' ex3 r3 (hk : k' = k) => ?_
    subst hk
    cases k' with
    | false =>
      rw [if_neg (by simp)] at eo ⊢
      cases eo
      have h4 := ex3.keep D _ (ex2.keep D _ hDl hDc) (ex2.nC D (by rw [hDl]; simp) hDc)
      refine ⟨g3, cE, acc, ys, (ex.trans ex2).trans ex3, r3.toCRel, h4, ?_, ?_, (hacc.mono ex2.F).mono ex3.F, af⟩
      · exact ex3.nF D (by rw [ex2.keep D _ hDl hDc]; simp) (ex2.nF D (by rw [hDl]; simp) hDF)
      · exact ex3.nC D (by rw [ex2.keep D _ hDl hDc]; simp) (ex2.nC D (by rw [hDl]; simp) hDc)
    | true =>
      rw [if_pos rfl] at eo ⊢
      obtain ⟨vl, cC, ev1, eo⟩ := M.bind_ok eo
      obtain ⟨yd, cC', ev2, eo⟩ := M.bind_ok eo
      obtain ⟨rfl, rfl⟩ := asD_ok ev2
      cases eo
      refine TM.ok r3 ev1 fun g4 H5 y ex4 r4 hy => ?_
      have hy : Rep P.K g4.F y yd := hy
      have ex23 := ex2.trans ex3
      have ex24 := ex23.trans ex4
      have h4 := ex24.keep D _ hDl hDc
      have nF := ex24.nF D (by rw [hDl]; simp) hDF
      have nC := ex24.nC D (by rw [hDl]; simp) hDc
      have hacc4 := hacc.mono ex24.F
      have hlen : acc.length < sizeLine := by
        rw [hacc.length, line_eq]
        exact lc_len af
      refine ⟨acc, h4, hlen, g4, cE, acc ++ [y], ys ++ [yd], (ex.trans ex24).updD hD, r4.toCRel.updD nF nC, upd_same, nF, nC, hacc4.append (.cons hy .nil), ?_⟩
      simpa using af
  · have hie : i = xs.length := by omega
    subst hie
    refine .inl ⟨w2, ?_⟩
    rw [List.drop_length] at af
    have af : Aft P W σ g1 env H1 ((if (ys ++ []).length ≤ szLine then M.pure (.d (.lst (ys ++ []))) else M.fail : M Vl) cc) RR Q := af
    rw [List.append_nil] at af
    split at af
    · obtain ⟨g', ex', r', hr'⟩ := go.close g1 H1 g env cc σ H2 D acc ys ex hD hrel hDl hDF hDc (fun j a zs q1 q2 q3 => by
        subst q3
        have := r1.slot j
        rw [q1] at this
        obtain ⟨b, vs, h1, h2, _⟩ := this
        rw [q2] at h1
        cases h1
        rw [hD] at h2
        cases h2) hacc
      exact af g' H2 _ ex' r' hr'
    · exact af.elim
theorem se_lc (ok : XOk X P W nm n call gl sc hot) (hh : hot = false) {t : Tg} {s : Sr} {c : Oe} {e : E} {x tg it : Expr} {ifs : List Expr} {sc2 : Scope} {p : Pos} (hr : SI X P W call gl s true tg it) (hb : blkC nm.N sc sc2 (ownOf nm.N t.slots) = true) (hsl : (ownOf nm.N t.slots).map (·.2) = t.slots)
    (mt : mTg nm sc2 t tg = true) (hc : ∀ X', XOk X' P noW nm n call gl sc2 hot → PTs X' ifs (TM P noW (evC call gl c) rTru)) (he : ∀ X', XOk X' P noW nm n call gl sc2 hot → SE X' P noW call gl e x) : SE X P W call gl (.lc t s c e) (.ListComp x [⟨tg, it, ifs, 0⟩] sc2 p) := by
  have pe := pe_lc (g := gTg X.K t) (elt := x) (tg := tg) (iter := it) (ifs := ifs) (pos := p) (ok.calm hh) (by rw [ok.N]; exact ok.nd) hr.pi (blk_rel ok hb) (fun s H C cl fp => pg_tg (ok.blk hh s H sc2 C cl fp) (ok.calm hh) mt) (fun s H C cl fp => hc _ (ok.blk hh s H sc2 C cl fp)) (fun s H C cl fp => (he _ (ok.blk hh s H sc2 C cl fp)).pe) hr.fs
  rw [hsl] at pe
  exact SE.all ok.K (fun m RR go => pe.imp fun σ H Q q => lc_imp ok go q) (fun _ => rfl)
/-- y = [..] on one line -/
theorem ps_lc (ok : XOk X P W nm n call gl sc hot) (hh : hot = false) {t : Tg} {s : Sr} {c : Oe} {e : E} {x tg it : Expr} {ifs : List Expr} {sc2 : Scope} {p py sp : Pos} {i : Nat} {y : Str} (hy : nm.N[i]? = some y) (hyl : X.env.scope.names.lookup y = some .local)
    (hsw : swapsWith (.ListComp x [⟨tg, it, ifs, 0⟩] sc2 p) (some (.Name y py)) sp.line X.env = pure true) (hr : SI X P W call gl s true tg it) (hb : blkC nm.N sc sc2 (ownOf nm.N t.slots) = true) (hsl : (ownOf nm.N t.slots).map (·.2) = t.slots)
    (mt : mTg nm sc2 t tg = true) (hc : ∀ X', XOk X' P noW nm n call gl sc2 hot → PTs X' ifs (TM P noW (evC call gl c) rTru)) (he : ∀ X', XOk X' P noW nm n call gl sc2 hot → SE X' P noW call gl e x) :
    PS X (.Assign [.Name y py] (.ListComp x [⟨tg, it, ifs, 0⟩] sc2 p) sp) (tAsg (tLc (TM P W (evR call gl s true) (rW P true)) (gTg X.K t) (TM P noW (evC call gl c) rTru) (TM P noW (ev call gl e false) (rV P)) t.slots) (gName i)) := by
  have pe := ps_setLc (g := gTg X.K t) (elt := x) (tg := tg) (iter := it) (ifs := ifs) (pos := p) (spos := sp) (ok.calm hh) (by rw [ok.N]; exact ok.nd) (by rw [ok.N]; exact hy) hyl hsw hr.pi (blk_rel ok hb) (fun s H C cl fp => pg_tg (ok.blk hh s H sc2 C cl fp) (ok.calm hh) mt) (fun s H C cl fp => hc _ (ok.blk hh s H sc2 C cl fp)) (fun s H C cl fp => (he _ (ok.blk hh s H sc2 C cl fp)).pe) hr.fs
  rw [hsl] at pe
  exact pe
end
end RX
end
section -- Rx15
namespace RX
open PySem PySem.Spec PyProof.Rows L2
def keyP (p : Int × Int) : Int := p.1 * 64 + p.2
def bdP (p : Int × Int) : Prop := 0 ≤ p.1 ∧ p.1 < 64 ∧ 0 ≤ p.2 ∧ p.2 < 64
theorem keyP_inj {p q : Int × Int} (hp : bdP p) (hq : bdP q) (h : keyP p = keyP q) : p = q := by
  obtain ⟨a, b⟩ := p
  obtain ⟨c, d⟩ := q
  unfold bdP at hp hq
  unfold keyP at h
  simp only at hp hq h
  have h1 : a = c := by omega
  have h2 : b = d := by omega
  rw [h1, h2]
theorem insU_mem (p x : Int × Int) : ∀ l, x ∈ insU p l ↔ x = p ∨ x ∈ l
  | [] => by simp [insU]
  | q :: r => by
    unfold insU
    split
    · simp
    · split
      · rename_i h
        subst h
        simp
      · rw [List.mem_cons, insU_mem p x r, List.mem_cons]
        constructor <;> (intro h; rcases h with h | h | h <;> simp [h])
theorem sortU_mem (x : Int × Int) : ∀ l, x ∈ sortU l ↔ x ∈ l
  | [] => by simp [sortU]
  | p :: r => by unfold sortU; rw [insU_mem, sortU_mem x r, List.mem_cons]
theorem insU_sorted {p : Int × Int} (hp : bdP p) : ∀ {l : List (Int × Int)}, (∀ q ∈ l, bdP q) → l.Pairwise (fun a b => keyP a < keyP b) → (insU p l).Pairwise (fun a b => keyP a < keyP b)
  | [], _, _ => by simp [insU]
  | q :: r, hb, h => by
    rw [List.pairwise_cons] at h
    unfold insU
    split
    · rename_i hlt
      rw [List.pairwise_cons]
      refine ⟨fun x hx => ?_, List.pairwise_cons.mpr h⟩
      rcases List.mem_cons.mp hx with e | hx
      · subst e; exact hlt
      · exact Int.lt_trans hlt (h.1 x hx)
    · split
      · exact List.pairwise_cons.mpr h
      · rename_i n1 n2
        rw [List.pairwise_cons]
        refine ⟨fun x hx => ?_, insU_sorted hp (fun y hy => hb y (List.mem_cons_of_mem _ hy)) h.2⟩
        rcases (insU_mem p x r).mp hx with e | hx
        · subst e
          have : keyP q ≠ keyP x := fun e => n2 (keyP_inj hp (hb q List.mem_cons_self) e.symm)
          have n1 : ¬ keyP x < keyP q := n1
          omega
        · exact h.1 x hx
theorem sortU_sorted : ∀ {l : List (Int × Int)}, (∀ q ∈ l, bdP q) → (sortU l).Pairwise (fun a b => keyP a < keyP b)
  | [], _ => by simp [sortU]
  | p :: r, h => by
    unfold sortU
    exact insU_sorted (h p List.mem_cons_self) (fun q hq => h q (List.mem_cons_of_mem _ ((sortU_mem q r).mp hq))) (sortU_sorted fun q hq => h q (List.mem_cons_of_mem _ hq))
theorem uniq_lt {α : Type} (f : α → Int) : ∀ {l m : List α}, l.Pairwise (fun a b => f a < f b) → m.Pairwise (fun a b => f a < f b) → (∀ x, x ∈ l ↔ x ∈ m) → l = m
  | [], [], _, _, _ => rfl
  | [], b :: m, _, _, h => absurd ((h b).mpr List.mem_cons_self) (by simp)
  | a :: l, [], _, _, h => absurd ((h a).mp List.mem_cons_self) (by simp)
  | a :: l, b :: m, h1, h2, h => by
    rw [List.pairwise_cons] at h1 h2
    have e : a = b := by
      rcases List.mem_cons.mp ((h a).mp List.mem_cons_self) with e | ha
      · exact e
      · rcases List.mem_cons.mp ((h b).mpr List.mem_cons_self) with e | hb
        · exact e.symm
        · have := h1.1 b hb
          have := h2.1 a ha
          omega
    subst e
    congr 1
    refine uniq_lt f h1.2 h2.2 fun x => ⟨fun hx => ?_, fun hx => ?_⟩
    · rcases List.mem_cons.mp ((h x).mp (List.mem_cons_of_mem _ hx)) with e | q
      · subst e
        have := h1.1 x hx
        omega
      · exact q
    · rcases List.mem_cons.mp ((h x).mpr (List.mem_cons_of_mem _ hx)) with e | q
      · subst e
        have := h2.1 x hx
        omega
      · exact q
def prL : List Int → Int × Int
  | [x, y] => (x, y)
  | _ => (0, 0)
/-- the tuples, with their places -/
theorem pairs_at {K : PySem.W.Frag} {F : Hp} : ∀ {ds : List D} {vs : List V} {ps : List (Int × Int)}, RepL K F vs ds → pairs64 ds = some ps →
    ∃ ks : List (Addr × List Int), vs = ks.map (fun p => V.ref p.1) ∧ (∀ p ∈ ks, SqT K F p.1 (p.2.map V.int)) ∧ ks.map (fun p => prL p.2) = ps ∧ (∀ p ∈ ks, ∃ x y, p.2 = [x, y] ∧ bdP (x, y)) ∧ ks.length = ds.length
  | [], _, _, h, e => by
    cases h
    cases e
    exact ⟨[], rfl, by simp, rfl, by simp, rfl⟩
  | d :: ds, vs, ps, h, e => by
    obtain ⟨v, r, ev, h1, h2⟩ := h.cons_inv
    subst ev
    unfold pairs64 at e
    split at e
    · cases ‹_ :: _ = []›
    · rename_i x y r' q
      cases q
      split at e
      · rename_i hb
        obtain ⟨qs, e1, e2⟩ := Option.map_eq_some_iff.mp e
        obtain ⟨ks, k1, k2, k3, k4, k5⟩ := pairs_at h2 e1
        obtain ⟨a, us, ea, s1, s2⟩ := h1.ofTup
        obtain ⟨u1, t1, eu, r1, s3⟩ := s2.cons_inv
        obtain ⟨u2, t2, eu2, r2, s4⟩ := s3.cons_inv
        have := s4.nil_inv
        subst this eu2 eu
        have := r1.ofInt
        have := r2.ofInt
        subst u1 u2
        simp only [Bool.and_eq_true, decide_eq_true_eq] at hb
        refine ⟨(a, [x, y]) :: ks, by rw [ea, k1]; rfl, fun p hp => ?_, by rw [List.map_cons, k3, ← e2]; rfl, fun p hp => ?_, by simp [k5]⟩
        · rcases List.mem_cons.mp hp with e | hp
          · subst e; exact s1
          · exact k2 p hp
        · rcases List.mem_cons.mp hp with e | hp
          · subst e; exact ⟨x, y, rfl, hb.1.1.1, hb.1.1.2, hb.1.2, hb.2⟩
          · exact k4 p hp
      · cases e
    · cases e
theorem pairs_rep {K : PySem.W.Frag} {F : Hp} : ∀ {L : List (Addr × List Int)}, (∀ p ∈ L, SqT K F p.1 (p.2.map V.int)) → (∀ p ∈ L, ∃ x y, p.2 = [x, y] ∧ bdP (x, y)) → RepL K F (L.map fun q => V.ref q.1) ((L.map fun p => prL p.2).map pairD)
  | [], _, _ => .nil
  | p :: L, h1, h2 => by
    refine .cons ?_ (pairs_rep (fun q hq => h1 q (List.mem_cons_of_mem _ hq)) fun q hq => h2 q (List.mem_cons_of_mem _ hq))
    obtain ⟨x, y, e, _⟩ := h2 p List.mem_cons_self
    have s := h1 p List.mem_cons_self
    rw [e] at s
    show Rep K F (.ref p.1) (pairD (prL p.2))
    rw [e]
    exact .tup s (.cons (.int x) (.cons (.int y) .nil))
section
variable {X : Cx} {P : Par} {W : WX} {nm : Nm} {n : Nat} {call : Nat → List Vl → M Vl} {gl : Nat → Option GV} {sc : Scope} {hot : Bool}
theorem set_blt : bootBuiltins "set" = some (.type "set") := by kernel_rfl
theorem sorted_blt : bootBuiltins "sorted" = some (.builtin "sorted") := by kernel_rfl
theorem pairs_len : ∀ {ds : List D} {ps : List (Int × Int)}, pairs64 ds = some ps → ps.length = ds.length
  | [], ps, e => by cases e; rfl
  | d :: ds, ps, e => by
    unfold pairs64 at e
    split at e
    · cases ‹_ :: _ = []›
    · rename_i x y r q
      cases q
      split at e
      · obtain ⟨qs, e1, e2⟩ := Option.map_eq_some_iff.mp e
        rw [← e2, List.length_cons, pairs_len e1, List.length_cons]
      · cases e
    · cases e
theorem se_sset (ok : XOk X P W nm n call gl sc hot) (hh : hot = false) {as : Es} {e : Expr} {p p2 q q2 : Pos} (hg : glB sc "sorted" = true) (hg2 : glB sc "set" = true) (hst : PySem.W.isStarred e = false) (ha : PA X [e] (TM P W (evB call gl as) (rBs P))) :
    SE X P W call gl (.bi .sset as) (.Call (.Name "sorted" q) [.Call (.Name "set" q2) [e] [] p2] [] p) := by
  obtain ⟨gx, hd, hnm⟩ := gl_of ok hg
  obtain ⟨gx2, hd2, hnm2⟩ := gl_of ok hg2
  have hc := ok.calm hh
  have pin := pe_callTy (p := q2) (pos := p2) (cr_setOfT hc (by have := ok.units; omega)) gx2 (ok.blt _ (by decide)) set_blt ha hnm2 hd2 (starOk hst) (plainOk rfl)
  have pe := pe_callB (p := q) (pos := p) (cr_sortedT hc) gx (ok.blt _ (by decide)) sorted_blt (pa_cons pin pa_nil (starOk rfl)) hnm hd (starOk rfl) (plainOk rfl)
  refine SE.all ok.K (fun m RR go => pe.imp fun σ H Q q => ?_) (fun _ => rfl)
  obtain ⟨g0, env, c0, r0, af⟩ := q
  rw [ev_bi] at af
  refine (Aft.step (RR1 := rBs P) (m := evB call gl as) go.mono af r0).imp fun vs H1 ⟨g1, c1, ds, e1, r1, b1, af⟩ => ?_
  have b1 : RBs P g1 H1 vs ds := b1
  obtain ⟨z, hz, af⟩ := af.opt
  have b2 := b1.reps
  -- one list
  have one : ∃ d, ds = [.lst d] ∧ d.length < 64 ∧ ∃ ps, pairs64 d = some ps ∧ z = .lst ((sortU ps).map pairD) := by
    match ds, hz with
    | [.lst d], hz =>
      simp only [Bi.run] at hz
      split at hz
      · rename_i hl
        obtain ⟨ps, e1, e2⟩ := Option.map_eq_some_iff.mp hz
        exact ⟨d, rfl, hl, ps, e1, e2.symm⟩
      · cases hz
  obtain ⟨d, rfl, hl, ps, hp, rfl⟩ := one
  obtain ⟨v, ev, b3⟩ := b2.one
  subst ev
  rw [ok.K] at b3
  obtain ⟨l, us, ev, h1, h2⟩ := b3.ofLst r1.sub
  subst ev
  obtain ⟨ks, k1, k2, k3, k4, k5⟩ := pairs_at h2 hp
  refine ⟨l, ks, rfl, .inl (by rw [← k1]; exact h1), fun p hp => SqT.mono r1.sub (k2 p hp), by omega, fun a L ha hL1 hL2 => ?_⟩
  have bd : ∀ p ∈ L, p.2.length = 2 ∧ TS.Bd 64 p.2 := fun p hp => by
    obtain ⟨x, y, e, h⟩ := k4 p (hL1 p hp)
    rw [e]
    refine ⟨rfl, fun m hm => ?_⟩
    unfold bdP at h
    simp only at h
    rcases (show m = x ∨ m = y by simpa using hm) with e | e <;> (subst e; omega)
  have r2 := r1.alloc (o := SetTO X.prog X.w a L) ha
  refine ⟨a, L, 2, 64, rfl, upd_same, fun p hp => SqT.mono (r1.sub.upd ha) (k2 p (hL1 p hp)), by omega, bd, fun L' pp hperm hnd hlen hpw hpn => ?_⟩
  have mem' : ∀ p ∈ L', p ∈ ks := fun p hp => hL1 p (hperm.mem_iff.mp hp)
  have hM : (L'.map fun p => prL p.2) = sortU ps := by
    refine uniq_lt keyP ?_ (sortU_sorted fun q hq => ?_) fun x => ?_
    · rw [List.pairwise_map]
      have hnd : L'.Pairwise (fun p q => p.2 ≠ q.2) := by
        have := hnd
        unfold List.Nodup at this
        rwa [List.pairwise_map] at this
      refine (List.Pairwise.and_mem.mp (hpw.and hnd)).imp fun {p q} ⟨hp, hq, h, hne⟩ => ?_
      obtain ⟨x, y, e1, hx⟩ := k4 p (mem' p hp)
      obtain ⟨x2, y2, e2, hx2⟩ := k4 q (mem' q hq)
      rw [e1, e2] at h hne ⊢
      rw [code_pair, code_pair] at h
      show x * 64 + y < x2 * 64 + y2
      have : keyP (x, y) ≠ keyP (x2, y2) := fun e => by
        have := keyP_inj hx hx2 e
        cases this
        exact hne rfl
      unfold keyP at this
      simp only at this
      omega
    · rw [← k3] at hq
      obtain ⟨p, hp, e⟩ := List.mem_map.mp hq
      obtain ⟨x, y, e2, hx⟩ := k4 p hp
      rw [← e, e2]
      exact hx
    · rw [sortU_mem, ← k3]
      constructor
      · intro hx
        obtain ⟨p, hp, e⟩ := List.mem_map.mp hx
        exact List.mem_map.mpr ⟨p, mem' p hp, e⟩
      · intro hx
        obtain ⟨p, hp, e⟩ := List.mem_map.mp hx
        obtain ⟨p', hp', e'⟩ := List.mem_map.mp (hL2 p hp)
        exact List.mem_map.mpr ⟨p', hperm.mem_iff.mpr hp', by show prL p'.2 = x; rw [e', e]⟩
  have f := fin_of go r2 (af.ext go.mono (Ext.alloc (o := SetTO X.prog X.w a L) ha))
  rw [ok.K] at f
  refine f pp _ hpn ?_
  rw [← hM]
  exact pairs_rep (fun p hp => k2 p (mem' p hp)) fun p hp => k4 p (mem' p hp)
end
end RX
end
section -- Rx16
namespace RX
open PySem PySem.Spec PyProof.Rows L2
section
variable {P : Par} {nm : Nm} {n : Nat} {call : Nat → List Vl → M Vl} {gl : Nat → Option GV}
theorem star_of {e : Expr} {es : List Expr} (h : noStar (e :: es) = true) : PySem.W.isStarred e = false ∧ noStar es = true := by
  unfold noStar at h ⊢
  rw [List.all_cons, Bool.and_eq_true] at h
  exact ⟨by simpa using h.1, h.2⟩
theorem evs_len : ∀ {es : Es} {env : EnvD} {c c' : Cells} {vs : List Vl} {k : List Keyword} {sc : Scope} {hot : Bool}, mKs nm sc hot es k = true → evs call gl es env c = .ok vs c' → vs.length = k.length
  | .nil, env, c, c', vs, k, sc, hot, h, e => by
    cases k with
    | nil => cases e; rfl
    | cons _ _ => cases h
  | .cons x es, env, c, c', vs, k, sc, hot, h, e => by
    cases k with
    | nil => cases h
    | cons y k =>
      obtain ⟨kn, kx, kp⟩ := y
      simp only [mKs, Bool.and_eq_true] at h
      rw [evs_cons] at e
      obtain ⟨v, c1, e1, e⟩ := M.bind_ok e
      obtain ⟨us, c2, e2, e⟩ := M.bind_ok e
      cases e
      rw [List.length_cons, List.length_cons, evs_len h.2 e2]
theorem mTg_tup {sc : Scope} {t : Tg} {x : Expr} (h : mTg nm sc t x = true) : (∃ is, t = .tp is) → ∃ es k p, x = .Tuple es k p := fun ⟨is, e⟩ => by
  subst e
  cases x <;> first | cases h | exact ⟨_, _, _, rfl⟩
mutual
theorem mE_ok : ∀ (e : E) (x : Expr) {sc : Scope} {hot : Bool} {X : Cx} {W : WX}, XOk X P W nm n call gl sc hot → mE nm sc hot e x = true → SE X P W call gl e x
  | .var i, x, sc, hot, X, W, ok, h => by
    unfold mE at h
    split at h <;> first | (cases h; done) | cases ‹E.var i = _›
    exact se_var ok (by unfold mE; exact h)
  | .cst c, x, sc, hot, X, W, ok, h => by
    unfold mE at h
    split at h <;> first | (cases h; done) | cases ‹E.cst c = _›
    exact se_cst ok h
  | .glo g, x, sc, hot, X, W, ok, h => by
    unfold mE at h
    split at h <;> first | (cases h; done) | cases ‹E.glo g = _›
    exact se_glo ok (by unfold mE; exact h)
  | .bin o a b, x, sc, hot, X, W, ok, h => by
    unfold mE at h
    split at h <;> first | (cases h; done) | cases ‹E.bin o a b = _›
    simp only [Bool.and_eq_true, decide_eq_true_eq, Bool.not_eq_true'] at h
    obtain ⟨⟨h1, h2⟩, h3⟩ := h
    subst h1
    exact se_bin ok (mE_ok a _ ok h2) (mE_ok b _ ok h3)
  | .neg a, x, sc, hot, X, W, ok, h => by
    unfold mE at h
    split at h <;> first | (cases h; done) | cases ‹E.neg a = _›
    exact se_neg ok (mE_ok a _ ok h)
  | .nt a, x, sc, hot, X, W, ok, h => by
    unfold mE at h
    split at h <;> first | (cases h; done) | cases ‹E.nt a = _›
    exact se_nt ok (mE_ok a _ ok h)
  | .and a b, x, sc, hot, X, W, ok, h => by
    unfold mE at h
    split at h <;> first | (cases h; done) | cases ‹E.and a b = _›
    · simp only [Bool.and_eq_true, decide_eq_true_eq, Bool.not_eq_true'] at h
      obtain ⟨h1, h2⟩ := h
      exact se_and ok (mE_ok a _ ok h1) (fun md => se_bo1 (mE_ok b _ ok h2) md) (pw_and1 (mE_ok b _ ok h2).pt)
    · simp only [Bool.and_eq_true, decide_eq_true_eq, Bool.not_eq_true'] at h
      obtain ⟨h1, h2⟩ := h
      exact se_and ok (mE_ok a _ ok h1) (fun md => (mE_ok b _ ok h2).md md) ((mE_ok b _ ok h2).pw rfl)
  | .or a b, x, sc, hot, X, W, ok, h => by
    unfold mE at h
    split at h <;> first | (cases h; done) | cases ‹E.or a b = _›
    · simp only [Bool.and_eq_true, decide_eq_true_eq, Bool.not_eq_true'] at h
      obtain ⟨h1, h2⟩ := h
      exact se_or ok (mE_ok a _ ok h1) (fun md => se_bo1 (mE_ok b _ ok h2) md) (pw_or1 (mE_ok b _ ok h2).pt)
    · simp only [Bool.and_eq_true, decide_eq_true_eq, Bool.not_eq_true'] at h
      obtain ⟨h1, h2⟩ := h
      exact se_or ok (mE_ok a _ ok h1) (fun md => (mE_ok b _ ok h2).md md) ((mE_ok b _ ok h2).pw rfl)
  | .ife c a b, x, sc, hot, X, W, ok, h => by
    unfold mE at h
    split at h <;> first | (cases h; done) | cases ‹E.ife c a b = _›
    simp only [Bool.and_eq_true, decide_eq_true_eq, Bool.not_eq_true'] at h
    obtain ⟨⟨h1, h2⟩, h3⟩ := h
    exact se_ife ok (mE_ok c _ ok h1) (mE_ok a _ ok h2) (mE_ok b _ ok h3)
  | .cmp o a b, x, sc, hot, X, W, ok, h => by
    unfold mE at h
    split at h <;> first | (cases h; done) | cases ‹E.cmp o a b = _›
    simp only [Bool.and_eq_true, decide_eq_true_eq, Bool.not_eq_true'] at h
    obtain ⟨⟨⟨h1, h2⟩, h3⟩, h4⟩ := h
    subst h1
    exact se_cmp ok (mE_ok a _ ok h3) (mE_ok b _ ok h4) h2
  | .chn o p a b c, x, sc, hot, X, W, ok, h => by
    unfold mE at h
    split at h <;> first | (cases h; done) | cases ‹E.chn o p a b c = _›
    simp only [Bool.and_eq_true, decide_eq_true_eq, Bool.not_eq_true'] at h
    obtain ⟨⟨⟨⟨⟨h1, h2⟩, h3⟩, h4⟩, h5⟩, h6⟩ := h
    subst h1
    subst h2
    exact se_chn ok (mE_ok a _ ok h4) (mE_ok b _ ok h5) (mE_ok c _ ok h6) h3
  | .call f as, x, sc, hot, X, W, ok, h => by
    unfold mE at h
    split at h <;> first | (cases h; done) | cases ‹E.call f as = _›
    simp only [Bool.and_eq_true, decide_eq_true_eq, Bool.not_eq_true'] at h
    obtain ⟨⟨⟨⟨h1, h2⟩, h3⟩, h4⟩, h5⟩ := h
    obtain ⟨⟨x1, ps⟩, h6, h7⟩ := Option.map_eq_some_iff.mp h2
    cases h7
    exact se_call ok h1 h6 h3 h4 (mEs_ok as _ ok h4 h5).1
  | .callk f perm as ks, x, sc, hot, X, W, ok, h => by
    unfold mE at h
    split at h <;> first | (cases h; done) | cases ‹E.callk f perm as ks = _›
    simp only [Bool.and_eq_true, decide_eq_true_eq, Bool.not_eq_true'] at h
    obtain ⟨⟨⟨⟨⟨⟨⟨h1, h2⟩, h3⟩, h4⟩, h5⟩, h6⟩, h7⟩, h8⟩ := h
    obtain ⟨⟨x1, ps⟩, h9, h10⟩ := Option.map_eq_some_iff.mp h2
    cases h10
    rw [h9] at h5
    exact se_callk ok h1 h9 h3 h4 h5 h6 h7 (mKs_ok ks _ ok h8) (fun env c vs c' e => evs_len h8 e)
  | .bi b as, x, sc, hot, X, W, ok, h => by
    unfold mE at h
    split at h <;> first | (cases h; done) | cases ‹E.bi b as = _›
    · simp only [Bool.and_eq_true, decide_eq_true_eq, Bool.not_eq_true'] at h
      obtain ⟨⟨⟨⟨⟨⟨⟨h1, h2⟩, h3⟩, h4⟩, h5⟩, h6⟩, h7⟩, h8⟩ := h
      subst h2
      subst h3
      obtain rfl : _ = [] := by simpa using h8
      exact se_sset ok h1 h4 h5 (star_of h6).1 (mEs_ok as _ ok h6 h7).2
    · simp only [Bool.and_eq_true, decide_eq_true_eq, Bool.not_eq_true'] at h
      obtain ⟨⟨⟨⟨⟨⟨h0, h1⟩, h2⟩, h3⟩, h4⟩, h5⟩, h6⟩ := h
      exact se_bi ok h1 h2 (by simpa using h3) h0 (by assumption) h5 (mEs_ok as _ ok h5 h6).2
  | .isi a ts, x, sc, hot, X, W, ok, h => by
    unfold mE at h
    split at h <;> first | (cases h; done) | cases ‹E.isi a ts = _›
    · simp only [Bool.and_eq_true, decide_eq_true_eq, Bool.not_eq_true'] at h
      obtain ⟨⟨⟨⟨h1, h2⟩, h3⟩, h4⟩, h5⟩ := h
      subst h1
      exact se_isi1 ok h2 (mE_ok a _ ok h5) h3 h4
    · simp only [Bool.and_eq_true, decide_eq_true_eq, Bool.not_eq_true'] at h
      obtain ⟨⟨⟨⟨⟨h1, h2⟩, h3⟩, h4⟩, h5⟩, h6⟩ := h
      subst h1
      exact se_isiT ok h2 (mE_ok a _ ok h6) h3 h4 h5
  | .idx a i, x, sc, hot, X, W, ok, h => by
    unfold mE at h
    split at h <;> first | (cases h; done) | cases ‹E.idx a i = _›
    simp only [Bool.and_eq_true, decide_eq_true_eq, Bool.not_eq_true'] at h
    obtain ⟨⟨h1, h2⟩, h3⟩ := h
    exact se_idx ok (mE_ok a _ ok h2) (mE_ok i _ ok h3) h1
  | .cidx i k, x, sc, hot, X, W, ok, h => by
    unfold mE at h
    split at h <;> first | (cases h; done) | cases ‹E.cidx i k = _›
    simp only [Bool.and_eq_true, decide_eq_true_eq, Bool.not_eq_true'] at h
    obtain ⟨⟨⟨h1, h2⟩, h3⟩, h4⟩ := h
    subst h4
    exact se_cidx ok h1 h2 h3
  | .slc a lo hi, x, sc, hot, X, W, ok, h => by
    unfold mE at h
    split at h <;> first | (cases h; done) | cases ‹E.slc a lo hi = _›
    simp only [Bool.and_eq_true, decide_eq_true_eq, Bool.not_eq_true'] at h
    obtain ⟨⟨h1, h2⟩, h3⟩ := h
    exact se_slc ok (mE_ok a _ ok h1) (mO_ok lo _ ok h2) (mO_ok hi _ ok h3)
  | .lst as, x, sc, hot, X, W, ok, h => by
    unfold mE at h
    split at h <;> first | (cases h; done) | cases ‹E.lst as = _›
    simp only [Bool.and_eq_true, decide_eq_true_eq, Bool.not_eq_true'] at h
    obtain ⟨h1, h2⟩ := h
    exact se_lst ok (mEs_ok as _ ok h1 h2).1
  | .clst as, x, sc, hot, X, W, ok, h => by
    unfold mE at h
    split at h <;> first | (cases h; done) | cases ‹E.clst as = _›
    simp only [Bool.and_eq_true, decide_eq_true_eq, Bool.not_eq_true'] at h
    obtain ⟨h1, h2⟩ := h
    exact se_clst ok (mEs_ok as _ ok h1 h2).1
  | .tup as, x, sc, hot, X, W, ok, h => by
    unfold mE at h
    split at h <;> first | (cases h; done) | cases ‹E.tup as = _›
    simp only [Bool.and_eq_true, decide_eq_true_eq, Bool.not_eq_true'] at h
    obtain ⟨h1, h2⟩ := h
    exact se_tup ok (mEs_ok as _ ok h1 h2).1
  | .lc t s c e, x, sc, hot, X, W, ok, h => by
    unfold mE at h
    split at h <;> first | (cases h; done) | cases ‹E.lc t s c e = _›
    simp only [Bool.and_eq_true, decide_eq_true_eq, Bool.not_eq_true'] at h
    obtain ⟨⟨⟨⟨⟨⟨⟨h1, h2⟩, h3⟩, h4⟩, h5⟩, h6⟩, h7⟩, h8⟩ := h
    exact se_lc ok h1 (mR_ok s _ _ ok (md := .b) (mTg_tup h6) h2) h3 h4 h6 (fun X' ok' => pts_of (mC_ok c _ ok' h7)) (fun X' ok' => mE_ok e _ ok' h8)
  | .exf i k, x, sc, hot, X, W, ok, h => by
    unfold mE at h
    split at h <;> first | (cases h; done) | cases ‹E.exf i k = _›
    simp only [Bool.and_eq_true, decide_eq_true_eq, Bool.not_eq_true'] at h
    obtain ⟨⟨⟨h1, h2⟩, h3⟩, h4⟩ := h
    exact se_exf ok h1 h2 h3 h4
  | .gin neg a g, x, sc, hot, X, W, ok, h => by
    unfold mE at h
    split at h <;> first | (cases h; done) | cases ‹E.gin neg a g = _›
    simp only [Bool.and_eq_true, decide_eq_true_eq, Bool.not_eq_true'] at h
    obtain ⟨⟨⟨h1, h2⟩, h3⟩, h4⟩ := h
    subst h1
    obtain ⟨kvs, g1, g2⟩ := ok.gts _ _ h2
    exact se_gin ok g1 g2 h3 (mE_ok a _ ok h4)
  | .gget g a, x, sc, hot, X, W, ok, h => by
    unfold mE at h
    split at h <;> first | (cases h; done) | cases ‹E.gget g a = _›
    simp only [Bool.and_eq_true, decide_eq_true_eq, Bool.not_eq_true'] at h
    obtain ⟨⟨⟨h1, h2⟩, h3⟩, h4⟩ := h
    obtain ⟨kvs, g1, g2⟩ := ok.gts _ _ h1
    exact se_gget ok g1 g2 h2 h3 (mE_ok a _ ok h4)
  | .mth m o as, x, sc, hot, X, W, ok, h => by cases h
  | .lc2 t s c t2 s2 c2 e, x, sc, hot, X, W, ok, h => by cases h
theorem mEs_ok : ∀ (es : Es) (xs : List Expr) {sc : Scope} {hot : Bool} {X : Cx} {W : WX}, XOk X P W nm n call gl sc hot → noStar xs = true → mEs nm sc hot es xs = true → PA X xs (TM P W (evs call gl es) (rVs P)) ∧ PA X xs (TM P W (evB call gl es) (rBs P))
  | .nil, [], sc, hot, X, W, ok, hs, h => ⟨pas_nil, pab_nil⟩
  | .cons e es, x :: xs, sc, hot, X, W, ok, hs, h => by
    simp only [mEs, Bool.and_eq_true] at h
    obtain ⟨s1, s2⟩ := star_of hs
    have h1 := mE_ok e x ok h.1
    have h2 := mEs_ok es xs ok s2 h.2
    exact ⟨pas_cons h1 h2.1 s1, pab_cons h1 h2.2 s1⟩
  | .nil, _ :: _, sc, hot, X, W, ok, hs, h => by cases h
  | .cons _ _, [], sc, hot, X, W, ok, hs, h => by cases h
theorem mKs_ok : ∀ (es : Es) (xs : List Keyword) {sc : Scope} {hot : Bool} {X : Cx} {W : WX}, XOk X P W nm n call gl sc hot → mKs nm sc hot es xs = true → PK X xs (TM P W (evs call gl es) (rVs P))
  | .nil, [], sc, hot, X, W, ok, h => pks_nil
  | .cons e es, ⟨k, x, kp⟩ :: xs, sc, hot, X, W, ok, h => by
    simp only [mKs, Bool.and_eq_true] at h
    exact pks_cons (mE_ok e x ok h.1) (mKs_ok es xs ok h.2)
  | .nil, _ :: _, sc, hot, X, W, ok, h => by cases h
  | .cons _ _, [], sc, hot, X, W, ok, h => by cases h
theorem mO_ok : ∀ (o : Oe) (x : Option Expr) {sc : Scope} {hot : Bool} {X : Cx} {W : WX}, XOk X P W nm n call gl sc hot → mO nm sc hot o x = true → PO X x (TM P W (evO call gl o) rInt)
  | .no, none, sc, hot, X, W, ok, h => po_no
  | .yes e, some x, sc, hot, X, W, ok, h => po_of ok (mE_ok e x ok (by unfold mO at h; exact h))
  | .no, some _, sc, hot, X, W, ok, h => by cases h
  | .yes _, none, sc, hot, X, W, ok, h => by cases h
theorem mC_ok : ∀ (o : Oe) (x : List Expr) {sc : Scope} {hot : Bool} {X : Cx} {W : WX}, XOk X P W nm n call gl sc hot → mC nm sc hot o x = true → (o = .no ∧ x = []) ∨ ∃ e y, o = .yes e ∧ x = [y] ∧ SE X P W call gl e y
  | .no, [], sc, hot, X, W, ok, h => .inl ⟨rfl, rfl⟩
  | .yes e, [x], sc, hot, X, W, ok, h => .inr ⟨e, x, rfl, rfl, mE_ok e x ok (by unfold mC at h; exact h)⟩
  | .no, _ :: _, sc, hot, X, W, ok, h => by cases h
  | .yes _, [], sc, hot, X, W, ok, h => by cases h
  | .yes _, _ :: _ :: _, sc, hot, X, W, ok, h => by cases h
theorem mR_ok : ∀ (s : Sr) (tg it : Expr) {t : Tg} {sc : Scope} {hot : Bool} {X : Cx} {W : WX} {b : Bool} {RR1 : RRT V Vl}, XOk X P W nm n call gl sc hot → (md : Md P b RR1) → ((∃ is, t = .tp is) → ∃ es k p, tg = .Tuple es k p) → mR nm sc hot s t it = true → SI X P W call gl s b tg it
  | .seq e, tg, it, t, sc, hot, X, W, b, RR1, ok, md, ht, h => by
    unfold mR at h
    simp only [Bool.and_eq_true] at h
    exact si_seq ok md (mE_ok e _ ok h.2) h.1
  | .chars e, tg, it, t, sc, hot, X, W, b, RR1, ok, md, ht, h => by
    unfold mR at h
    simp only [Bool.and_eq_true] at h
    exact si_chars ok (mE_ok e _ ok h.2) h.1
  | .rng1 e, tg, it, t, sc, hot, X, W, b, RR1, ok, md, ht, h => by
    unfold mR at h
    split at h <;> first | (cases h; done) | cases ‹Sr.rng1 e = _›
    simp only [Bool.and_eq_true, decide_eq_true_eq, Bool.not_eq_true'] at h
    obtain ⟨⟨⟨h1, h2⟩, h3⟩, h4⟩ := h
    subst h1
    exact si_rng1 ok h2 (mE_ok e _ ok h4) h3
  | .rng2 e f, tg, it, t, sc, hot, X, W, b, RR1, ok, md, ht, h => by
    unfold mR at h
    split at h <;> first | (cases h; done) | cases ‹Sr.rng2 e f = _›
    simp only [Bool.and_eq_true, decide_eq_true_eq, Bool.not_eq_true'] at h
    obtain ⟨⟨⟨⟨⟨h1, h2⟩, h3⟩, h4⟩, h5⟩, h6⟩ := h
    subst h1
    exact si_rng2 ok h2 (mE_ok e _ ok h5) (mE_ok f _ ok h6) h3 h4
  | .enum e, tg, it, t, sc, hot, X, W, b, RR1, ok, md, ht, h => by
    unfold mR at h
    split at h <;> first | (cases h; done) | cases ‹Sr.enum e = _›
    simp only [Bool.and_eq_true, decide_eq_true_eq, Bool.not_eq_true'] at h
    obtain ⟨⟨⟨h1, h2⟩, h3⟩, h4⟩ := h
    subst h1
    obtain ⟨es, k, p, e1⟩ := ht ⟨_, rfl⟩
    subst e1
    exact si_enum ok md h2 (mE_ok e _ ok h4) h3
  | .zip _ _, tg, it, t, sc, hot, X, W, b, RR1, ok, md, ht, h => by cases h
end
end
end RX
end
section -- Rx17
namespace RX
open PySem PySem.Spec PyProof.Rows L2
/-- which names are stored from the right (none: the model has no word) -/
def swP (sc : Scope) (ts vs : List Expr) : Option (Option (List Str)) :=
  if (!(ts.length == 2 || ts.length == 3) || vs.length != ts.length) = true then some none
  else if (vs.any PySem.W.isStarred) = true then some none
  else
    let line := (ts.head?.map (·.pos.line)).getD 0
    let names := ts.filterMap fun
      | .Name id pos => if (sc.names.lookup id == some .local && pos.line == line) = true then some id else none
      | _ => none
    if (names.length != ts.length || names.eraseDups.length != names.length) = true then some none
    else if (vs.all (foldedForSure 8)) = true then some none
    else if (vs.all (constantsAlone 8)) = true then none
    else some (some names)
theorem sw_pure {sc : Scope} {env : PySem.Env} {ts vs : List Expr} {k k2 : Nat} {p p2 : Pos} {r : Option (List Str)} (hk : env.blockKind = .function) (hs : env.scope = sc) (h : swP sc ts vs = some r) : swappedStores [.Tuple ts k p] (.Tuple vs k2 p2) env = pure r := by
  subst hs
  unfold swP at h
  unfold swappedStores
  have hst : (vs.any fun | .Starred .. => true | _ => false) = vs.any PySem.W.isStarred := rfl
  have hkn : ∀ id, env.kindOf id = env.scope.names.lookup id := fun _ => rfl
  simp only [hk, bne_self_eq_false, Bool.or_false] at h ⊢
  split at h
  · rename_i c1
    rw [if_pos c1]
    cases h
    rfl
  · rename_i c1
    rw [if_neg c1]
    show (if (vs.any PySem.W.isStarred) = true then _ else _ : Sem (Option (List Str))) = _
    split at h
    · rename_i c2
      rw [if_pos c2]
      cases h
      rfl
    · rename_i c2
      rw [if_neg c2]
      split at h
      · rename_i c3
        refine (if_pos c3).trans ?_
        cases h
        rfl
      · rename_i c3
        refine (if_neg c3).trans ?_
        split at h
        · rename_i c4
          refine (if_pos c4).trans ?_
          cases h
          rfl
        · rename_i c4
          refine (if_neg c4).trans ?_
          split at h
          · cases h
          · rename_i c5
            refine (if_neg c5).trans ?_
            cases h
            rfl
section
variable {X : Cx}
theorem setsV_perm1 {σ : L2.St} {i : Nat} {v : V} : ∀ {is : List Nat} {vs : List V}, i ∉ is → setsV (σ.set i (some v)) is vs = (setsV σ is vs).set i (some v)
  | [], _, _ => rfl
  | j :: is, [], _ => rfl
  | j :: is, u :: vs, h => by
    have h1 : i ≠ j := fun e => h (by rw [e]; exact List.mem_cons_self)
    have h2 : i ∉ is := fun e => h (List.mem_cons_of_mem _ e)
    show setsV ((σ.set i (some v)).set j (some u)) is vs = (setsV (σ.set j (some u)) is vs).set i (some v)
    rw [List.set_comm _ _ h1, setsV_perm1 h2]
theorem setsV_snoc {i : Nat} {v : V} : ∀ {is : List Nat} {vs : List V} {σ : L2.St}, is.length = vs.length → setsV σ (is ++ [i]) (vs ++ [v]) = (setsV σ is vs).set i (some v)
  | [], [], _, _ => rfl
  | j :: is, u :: vs, σ, h => by
    show setsV (σ.set j (some u)) (is ++ [i]) (vs ++ [v]) = _
    rw [setsV_snoc (by simpa using h)]
    rfl
theorem setsV_rev {σ : L2.St} : ∀ {is : List Nat} {vs : List V}, is.Nodup → is.length = vs.length → setsV σ is.reverse vs.reverse = setsV σ is vs
  | [], [], _, _ => rfl
  | i :: is, v :: vs, nd, h => by
    rw [List.nodup_cons] at nd
    rw [List.reverse_cons, List.reverse_cons, setsV_snoc (by simpa using h), setsV_rev nd.2 (by simpa using h)]
    exact (setsV_perm1 nd.1).symm
theorem bind_many {pins : List (Addr × Obj)} {H : Hp} {Q : Unit → Shared → Prop} {E : Value → Shared → Prop} (hN : X.N.Nodup) : ∀ {is : List Nat} {xs : List Str} {vs : List V} {us : List Value} {σ : L2.St} {s : Shared}, Inv X pins σ H s → is.map (fun i => X.N[i]?) = xs.map some → (∀ x ∈ xs, X.env.scope.names.lookup x = some .local) → is.length = vs.length → Vals vs us →
    (∀ s', Inv X pins (setsV σ is vs) H s' → Q () s') → wpAny (model X.prog X.w) X.A (assignInOrder (xs.map fun n => bindName X.env n) us) Q E s
  | [], xs, vs, us, σ, s, I, hi, hx, hl, r, h => by
    cases xs with
    | nil =>
      cases r with
      | nil => exact assignInOrder_nil (h s I)
      | cons _ _ => simp at hl
    | cons _ _ => simp at hi
  | i :: is, xs, vs, us, σ, s, I, hi, hx, hl, r, h => by
    cases xs with
    | nil => simp at hi
    | cons x xs =>
      cases r with
      | nil => simp at hl
      | @cons v u vs us r1 r2 =>
        simp only [List.map_cons, List.cons.injEq] at hi
        have hxl := hx x List.mem_cons_self
        refine assignInOrder_cons (wpAny_bindName (store_ok I hN hi.1 (.inl hxl) r1 (fun s2 I2 => ?_) (.inr hxl)))
        exact bind_many hN I2 hi.2 (fun y hy => hx y (List.mem_cons_of_mem _ hy)) (by simpa using hl) r2 h
/-- a, b = x, y with plain local names -/
theorem ps_parN {is : List Nat} {xs : List Str} {ts es : List Expr} {ta : TA} {k k2 : Nat} {p p2 pos : Pos} (hc : X.calm = true) (hN : X.N.Nodup) (hi : is.map (fun i => X.N[i]?) = xs.map some) (hx : ∀ x ∈ xs, X.env.scope.names.lookup x = some .local) (nd : is.Nodup) (ha : PA X es ta)
    (hw : swappedStores [.Tuple ts k p] (.Tuple es k2 p2) X.env = pure (some xs)) (hs : swapsWithSole [.Tuple ts k p] (.Tuple es k2 p2) pos.line X.env = pure false) :
    PS X (.Assign [.Tuple ts k p] (.Tuple es k2 p2) pos) (fun D σ H => ta σ H fun vs H1 => is.length = vs.length ∧ vs.length ≤ sizeLine ∧ D.nx (setsV σ is vs) H1) := by
  refine ⟨fun pins s σ H D I h => ?_⟩
  rw [exec_Assign_arm]
  refine wpAny_bind (wpAny_standAt ?_)
  rw [hs]
  refine wpAny_bind (wpAny_pure ?_)
  rw [if_neg (by decide)]
  refine wpAny_bind (Tuple_ (thn (ha.run _ pins s σ H _ I h) fun us s1 ⟨vs, H1, I1, r1, q1, q2, q3⟩ => ?_))
  have hl := r1.length
  refine wpAny_newObj_type ?_ (by show us.toArray.size ≤ sizeLine; rw [List.size_toArray, ← hl]; exact q2)
  have I2 : Inv X pins σ H1 { s1 with heap := s1.heap.push { cls := .type "tuple", data := .seq us.toArray } } := I1.kept (t' := s1.toks) fun b o e => Heap.get?_push_of_some _ e
  rw [hw]
  refine wpAny_bind (wpAny_pure ?_)
  have hlx : is.length = xs.length := by
    have := congrArg List.length hi
    simpa using this
  have hsz : us.toArray.size = xs.length := by
    have : us.toArray.size = us.length := by simp
    omega
  show wpAny (model X.prog X.w) X.A (do rule "assign.swapped-stores"; let items ← unpackItems (.ref s1.heap.objs.size) xs.length none; assignInOrder (xs.reverse.map fun n => bindName X.env n) items.reverse; pure Flow.next) _ _ _
  rw [← hsz]
  refine wpAny_bind (wpAny_rule (wpAny_bind (unpackItems_tuple (items := us.toArray) (I.ok.hd hc) (IsTup.new s1.heap _) fun h' hx' => ?_)))
  have I3 := I2.kept (h' := h') (t' := s1.toks) fun b o e => hx' b o (Nat.ne_of_lt (Heap.lt_size e)) e
  refine wpAny_bind (bind_many (is := is.reverse) (xs := xs.reverse) (vs := vs.reverse) hN I3 (by rw [List.map_reverse, List.map_reverse, hi]) (fun x hm => hx x (List.mem_reverse.mp hm)) (by simpa using q1) (by simpa using r1.reverse) fun s2 I4 => wpAny_pure ?_)
  rw [setsV_rev nd q1] at I4
  exact ⟨_, H1, I4, q3⟩
end
end RX
end
section -- Rx18
namespace L2
open PySem PySem.Spec PyProof.Rows
section
variable {X : Cx} {st : Stmt} {sts : List Stmt}
theorem PS.imp {t t' : TS} (h : PS X st t) (i : ∀ D σ H, t' D σ H → t D σ H) : PS X st t' := ⟨fun pins s σ H D I q => h.run pins s σ H D I (i D σ H q)⟩
theorem PSs.imp {t t' : TS} (h : PSs X sts t) (i : ∀ D σ H, t' D σ H → t D σ H) : PSs X sts t' := ⟨fun pins s σ H D I q => h.run pins s σ H D I (i D σ H q)⟩
end
end L2
namespace RX
open PySem PySem.Spec PyProof.Rows L2
structure RelS (P : Par) (gE : Gh) (HE : Hp) (Fb : Hp) (g : Gh) (env : EnvD) (c : Cells) (σ : L2.St) (H : Hp) : Prop extends Rel P g env c σ H where
  ext : Ext gE HE g H
  fb : Sub Fb g.F
  own : ∀ (i : Nat) (a : Addr) (xs : List D), env.look i = .own xs → σ[i]? = some (some (.ref a)) → HE a = none
def AftS (P : Par) (W : WX) (gE : Gh) (HE Fb : Hp) (r : SR) (En : Ends) : Prop :=
  match r with
  | .nx env' c' => ∀ g' σ' H', RelS P gE HE Fb g' env' c' σ' H' → En.nx σ' H'
  | .rt v c' => ∀ g' H' u, Ext gE HE g' H' → CRel P g' c' H' → RV P g' u v → En.rt u H'
  | .exc k ds env' c' => ∀ g' σ' H' C fs d, RelS P gE HE Fb g' env' c' σ' H' → P.cls k = some (C, fs) → ExcAt P g' H' fs ds d → W (.ref C) d σ' H'
  | .stuck => False
def TMS (P : Par) (W : WX) (gE : Gh) (HE : Hp) (f : EnvD → Cells → SR) : TS := fun D σ H => ∃ Fb g env c, RelS P gE HE Fb g env c σ H ∧ AftS P W gE HE Fb (f env c) D
section
variable {P : Par} {W : WX} {gE : Gh} {HE Fb : Hp} {g g' : Gh} {env env' : EnvD} {c c' : Cells} {σ σ' : L2.St} {H H' : Hp} {En : Ends}
theorem RelS.step (r : RelS P gE HE Fb g env c σ H) (e : Ext g H g' H') (n : Rel P g' env c' σ H') : RelS P gE HE Fb g' env c' σ H' := ⟨n, r.ext.trans e, r.fb.trans e.F, r.own⟩
theorem onR_step {α β : Type} {RR : RRT β α} {m : EnvD → M α} {f : α → Cells → SR} (h : AftS P W gE HE Fb (onR env (m env c) f) En) (r : RelS P gE HE Fb g env c σ H) :
    TM P W m RR σ H fun v H1 => ∃ g1 c1 a, Ext g H g1 H1 ∧ RelS P gE HE Fb g1 env c1 σ H1 ∧ RR H g1 H1 v a ∧ AftS P W gE HE Fb (f a c1) En := by
  refine ⟨g, env, c, r.toRel, ?_⟩
  cases e : m env c with
  | ok a c1 =>
    rw [e] at h
    exact fun g' H' v e1 r1 q => ⟨g', c1, a, e1, r.step e1 r1, q, h⟩
  | exc k ds c1 =>
    rw [e] at h
    exact fun g' H' C fs d e1 r1 q1 q2 => h g' σ H' C fs d (r.step e1 r1) q1 q2
  | stuck => rw [e] at h; exact h
/-- own lists stay where they are, if they stay -/
def OwnK (env : EnvD) (σ : L2.St) (env' : EnvD) (σ' : L2.St) : Prop := ∀ (j : Nat) (zs : List D), env'.look j = .own zs → env.look j = .own zs ∧ σ'[j]? = σ[j]?
theorem OwnK.refl : OwnK env σ env σ := fun _ _ h => ⟨h, rfl⟩
theorem OwnK.trans {env2 : EnvD} {σ2 : L2.St} (a : OwnK env σ env' σ') (b : OwnK env' σ' env2 σ2) : OwnK env σ env2 σ2 := fun j zs h => by
  obtain ⟨h1, e1⟩ := b j zs h
  obtain ⟨h2, e2⟩ := a j zs h1
  exact ⟨h2, e1.trans e2⟩
theorem OwnK.set {i : Nat} {u : Option V} {x : Sl} (ho : ∀ xs, x ≠ .own xs) : OwnK env σ (env.set i x) (σ.set i u) := fun j zs h => by
  rw [look_set] at h
  split at h
  · exact absurd h (ho zs)
  · rename_i n
    refine ⟨h, ?_⟩
    by_cases e : i = j
    · subst e
      have : env.length ≤ i := by
        have := fun q => n ⟨rfl, q⟩
        omega
      rw [look_len this] at h
      cases h
    · rw [List.getElem?_set_ne e]
theorem OwnK.sets : ∀ {is : List Nat} {vs : List V} {ds : List D} {env : EnvD} {σ : L2.St}, vs.length = ds.length → OwnK env σ ((is.zip ds).foldl (fun e p => e.set p.1 (.v (.d p.2))) env) (setsV σ is vs)
  | [], _, _, _, _, _ => OwnK.refl
  | i :: is, [], [], _, _, _ => OwnK.refl
  | i :: is, v :: vs, d :: ds, env, σ, h => (OwnK.set (i := i) (u := some v) (x := .v (.d d)) (fun _ => by simp)).trans (OwnK.sets (by simpa using h))
theorem RelS.keepO (r : RelS P gE HE Fb g env c σ H) (n : Rel P g env' c σ' H) (o : OwnK env σ env' σ') : RelS P gE HE Fb g env' c σ' H :=
  ⟨n, r.ext, r.fb, fun i a xs h1 h2 => by
    obtain ⟨h3, h4⟩ := o i xs h1
    exact r.own i a xs h3 (by rw [← h4]; exact h2)⟩
theorem RelS.setV (r : RelS P gE HE Fb g env c σ H) (i : Nat) {v : V} {x : Vl} (h : RV P g v x) : RelS P gE HE Fb g (env.set i (.v x)) c (σ.set i (some v)) H :=
  r.keepO (r.toRel.setV i h) (OwnK.set fun _ => by simp)
theorem RelS.setNo (r : RelS P gE HE Fb g env c σ H) (i : Nat) (u : Option V) : RelS P gE HE Fb g (env.set i .no) c (σ.set i u) H :=
  r.keepO (r.toRel.setNo i u) (OwnK.set fun _ => by simp)
/-- a list of one's own -/
structure Own (P : Par) (HE : Hp) (g : Gh) (H : Hp) (a : Addr) (xs : List D) : Prop where
  at_ : ∃ vs, H a = some (.lst vs) ∧ RepL P.K g.F vs xs
  nF : g.F a = none
  nC : a ∉ g.ca
  nE : HE a = none
theorem RelS.setOwn (r : RelS P gE HE Fb g env c σ H) (i : Nat) {a : Addr} {xs : List D} (o : Own P HE g H a xs) (hd : ∀ (j : Nat) (ys : List D), j ≠ i → env.look j = .own ys → σ[j]? = some (some (.ref a)) → False) :
    RelS P gE HE Fb g (env.set i (.own xs)) c (σ.set i (some (.ref a))) H := by
  obtain ⟨vs, h1, h2⟩ := o.at_
  have get : ∀ {j : Nat} {zs : List D}, env.look j = .own zs → ¬(i = j ∧ i < env.length) → i ≠ j ∧ (σ.set i (some (.ref a)))[j]? = σ[j]? := fun {j zs} e n => by
    by_cases q : i = j
    · subst q
      have : env.length ≤ i := by
        have := fun q => n ⟨rfl, q⟩
        omega
      rw [look_len this] at e
      cases e
    · exact ⟨q, List.getElem?_set_ne q⟩
  refine ⟨⟨r.toCRel, fun j => ?_, fun j k ys zs b hjk e1 e2 e3 e4 => ?_, by rw [List.length_set, List.length_set]; exact r.elen⟩, r.ext, r.fb, fun j b ys e1 e2 => ?_⟩
  · rw [look_set]
    by_cases hij : i = j ∧ i < env.length
    · rw [if_pos hij]
      obtain ⟨e, hl⟩ := hij
      subst e
      rw [List.getElem?_set_self (Nat.lt_of_lt_of_le hl r.elen)]
      exact ⟨a, vs, rfl, h1, h2, o.nF, o.nC⟩
    · rw [if_neg hij]
      by_cases e : i = j
      · subst e
        have : env.length ≤ i := by
          have := fun q => hij ⟨rfl, q⟩
          omega
        rw [look_len this]
        trivial
      · rw [List.getElem?_set_ne e]
        exact r.slot j
  · rw [look_set] at e1 e2
    split at e1
    · rename_i q
      obtain ⟨rfl, hl⟩ := q
      rw [List.getElem?_set_self (Nat.lt_of_lt_of_le hl r.elen)] at e3
      cases e3
      split at e2
      · rename_i q2
        exact hjk q2.1
      · rename_i n2
        obtain ⟨n3, n4⟩ := get e2 n2
        rw [n4] at e4
        exact hd k zs (Ne.symm n3) e2 e4
    · rename_i n1
      obtain ⟨n3, n4⟩ := get e1 n1
      rw [n4] at e3
      split at e2
      · rename_i q2
        obtain ⟨rfl, hl⟩ := q2
        rw [List.getElem?_set_self (Nat.lt_of_lt_of_le hl r.elen)] at e4
        cases e4
        exact hd j ys (Ne.symm n3) e1 e3
      · rename_i n2
        obtain ⟨n5, n6⟩ := get e2 n2
        rw [n6] at e4
        exact r.dis j k ys zs b hjk e1 e2 e3 e4
  · rw [look_set] at e1
    split at e1
    · rename_i q
      obtain ⟨rfl, hl⟩ := q
      rw [List.getElem?_set_self (Nat.lt_of_lt_of_le hl r.elen)] at e2
      cases e2
      exact o.nE
    · rename_i n1
      obtain ⟨n3, n4⟩ := get e1 n1
      rw [n4] at e2
      exact r.own j b ys e1 e2
/-- an own list is rewritten -/
theorem RelS.rewr (r : RelS P gE HE Fb g env c σ H) {i : Nat} {a : Addr} {xs ys : List D} {us : List V} (h1 : env.look i = .own xs) (h2 : σ[i]? = some (some (.ref a))) (h3 : RepL P.K g.F us ys) : RelS P gE HE Fb g (env.set i (.own ys)) c σ (upd H a (.lst us)) := by
  have nE := r.own i a xs h1 h2
  have s := r.slot i
  rw [h1] at s
  obtain ⟨a', vs, q1, q2, q3, q4, q5⟩ := s
  rw [h2] at q1
  cases q1
  have il : i < env.length := by
    rcases Nat.lt_or_ge i env.length with h | h
    · exact h
    · rw [look_len h] at h1; cases h1
  refine ⟨⟨r.toCRel.updD q4 q5, fun j => ?_, fun j k ys zs b hjk e1 e2 e3 e4 => ?_, by rw [List.length_set]; exact r.elen⟩, r.ext.updD nE, r.fb, fun j b ys e1 e2 => ?_⟩
  · rw [look_set]
    by_cases hij : i = j ∧ i < env.length
    · rw [if_pos hij]
      obtain ⟨e, hl⟩ := hij
      subst e
      exact ⟨a, us, h2, upd_same, h3, q4, q5⟩
    · rw [if_neg hij]
      have hij : i ≠ j := fun e => hij ⟨e, il⟩
      have s := r.slot j
      cases e : env.look j with
      | no => trivial
      | v x => rw [e] at s; exact s
      | own zs =>
        rw [e] at s
        obtain ⟨b, ws, w1, w2, w3, w4, w5⟩ := s
        have : b ≠ a := fun z => by subst z; exact r.dis i j xs zs b hij h1 e h2 w1
        exact ⟨b, ws, w1, by rw [upd_ne this]; exact w2, w3, w4, w5⟩
      | exn k ds =>
        rw [e] at s
        obtain ⟨b, C, fs, dd, ws, w1, w2, w3, w4, w5, w6, w7⟩ := s
        have : dd ≠ a := fun z => by subst z; rw [q2] at w4; cases w4
        exact ⟨b, C, fs, dd, ws, w1, w2, w3, by rw [upd_ne this]; exact w4, w5, w6, w7⟩
  · rw [look_set] at e1 e2
    have f : ∀ {j : Nat} {zs : List D}, (if i = j ∧ i < env.length then Sl.own ‹List D› else env.look j) = .own zs → ∃ ws, env.look j = .own ws := fun {j zs} e => by
      split at e
      · rename_i q; obtain ⟨rfl, _⟩ := q; exact ⟨_, h1⟩
      · exact ⟨_, e⟩
    have f1 : ∃ ws, env.look j = .own ws := by
      split at e1
      · rename_i q; obtain ⟨rfl, _⟩ := q; exact ⟨_, h1⟩
      · exact ⟨_, e1⟩
    have f2 : ∃ ws, env.look k = .own ws := by
      split at e2
      · rename_i q; obtain ⟨rfl, _⟩ := q; exact ⟨_, h1⟩
      · exact ⟨_, e2⟩
    obtain ⟨w1, f1⟩ := f1
    obtain ⟨w2, f2⟩ := f2
    exact r.dis j k w1 w2 b hjk f1 f2 e3 e4
  · rw [look_set] at e1
    split at e1
    · rename_i q; obtain ⟨rfl, _⟩ := q
      exact r.own i b xs h1 e2
    · exact r.own j b ys e1 e2
theorem nodup_at {α : Type} : ∀ {l : List α} {i j : Nat} {a : α}, l.Nodup → l[i]? = some a → l[j]? = some a → i = j
  | [], _, _, _, _, h, _ => by simp at h
  | x :: l, 0, 0, _, _, _, _ => rfl
  | x :: l, 0, j + 1, a, nd, h1, h2 => by
    simp at h1 h2
    subst h1
    exact absurd (List.mem_of_getElem? h2) (List.nodup_cons.mp nd).1
  | x :: l, i + 1, 0, a, nd, h1, h2 => by
    simp at h1 h2
    subst h2
    exact absurd (List.mem_of_getElem? h1) (List.nodup_cons.mp nd).1
  | x :: l, i + 1, j + 1, a, nd, h1, h2 => by
    simp at h1 h2
    rw [nodup_at (List.nodup_cons.mp nd).2 h1 h2]
/-- a cell is rewritten -/
theorem RelS.rewrC (r : RelS P gE HE Fb g env c σ H) {k : Nat} {a : Addr} {us : List V} {ys : List D} (h1 : g.ca[k]? = some a) (h3 : RepL P.K g.F us ys) : RelS P gE HE Fb g env (c.set k ys) σ (upd H a (.lst us)) := by
  have hm : a ∈ g.ca := List.mem_of_getElem? h1
  have hk : k < c.length := by rw [r.clen]; exact (List.getElem?_eq_some_iff.mp h1).1
  obtain ⟨vs0, c1, c2, c3⟩ := r.cell k a c[k] h1 (by simp [hk])
  have nc : ∀ {b : Addr}, b ∉ g.ca → b ≠ a := fun {b} n e => n (by rw [e]; exact hm)
  refine ⟨⟨⟨fun b u h => ?_, by simp [r.clen], r.cnd, fun j b xs e1 e2 => ?_⟩, fun j => ?_, r.dis, r.elen⟩, ⟨r.ext.F, r.ext.ca, fun b o e1 e2 => ?_, r.ext.nF, r.ext.nC, fun b e1 => ?_⟩, r.fb, r.own⟩
  · rw [upd_ne (fun z => by subst z; rw [c3] at h; cases h)]
    exact r.sub b u h
  · rw [List.getElem?_set] at e2
    by_cases hj : k = j
    · subst hj
      rw [if_pos rfl, if_pos hk] at e2
      cases e2
      rw [h1] at e1
      cases e1
      exact ⟨us, upd_same, h3, c3⟩
    · rw [if_neg hj] at e2
      obtain ⟨ws, w1, w2, w3⟩ := r.cell j b xs e1 e2
      refine ⟨ws, ?_, w2, w3⟩
      have : b ≠ a := fun z => by
        subst z
        exact hj (nodup_at r.cnd h1 e1)
      rw [upd_ne this]
      exact w1
  · have s := r.slot j
    cases e : env.look j with
    | no => trivial
    | v x => rw [e] at s; exact s
    | own zs =>
      rw [e] at s
      obtain ⟨b, ws, w1, w2, w3, w4, w5⟩ := s
      exact ⟨b, ws, w1, by rw [upd_ne (nc w5)]; exact w2, w3, w4, w5⟩
    | exn k ds =>
      rw [e] at s
      obtain ⟨b, C, fs, dd, ws, w1, w2, w3, w4, w5, w6, w7⟩ := s
      exact ⟨b, C, fs, dd, ws, w1, w2, w3, by rw [upd_ne (nc w7)]; exact w4, w5, w6, w7⟩
  · rw [upd_ne (nc (r.ext.nC b (by rw [e1]; simp) e2))]
    exact r.ext.keep b o e1 e2
  · by_cases z : b = a
    · subst z; rw [upd_same]; simp
    · rw [upd_ne z]; exact r.ext.dom b e1
/-- an own list is left as it is from here on -/
theorem RelS.frz (r : RelS P gE HE Fb g env c σ H) {i : Nat} {xs : List D} (h1 : env.look i = .own xs) : ∃ g', RelS P gE HE Fb g' (env.set i (.v (.d (.lst xs)))) c σ H := by
  have s := r.slot i
  rw [h1] at s
  obtain ⟨a, vs, q1, q2, q3, q4, q5⟩ := s
  have il : i < env.length := by
    rcases Nat.lt_or_ge i env.length with h | h
    · exact h
    · rw [look_len h] at h1; cases h1
  have s' : Sub g.F (upd g.F a (.lst vs)) := sub_new q4
  have r0 := r.setNo i (some (.ref a))
  have e0 : σ.set i (some (.ref a)) = σ := by
    apply List.ext_getElem?
    intro j
    rw [List.getElem?_set]
    by_cases hj : i = j
    · subst hj
      rw [if_pos rfl, if_pos (List.getElem?_eq_some_iff.mp q1).1, q1]
    · rw [if_neg hj]
  rw [e0] at r0
  have r1 := r0.toRel.frz (p := a) q2 q4 q5 (fun j b zs e1 e2 z => by
    subst z
    rw [look_set] at e1
    split at e1
    · cases e1
    · rename_i n
      exact r.dis i j xs zs b (fun z => n ⟨z, il⟩) h1 e1 q1 e2)
  have r2 := r1.setV i (v := .ref a) (x := .d (.lst xs)) (seal_rep q4 q3)
  rw [e0] at r2
  have e3 : (env.set i Sl.no).set i (.v (.d (.lst xs))) = env.set i (.v (.d (.lst xs))) := List.set_set ..
  rw [e3] at r2
  refine ⟨_, r2, ⟨r.ext.F.trans s', r.ext.ca, r.ext.keep, fun b e1 e2 => ?_, r.ext.nC, r.ext.dom⟩, r.fb.trans s', fun j b ys e1 e2 => ?_⟩
  · show upd g.F a _ b = none
    rw [upd_ne (fun z => by subst z; exact e1 (r.own i b xs h1 q1))]
    exact r.ext.nF b e1 e2
  · rw [look_set] at e1
    split at e1
    · cases e1
    · exact r.own j b ys e1 e2
theorem AftS.lift {F' : Hp} {r : SR} (h : AftS P W gE HE Fb r En) (s : Sub Fb F') : AftS P W gE HE F' r En := by
  cases r with
  | nx env' c' => exact fun g' σ' H' q => h g' σ' H' ⟨q.toRel, q.ext, s.trans q.fb, q.own⟩
  | rt v c' => exact h
  | exc k ds env' c' => exact fun g' σ' H' C fs d q => h g' σ' H' C fs d ⟨q.toRel, q.ext, s.trans q.fb, q.own⟩
  | stuck => exact h
end
end RX
end
section -- Rx19
namespace RX
open PySem PySem.Spec PyProof.Rows L2
structure XOkS (X : Cx) (P : Par) (W : WX) (nm : Nm) (n : Nat) (call : Nat → List Vl → M Vl) (gl : Nat → Option GV) (sc : Scope) (hot : Bool) : Prop extends XOk X P W nm n call gl sc hot where
  scE : X.env.scope = sc
  pas : hot = false → PassesOwn (model X.prog X.w) X.A X.env X.xe
  stk : hot = false → X.stack = X.env :: X.outer
  frm : hot = false → X.env.frame = some X.env.locals
  nms : ∀ k x fs, nm.ex k = some (x, fs) → ∃ C, P.cls k = some (C, fs) ∧ X.mg x = some (.ref C)
  exm : ∀ k k' C C' fs fs', P.cls k = some (C, fs) → P.cls k' = some (C', fs') → PySem.W.exmOne X.K (.ref C') (.ref C) = some (decide (k' = k))
  xfc : ∀ k C fs j f, P.cls k = some (C, fs) → nm.xf j = some f → XfC X.K C ∧ PySem.W.findIn X.K (.ref C) f = some none
  mkx : hot = false → ∀ k x fs C, nm.ex k = some (x, fs) → P.cls k = some (C, fs) → ∀ (pn : List (Addr × Obj)) (xe : Value → Shared → Prop) {e : Expr} {es : List Expr} {ta : TA} {p pos : Pos}, PA (X.tr pn xe) (e :: es) ta → glB sc x = true → noStar (e :: es) = true →
    PMk (X.tr pn xe) (.Call (.Name x p) (e :: es) [] pos) (fun σ H Q => ta σ H fun vs H1 => vs.length = fs.length ∧ ∀ d, H1 d = none → Q (.ref C) (some d) (upd H1 d (.xd (fs.zip vs))))
section
variable {X : Cx} {P : Par} {W : WX} {nm : Nm} {n : Nat} {call : Nat → List Vl → M Vl} {gl : Nat → Option GV} {sc : Scope} {hot : Bool} {gE : Gh} {HE : Hp}
theorem blockK {pins : List (Addr × Obj)} {σ : L2.St} {H : Hp} {s : Shared} (I : Inv X pins σ H s) : X.env.blockKind = .function := by
  unfold Env.blockKind
  rw [I.ok.kind]
  rfl
def noComp : Expr → Bool
  | .ListComp _ _ _ _ => false
  | .SetComp _ _ _ _ => false
  | .DictComp _ _ _ _ _ => false
  | _ => true
theorem noComp_sw {v : Expr} {t : Option Expr} {l : Nat} {env : PySem.Env} (h : noComp v = true) : swapsWith v t l env = pure false := by
  cases v <;> first | rfl | cases h
theorem noComp_sole {v tg : Expr} {l : Nat} {env : PySem.Env} (h : noComp v = true) : swapsWithSole [tg] v l env = pure false := noComp_sw h
/-- a list comprehension that is written onto a name at once -/
def lcSw (sc : Scope) (x : Str) (px : Pos) : Expr → Bool
  | .ListComp _ _ sc2 vp => decide (sc.names.lookup x = some .local) && (px.line == vp.line) && !(sc2.names.any fun (n, k) => n == x && (k == .local || k == .cell))
  | _ => false
def lcNo (sc : Scope) (x : Str) (px : Pos) : Expr → Bool
  | .ListComp _ _ sc2 vp => !(sc.names.lookup x == some .local && px.line == vp.line && !(sc2.names.any fun (n, k) => n == x && (k == .local || k == .cell)))
  | e => noComp e
theorem lcNo_sw {sc : Scope} {x : Str} {px : Pos} {v : Expr} {l : Nat} {env : PySem.Env} (hb : env.blockKind = .function) (he : env.scope = sc) (h : lcNo sc x px v = true) : swapsWith v (some (.Name x px)) l env = pure false := by
  cases v with
  | ListComp elt gs sc2 vp =>
    subst he
    have h : (!(env.scope.names.lookup x == some .local && px.line == vp.line && !(sc2.names.any fun (n, k) => n == x && (k == .local || k == .cell)))) = true := h
    show (pure (env.blockKind == .function && env.kindOf x == some .local && px.line == vp.line && !(sc2.names.any fun (n, k) => n == x && (k == .local || k == .cell))) : Sem Bool) = _
    have hk : env.kindOf x = env.scope.names.lookup x := rfl
    rw [hb, hk]
    rw [Bool.not_eq_true'] at h
    rw [show (ScopeKind.function == ScopeKind.function) = true from rfl, Bool.true_and, h]
  | _ => exact noComp_sw h
theorem lcSw_sw {sc : Scope} {x : Str} {px vp : Pos} {elt : Expr} {gs : List Comprehension} {sc2 : Scope} {l : Nat} {env : PySem.Env} (hb : env.scope.kind = .function) (he : env.scope = sc) (h : lcSw sc x px (.ListComp elt gs sc2 vp) = true) : swapsWith (.ListComp elt gs sc2 vp) (some (.Name x px)) l env = pure true := by
  subst he
  unfold lcSw at h
  simp only [Bool.and_eq_true, decide_eq_true_eq, Bool.not_eq_true'] at h
  exact sw_true hb h.1.1 h.1.2 h.2
theorem asg_of {st : Stmt} {i : Nat} {e : E} {te : TE} (h : ∀ σ H Q, TM P W (ev call gl e false) (rV P) σ H Q → te σ H Q) (hp : PS X st (tAsg te (gName i))) : PS X st (TMS P W gE HE (exS call gl (.asg i e))) := by
  refine hp.imp fun En σ H ⟨Fb, g, env, c, r, af⟩ => h _ _ _ ?_
  refine (onR_step (RR := rV P) (m := ev call gl e false) (f := fun v c => .nx (env.set i (.v v)) c) af r).imp fun v H1 ⟨g1, c1, a, e1, r1, b1, af⟩ => ?_
  exact af _ _ _ (r1.setV i b1)
theorem asgN_of {st : Stmt} {i : Nat} {e : E} {te : TE} (h : ∀ σ H Q, TM P W (ev call gl e false) (rN P) σ H Q → te σ H Q) (hp : PS X st (tAsg te (gName i))) : PS X st (TMS P W gE HE (exS call gl (.asgN i e))) := by
  refine hp.imp fun En σ H ⟨Fb, g, env, c, r, af⟩ => h _ _ _ ?_
  refine (onR_step (RR := rN P) (m := ev call gl e false) (f := fun v c => match v with | .d (.lst xs) => .nx (env.set i (.own xs)) c | _ => .stuck) af r).imp fun v H1 ⟨g1, c1, a, e1, r1, b1, af⟩ => ?_
  rcases b1 with ⟨b1, hn⟩ | ⟨p, vs, ds, q1, q2, q3, q4, q5, q6, q7⟩
  · cases a with
    | c i => exact af.elim
    | d a =>
      cases a <;> first | exact af.elim | skip
      exact absurd rfl (hn _)
  · subst q1 q2
    refine af _ _ _ (r1.setOwn i ⟨⟨vs, q3, q4⟩, q5, q6, ?_⟩ fun j ys hj e2 e3 => ?_)
    · cases q8 : HE p with
      | none => rfl
      | some o => exact absurd q7 (r.ext.dom p (by rw [q8]; simp))
    · have s := r.slot j
      rw [e2] at s
      obtain ⟨b, us, w1, w2, _⟩ := s
      rw [e3] at w1
      cases w1
      rw [q7] at w2
      cases w2
theorem set_name (ok : XOkS X P W nm n call gl sc hot) {i : Nat} {x : Str} {px p : Pos} {v : Expr} {te : TE} (h1 : nm.N[i]? = some x) (h2 : locB sc x = true) (h3 : lcNo sc x px v = true) (he : PE X v te) : PS X (.Assign [.Name x px] v p) (tAsg te (gName i)) :=
  ⟨fun pins s σ H D I q => (ps_set (pos := p) (by rw [ok.N]; exact ok.nd) (by rw [ok.N]; exact h1) (locB_loc ok.toXOk h2) he (lcNo_sw (blockK I) ok.scE h3) (ok.fn _ h2)).run pins s σ H D I q⟩
theorem setsE_eq : ∀ {is : List Nat} {xs : List D} {env : EnvD}, setsE env is (xs.map fun x => .v (.d x)) = (is.zip xs).foldl (fun e p => e.set p.1 (.v (.d p.2))) env
  | [], _, _ => rfl
  | _ :: _, [], _ => rfl
  | i :: is, x :: xs, env => by
    show setsE (env.set i (.v (.d x))) is (xs.map fun x => .v (.d x)) = _
    rw [setsE_eq]
    rfl
theorem RelS.setsT {g : Gh} {env : EnvD} {c : Cells} {σ : L2.St} {H Fb : Hp} (r : RelS P gE HE Fb g env c σ H) {is : List Nat} {vs : List V} {ds : List D} (h : RepL P.K g.F vs ds) : RelS P gE HE Fb g (setsE env is (ds.map fun x => .v (.d x))) c (setsV σ is vs) H := by
  rw [setsE_eq]
  exact r.keepO (r.toRel.setsV h) (OwnK.sets h.length)
/-- which tuple's items are stored one by one -/
def noSwap (sc : Scope) (ts : List Expr) : Expr → Bool
  | .Tuple vs _ _ => decide (swP sc ts vs = some none)
  | _ => true
theorem noSwap_sw {sc : Scope} {ts : List Expr} {k : Nat} {p : Pos} {v : Expr} {env : PySem.Env} (hb : env.blockKind = .function) (he : env.scope = sc) (h : noSwap sc ts v = true) : swappedStores [.Tuple ts k p] v env = pure none := by
  cases v with
  | Tuple vs k2 p2 => exact sw_pure hb he (by simpa [noSwap] using h)
  | _ => rfl
theorem asgT_of (ok : XOkS X P W nm n call gl sc hot) (hh : hot = false) {is : List Nat} {ts : List Expr} {e : E} {v : Expr} {k : Nat} {tp p : Pos} (h1 : mTgs nm sc is ts = true) (h2 : noComp v = true) (h3 : noSwap sc ts v = true) (he : SE X P W call gl e v) :
    PS X (.Assign [.Tuple ts k tp] v p) (TMS P W gE HE (exS call gl (.asgT is e))) := by
  have pg := pg_tg (x := .Tuple ts k tp) (t := .tp is) ok.toXOk (ok.calm hh) h1
  refine ⟨fun pins s σ H En I q => (ps_asg (pos := p) he.pe pg (noComp_sole h2) (noSwap_sw (blockK I) ok.scE h3) rfl).run pins s σ H En I ?_⟩
  obtain ⟨Fb, g, env, c, r, af⟩ := q
  refine (onR_step (RR := rV P) (m := ev call gl e false) (f := fun v c => match v with | .d (.tup xs) => if is.length = xs.length then .nx (setsE env is (xs.map fun x => .v (.d x))) c else .stuck | _ => .stuck) af r).imp fun v H1 ⟨g1, c1, a, e1, r1, b1, af⟩ => ?_
  cases a with
  | c i => exact af.elim
  | d a =>
    cases a <;> first | exact af.elim | skip
    rename_i xs
    dsimp only at af
    split at af
    · rename_i hl
      have b1 : Rep P.K g1.F v (.tup xs) := b1
      rw [← ok.K]
      exact ⟨g1.F, .tup xs, r1.sub, b1, hl, fun vs hv => af _ _ _ (r1.setsT hv)⟩
    · exact af.elim
/-- the values of a pair, some of them new lists -/
inductive RNs (P : Par) (g : Gh) (H0 H : Hp) : List Bool → List V → List Vl → Prop
  | nil : RNs P g H0 H [] [] []
  | consV {v : V} {vs : List V} {x : Vl} {xs : List Vl} {bs : List Bool} : RV P g v x → RNs P g H0 H bs vs xs → RNs P g H0 H (false :: bs) (v :: vs) (x :: xs)
  | consN {v : V} {vs : List V} {x : Vl} {xs : List Vl} {bs : List Bool} : rN P H0 g H v x → (∀ (a : Addr) (ds : List D), v = .ref a → x = .d (.lst ds) → ∀ (j : Nat) (ys : List D), bs[j]? = some true → xs[j]? = some (.d (.lst ys)) → vs[j]? = some (.ref a) → False) → RNs P g H0 H bs vs xs → RNs P g H0 H (true :: bs) (v :: vs) (x :: xs)
def rNs (P : Par) (bs : List Bool) : RRT (List V) (List Vl) := fun H0 g H vs xs => RNs P g H0 H bs vs xs
theorem RNs.mono {g : Gh} {H0 H1 H : Hp} {bs : List Bool} {vs : List V} {xs : List Vl} (d : ∀ a, H0 a ≠ none → H1 a ≠ none) (h : RNs P g H1 H bs vs xs) : RNs P g H0 H bs vs xs := by
  induction h with
  | nil => exact .nil
  | consV h1 _ ih => exact .consV h1 ih
  | consN h1 h2 _ ih => exact .consN (mono_rN _ _ _ _ _ _ d h1) h2 ih
theorem mono_rNs {bs : List Bool} : Mono (rNs P bs) := fun _ _ _ _ _ _ d h => RNs.mono d h
/-- a new list, kept -/
theorem rN.ext {H0 H H' : Hp} {g g' : Gh} {v : V} {x : Vl} (h : rN P H0 g H v x) (e : Ext g H g' H') : rN P H0 g' H' v x := by
  rcases h with ⟨h, n⟩ | ⟨a, vs, ds, h1, h2, h3, h4, h5, h6, h7⟩
  · exact .inl ⟨h.mono e.F e.ca, n⟩
  · exact .inr ⟨a, vs, ds, h1, h2, e.keep a _ h3 h6, h4.mono e.F, e.nF a (by rw [h3]; simp) h5, e.nC a (by rw [h3]; simp) h6, h7⟩
theorem RNs.new {g : Gh} {H0 H : Hp} {bs : List Bool} {vs : List V} {xs : List Vl} (h : RNs P g H0 H bs vs xs) {j : Nat} {a : Addr} {ds : List D} (h1 : bs[j]? = some true) (h2 : vs[j]? = some (.ref a)) (h3 : xs[j]? = some (.d (.lst ds))) : H0 a = none := by
  induction h generalizing j with
  | nil => simp at h1
  | consV _ _ ih =>
    cases j with
    | zero => simp at h1
    | succ j => exact ih (by simpa using h1) (by simpa using h2) (by simpa using h3)
  | consN q _ _ ih =>
    cases j with
    | zero =>
      simp at h2 h3
      subst h2 h3
      rcases q with ⟨_, n⟩ | ⟨a', vs', ds', e1, e2, _, _, _, _, e7⟩
      · exact absurd rfl (n ds)
      · cases e1
        exact e7
    | succ j => exact ih (by simpa using h1) (by simpa using h2) (by simpa using h3)
theorem RNs.lens {g : Gh} {H0 H : Hp} {bs : List Bool} {vs : List V} {xs : List Vl} (h : RNs P g H0 H bs vs xs) : vs.length = xs.length ∧ bs.length = xs.length := by
  induction h with
  | nil => exact ⟨rfl, rfl⟩
  | consV _ _ ih => simp [ih.1, ih.2]
  | consN _ _ _ ih => simp [ih.1, ih.2]
/-- a step, the start kept -/
theorem Aft.stepO {γ δ α β : Type} {RR : RRT δ γ} {RR1 : RRT β α} {σ : L2.St} {H0 H : Hp} {g0 g : Gh} {env : EnvD} {c : Cells} {m : EnvD → M α} {k : α → M γ} {Q : δ → Hp → Prop} (h : Aft P W σ g0 env H0 (M.bind (m env) k c) RR Q) (e0 : Ext g0 H0 g H) (r : Rel P g env c σ H) :
    TM P W m RR1 σ H fun v H1 => ∃ g1 c1 a, Ext g H g1 H1 ∧ Rel P g1 env c1 σ H1 ∧ RR1 H g1 H1 v a ∧ Aft P W σ g0 env H0 (k a c1) RR Q := by
  refine ⟨g, env, c, r, ?_⟩
  unfold M.bind at h
  cases e : m env c with
  | ok a c1 =>
    rw [e] at h
    exact fun g1 H1 v e1 r1 q1 => ⟨g1, c1, a, e1, r1, q1, h⟩
  | exc k ds c1 =>
    rw [e] at h
    exact fun g1 H1 C fs d e1 r1 => h g1 H1 C fs d (e0.trans e1) r1
  | stuck => rw [e] at h; exact h
theorem pan_nil : PA X [] (TM P W (evs call gl .nil) (rNs P [])) := pa_nil.imp fun σ H Q q => by
  obtain ⟨g, env, c, r, af⟩ := q
  exact af g H [] .refl r .nil
theorem pan_cons {e : E} {es : Es} {b : Bool} {bs : List Bool} {x : Expr} {xs : List Expr} (he : SE X P W call gl e x) (hb : b = true → isNew e = true) (hs : PA X xs (TM P W (evs call gl es) (rNs P bs))) (st : PySem.W.isStarred x = false) : PA X (x :: xs) (TM P W (evs call gl (.cons e es)) (rNs P (b :: bs))) := by
  cases b with
  | false =>
    refine (pa_cons he.pe hs (starOk st)).imp fun σ H Q q => ?_
    obtain ⟨g0, env, c0, r0, af⟩ := q
    rw [evs_cons] at af
    refine (Aft.stepO (RR1 := rV P) (m := ev call gl e false) af .refl r0).imp fun v H1 ⟨g1, c1, a, e1, r1, b1, af⟩ => ?_
    refine (Aft.stepO (RR1 := rNs P bs) (m := evs call gl es) af e1 r1).imp fun vs H2 ⟨g2, c2, as, e2, r2, b2, af⟩ => ?_
    exact af g2 H2 _ (e1.trans e2) r2 (.consV (RV.mono e2.F e2.ca b1) (RNs.mono e1.dom b2))
  | true =>
    refine (pa_cons (he.pn (hb rfl)) hs (starOk st)).imp fun σ H Q q => ?_
    obtain ⟨g0, env, c0, r0, af⟩ := q
    rw [evs_cons] at af
    refine (Aft.stepO (RR1 := rN P) (m := ev call gl e false) af .refl r0).imp fun v H1 ⟨g1, c1, a, e1, r1, b1, af⟩ => ?_
    refine (Aft.stepO (RR1 := rNs P bs) (m := evs call gl es) af e1 r1).imp fun vs H2 ⟨g2, c2, as, e2, r2, b2, af⟩ => ?_
    have b2 : RNs P g2 H1 H2 bs vs as := b2
    have b1 : rN P H g1 H1 v a := b1
    refine af g2 H2 _ (e1.trans e2) r2 (.consN (rN.ext b1 e2) (fun p ds q1 q2 j ys q3 q5 q4 => ?_) (RNs.mono e1.dom b2))
    subst q1 q2
    rcases b1 with ⟨_, nn⟩ | ⟨p', vs', ds', w1, w2, w3, _⟩
    · exact absurd rfl (nn ds)
    · cases w1
      have := b2.new q3 q4 q5
      rw [w3] at this
      cases this
end
end RX
end
section -- Rx20
namespace RX
open PySem PySem.Spec PyProof.Rows L2
section
variable {X : Cx} {P : Par} {W : WX} {nm : Nm} {n : Nat} {call : Nat → List Vl → M Vl} {gl : Nat → Option GV} {sc : Scope} {hot : Bool} {gE : Gh} {HE : Hp}
theorem setsN : ∀ {is : List Nat} {bs : List Bool} {vs : List V} {xs : List Vl} {sl : List Sl} {g : Gh} {env : EnvD} {c : Cells} {σ : L2.St} {H0 H Fb : Hp}, RNs P g H0 H bs vs xs → (xs.zip bs).mapM slN = some sl → is.Nodup → RelS P gE HE Fb g env c σ H → (∀ a, HE a ≠ none → H0 a ≠ none) →
    (∀ (j : Nat) (ys : List D) (a : Addr), env.look j = .own ys → σ[j]? = some (some (.ref a)) → ∀ (i : Nat) (zs : List D), bs[i]? = some true → xs[i]? = some (.d (.lst zs)) → vs[i]? = some (.ref a) → False) → RelS P gE HE Fb g (setsE env is sl) c (setsV σ is vs) H
  | [], bs, vs, xs, sl, g, env, c, σ, H0, H, Fb, h, e, nd, r, hd, hj => r
  | i :: is, _, _, _, sl, g, env, c, σ, H0, H, Fb, .nil, e, nd, r, hd, hj => by
    cases e
    exact r
  | i :: is, _, _, _, sl, g, env, c, σ, H0, H, Fb, .consV (v := v) (vs := vs) (x := x) (xs := xs) (bs := bs) h1 h2, e, nd, r, hd, hj => by
    rw [List.zip_cons_cons, List.mapM_cons] at e
    obtain ⟨s1, e1, e⟩ := Option.bind_eq_some_iff.mp e
    obtain ⟨s2, e2, e⟩ := Option.bind_eq_some_iff.mp e
    cases e
    cases e1
    rw [List.nodup_cons] at nd
    refine setsN (is := is) h2 e2 nd.2 (r.setV i h1) hd fun j ys a q1 q2 k zs q4 q5 q6 => ?_
    rw [look_set] at q1
    split at q1
    · cases q1
    · rename_i nn
      by_cases hij : i = j
      · subst hij
        have : env.length ≤ i := by
          have := fun q => nn ⟨rfl, q⟩
          omega
        rw [look_len this] at q1
        cases q1
      · rw [List.getElem?_set_ne hij] at q2
        exact hj j ys a q1 q2 (k + 1) zs (by simpa using q4) (by simpa using q5) (by simpa using q6)
  | i :: is, _, _, _, sl, g, env, c, σ, H0, H, Fb, .consN (v := v) (vs := vs) (x := x) (xs := xs) (bs := bs) h1 h0 h2, e, nd, r, hd, hj => by
    rw [List.zip_cons_cons, List.mapM_cons] at e
    obtain ⟨s1, e1, e⟩ := Option.bind_eq_some_iff.mp e
    obtain ⟨s2, e2, e⟩ := Option.bind_eq_some_iff.mp e
    cases e
    have hx : ∃ ds, x = .d (.lst ds) ∧ s1 = .own ds := by
      unfold slN at e1
      rw [if_pos rfl] at e1
      cases x with
      | c k => cases e1
      | d x => cases x <;> first | (cases e1; done) | (cases e1; exact ⟨_, rfl, rfl⟩)
    obtain ⟨ds, rfl, rfl⟩ := hx
    rw [List.nodup_cons] at nd
    rcases h1 with ⟨_, nn⟩ | ⟨p, us, ds', w1, w2, w3, w4, w5, w6, w7⟩
    · exact absurd rfl (nn ds)
    · subst w1
      cases w2
      have pE : HE p = none := by
        cases q8 : HE p with
        | none => rfl
        | some o => exact absurd w7 (hd p (by rw [q8]; simp))
      refine setsN (is := is) h2 e2 nd.2 (r.setOwn i ⟨⟨us, w3, w4⟩, w5, w6, pE⟩ fun j ys hj1 hj2 hj3 => ?_) hd fun j ys a q1 q2 k zs q4 q5 q6 => ?_
      · exact hj j ys p hj2 hj3 0 ds rfl rfl rfl
      · rw [look_set] at q1
        split at q1
        · rename_i q
          obtain ⟨rfl, hl⟩ := q
          rw [List.getElem?_set_self (Nat.lt_of_lt_of_le hl r.elen)] at q2
          cases q2
          exact h0 p ds rfl rfl k zs q4 q5 q6
        · rename_i nn
          by_cases hij : i = j
          · subst hij
            have : env.length ≤ i := by
              have := fun q => nn ⟨rfl, q⟩
              omega
            rw [look_len this] at q1
            cases q1
          · rw [List.getElem?_set_ne hij] at q2
            exact hj j ys a q1 q2 (k + 1) zs (by simpa using q4) (by simpa using q5) (by simpa using q6)
/-- a, b = x, y: which names (none: not so) -/
theorem par_of (ok : XOkS X P W nm n call gl sc hot) (hh : hot = false) {is : List Nat} {xs : List Str} {bs : List Bool} {ts es : List Expr} {as : Es} {k k2 : Nat} {tp vp p : Pos} (hi : is.map (fun i => nm.N[i]?) = xs.map some) (nd : is.Nodup) (hx : xs.all (fun x => decide (sc.names.lookup x = some .local)) = true)
    (hw : swP sc ts es = some (some xs)) (ha : PA X es (TM P W (evs call gl as) (rNs P bs))) : PS X (.Assign [.Tuple ts k tp] (.Tuple es k2 vp) p) (TMS P W gE HE (exS call gl (.par is as bs))) := by
  have hx' : ∀ x ∈ xs, X.env.scope.names.lookup x = some .local := fun x hm => by
    have := List.all_eq_true.mp hx x hm
    rw [ok.scE]
    simpa using this
  refine ⟨fun pins s σ H En I q => (ps_parN (pos := p) (ok.calm hh) (by rw [ok.N]; exact ok.nd) (by rw [ok.N]; exact hi) hx' nd ha (sw_pure (blockK I) ok.scE hw) rfl).run pins s σ H En I ?_⟩
  obtain ⟨Fb, g, env, c, r, af⟩ := q
  refine (onR_step (RR := rNs P bs) (m := evs call gl as) (f := fun vs c => if is.length = vs.length ∧ bs.length = vs.length ∧ vs.length ≤ szLine then
      (match (vs.zip bs).mapM slN with
      | some sl => .nx (setsE env is sl) c
      | none => .stuck) else .stuck) af r).imp fun vs H1 ⟨g1, c1, xs, e1, r1, b1, af⟩ => ?_
  have b1 : RNs P g1 H H1 bs vs xs := b1
  have hl := b1.lens
  split at af
  · rename_i hz
    cases e : (xs.zip bs).mapM slN with
    | none => rw [e] at af; exact af.elim
    | some sl =>
      rw [e] at af
      refine ⟨by omega, by rw [line_eq]; omega, af _ _ _ (setsN b1 e nd r1 (fun a h => r.ext.dom a h) fun j ys a q1 q2 i zs q3 q4 q5 => ?_)⟩
      have := b1.new q3 q5 q4
      have s := r.slot j
      rw [q1] at s
      obtain ⟨b, us, w1, w2, _⟩ := s
      rw [q2] at w1
      cases w1
      rw [this] at w2
      cases w2
  · exact af.elim
theorem own_at {g : Gh} {env : EnvD} {c : Cells} {σ : L2.St} {H Fb : Hp} {i : Nat} {xs : List D} (r : RelS P gE HE Fb g env c σ H) (e : env.look i = .own xs) : ∃ a vs, σ[i]? = some (some (.ref a)) ∧ H a = some (.lst vs) ∧ RepL P.K g.F vs xs ∧ g.F a = none ∧ a ∉ g.ca := by
  have s := r.slot i
  rw [e] at s
  exact s
theorem RelS.lookE {g : Gh} {env : EnvD} {c : Cells} {σ : L2.St} {H Fb : Hp} (r : RelS P gE HE Fb g env c σ H) {i : Nat} {a : Addr} {xs ys : List D} {us : List V} (h1 : env.look i = .own xs) (h2 : σ[i]? = some (some (.ref a))) (h3 : RepL P.K g.F us ys) :
    RelS P gE HE Fb g (env.set i (.own ys)) c σ (upd H a (.lst us)) := r.rewr h1 h2 h3
theorem hfew1 {e : Expr} {pos : Pos} {env : PySem.Env} (h : PySem.W.isStarred e = false) : ((backTo pos (starEach [e] env)).all (fun x => !x.1) && (backToKw pos (keywordEach [] env)).all (fun x => x.1.isSome) && decide ([e].length + ([] : List Keyword).length + (if ([] : List Keyword).isEmpty then 0 else 1) < 30)) = true := by
  rw [star1 h]
  rfl
theorem vr (ok : XOkS X P W nm n call gl sc hot) {i : Nat} {x : Str} {p : Pos} (h1 : nm.N[i]? = some x) (h2 : visB sc x = true) (h3 : nmOk x = true) : PE X (.Name x p) (fun σ H Q => ∃ v, σ[i]? = some (some v) ∧ Q v H) := by
  have hd := nm_debug h3
  exact pe_var (X := X) (i := i) (x := x) (pos := p) (by rw [ok.N]; exact h1) (vis_of ok.toXOk h2) hd.1 hd.2.1
theorem app_of (ok : XOkS X P W nm n call gl sc hot) {i : Nat} {x : Str} {e : E} {v : Expr} {px ap cp p : Pos} (h1 : nm.N[i]? = some x) (h2 : visB sc x = true) (h3 : nmOk x = true) (hl : (ap.endLine == cp.line) = true) (hs : PySem.W.isStarred v = false) (he : SE X P W call gl e v) :
    PS X (.Expr (.Call (.Attribute (.Name x px) "append" ap) [v] [] cp) p) (TMS P W gE HE (exS call gl (.app i e))) := by
  have pe := pe_bm (apos := ap) (cpos := cp) F.plainAttrs_list F.slot_list_append F.type_list_append mt_append (vr (p := px) ok h1 h2 h3) (pa_cons he.pe pa_nil (starOk hs)) rfl (hfew1 hs) hl (starOk hs) rfl
  refine (ps_expr (pos := p) pe rfl).imp fun En σ H ⟨Fb, g, env, c, r, af⟩ => ?_
  unfold exS at af
  cases e0 : env.look i with
  | own xs =>
    rw [e0] at af
    obtain ⟨a, vs, s1, s2, s3, s4, s5⟩ := own_at r e0
    refine ⟨_, s1, .inl ⟨rfl, vs, .inl (.inl s2)⟩, ?_⟩
    refine (onR_step (RR := rV P) (m := ev call gl e false) af r).imp fun y H1 ⟨g1, c1, z, e1, r1, b1, af⟩ => ?_
    cases z with
    | c k => exact af.elim
    | d z =>
      dsimp only at af
      split at af
      · rename_i hlen
        have b1 : Rep P.K g1.F y z := b1
        exact ⟨a, vs, y, rfl, rfl, e1.keep a _ s2 s5, by rw [s3.length, line_eq]; exact hlen, af _ _ _ (r1.rewr e0 s1 ((s3.mono e1.F).append (.cons b1 .nil)))⟩
      · exact af.elim
  | _ => rw [e0] at af; exact af.elim
theorem ext_of (ok : XOkS X P W nm n call gl sc hot) {i : Nat} {x : Str} {e : E} {v : Expr} {px ap cp p : Pos} (h1 : nm.N[i]? = some x) (h2 : visB sc x = true) (h3 : nmOk x = true) (hl : (ap.endLine == cp.line) = true) (hs : PySem.W.isStarred v = false) (hn : isNew e = true) (he : SE X P W call gl e v) :
    PS X (.Expr (.Call (.Attribute (.Name x px) "extend" ap) [v] [] cp) p) (TMS P W gE HE (exS call gl (.ext i e))) := by
  have pe := pe_bm (apos := ap) (cpos := cp) F.plainAttrs_list F.slot_list_extend F.type_list_extend mt_extend (vr (p := px) ok h1 h2 h3) (pa_cons (he.pn hn) pa_nil (starOk hs)) rfl (hfew1 hs) hl (starOk hs) rfl
  refine (ps_expr (pos := p) pe rfl).imp fun En σ H ⟨Fb, g, env, c, r, af⟩ => ?_
  unfold exS at af
  cases e0 : env.look i with
  | own xs =>
    rw [e0] at af
    obtain ⟨a, vs, s1, s2, s3, s4, s5⟩ := own_at r e0
    refine ⟨_, s1, .inl ⟨rfl, vs, .inl (.inl s2)⟩, ?_⟩
    refine (onR_step (RR := rN P) (m := ev call gl e false) af r).imp fun y H1 ⟨g1, c1, z, e1, r1, b1, af⟩ => ?_
    cases z with
    | c k => exact af.elim
    | d z =>
      cases z <;> first | exact af.elim | skip
      rename_i ys
      dsimp only at af
      split at af
      · rename_i hlen
        rcases b1 with ⟨_, nn⟩ | ⟨b, us, ds, w1, w2, w3, w4, w5, w6, w7⟩
        · exact absurd rfl (nn ys)
        · subst w1
          cases w2
          exact ⟨a, b, vs, us, rfl, rfl, e1.keep a _ s2 s5, w3, by rw [s3.length, w4.length, line_eq]; exact hlen, af _ _ _ (r1.rewr e0 s1 ((s3.mono e1.F).append w4))⟩
      · exact af.elim
  | _ => rw [e0] at af; exact af.elim
theorem pe_pop (ok : XOkS X P W nm n call gl sc hot) {i : Nat} {x : Str} {px ap cp : Pos} (h1 : nm.N[i]? = some x) (h2 : visB sc x = true) (h3 : nmOk x = true) (hl : (ap.endLine == cp.line) = true) :
    PE X (.Call (.Attribute (.Name x px) "pop" ap) [] [] cp) (tBM0 X.K "list" rPop (fun σ H Q => ∃ v, σ[i]? = some (some v) ∧ Q v H)) :=
  pe_bm0 (apos := ap) (cpos := cp) F.plainAttrs_list F.slot_list_pop F.type_list_pop mt_pop (vr (p := px) ok h1 h2 h3) rfl hl
theorem pop1_of (ok : XOkS X P W nm n call gl sc hot) {i j : Nat} {x y : Str} {px py ap cp p : Pos} (h1 : nm.N[i]? = some x) (h2 : visB sc x = true) (h3 : nmOk x = true) (hl : (ap.endLine == cp.line) = true) (h4 : nm.N[j]? = some y) (h5 : locB sc y = true) :
    PS X (.Assign [.Name y py] (.Call (.Attribute (.Name x px) "pop" ap) [] [] cp) p) (TMS P W gE HE (exS call gl (.pop1 j i))) := by
  refine (set_name ok h4 h5 rfl (pe_pop (px := px) ok h1 h2 h3 hl)).imp fun En σ H ⟨Fb, g, env, c, r, af⟩ => ?_
  unfold exS at af
  cases e0 : env.look i with
  | own xs =>
    rw [e0] at af
    obtain ⟨a, vs, s1, s2, s3, s4, s5⟩ := own_at r e0
    refine ⟨_, s1, .inl ⟨rfl, vs, .inl (.inl s2)⟩, ?_⟩
    dsimp only at af
    cases e1 : xs[xs.length - 1]? with
    | none => rw [e1] at af; exact af.elim
    | some d =>
      rw [e1] at af
      obtain ⟨v, hv, rv⟩ := s3.get e1
      exact ⟨a, vs, v, rfl, rfl, s2, by rw [s3.length]; exact hv, af _ _ _ ((r.rewr e0 s1 s3.dropLast).setV j (x := .d d) rv)⟩
  | _ => rw [e0] at af; exact af.elim
theorem popT_of (ok : XOkS X P W nm n call gl sc hot) (hh : hot = false) {i : Nat} {js : List Nat} {x : Str} {ts : List Expr} {k : Nat} {px tp ap cp p : Pos} (h1 : nm.N[i]? = some x) (h2 : visB sc x = true) (h3 : nmOk x = true) (hl : (ap.endLine == cp.line) = true) (h4 : mTgs nm sc js ts = true) :
    PS X (.Assign [.Tuple ts k tp] (.Call (.Attribute (.Name x px) "pop" ap) [] [] cp) p) (TMS P W gE HE (exS call gl (.popT js i))) := by
  have pg := pg_tg (x := .Tuple ts k tp) (t := .tp js) ok.toXOk (ok.calm hh) h4
  refine ⟨fun pins s σ H En I q => (ps_asg (pos := p) (pe_pop (px := px) ok h1 h2 h3 hl) pg rfl rfl rfl).run pins s σ H En I ?_⟩
  obtain ⟨Fb, g, env, c, r, af⟩ := q
  unfold exS at af
  cases e0 : env.look i with
  | own xs =>
    rw [e0] at af
    obtain ⟨a, vs, s1, s2, s3, s4, s5⟩ := own_at r e0
    refine ⟨_, s1, .inl ⟨rfl, vs, .inl (.inl s2)⟩, ?_⟩
    dsimp only at af
    cases e1 : xs[xs.length - 1]? with
    | none => rw [e1] at af; exact af.elim
    | some d =>
      rw [e1] at af
      obtain ⟨v, hv, rv⟩ := s3.get e1
      cases d <;> first | exact af.elim | skip
      rename_i ys
      dsimp only at af
      split at af
      · rename_i hlen
        have r1 := r.rewr e0 s1 s3.dropLast
        rw [← ok.K]
        exact ⟨a, vs, v, rfl, rfl, s2, by rw [s3.length]; exact hv, g.F, .tup ys, r1.sub, rv, hlen, fun us hu => af _ _ _ (r1.setsT hu)⟩
      · exact af.elim
  | _ => rw [e0] at af; exact af.elim
theorem set1_of (ok : XOkS X P W nm n call gl sc hot) {i : Nat} {x : Str} {k e : E} {y v : Expr} {px sp p : Pos} (h1 : nm.N[i]? = some x) (h2 : visB sc x = true) (h3 : nmOk x = true) (h4 : noComp v = true) (h5 : notSlice y = true) (hk : SE X P W call gl k y) (he : SE X P W call gl e v) :
    PS X (.Assign [.Subscript (.Name x px) y sp] v p) (TMS P W gE HE (exS call gl (.set1 i k e))) := by
  refine (ps_asg (pos := p) he.pe (pg_sub (vr (p := px) ok h1 h2 h3) hk.pb set_list (by intro u; cases y <;> first | rfl | cases h5)) (noComp_sole h4) (by cases v <;> rfl) rfl).imp fun En σ H ⟨Fb, g, env, c, r, af⟩ => ?_
  unfold exS at af
  cases e0 : env.look i with
  | own xs =>
    rw [e0] at af
    obtain ⟨a, vs, s1, s2, s3, s4, s5⟩ := own_at r e0
    refine (onR_step (RR := rV P) (m := ev call gl e false) af r).imp fun z H1 ⟨g1, c1, d, e1, r1, b1, af⟩ => ⟨_, s1, ?_⟩
    refine (onR_step (RR := rB P) (m := ev call gl k true) af r1).imp fun u H2 ⟨g2, c2, d2, e2, r2, b2, af⟩ => ?_
    match d, d2, b1, b2, af with
    | .d d, .d (.int k), b1, b2, af =>
    dsimp only at af
    cases e3 : ixAt xs.length k with
    | none => rw [e3] at af; exact af.elim
    | some j =>
      rw [e3] at af
      have b1 : Rep P.K g1.F z d := b1
      have s3' := (s3.mono e1.F).mono e2.F
      refine ⟨a, vs, k, j, rfl, b2.rep.ofInt, e2.keep a _ (e1.keep a _ s2 s5) (e1.nC a (by rw [s2]; simp) s5), by rw [← ixAt_eq, s3.length]; exact e3, af _ _ _ (r2.rewr e0 s1 (s3'.set j (b1.mono e2.F)))⟩
  | _ => rw [e0] at af; exact af.elim
theorem cell_at {g : Gh} {env : EnvD} {c : Cells} {σ : L2.St} {H Fb : Hp} {i j : Nat} (r : RelS P gE HE Fb g env c σ H) (e : env.look i = .v (.c j)) : ∃ a, σ[i]? = some (some (.ref a)) ∧ g.ca[j]? = some a := by
  have s := r.slot i
  rw [e] at s
  obtain ⟨v, h1, a, h2, h3⟩ := s
  subst h2
  exact ⟨a, h1, h3⟩
theorem cix {xs : List D} {vs : List V} {k : Nat} {K : PySem.W.Frag} {F : Hp} (h : RepL K F vs xs) (hk : k < xs.length) : ixN vs.length (k : Int) = some k := by
  rw [← ixAt_eq, h.length]
  unfold ixAt
  rw [if_pos (by omega), if_pos (by omega)]
  simp
theorem cset_of (ok : XOkS X P W nm n call gl sc hot) {i k : Nat} {x : Str} {e : E} {v : Expr} {px sp kp p : Pos} {t : Nat} (h1 : nm.N[i]? = some x) (h2 : visB sc x = true) (h3 : nmOk x = true) (h4 : noComp v = true) (he : SE X P W call gl e v) :
    PS X (.Assign [.Subscript (.Name x px) (.Constant (.int (k : Int)) t kp) sp] v p) (TMS P W gE HE (exS call gl (.cset i k e))) := by
  refine (ps_asg (pos := p) he.pe (pg_sub (vr (p := px) ok h1 h2 h3) (pe_int (i := (k : Int)) (j := t) (pos := kp)) set_list) (noComp_sole h4) (by cases v <;> rfl) rfl).imp fun En σ H ⟨Fb, g, env, c, r, af⟩ => ?_
  unfold exS at af
  cases e0 : env.look i with
  | v y =>
    rw [e0] at af
    cases y with
    | d y => exact af.elim
    | c j =>
      obtain ⟨a, s1, s2⟩ := cell_at r e0
      refine (onR_step (RR := rV P) (m := ev call gl e false) af r).imp fun z H1 ⟨g1, c1, d, e1, r1, b1, af⟩ => ⟨_, s1, ?_⟩
      have s2' := ca_mono e1.ca s2
      cases d with
      | c m => exact af.elim
      | d d =>
        cases e3 : c1[j]? with
        | none => rw [e3] at af; exact af.elim
        | some xs =>
          rw [e3] at af
          have af : AftS P W gE HE Fb (if k < xs.length then SR.nx env (c1.set j (xs.set k d)) else .stuck) En := af
          split at af
          · rename_i hk
            obtain ⟨vs, w1, w2, w3⟩ := r1.cell j a xs s2' e3
            exact ⟨a, vs, (k : Int), k, rfl, rfl, w1, cix w2 hk, af _ _ _ (r1.rewrC s2' (w2.set k b1))⟩
          · exact af.elim
  | _ => rw [e0] at af; exact af.elim
theorem csetT_of (ok : XOkS X P W nm n call gl sc hot) (hh : hot = false) {i j k : Nat} {x y : Str} {e : E} {v : Expr} {px py sp kp tp p : Pos} {t tk : Nat} (h1 : nm.N[i]? = some x) (h2 : visB sc x = true) (h3 : nmOk x = true) (h4 : noComp v = true) (h5 : nm.N[j]? = some y) (h6 : locB sc y = true)
    (h7 : noSwap sc [.Subscript (.Name x px) (.Constant (.int (k : Int)) t kp) sp, .Name y py] v = true) (hij : i ≠ j) (he : SE X P W call gl e v) :
    PS X (.Assign [.Tuple [.Subscript (.Name x px) (.Constant (.int (k : Int)) t kp) sp, .Name y py] tk tp] v p) (TMS P W gE HE (exS call gl (.csetT i k j e))) := by
  have pg := pg_tup (pos := tp) (k := tk) (ok.calm hh) (pgs_cons (pg_sub (pos := sp) (vr (p := px) ok h1 h2 h3) (pe_int (i := (k : Int)) (j := t) (pos := kp)) set_list) (pgs_cons (pg_name (pos := py) (by rw [ok.N]; exact ok.nd) (by rw [ok.N]; exact h5) (locB_loc ok.toXOk h6) (ok.fn _ h6)) pgs_nil)) (n := 2)
  refine ⟨fun pins s σ H En I q => (ps_asg (pos := p) he.pe pg (noComp_sole h4) (noSwap_sw (blockK I) ok.scE h7) rfl).run pins s σ H En I ?_⟩
  obtain ⟨Fb, g, env, c, r, af⟩ := q
  unfold exS at af
  cases e0 : env.look i with
  | v y =>
    rw [e0] at af
    cases y with
    | d y => exact af.elim
    | c m =>
      obtain ⟨a, s1, s2⟩ := cell_at r e0
      refine (onR_step (RR := rV P) (m := ev call gl e false) af r).imp fun z H1 ⟨g1, c1, d, e1, r1, b1, af⟩ => ?_
      have s2' := ca_mono e1.ca s2
      cases d with
      | c m => exact af.elim
      | d d =>
        match d, b1, af with
        | .tup [d1, d2], b1, af =>
          cases e3 : c1[m]? with
          | none => rw [e3] at af; exact af.elim
          | some xs =>
            rw [e3] at af
            have af : AftS P W gE HE Fb (if k < xs.length then SR.nx (env.set j (.v (.d d2))) (c1.set m (xs.set k d1)) else .stuck) En := af
            split at af
            · rename_i hk
              obtain ⟨vs, w1, w2, w3⟩ := r1.cell m a xs s2' e3
              have b1 : Rep P.K g1.F z (.tup [d1, d2]) := b1
              obtain ⟨b, us, t1, t2, t3⟩ := b1.ofTup
              obtain ⟨u1, r', q1, q2, t3⟩ := t3.cons_inv
              obtain ⟨u2, r'', q3, q4, t3⟩ := t3.cons_inv
              have := t3.nil_inv
              subst this q3 q1
              rw [ok.K] at t2
              refine ⟨b, _, t1, SqT.mono r1.sub t2, rfl, u1, _, rfl, ⟨_, s1, a, vs, (k : Int), k, rfl, rfl, w1, cix w2 hk, u2, _, rfl, rfl, af _ _ _ ((r1.rewrC s2' (w2.set k q2)).setV j (x := .d d2) q4)⟩⟩
            · exact af.elim
  | _ => rw [e0] at af; exact af.elim
end
end RX
end
section -- Rx21
namespace RX
open PySem PySem.Spec PyProof.Rows L2
section
variable {X : Cx} {P : Par} {W : WX} {nm : Nm} {n : Nat} {call : Nat → List Vl → M Vl} {gl : Nat → Option GV} {sc : Scope} {hot : Bool} {gE : Gh} {HE : Hp}
theorem ex_of (ok : XOkS X P W nm n call gl sc hot) {e : E} {v : Expr} {p : Pos} (h : noComp v = true) (he : SE X P W call gl e v) : PS X (.Expr v p) (TMS P W gE HE (exS call gl (.ex e))) := by
  refine (ps_expr (pos := p) he.pb (noComp_sw h)).imp fun En σ H ⟨Fb, g, env, c, r, af⟩ => ?_
  unfold exS at af
  exact (onR_step (RR := rB P) (m := ev call gl e true) af r).imp fun y H1 ⟨g1, c1, z, e1, r1, b1, af⟩ => af _ _ _ r1
theorem ret_of {e : E} {v : Expr} {p : Pos} (he : SE X P W call gl e v) : PS X (.Return (some v) p) (TMS P W gE HE (exS call gl (.ret e))) := by
  refine (ps_ret (pos := p) he.pe).imp fun En σ H ⟨Fb, g, env, c, r, af⟩ => ?_
  unfold exS at af
  exact (onR_step (RR := rV P) (m := ev call gl e false) af r).imp fun y H1 ⟨g1, c1, z, e1, r1, b1, af⟩ => af _ _ _ r1.ext r1.toCRel b1
theorem if_of {t : E} {a b : Ss} {v : Expr} {x y : List Stmt} {p : Pos} (ht : SE X P W call gl t v) (ha : PSs X x (TMS P W gE HE (exs call gl a))) (hb : PSs X y (TMS P W gE HE (exs call gl b))) : PS X (.If v x y p) (TMS P W gE HE (exS call gl (.iff t a b))) := by
  refine (ps_if (pos := p) ht.pt ha hb).imp fun En σ H ⟨Fb, g, env, c, r, af⟩ => ?_
  unfold exS at af
  refine (onR_step (RR := rTru) (m := fun env => M.bind (ev call gl t true env) truM) af r).imp fun k H1 ⟨g1, c1, z, e1, r1, b1, af⟩ => ?_
  obtain rfl : k = z := b1
  cases k with
  | true => exact ⟨Fb, g1, env, c1, r1, af⟩
  | false => exact ⟨Fb, g1, env, c1, r1, af⟩
theorem thn_step {Fb : Hp} {r : SR} {f : EnvD → Cells → SR} {En : Ends} (h : AftS P W gE HE Fb (r.thn f) En) : AftS P W gE HE Fb r { En with nx := fun σ' H' => TMS P W gE HE f En σ' H' } := by
  cases r with
  | nx env' c' => exact fun g' σ' H' q => ⟨Fb, g', env', c', q, h⟩
  | rt v c' => exact h
  | exc k ds env' c' => exact h
  | stuck => exact h
theorem nil_of : PSs X [] (TMS P W gE HE (exs call gl .nil)) := pss_nil.imp fun En σ H ⟨Fb, g, env, c, r, af⟩ => by
  unfold exs at af
  exact af _ _ _ r
theorem cons_of {s : S} {ss : Ss} {st : Stmt} {sts : List Stmt} (h1 : PS X st (TMS P W gE HE (exS call gl s))) (h2 : PSs X sts (TMS P W gE HE (exs call gl ss))) : PSs X (st :: sts) (TMS P W gE HE (exs call gl (.cons s ss))) := by
  refine (pss_cons h1 h2).imp fun En σ H ⟨Fb, g, env, c, r, af⟩ => ⟨Fb, g, env, c, r, ?_⟩
  unfold exs at af
  exact thn_step af
theorem frz_of {i : Nat} {ss : Ss} {sts : List Stmt} (h2 : PSs X sts (TMS P W gE HE (exs call gl ss))) : PSs X sts (TMS P W gE HE (exs call gl (.cons (.frz i) ss))) := by
  refine h2.imp fun En σ H ⟨Fb, g, env, c, r, af⟩ => ?_
  unfold exs exS at af
  cases e : env.look i with
  | own xs =>
    rw [e] at af
    obtain ⟨g', r'⟩ := r.frz e
    exact ⟨Fb, g', _, c, r', af⟩
  | _ => rw [e] at af; exact af.elim
theorem tg_relS {Fb : Hp} {t : Tg} {g : Gh} {env env' : EnvD} {c : Cells} {σ : L2.St} {H : Hp} {v : V} {d : D} {Q : L2.St → Prop} (r : RelS P gE HE Fb g env c σ H) (h : Rep P.K g.F v d) (e : t.bind d env = some env')
    (q : ∀ σ', RelS P gE HE Fb g env' c σ' H → Q σ') : tgSet P.K g.F t v d σ Q := by
  cases t with
  | nm i =>
    cases e
    exact q _ (r.setV i (x := .d d) h)
  | tp is =>
    cases d <;> first | cases e | skip
    rename_i ds
    have e : (if is.length = ds.length then some ((is.zip ds).foldl (fun e p => e.set p.1 (.v (.d p.2))) env) else none) = some env' := e
    by_cases hl : is.length = ds.length
    · rw [if_pos hl] at e
      cases e
      exact ⟨hl, fun vs hv => q _ (r.keepO (r.toRel.setsV hv) (OwnK.sets hv.length))⟩
    · rw [if_neg hl] at e
      cases e
theorem for_of (ok : XOkS X P W nm n call gl sc hot) (hh : hot = false) {t : Tg} {s : Sr} {b : Ss} {tg it : Expr} {body : List Stmt} {p : Pos} (hs : SI X P W call gl s false tg it) (mt : mTg nm sc t tg = true) (hb : PSs X body (TMS P W gE HE (exs call gl b))) :
    PS X (.For tg it body [] p) (TMS P W gE HE (exS call gl (.for t s b))) := by
  have pg := pg_tg ok.toXOk (ok.calm hh) mt
  refine (ps_for (pos := p) (ok.pas hh) (ok.calm hh) hs.pi pg hb hs.fs).imp fun En σ H ⟨Fb, g, env, c, r, af⟩ => ?_
  unfold exS at af
  refine (onR_step (RR := rW P false) (m := evR call gl s false) af r).imp fun J H1 ⟨g1, c1, xs, e1, r1, wk, af⟩ => ?_
  have wk : Wk P false J g1 H1 xs := wk
  let f : D → EnvD → Cells → SR := fun x env c => match t.bind x env with | some env' => exs call gl b env' c | none => .stuck
  have af : AftS P W gE HE Fb (forRun f xs env c1) En := af
  let Inn : Nat → L2.St → Hp → Prop := fun i σ H => ∃ g env c, RelS P gE HE g1.F g env c σ H ∧ AftS P W gE HE Fb (forRun f (xs.drop i) env c) En
  have r1' : RelS P gE HE g1.F g1 env c1 σ H1 := ⟨r1.toRel, r1.ext, Sub.refl, r1.own⟩
  refine ⟨fun i m σ H => m = xs.length - i ∧ i ≤ xs.length ∧ Inn i σ H, ⟨xs.length, by simp, Nat.zero_le _, g1, env, c1, r1', af⟩, ?_⟩
  rintro i m σ2 H2 ⟨rfl, hi, g, env, c, r, af⟩
  obtain ⟨w1, w2, w3⟩ := wk g H2 ⟨r.fb, r.sub, fun e => by cases e⟩
  by_cases hlt : i < xs.length
  · refine .inr ⟨w1 i hlt, Inn (i + 1), fun σ' H' h' => ⟨xs.length - (i + 1), by omega, rfl, hlt, h'⟩, fun v H3 hy => ?_⟩
    rw [List.drop_eq_getElem_cons hlt] at af
    have hxi : xs[i]? = some xs[i] := List.getElem?_eq_getElem hlt
    generalize xs[i] = xd at af hxi
    have item : ∃ g2, RelS P gE HE g1.F g2 env c σ2 H3 ∧ Rep P.K g2.F v xd := by
      rcases w3 i xd v H3 hxi hy with ⟨q1, q2⟩ | ⟨T, vs, ds, q1, q2, q3, q4, q5⟩
      · subst q1; exact ⟨g, r, q2⟩
      · subst q1 q2 q4
        exact ⟨_, r.step (.allocF q3 r.sub) (r.toRel.allocF q3), .tup (.inl (.inl upd_same)) (q5.mono (sub_new (r.sub.none q3)))⟩
    obtain ⟨g2, r2, rep⟩ := item
    have af : AftS P W gE HE Fb ((f xd env c).thn (forRun f (xs.drop (i + 1)))) En := af
    cases eb : t.bind xd env with
    | none =>
      have : f xd env c = .stuck := by
        show (match t.bind xd env with | some env' => exs call gl b env' c | none => .stuck) = _
        rw [eb]
      rw [this] at af
      exact af.elim
    | some env' =>
      have : f xd env c = exs call gl b env' c := by
        show (match t.bind xd env with | some env' => exs call gl b env' c | none => .stuck) = _
        rw [eb]
      rw [this] at af
      refine ⟨g2.F, xd, r2.sub, by rw [← ok.K]; exact rep, ?_⟩
      rw [← ok.K]
      refine tg_relS r2 rep eb fun σ' r' => ⟨g1.F, g2, env', c, r', ?_⟩
      cases e : exs call gl b env' c with
      | nx env2 c2 =>
        rw [e] at af
        exact fun g' σ' H' q => ⟨g', env2, c2, q, af⟩
      | rt v c2 => rw [e] at af; exact af
      | exc k ds env2 c2 =>
        rw [e] at af
        exact fun g' σ' H' C fs d q => af g' σ' H' C fs d ⟨q.toRel, q.ext, (r1.fb).trans q.fb, q.own⟩
      | stuck => rw [e] at af; exact af
  · have hie : i = xs.length := by omega
    subst hie
    refine .inl ⟨w2, ?_⟩
    rw [List.drop_length] at af
    exact af g σ2 H2 ⟨r.toRel, r.ext, r1.fb.trans r.fb, r.own⟩
theorem whl_of (ok : XOkS X P W nm n call gl sc hot) (hh : hot = false) {t : E} {b : Ss} {v : Expr} {body : List Stmt} {p : Pos} (ht : SE X P W call gl t v) (hb : PSs X body (TMS P W gE HE (exs call gl b))) : PS X (.While v body [] p) (TMS P W gE HE (exS call gl (.whl t b))) := by
  refine (ps_while (pos := p) (ok.pas hh) ht.pt hb).imp fun En σ H ⟨Fb, g, env, c, r, af⟩ => ?_
  unfold exS whl at af
  split at af
  · rename_i hx
    generalize hx.choose = m0 at af
    refine ⟨fun m σ H => ∃ g env c, RelS P gE HE Fb g env c σ H ∧ AftS P W gE HE Fb (whlN (fun env => M.bind (ev call gl t true env) truM) (exs call gl b) m env c) En, ⟨m0, g, env, c, r, af⟩, ?_⟩
    rintro m σ2 H2 ⟨g, env, c, r, af⟩
    cases m with
    | zero => exact af.elim
    | succ m =>
      unfold whlN at af
      refine (onR_step (RR := rTru) (m := fun env => M.bind (ev call gl t true env) truM) af r).imp fun k H1 ⟨g1, c1, z, e1, r1, b1, af⟩ => ?_
      obtain rfl : k = z := b1
      cases k with
      | false =>
        rw [if_neg (by simp)] at af ⊢
        exact af _ _ _ r1
      | true =>
        rw [if_pos rfl] at af ⊢
        refine ⟨fun σ' H' => ∃ g env c, RelS P gE HE Fb g env c σ' H' ∧ AftS P W gE HE Fb (whlN (fun env => M.bind (ev call gl t true env) truM) (exs call gl b) m env c) En, fun σ' H' h' => ⟨m, Nat.lt_succ_self _, h'⟩, Fb, g1, env, c1, r1, ?_⟩
        cases e : exs call gl b env c1 with
        | nx env2 c2 =>
          rw [e] at af
          exact fun g' σ' H' q => ⟨g', env2, c2, q, af⟩
        | rt v c2 => rw [e] at af; exact af
        | exc k ds env2 c2 => rw [e] at af; exact af
        | stuck => rw [e] at af; exact af
  · exact af.elim
end
end RX
end
section -- Rx22
namespace RX
open PySem PySem.Spec PyProof.Rows L2
section
variable {X : Cx} {P : Par} {W : WX} {nm : Nm} {n : Nat} {call : Nat → List Vl → M Vl} {gl : Nat → Option GV} {sc : Scope} {hot : Bool} {gE : Gh} {HE : Hp}
theorem evs_lenE : ∀ {es : Es} {env : EnvD} {c c' : Cells} {vs : List Vl} {k : List Expr} {sc : Scope} {hot : Bool}, mEs nm sc hot es k = true → evs call gl es env c = .ok vs c' → vs.length = k.length
  | .nil, env, c, c', vs, k, sc, hot, h, e => by
    cases k with
    | nil => cases e; rfl
    | cons _ _ => cases h
  | .cons x es, env, c, c', vs, k, sc, hot, h, e => by
    cases k with
    | nil => cases h
    | cons y k =>
      simp only [mEs, Bool.and_eq_true] at h
      rw [evs_cons] at e
      obtain ⟨v, c1, e1, e⟩ := M.bind_ok e
      obtain ⟨us, c2, e2, e⟩ := M.bind_ok e
      cases e
      rw [List.length_cons, List.length_cons, evs_lenE h.2 e2]
theorem RelS.alloc {Fb : Hp} {g : Gh} {env : EnvD} {c : Cells} {σ : L2.St} {H : Hp} (r : RelS P gE HE Fb g env c σ H) {p : Addr} {o : HO} (hp : H p = none) : RelS P gE HE Fb g env c σ (upd H p o) := r.step (.alloc hp) (r.toRel.alloc hp)
theorem rais_of (ok : XOkS X P W nm n call gl sc hot) (hh : hot = false) {k : Nat} {x : Str} {fs : List Str} {as : Es} {e : Expr} {es : List Expr} {q p pos : Pos} (hx : nm.ex k = some (x, fs)) (hg : glB sc x = true) (hst : noStar (e :: es) = true) (hl : (e :: es).length = fs.length) (hm : mEs nm sc hot as (e :: es) = true) :
    PS X (.Raise (some (.Call (.Name x q) (e :: es) [] p)) none pos) (TMS P W gE HE (exS call gl (.rais k as))) := by
  obtain ⟨C, hC, _⟩ := ok.nms k x fs hx
  have ha := (mEs_ok (P := P) as _ ok.toXOk hst hm).1
  have pm := ok.mkx hh k x fs C hx hC X.pn X.xe (p := q) (pos := p) ha hg hst
  refine (ps_raise (X := X) (W := W) (pos := pos) (ok.calm hh) ok.takes pm).imp fun En σ H ⟨Fb, g, env, c, r, af⟩ => ?_
  unfold exS at af
  refine ⟨g, env, c, r.toRel, ?_⟩
  cases e0 : evs call gl as env c with
  | ok xs c1 =>
    rw [e0] at af
    intro g' H' vs e1 r1 q1
    have q1 : RVs P g' vs xs := q1
    have af : AftS P W gE HE Fb (match xs.mapM (fun | Vl.d x => some x | .c _ => none) with | some ds => .exc k ds env c1 | none => .stuck) En := af
    cases e2 : xs.mapM (fun | Vl.d x => some x | .c _ => none) with
    | none => rw [e2] at af; exact af.elim
    | some ds =>
      rw [e2] at af
      have hr := rvs_all q1 e2
      have lv : vs.length = fs.length := by rw [q1.length, evs_lenE hm e0, hl]
      have r2 := r.step e1 r1
      exact ⟨lv, fun d hd => af g' σ _ C fs (some d) (r2.alloc hd) hC ⟨d, vs, rfl, upd_same, lv.symm, hr, fun z => r2.toCRel.ne hd z rfl⟩⟩
  | exc k' ds c1 =>
    rw [e0] at af
    exact fun g' H' C fs d e1 r1 q1 q2 => af g' σ H' C fs d (r.step e1 r1) q1 q2
  | stuck => rw [e0] at af; exact af.elim
def Par.ex (P : Par) (x : Option (Addr × Value × Option Addr)) : Par := { P with exa := x }
theorem CRel.par {g : Gh} {c : Cells} {H : Hp} {x : Option (Addr × Value × Option Addr)} (r : CRel P g c H) : CRel (P.ex x) g c H := ⟨r.sub, r.clen, r.cnd, r.cell⟩
theorem CRel.unpar {g : Gh} {c : Cells} {H : Hp} {x : Option (Addr × Value × Option Addr)} (r : CRel (P.ex x) g c H) : CRel P g c H := ⟨r.sub, r.clen, r.cnd, r.cell⟩
theorem RV.par {g : Gh} {v : V} {y : Vl} {x : Option (Addr × Value × Option Addr)} (h : RV P g v y) : RV (P.ex x) g v y := by cases y <;> exact h
theorem RV.unpar {g : Gh} {v : V} {y : Vl} {x : Option (Addr × Value × Option Addr)} (h : RV (P.ex x) g v y) : RV P g v y := by cases y <;> exact h
theorem RelS.par {Fb : Hp} {g : Gh} {env : EnvD} {c : Cells} {σ : L2.St} {H : Hp} {x : Option (Addr × Value × Option Addr)} (h0 : P.exa = none) (r : RelS P gE HE Fb g env c σ H) : RelS (P.ex x) gE HE Fb g env c σ H := by
  refine ⟨⟨r.toCRel.par, fun i => ?_, r.dis, r.elen⟩, r.ext, r.fb, r.own⟩
  have s := r.slot i
  cases e : env.look i with
  | no => trivial
  | v y =>
    rw [e] at s
    obtain ⟨v, h1, h2⟩ := s
    exact ⟨v, h1, h2.par⟩
  | own xs => rw [e] at s; exact s
  | exn k ds =>
    rw [e] at s
    obtain ⟨a, C, fs, dd, vs, h1, _⟩ := s
    rw [h0] at h1
    cases h1
theorem look_noX {env : EnvD} {i : Nat} : EnvD.look (env.map Sl.noX) i = (env.look i).noX := by
  unfold EnvD.look
  rw [List.getD_eq_getElem?_getD, List.getD_eq_getElem?_getD, List.getElem?_map]
  cases env[i]? <;> rfl
theorem RelS.unpar {Fb : Hp} {g : Gh} {env : EnvD} {c : Cells} {σ : L2.St} {H : Hp} {x : Option (Addr × Value × Option Addr)} (r : RelS (P.ex x) gE HE Fb g env c σ H) : RelS P gE HE Fb g (env.map Sl.noX) c σ H := by
  have own : ∀ {i : Nat} {xs : List D}, EnvD.look (env.map Sl.noX) i = .own xs → env.look i = .own xs := fun {i xs} h => by
    rw [look_noX] at h
    cases e : env.look i with
    | own ys => rw [e] at h; exact h
    | no => rw [e] at h; cases h
    | v y => rw [e] at h; cases h
    | exn k ds => rw [e] at h; cases h
  refine ⟨⟨r.toCRel.unpar, fun i => ?_, fun i j xs ys a h1 h2 h3 => r.dis i j xs ys a h1 (own h2) (own h3), by rw [List.length_map]; exact r.elen⟩, r.ext, r.fb, fun i a xs h => r.own i a xs (own h)⟩
  have s := r.slot i
  rw [look_noX]
  cases e : env.look i with
  | no => trivial
  | v y =>
    rw [e] at s
    obtain ⟨v, h1, h2⟩ := s
    exact ⟨v, h1, h2.unpar⟩
  | own xs => rw [e] at s; exact s
  | exn k ds => trivial
theorem AftS.unpar {Fb : Hp} {x : Option (Addr × Value × Option Addr)} {r : SR} {En : Ends} {i : Nat} (h : AftS P W gE HE Fb (match r with
        | .nx env2 c2 => .nx ((env2.map Sl.noX).set i .no) c2
        | .rt v c2 => .rt v c2
        | _ => .stuck) En) : AftS (P.ex x) noW gE HE Fb r { nx := fun σ' H' => En.nx (σ'.set i none) H', rt := En.rt, bk := fun σ' H' => En.bk (σ'.set i none) H', ct := fun σ' H' => En.ct (σ'.set i none) H' } := by
  cases r with
  | nx env' c' => exact fun g' σ' H' q => h g' _ H' (q.unpar.setNo i none)
  | rt v c' => exact fun g' H' u e q1 q2 => h g' H' u e q1.unpar q2.unpar
  | exc k ds env' c' => exact h.elim
  | stuck => exact h.elim
theorem tri_of (ok : XOkS X P W nm n call gl sc hot) (hh : hot = false) {b h : Ss} {k i : Nat} {x y : Str} {fs : List Str} {body suite : List Stmt} {b0 : Stmt} {np pos' pos : Pos} (hx : nm.ex k = some (x, fs)) (hg : glB sc x = true) (hy : nm.N[i]? = some y) (hyl : sc.names.lookup y = some .local)
    (hb : ∀ (W' : WX) (pn : List (Addr × Obj)) (xe : Value → Shared → Prop), Takes (X.tr pn xe) W' → PassesOwn (model X.prog X.w) X.A X.env xe → PSs (X.tr pn xe) body (TMS P W' gE HE (exs call gl b)))
    (hsu : ∀ (a : Addr) (oe : Obj) (cls : Value) (d : Option Addr) (pn : List (Addr × Obj)), Zc cls d oe → (∃ vs, oe.data = .fields vs) → PSs (X.suite a ((a, oe) :: pn)) (b0 :: suite) (TMS (P.ex (some (a, cls, d))) noW gE HE (exs call gl h))) :
    PS X (.Try body [.ExceptHandler (some (.Name x np)) (some y) (b0 :: suite) pos'] [] [] pos) (TMS P W gE HE (exS call gl (.tri b k i h))) := by
  obtain ⟨C, hC, hm⟩ := ok.nms k x fs hx
  obtain ⟨gx, hd, _⟩ := gl_of ok.toXOk hg
  have hk : X.env.kindOf y = some .local := by
    show X.env.scope.names.lookup y = _
    rw [ok.scE]
    exact hyl
  have main := ps_try_as (pos := pos) (pos' := pos') (np := np) (i := i) (n := y) (x := x) (c := .ref C) (b₀ := b0) (suite := suite) (body := body) (tb := fun W' => TMS P W' gE HE (exs call gl b)) (ts := fun a cls d => TMS (P.ex (some (a, cls, d))) noW gE HE (exs call gl h)) (Wout := W)
    (ok.stk hh) (ok.frm hh) (by rw [ok.N]; exact ok.nd) (by rw [ok.N]; exact hy) hk ⟨gx, hd, .inl hm⟩ ok.takes hb hsu
  refine main.imp fun En σ H ⟨Fb, g, env, c, r, af⟩ => ⟨Fb, g, env, c, r, ?_⟩
  unfold exS at af
  cases e : exs call gl b env c with
  | nx env2 c2 => rw [e] at af; exact af
  | rt v c2 => rw [e] at af; exact af
  | stuck => rw [e] at af; exact af
  | exc k' ds env2 c2 =>
    rw [e] at af
    dsimp only at af
    intro g' σ' H' C' fs' d q1 q2 q3
    refine ⟨_, ok.exm k k' C C' fs fs' hC q2, fun hk a ha => ?_, fun hk => ?_⟩
    · have hk : k' = k := by simpa using hk
      subst hk
      rw [if_pos rfl] at af
      rw [hC] at q2
      cases q2
      refine ⟨Fb, g', env2.set i (.exn k' ds), c2, ?_, AftS.unpar af⟩
      obtain ⟨dd, vs, w1, w2, w3, w4, w5⟩ := q3
      have r' := q1.par (x := some (a, .ref C, d)) (ok.exa hh)
      refine r'.keepO (r'.toRel.set1 i (fun _ => ⟨a, C, fs, dd, vs, by rw [← w1]; rfl, rfl, hC, w2, w3, w4, w5⟩) fun _ => by simp) (OwnK.set fun _ => by simp)
    · have hk : ¬ k' = k := by simpa using hk
      rw [if_neg hk] at af
      exact af g' σ' H' C' fs' d q1 q2 q3
end
end RX
end
section -- Rx23
namespace RX
open PySem PySem.Spec PyProof.Rows L2
section
variable (nm : Nm)
/-- the new lists among a pair's values -/
def flagsB : List Bool → Es → Bool
  | [], .nil => true
  | b :: bs, .cons e es => (!b || isNew e) && flagsB bs es
  | _, _ => false
def nmB (sc : Scope) (i : Nat) (x : Str) : Bool := decide (nm.N[i]? = some x) && visB sc x && nmOk x
/-- name = value -/
def asgB (sc : Scope) (hot : Bool) (i : Nat) (e : E) : Stmt → Bool
  | .Assign [.Name x px] v _ => decide (nm.N[i]? = some x) && locB sc x && mE nm sc hot e v && (lcNo sc x px v || (!hot && lcSw sc x px v && (match e with | .lc _ _ _ _ => true | _ => false)))
  | _ => false
mutual
def mS (sc : Scope) (hot : Bool) : S → Stmt → Bool
  | .asg i e, st => asgB nm sc hot i e st
  | .asgN i e, st => isNew e && asgB nm sc hot i e st
  | .asgT is e, .Assign [.Tuple ts _ _] v _ => !hot && mTgs nm sc is ts && noComp v && noSwap sc ts v && mE nm sc hot e v
  | .par is es bs, .Assign [.Tuple ts _ _] (.Tuple vs _ _) _ => !hot && decide (is.Nodup) && (match swP sc ts vs with | some (some xs) => decide (is.map (fun i => nm.N[i]?) = xs.map some) && xs.all (fun x => decide (sc.names.lookup x = some .local)) | _ => false) && noStar vs && flagsB bs es && mEs nm sc hot es vs
  | .app i e, .Expr (.Call (.Attribute (.Name x _) f ap) [v] [] cp) _ => decide (f = ("append" : Str)) && nmB nm sc i x && (ap.endLine == cp.line) && !PySem.W.isStarred v && mE nm sc hot e v
  | .ext i e, .Expr (.Call (.Attribute (.Name x _) f ap) [v] [] cp) _ => decide (f = ("extend" : Str)) && nmB nm sc i x && (ap.endLine == cp.line) && !PySem.W.isStarred v && isNew e && mE nm sc hot e v
  | .pop1 j i, .Assign [.Name y _] (.Call (.Attribute (.Name x _) f ap) [] [] cp) _ => decide (f = ("pop" : Str)) && nmB nm sc i x && (ap.endLine == cp.line) && decide (nm.N[j]? = some y) && locB sc y
  | .popT js i, .Assign [.Tuple ts _ _] (.Call (.Attribute (.Name x _) f ap) [] [] cp) _ => !hot && decide (f = ("pop" : Str)) && nmB nm sc i x && (ap.endLine == cp.line) && mTgs nm sc js ts
  | .set1 i k e, .Assign [.Subscript (.Name x _) y _] v _ => nmB nm sc i x && noComp v && notSlice y && mE nm sc hot k y && mE nm sc hot e v
  | .cset i k e, .Assign [.Subscript (.Name x _) (.Constant (.int q) _ _) _] v _ => decide (q = (k : Int)) && nmB nm sc i x && noComp v && mE nm sc hot e v
  | .csetT i k j e, .Assign [.Tuple [.Subscript (.Name x px) (.Constant (.int q) t kp) sp, .Name y py] _ _] v _ => !hot && decide (q = (k : Int)) && nmB nm sc i x && noComp v && decide (nm.N[j]? = some y) && locB sc y && noSwap sc [.Subscript (.Name x px) (.Constant (.int q) t kp) sp, .Name y py] v && decide (i ≠ j) && mE nm sc hot e v
  | .ex e, .Expr v _ => noComp v && mE nm sc hot e v
  | .iff t a b, .If v x y _ => mE nm sc hot t v && mSs sc hot a x && mSs sc hot b y
  | .for t s b, .For tg it body [] _ => !hot && mR nm sc hot s t it && mTg nm sc t tg && mSs sc hot b body
  | .whl t b, .While v body [] _ => !hot && mE nm sc hot t v && mSs sc hot b body
  | .ret e, .Return (some v) _ => mE nm sc hot e v
  | .rais k as, .Raise (some (.Call (.Name x _) (e :: es) [] _)) none _ => !hot && (match nm.ex k with | some (y, fs) => decide (y = x) && decide ((e :: es).length = fs.length) | none => false) && glB sc x && noStar (e :: es) && mEs nm sc hot as (e :: es)
  | .tri b k i h, .Try body [.ExceptHandler (some (.Name x _)) (some y) (b0 :: suite) _] [] [] _ => !hot && (match nm.ex k with | some (z, _) => decide (z = x) | none => false) && glB sc x && decide (nm.N[i]? = some y) && decide (sc.names.lookup y = some .local) && mSs sc false b body && mSs sc true h (b0 :: suite)
  | _, _ => false
def mSs (sc : Scope) (hot : Bool) : Ss → List Stmt → Bool
  | .nil, [] => true
  | .cons (.frz _) ss, sts => mSs sc hot ss sts
  | .cons s ss, st :: sts => mS sc hot s st && mSs sc hot ss sts
  | _, _ => false
end
end
section
variable {X : Cx} {P : Par} {W : WX} {nm : Nm} {n : Nat} {call : Nat → List Vl → M Vl} {gl : Nat → Option GV} {sc : Scope} {hot : Bool} {gE : Gh} {HE : Hp}
theorem XOkS.tr (ok : XOkS X P W nm n call gl sc hot) (hh : hot = false) {W' : WX} {pn : List (Addr × Obj)} {xe : Value → Shared → Prop} (tk : Takes (X.tr pn xe) W') (ps : PassesOwn (model X.prog X.w) X.A X.env xe) : XOkS (X.tr pn xe) P W' nm n call gl sc hot where
  K := ok.K
  N := ok.N
  nd := ok.nd
  scr := ok.scr
  fn := ok.fn
  guards := ok.guards
  units := ok.units
  calm := ok.calm
  room := ok.room
  takes := tk
  fns := ok.fns
  blt := ok.blt
  exa := ok.exa
  xnd := ok.xnd
  xfn := ok.xfn
  xf := fun a cls d h => by
    rw [ok.exa hh] at h
    cases h
  gts := ok.gts
  gls := ok.gls
  scE := ok.scE
  pas := fun _ => ps
  stk := ok.stk
  frm := ok.frm
  nms := ok.nms
  exm := ok.exm
  xfc := ok.xfc
  mkx := ok.mkx
theorem XOkS.sui (ok : XOkS X P W nm n call gl sc hot) {a : Addr} {oe : Obj} {cls : Value} {d : Option Addr} {pn : List (Addr × Obj)} (hz : Zc cls d oe) (hf : ∃ vs, oe.data = .fields vs) : XOkS (X.suite a ((a, oe) :: pn)) (P.ex (some (a, cls, d))) noW nm n call gl sc true where
  K := ok.K
  N := ok.N
  nd := ok.nd
  scr := ok.scr
  fn := ok.fn
  guards := ok.guards
  units := ok.units
  calm := fun h => by cases h
  room := fun h => by cases h
  takes := fun u s' ⟨_, _, _, _, _, _, _, _, _, _, _, _, _, _, _, _, h⟩ => h.elim
  fns := fun h => by cases h
  blt := ok.blt
  exa := fun h => by cases h
  xnd := ok.xnd
  xfn := ok.xfn
  xf := fun a' cls' d' h k C fs j f h1 h2 e te pos he hb => by
    cases h
    obtain ⟨q1, q2⟩ := ok.xfc k C fs j f h1 h2
    exact pe_xf q1 q2 hz hf he hb
  gts := ok.gts
  gls := ok.gls
  scE := ok.scE
  pas := fun h => by cases h
  stk := fun h => by cases h
  frm := fun h => by cases h
  nms := ok.nms
  exm := ok.exm
  xfc := ok.xfc
  mkx := fun h => by cases h
end
end RX
end
section -- Rx24
namespace RX
open PySem PySem.Spec PyProof.Rows L2
section
variable {nm : Nm} {n : Nat} {call : Nat → List Vl → M Vl} {gl : Nat → Option GV} {gE : Gh} {HE : Hp}
theorem nmB_of {sc : Scope} {i : Nat} {x : Str} (h : nmB nm sc i x = true) : nm.N[i]? = some x ∧ visB sc x = true ∧ nmOk x = true := by
  unfold nmB at h
  simp only [Bool.and_eq_true, decide_eq_true_eq] at h
  exact ⟨h.1.1, h.1.2, h.2⟩
/-- name = value, whatever the value's way -/
theorem asgB_ok {P : Par} {X : Cx} {W : WX} {sc : Scope} {hot : Bool} (ok : XOkS X P W nm n call gl sc hot) {i : Nat} {e : E} {st : Stmt} (h : asgB nm sc hot i e st = true) :
    ∃ (te1 te2 : TE), (∀ σ H Q, TM P W (ev call gl e false) (rV P) σ H Q → te1 σ H Q) ∧ PS X st (tAsg te1 (gName i)) ∧ (isNew e = true → (∀ σ H Q, TM P W (ev call gl e false) (rN P) σ H Q → te2 σ H Q) ∧ PS X st (tAsg te2 (gName i))) := by
  unfold asgB at h
  split at h
  · rename_i x px v p
    simp only [Bool.and_eq_true, Bool.or_eq_true, decide_eq_true_eq] at h
    obtain ⟨⟨⟨h1, h2⟩, h3⟩, h4⟩ := h
    rcases h4 with h4 | ⟨⟨h5, h6⟩, h7⟩
    · have he := mE_ok e v ok.toXOk h3
      exact ⟨_, TM P W (ev call gl e false) (rN P), fun _ _ _ q => q, set_name ok h1 h2 h4 he.pe, fun hn => ⟨fun _ _ _ q => q, set_name ok h1 h2 h4 (he.pn hn)⟩⟩
    · split at h7
      · rename_i t s c e'
        cases v <;> first | (cases h6; done) | skip
        rename_i x0 gs0 sc0 vp0
        unfold mE at h3
        split at h3 <;> first | (cases h3; done) | (rename_i q; cases q; done) | skip
        all_goals first | (exfalso; rename_i q _; cases q; done) | skip
        rename_i t' s' c' e'' x' tg it ifs sc2 vp q1 q2
        injection q1 with z1 z2 z3 z4
        injection q2 with z5 z6 z7 z8
        subst z1 z2 z3 z4 z5 z6 z7 z8
        simp only [Bool.and_eq_true, decide_eq_true_eq, Bool.not_eq_true'] at h3
        obtain ⟨⟨⟨⟨⟨⟨⟨g1, g2⟩, g3⟩, g4⟩, g5⟩, g6⟩, g7⟩, g8⟩ := h3
        have hyl : X.env.scope.names.lookup x = some .local := by
          rw [ok.scE]
          unfold lcSw at h6
          simp only [Bool.and_eq_true, decide_eq_true_eq] at h6
          exact h6.1.1
        have ps : PS X (.Assign [.Name x px] (.ListComp x0 [⟨tg, it, ifs, 0⟩] sc0 vp0) p) (tAsg (tLc (TM P W (evR call gl s true) (rW P true)) (gTg X.K t) (TM P noW (evC call gl c) rTru) (TM P noW (ev call gl e' false) (rV P)) t.slots) (gName i)) :=
          ⟨fun pins sh σ H D I q => (ps_lc ok.toXOk g1 (sp := p) h1 hyl (lcSw_sw I.ok.kind ok.scE h6) (mR_ok s _ _ ok.toXOk (md := .b) (mTg_tup g6) g2) g3 g4 g6 (fun X' ok' => pts_of (mC_ok c _ ok' g7)) (fun X' ok' => mE_ok e' _ ok' g8)).run pins sh σ H D I q⟩
        exact ⟨_, _, fun σ H Q q => lc_imp ok.toXOk good_rV q, ps, fun _ => ⟨fun σ H Q q => lc_imp ok.toXOk good_rN q, ps⟩⟩
      · cases h7
  · cases h
theorem pan_of {P : Par} {X : Cx} {W : WX} {sc : Scope} {hot : Bool} (ok : XOk X P W nm n call gl sc hot) : ∀ {bs : List Bool} {es : Es} {xs : List Expr}, flagsB bs es = true → noStar xs = true → mEs nm sc hot es xs = true → PA X xs (TM P W (evs call gl es) (rNs P bs))
  | [], .nil, [], _, _, _ => pan_nil
  | b :: bs, .cons e es, x :: xs, h1, h2, h3 => by
    simp only [flagsB, Bool.and_eq_true, Bool.or_eq_true, Bool.not_eq_true'] at h1
    simp only [mEs, Bool.and_eq_true] at h3
    obtain ⟨s1, s2⟩ := star_of h2
    exact pan_cons (mE_ok e x ok h3.1) (fun hb => (h1.1.resolve_left (by rw [hb]; simp))) (pan_of ok h1.2 s2 h3.2) s1
  | [], .nil, _ :: _, _, _, h => by cases h
  | [], .cons _ _, _, h, _, _ => by cases h
  | _ :: _, .nil, _, h, _, _ => by cases h
  | _ :: _, .cons _ _, [], _, _, h => by cases h
mutual
theorem mS_ok : ∀ (s : S) (st : Stmt) {P : Par} {X : Cx} {W : WX} {sc : Scope} {hot : Bool}, XOkS X P W nm n call gl sc hot → mS nm sc hot s st = true → PS X st (TMS P W gE HE (exS call gl s))
  | .asg i e, st, P, X, W, sc, hot, ok, h => by
    unfold mS at h
    obtain ⟨te1, te2, h1, h2, _⟩ := asgB_ok (P := P) (W := W) ok h
    exact asg_of h1 h2
  | .asgN i e, st, P, X, W, sc, hot, ok, h => by
    unfold mS at h
    rw [Bool.and_eq_true] at h
    obtain ⟨te1, te2, _, _, h3⟩ := asgB_ok (P := P) (W := W) ok h.2
    obtain ⟨h1, h2⟩ := h3 h.1
    exact asgN_of h1 h2
  | .asgT is e, st, P, X, W, sc, hot, ok, h => by
    unfold mS at h
    split at h <;> first | (cases h; done) | cases ‹S.asgT is e = _›
    simp only [Bool.and_eq_true, decide_eq_true_eq, Bool.not_eq_true'] at h
    obtain ⟨⟨⟨⟨h1, h2⟩, h3⟩, h4⟩, h5⟩ := h
    exact asgT_of ok h1 h2 h3 h4 (mE_ok e _ ok.toXOk h5)
  | .par is es bs, st, P, X, W, sc, hot, ok, h => by
    unfold mS at h
    split at h <;> first | (cases h; done) | cases ‹S.par is es bs = _›
    simp only [Bool.and_eq_true, decide_eq_true_eq, Bool.not_eq_true'] at h
    obtain ⟨⟨⟨⟨⟨h1, h2⟩, h3⟩, h4⟩, h5⟩, h6⟩ := h
    split at h3
    · rename_i xs hsw
      simp only [Bool.and_eq_true, decide_eq_true_eq] at h3
      exact par_of ok h1 h3.1 h2 h3.2 hsw (pan_of ok.toXOk h5 h4 h6)
    · cases h3
  | .app i e, st, P, X, W, sc, hot, ok, h => by
    unfold mS at h
    split at h <;> first | (cases h; done) | cases ‹S.app i e = _›
    simp only [Bool.and_eq_true, decide_eq_true_eq, Bool.not_eq_true'] at h
    obtain ⟨⟨⟨⟨h1, h2⟩, h3⟩, h4⟩, h5⟩ := h
    subst h1
    obtain ⟨a1, a2, a3⟩ := nmB_of h2
    exact app_of ok a1 a2 a3 h3 h4 (mE_ok e _ ok.toXOk h5)
  | .ext i e, st, P, X, W, sc, hot, ok, h => by
    unfold mS at h
    split at h <;> first | (cases h; done) | cases ‹S.ext i e = _›
    simp only [Bool.and_eq_true, decide_eq_true_eq, Bool.not_eq_true'] at h
    obtain ⟨⟨⟨⟨⟨h1, h2⟩, h3⟩, h4⟩, h5⟩, h6⟩ := h
    subst h1
    obtain ⟨a1, a2, a3⟩ := nmB_of h2
    exact ext_of ok a1 a2 a3 h3 h4 h5 (mE_ok e _ ok.toXOk h6)
  | .pop1 j i, st, P, X, W, sc, hot, ok, h => by
    unfold mS at h
    split at h <;> first | (cases h; done) | cases ‹S.pop1 j i = _›
    simp only [Bool.and_eq_true, decide_eq_true_eq, Bool.not_eq_true'] at h
    obtain ⟨⟨⟨⟨h1, h2⟩, h3⟩, h4⟩, h5⟩ := h
    subst h1
    obtain ⟨a1, a2, a3⟩ := nmB_of h2
    exact pop1_of ok a1 a2 a3 h3 h4 h5
  | .popT js i, st, P, X, W, sc, hot, ok, h => by
    unfold mS at h
    split at h <;> first | (cases h; done) | cases ‹S.popT js i = _›
    simp only [Bool.and_eq_true, decide_eq_true_eq, Bool.not_eq_true'] at h
    obtain ⟨⟨⟨⟨h0, h1⟩, h2⟩, h3⟩, h4⟩ := h
    subst h1
    obtain ⟨a1, a2, a3⟩ := nmB_of h2
    exact popT_of ok h0 a1 a2 a3 h3 h4
  | .set1 i k e, st, P, X, W, sc, hot, ok, h => by
    unfold mS at h
    split at h <;> first | (cases h; done) | cases ‹S.set1 i k e = _›
    simp only [Bool.and_eq_true, decide_eq_true_eq, Bool.not_eq_true'] at h
    obtain ⟨⟨⟨⟨h1, h2⟩, h3⟩, h4⟩, h5⟩ := h
    obtain ⟨a1, a2, a3⟩ := nmB_of h1
    exact set1_of ok a1 a2 a3 h2 h3 (mE_ok k _ ok.toXOk h4) (mE_ok e _ ok.toXOk h5)
  | .cset i k e, st, P, X, W, sc, hot, ok, h => by
    unfold mS at h
    split at h <;> first | (cases h; done) | cases ‹S.cset i k e = _›
    simp only [Bool.and_eq_true, decide_eq_true_eq, Bool.not_eq_true'] at h
    obtain ⟨⟨⟨h1, h2⟩, h3⟩, h4⟩ := h
    subst h1
    obtain ⟨a1, a2, a3⟩ := nmB_of h2
    exact cset_of ok a1 a2 a3 h3 (mE_ok e _ ok.toXOk h4)
  | .csetT i k j e, st, P, X, W, sc, hot, ok, h => by
    unfold mS at h
    split at h <;> first | (cases h; done) | cases ‹S.csetT i k j e = _›
    simp only [Bool.and_eq_true, decide_eq_true_eq, Bool.not_eq_true'] at h
    obtain ⟨⟨⟨⟨⟨⟨⟨⟨h0, h1⟩, h2⟩, h3⟩, h4⟩, h5⟩, h6⟩, h7⟩, h8⟩ := h
    subst h1
    obtain ⟨a1, a2, a3⟩ := nmB_of h2
    exact csetT_of ok h0 a1 a2 a3 h3 h4 h5 h6 h7 (mE_ok e _ ok.toXOk h8)
  | .ex e, st, P, X, W, sc, hot, ok, h => by
    unfold mS at h
    split at h <;> first | (cases h; done) | cases ‹S.ex e = _›
    simp only [Bool.and_eq_true] at h
    exact ex_of ok h.1 (mE_ok e _ ok.toXOk h.2)
  | .iff t a b, st, P, X, W, sc, hot, ok, h => by
    unfold mS at h
    split at h <;> first | (cases h; done) | cases ‹S.iff t a b = _›
    simp only [Bool.and_eq_true] at h
    exact if_of (mE_ok t _ ok.toXOk h.1.1) (mSs_ok a _ ok h.1.2) (mSs_ok b _ ok h.2)
  | .for t s b, st, P, X, W, sc, hot, ok, h => by
    unfold mS at h
    split at h <;> first | (cases h; done) | cases ‹S.for t s b = _›
    simp only [Bool.and_eq_true, Bool.not_eq_true'] at h
    obtain ⟨⟨⟨h1, h2⟩, h3⟩, h4⟩ := h
    exact for_of ok h1 (mR_ok s _ _ ok.toXOk (md := .e) (mTg_tup h3) h2) h3 (mSs_ok b _ ok h4)
  | .whl t b, st, P, X, W, sc, hot, ok, h => by
    unfold mS at h
    split at h <;> first | (cases h; done) | cases ‹S.whl t b = _›
    simp only [Bool.and_eq_true, Bool.not_eq_true'] at h
    exact whl_of ok h.1.1 (mE_ok t _ ok.toXOk h.1.2) (mSs_ok b _ ok h.2)
  | .ret e, st, P, X, W, sc, hot, ok, h => by
    unfold mS at h
    split at h <;> first | (cases h; done) | cases ‹S.ret e = _›
    exact ret_of (mE_ok e _ ok.toXOk h)
  | .rais k as, st, P, X, W, sc, hot, ok, h => by
    unfold mS at h
    split at h <;> first | (cases h; done) | cases ‹S.rais k as = _›
    simp only [Bool.and_eq_true, Bool.not_eq_true'] at h
    obtain ⟨⟨⟨⟨h1, h2⟩, h3⟩, h4⟩, h5⟩ := h
    split at h2
    · rename_i y fs hx
      simp only [Bool.and_eq_true, decide_eq_true_eq] at h2
      obtain ⟨q1, q2⟩ := h2
      subst q1
      exact rais_of ok h1 hx h3 h4 q2 h5
    · cases h2
  | .tri b k i h, st, P, X, W, sc, hot, ok, hm => by
    unfold mS at hm
    split at hm <;> first | (cases hm; done) | cases ‹S.tri b k i h = _›
    simp only [Bool.and_eq_true, decide_eq_true_eq, Bool.not_eq_true'] at hm
    obtain ⟨⟨⟨⟨⟨⟨h1, h2⟩, h3⟩, h4⟩, h5⟩, h6⟩, h7⟩ := hm
    split at h2
    · rename_i z fs hx
      have h2 := of_decide_eq_true h2
      subst h2
      subst h1
      exact tri_of ok rfl hx h3 h4 h5 (fun W' pn xe tk ps => mSs_ok b _ (ok.tr rfl tk ps) h6) (fun a oe cls d pn hz hf => mSs_ok h _ (ok.sui hz hf) h7)
    · cases h2
  | .frz i, st, P, X, W, sc, hot, ok, h => by
    unfold mS at h
    cases h
theorem mSs_ok : ∀ (ss : Ss) (sts : List Stmt) {P : Par} {X : Cx} {W : WX} {sc : Scope} {hot : Bool}, XOkS X P W nm n call gl sc hot → mSs nm sc hot ss sts = true → PSs X sts (TMS P W gE HE (exs call gl ss))
  | .nil, [], P, X, W, sc, hot, ok, h => nil_of
  | .nil, _ :: _, P, X, W, sc, hot, ok, h => by
    unfold mSs at h
    cases h
  | .cons s ss, sts, P, X, W, sc, hot, ok, h => by
    unfold mSs at h
    split at h <;> first | (cases h; done) | cases ‹Ss.cons s ss = _›
    · exact frz_of (mSs_ok ss _ ok h)
    · rw [Bool.and_eq_true] at h
      exact cons_of (mS_ok s _ ok h.1) (mSs_ok ss _ ok h.2)
end
end
end RX
end
section -- Rx25
namespace RX
open PySem PySem.Spec PyProof.Rows L2
abbrev KwS : Type := List (Str × Value) × List (Str × Value)
theorem lookup_none {α : Type} {n : Str} : ∀ {l : List (Str × α)}, (∀ p ∈ l, p.1 ≠ n) → l.lookup n = none
  | [], _ => rfl
  | (k, v) :: r, h => by
    rw [List.lookup_cons]
    have : (n == k) = false := by
      have := h (k, v) List.mem_cons_self
      have : n ≠ k := fun e => this e.symm
      simpa using this
    rw [this]
    exact lookup_none fun p hp => h p (List.mem_cons_of_mem _ hp)
theorem lookup_app {α : Type} {n : Str} : ∀ {l m : List (Str × α)}, l.lookup n = none → (l ++ m).lookup n = m.lookup n
  | [], _, _ => rfl
  | (k, v) :: r, m, h => by
    rw [List.lookup_cons] at h
    rw [List.cons_append, List.lookup_cons]
    cases q : n == k with
    | true => rw [q] at h; cases h
    | false => rw [q] at h; exact lookup_app h
theorem loop_kw {names : List Str} {f : Str × Value → KwS → Sem (ForInStep KwS)} (hf : ∀ x s, x.1 ∈ names → (s.1.lookup x.1).isSome = false → f x s = pure (.yield (s.1 ++ [(x.1, x.2)], s.2))) : ∀ (l : List (Str × Value)) (s : KwS), (∀ x ∈ l, x.1 ∈ names) → (l.map (·.1)).Nodup → (∀ x ∈ l, (s.1.lookup x.1).isSome = false) →
    forIn l s f = (pure (s.1 ++ l, s.2) : Sem KwS)
  | [], s, _, _, _ => by rw [List.forIn_nil, List.append_nil]
  | x :: l, s, h1, h2, h3 => by
    rw [List.forIn_cons, hf x s (h1 x List.mem_cons_self) (h3 x List.mem_cons_self)]
    rw [List.map_cons, List.nodup_cons] at h2
    have ih := loop_kw hf l (s.1 ++ [(x.1, x.2)], s.2) (fun y hy => h1 y (List.mem_cons_of_mem _ hy)) h2.2 (fun y hy => by
      have h := h3 y (List.mem_cons_of_mem _ hy)
      have hn : s.1.lookup y.1 = none := by simpa using h
      show ((s.1 ++ [(x.1, x.2)]).lookup y.1).isSome = false
      rw [lookup_app hn, lookup_none]
      · rfl
      · intro p hp e
        rw [List.mem_singleton] at hp
        subst hp
        exact h2.1 (by rw [show x.1 = y.1 from e]; exact List.mem_map.mpr ⟨y, hy, rfl⟩))
    show (do let r ← (pure (ForInStep.yield (s.1 ++ [(x.1, x.2)], s.2)) : Sem (ForInStep KwS)); match r with | .done b => pure b | .yield b => forIn l b f) = _
    rw [pure_bind]
    show forIn l (s.1 ++ [(x.1, x.2)], s.2) f = _
    rw [ih]
    simp
theorem bind_kw {as : List Arg} {ks : List Str} {ws vs : List Value} (hw : ws.length = ks.length) (hk : ks.Nodup) (hin : ∀ k ∈ ks, k ∈ as.map (·.arg)) (hall : ∀ a ∈ as.map (·.arg), a ∈ ks) {nm qn : Str} {body : FuncBody} {sc : Scope} {gb : Addr} {clo : List (Str × Addr)} {kV doc pm cd ct : Value} {an : Option Addr} {bl : Addr} (hr : (as.map (·.arg)).filterMap (fun n => ((ks.zip ws).lookup n).map fun v => (n, v)) = (as.map (·.arg)).zip vs) :
    bindArgs ⟨nm, qn, ⟨[], as, none, [], [], none, []⟩, body, sc, gb, clo, .none, kV, doc, pm, an, cd, ct, bl⟩ ⟨[], ks.zip ws⟩ = pure ((as.map (·.arg)).zip vs) := by
  have ns : notAStandIn Value.none = (pure () : Sem Unit) := rfl
  have hm : ((as.map (·.arg)).filter fun n => ((ks.zip ws).lookup n).isNone) = [] := by
    rw [List.filter_eq_nil_iff]
    intro x hx
    have := lookup_zip (x := x) (ps := ks) (us := ws) hw (hall x hx)
    simp [Option.isNone_iff_eq_none, Option.isSome_iff_ne_none.mp this]
  have ht : List.take as.length (as.map (·.arg)) = as.map (·.arg) := by
    have : as.length = (as.map (·.arg)).length := by simp
    rw [this, List.take_length]
  have hmap : (ks.zip ws).map (·.1) = ks := by
    rw [List.map_fst_zip (by omega)]
  unfold bindArgs
  simp [seqItems?, ns]
  rw [loop_kw (names := as.map (·.arg)) (fun x s h1 h2 => ?_) (ks.zip ws) ([], []) (fun x hx => hin x.1 (List.of_mem_zip hx).1) (by rw [hmap]; exact hk) (fun x _ => rfl)]
  · rw [pure_bind]
    simp only [List.nil_append, List.map_nil]
    have hm' : (List.filter (fun n => (List.lookup n (ks.zip ws)).isNone) (List.take ((as.map (·.arg)).length - (List.drop ((#[] : Array Value).size - (as.map (·.arg)).length) ([] : List Value)).length) (as.map (·.arg)))).isEmpty = true := by
      have e0 : (List.drop ((#[] : Array Value).size - (as.map (·.arg)).length) ([] : List Value)).length = 0 := by simp
      rw [e0, Nat.sub_zero, List.length_map, ht, hm]
      rfl
    rw [if_neg (by rw [hm']; simp)]
    rw [List.filterMap_map] at hr
    exact congrArg pure hr
  · have h1' : ∃ a, a ∈ as ∧ a.arg = x.1 := by simpa using h1
    rw [if_pos h1', if_neg (by rw [h2]; simp)]
end RX
end
section -- Rx26
namespace RX
open PySem PySem.Spec PyProof.Rows L2
theorem mem_all : ∀ {ps ks : List Str}, ps.Nodup → (∀ x ∈ ps, x ∈ ks) → ks.length ≤ ps.length → ∀ x ∈ ks, x ∈ ps
  | [], ks, _, _, h, x, hx => by
    have : ks = [] := List.eq_nil_of_length_eq_zero (by simpa using h)
    subst this
    cases hx
  | p :: r, ks, nd, h, hl, x, hx => by
    rw [List.nodup_cons] at nd
    have hp := h p List.mem_cons_self
    have hlen : (ks.erase p).length = ks.length - 1 := List.length_erase_of_mem hp
    have hl' : ks.length ≤ r.length + 1 := by simpa using hl
    have ih := mem_all (ks := ks.erase p) nd.2 (fun y hy => (List.mem_erase_of_ne (fun e => nd.1 (by rw [← e]; exact hy))).mpr (h y (List.mem_cons_of_mem _ hy))) (by omega)
    by_cases e : x = p
    · rw [e]; exact List.mem_cons_self
    · exact List.mem_cons_of_mem _ (ih x ((List.mem_erase_of_ne e).mpr hx))
theorem look_zipW {ks : List Str} {ws : List Value} {j : Nat} {f : Str} {v : Value} (nd : ks.Nodup) (h1 : ks[j]? = some f) (h2 : ws[j]? = some v) : (ks.zip ws).lookup f = some v := by
  induction ks generalizing ws j with
  | nil => simp at h1
  | cons x ks ih =>
    cases ws with
    | nil => simp at h2
    | cons u ws =>
      rw [List.zip_cons_cons, List.lookup_cons]
      cases j with
      | zero =>
        simp at h1 h2
        subst h1 h2
        simp
      | succ j =>
        simp at h1 h2
        have : (f == x) = false := by
          have := (List.nodup_cons.mp nd).1
          have hne : f ≠ x := fun e => this (by rw [← e]; exact List.mem_of_getElem? h1)
          simpa using hne
        rw [this]
        exact ih (List.nodup_cons.mp nd).2 h1 h2
theorem perm_len {α : Type} {ks : List α} : ∀ {perm : List Nat} {ps : List α}, (perm.mapM fun i => ks[i]?) = some ps → ps.length = perm.length
  | [], ps, e => by cases e; rfl
  | i :: perm, ps, e => by
    rw [List.mapM_cons] at e
    obtain ⟨x, e1, e⟩ := Option.bind_eq_some_iff.mp e
    obtain ⟨r, e2, e⟩ := Option.bind_eq_some_iff.mp e
    cases e
    rw [List.length_cons, List.length_cons, perm_len e2]
theorem perm_mem {α : Type} {ks : List α} : ∀ {perm : List Nat} {ps : List α}, (perm.mapM fun i => ks[i]?) = some ps → ∀ x ∈ ps, x ∈ ks
  | [], ps, e, x, hx => by cases e; cases hx
  | i :: perm, ps, e, x, hx => by
    rw [List.mapM_cons] at e
    obtain ⟨y, e1, e⟩ := Option.bind_eq_some_iff.mp e
    obtain ⟨r, e2, e⟩ := Option.bind_eq_some_iff.mp e
    cases e
    rcases List.mem_cons.mp hx with h | h
    · rw [h]; exact List.mem_of_getElem? e1
    · exact perm_mem e2 x h
theorem perm_fm {ks : List Str} {ws : List Value} (nd : ks.Nodup) : ∀ {perm : List Nat} {ps : List Str} {vs : List Value}, (perm.mapM fun i => ks[i]?) = some ps → (perm.mapM fun i => ws[i]?) = some vs → ps.filterMap (fun n => ((ks.zip ws).lookup n).map fun v => (n, v)) = ps.zip vs
  | [], ps, vs, e, e' => by cases e; cases e'; rfl
  | i :: perm, ps, vs, e, e' => by
    rw [List.mapM_cons] at e e'
    obtain ⟨x, e1, e⟩ := Option.bind_eq_some_iff.mp e
    obtain ⟨r, e2, e⟩ := Option.bind_eq_some_iff.mp e
    cases e
    obtain ⟨v, f1, e'⟩ := Option.bind_eq_some_iff.mp e'
    obtain ⟨s, f2, e'⟩ := Option.bind_eq_some_iff.mp e'
    cases e'
    rw [List.filterMap_cons, look_zipW nd e1 f1]
    show (x, v) :: _ = _
    rw [perm_fm nd e2 f2]
    rfl
structure FnI where
  x : Str
  params : Arguments
  N : List Str
  scope : Scope
  body : List Stmt
  fn : Fn
def FnI.ps (I : FnI) : List Str := I.params.args.map (·.arg)
def plainA (p : Arguments) : Bool := p.posonlyargs.isEmpty && p.vararg.isNone && p.kwonlyargs.isEmpty && p.kw_defaults.isEmpty && p.kwarg.isNone && p.defaults.isEmpty
def scopeB (N ps : List Str) (sc : Scope) : Bool := (match sc.kind with | .function => true | _ => false) && !sc.isCoroutine && !sc.isGenerator && decide (N.Nodup) && decide (N.take ps.length = ps) && ps.all (fun x => locB sc x) && sc.names.all (fun y => match y.2 with | .free => false | _ => true)
theorem scopeB_of {N ps : List Str} {sc : Scope} (h : scopeB N ps sc = true) : FnScope N ps sc := by
  unfold scopeB at h
  simp only [Bool.and_eq_true, decide_eq_true_eq, Bool.not_eq_true', List.all_eq_true] at h
  obtain ⟨⟨⟨⟨⟨⟨h1, h2⟩, h3⟩, h4⟩, h5⟩, h6⟩, h7⟩ := h
  refine ⟨?_, h2, h3, h4, h5, fun x hx => ?_, fun y hy e => ?_⟩
  · split at h1
    · assumption
    · cases h1
  · have := h6 x hx
    unfold locB at this
    split at this <;> first | exact .inl (by assumption) | exact .inr (by assumption) | cases this
  · have := h7 y hy
    rw [e] at this
    cases this
def fnB (nm0 : Nm) (I : FnI) : Bool := plainA I.params && decide (I.fn.arity = I.ps.length) && decide (I.fn.slots = I.N.length) && scopeB I.N I.ps I.scope && mSs { nm0 with N := I.N } I.scope false I.fn.body I.body
def GtP (w : World) (K : PySem.W.Frag) (mg : Str → Option Value) (x : Str) (kvs : List (List Nat × D)) : Prop := ∃ d es n, mg x = some (.ref d) ∧ KDict K w d es n ∧ ∀ z : List Nat, ∃ r, PySem.W.nsIn K d ⟨z.toArray⟩ = some r ∧ lkR K r (lookT z kvs)
/-- a program's part, as it stands behind the top -/
structure PgOk (Pg : Program) (w : World) (K : PySem.W.Frag) (mg : Str → Option Value) (base : Heap) (P : Par) (nm0 : Nm) (gl : Nat → Option GV) (T : List FnI) : Prop where
  hK : P.K = K
  exa : P.exa = none
  nmf : ∀ i, nm0.fn i = (T[i]?).map fun I => (I.x, I.ps)
  fds : ∀ (i : Nat) (I : FnI), T[i]? = some I → ∃ a fd, FunD K I.x I.x I.params I.body I.scope [] [] a fd ∧ mg I.x = some (.ref a)
  chk : ∀ I ∈ T, fnB nm0 I = true
  blt : ∀ x ∈ blts, mg x = none
  xnd : ∀ k C fs, P.cls k = some (C, fs) → fs.Nodup
  xfn : ∀ k C fs j f, P.cls k = some (C, fs) → nm0.xf j = some f → j < fs.length → fs[j]? = some f
  nms : ∀ k x fs, nm0.ex k = some (x, fs) → ∃ C, P.cls k = some (C, fs) ∧ mg x = some (.ref C)
  exm : ∀ k k' C C' fs fs', P.cls k = some (C, fs) → P.cls k' = some (C', fs') → PySem.W.exmOne K (.ref C') (.ref C) = some (decide (k' = k))
  xfc : ∀ k C fs j f, P.cls k = some (C, fs) → nm0.xf j = some f → XfC K C ∧ PySem.W.findIn K (.ref C) f = some none
  gts : ∀ i x, nm0.gt i = some x → ∃ kvs, gl i = some (.t kvs) ∧ GtP w K mg x kvs
  gls : ∀ i x d, nm0.gl i = some x → gl i = some (.v d) → ∃ v u, mg x = some u ∧ RelV v u ∧ ∀ F, Rep K F v d
  mkx : ∀ (X : Cx), X.prog = Pg → X.w = w → X.K = K → X.mg = mg → X.base = base → Room 2 X.A → ∀ k x fs C, nm0.ex k = some (x, fs) → P.cls k = some (C, fs) → ∀ {e : Expr} {es : List Expr} {ta : TA} {p pos : Pos}, PA X (e :: es) ta → Gl X x → (x == ("__debug__" : Str)) = false → noStar (e :: es) = true →
    PMk X (.Call (.Name x p) (e :: es) [] pos) (fun σ H Q => ta σ H fun vs H1 => vs.length = fs.length ∧ ∀ d, H1 d = none → Q (.ref C) (some d) (upd H1 d (.xd (fs.zip vs))))
def tbl (T : List FnI) : Nat → Option Fn := fun i => (T[i]?).map (·.fn)
section
variable {Pg : Program} {w : World} {K : PySem.W.Frag} {mg : Str → Option Value} {base : Heap} {P : Par} {nm0 : Nm} {gl : Nat → Option GV} {T : List FnI}
theorem rvs_get {g : Gh} {zs : List V} {xs : List Vl} {i : Nat} {x : Vl} (h : RVs P g zs xs) : xs[i]? = some x → ∃ v, zs[i]? = some v ∧ RV P g v x := by
  induction h generalizing i with
  | nil => intro e; simp at e
  | cons h1 _ ih =>
    intro e
    cases i with
    | zero => simp at e; subst e; exact ⟨_, rfl, h1⟩
    | succ i =>
      obtain ⟨v, e1, e2⟩ := ih (by simpa using e)
      exact ⟨v, by simpa using e1, e2⟩
theorem run_len (pg : PgOk Pg w K mg base P nm0 gl T) {n i : Nat} {I : FnI} (hi : T[i]? = some I) {xs : List Vl} {c : Cells} (h : run (tbl T) gl n i xs c ≠ .stuck) : xs.length = I.ps.length := by
  have hb := pg.chk I (List.mem_of_getElem? hi)
  unfold fnB at hb
  simp only [Bool.and_eq_true, decide_eq_true_eq] at hb
  cases n with
  | zero => exact absurd rfl h
  | succ n =>
    unfold run at h
    have : tbl T i = some I.fn := by unfold tbl; rw [hi]; rfl
    rw [this] at h
    dsimp only at h
    split at h
    · rename_i hl
      rw [hl, hb.1.1.1.2]
    · exact absurd rfl h
theorem binds_of {x qual : Str} {params : Arguments} {body : List Stmt} {scope : Scope} {f : Addr} {fd : FuncData} (F : FunD K x qual params body scope [] [] f fd) (hp : plainA params = true) (nd : (params.args.map (·.arg)).Nodup) :
    (∀ (s : Shared) (us : List Value), us.length = (params.args.map (·.arg)).length → BindsTo s fd ⟨us, []⟩ ((params.args.map (·.arg)).zip us)) ∧
    (∀ (s : Shared) (ks : List Str) (ws : List Value) (perm : List Nat) (vs : List Value), ks.Nodup → ws.length = ks.length → perm.length = ks.length → some (params.args.map (·.arg)) = (perm.mapM fun i => ks[i]?) → (perm.mapM fun i => ws[i]?) = some vs → BindsTo s fd ⟨[], ks.zip ws⟩ ((params.args.map (·.arg)).zip vs)) := by
  obtain ⟨oc, od, dV, kV, doc, pm, an, cdv, ct, osl, rfl, lk, hcd, hD, hK⟩ := F.ex
  obtain ⟨p1, as, p3, p4, p5, p6, p7⟩ := params
  unfold plainA at hp
  simp only [Bool.and_eq_true, List.isEmpty_iff, Option.isNone_iff_eq_none] at hp
  obtain ⟨⟨⟨⟨⟨h1, h2⟩, h3⟩, h4⟩, h5⟩, h6⟩ := hp
  subst h1 h2 h3 h4 h5 h6
  rcases hD with ⟨_, rfl⟩ | ⟨e, _⟩
  · refine ⟨fun s us hl => .of_eq (bind_plain (by simpa using hl) nd), fun s ks ws perm vs hk hw hpl hps hvs => .of_eq ?_⟩
    have hlen := perm_len hps.symm
    have sub := perm_mem hps.symm
    have all := mem_all nd sub (by omega)
    exact bind_kw hw hk all sub (perm_fm hk hps.symm hvs)
  · exact absurd rfl e
theorem all_fns (pg : PgOk Pg w K mg base P nm0 gl T) : ∀ (n i : Nat) (I : FnI), T[i]? = some I → ∀ (a : Addr) (fd : FuncData), FunD K I.x I.x I.params I.body I.scope [] [] a fd → FnG Pg w K mg base (n + 2) a fd I.ps (spF P I.ps (run (tbl T) gl n i))
  | 0, i, I, hi, a, fd, F => ⟨fun vs H Q E h => h.1, fun A outer s H args us vs Q E _ _ _ _ _ h => by
      obtain ⟨_, g, c, xs, _, _, af⟩ := h
      exact af.elim⟩
  | n + 1, i, I, hi, a, fd, F => by
    have hb := pg.chk I (List.mem_of_getElem? hi)
    unfold fnB at hb
    simp only [Bool.and_eq_true, decide_eq_true_eq] at hb
    obtain ⟨⟨⟨⟨b1, b2⟩, b3⟩, b4⟩, b5⟩ := hb
    have S := scopeB_of b4
    obtain ⟨oc, od, dV, kV, doc, pm, an, cdv, ct, osl, rfl, lk, hcd, hD, hK⟩ := F.ex
    refine FnG.of (k := n + 2) lk hcd S (fun vs H Q E h => h.1) fun A outer s H vs Q E hg hr h => ?_
    obtain ⟨hl, g, c, xs, cr, rvs, af⟩ := h
    have ti : tbl T i = some I.fn := by unfold tbl; rw [hi]; rfl
    have hxl : xs.length = I.fn.arity := by rw [← rvs.length, hl, b2]
    -- the context
    let X := cxOf (CX Pg w) Pg w K mg base I.N I.x I.scope a cdv A outer s H E
    have ok : XOkS X P (fun cls d _ H => E cls d H) { nm0 with N := I.N } (n + 2) (run (tbl T) gl n) gl I.scope false := by
      refine { K := pg.hK, N := rfl, nd := S.nd, scr := ScR.refl, fn := fun _ _ => .inl rfl, guards := deeper_guards _ hg, units := ?_, calm := fun _ => rfl, room := fun _ => hr, takes := takes_of (X := X) (E := E) rfl rfl rfl rfl, fns := ?_, blt := pg.blt, exa := fun _ => pg.exa, xnd := pg.xnd, xfn := pg.xfn, xf := ?_, gts := pg.gts, gls := pg.gls, scE := rfl, pas := fun _ => passes_of (X := X) rfl, stk := fun _ => rfl, frm := fun _ => rfl, nms := pg.nms, exm := pg.exm, xfc := pg.xfc, mkx := ?_ }
      · have := hr.un
        show (A.deeper (envOfC I.x I.scope s.heap.objs.size a cdv)).units + 80 < cLine
        omega
      · intro _ f x ps hf
        rw [pg.nmf] at hf
        obtain ⟨J, hj, ej⟩ := Option.map_eq_some_iff.mp hf
        cases ej
        obtain ⟨a', fd', F', m'⟩ := pg.fds f J hj
        have hbJ := pg.chk J (List.mem_of_getElem? hj)
        unfold fnB at hbJ
        simp only [Bool.and_eq_true] at hbJ
        have SJ := scopeB_of hbJ.1.2
        have ndJ : J.ps.Nodup := by rw [← SJ.pre]; exact (List.take_sublist _ _).nodup SJ.nd
        obtain ⟨k1, k2⟩ := binds_of F' hbJ.1.1.1.1 ndJ
        exact ⟨a', fd', m', F'.kp, k1, k2, fun xs c h => run_len pg hj h, all_fns pg n f J hj a' fd' F'⟩
      · intro a' cls d h
        rw [pg.exa] at h
        cases h
      · intro _ k x fs C h1 h2 pn xe e es ta p pos ha hg2 hst
        have hgl : glB I.scope x = true := hg2
        refine pg.mkx (X.tr pn xe) rfl rfl rfl rfl rfl (hr.mono (by omega)) k x fs C h1 h2 ha ?_ ?_ hst
        · unfold glB at hgl
          rw [Bool.and_eq_true] at hgl
          have h3 := hgl.1
          show I.scope.names.lookup x = _
          split at h3
          · assumption
          · cases h3
        · unfold glB at hgl
          rw [Bool.and_eq_true] at hgl
          exact (nm_debug hgl.2).1
    have look0 : ∀ (j : Nat), EnvD.look (xs.map Sl.v ++ List.replicate (I.fn.slots - I.fn.arity) .no) j = (match xs[j]? with | some x => .v x | none => .no) := fun j => by
      unfold EnvD.look
      rw [List.getD_eq_getElem?_getD]
      by_cases hj : j < xs.length
      · rw [List.getElem?_append_left (by simpa using hj)]
        simp [hj]
      · rw [List.getElem?_append_right (by simpa using hj)]
        have : xs[j]? = none := List.getElem?_eq_none (by omega)
        rw [this]
        by_cases h2 : j - xs.length < I.fn.slots - I.fn.arity
        · simp [h2]
        · simp [List.getElem?_replicate]
          split <;> rfl
    have noOwn : ∀ (j : Nat) (ys : List D), EnvD.look (xs.map Sl.v ++ List.replicate (I.fn.slots - I.fn.arity) .no) j ≠ .own ys := fun j ys e => by
      rw [look0] at e
      cases q : xs[j]? with
      | none => rw [q] at e; cases e
      | some x => rw [q] at e; cases e
    refine ⟨TMS P (fun cls d _ H => E cls d H) g H (exs (run (tbl T) gl n) gl I.fn.body), mSs_ok I.fn.body I.body ok b5, ?_⟩
    refine ⟨g.F, g, xs.map Sl.v ++ List.replicate (I.fn.slots - I.fn.arity) .no, c, ⟨⟨cr, fun j => ?_, fun j k ys zs b hjk e1 => absurd e1 (noOwn j ys), ?_⟩, .refl, Sub.refl, fun j b ys e1 => absurd e1 (noOwn j ys)⟩, ?_⟩
    · rw [look0]
      cases q : xs[j]? with
      | none => trivial
      | some x =>
        obtain ⟨v, h1, h2⟩ := rvs_get rvs q
        refine ⟨v, ?_, h2⟩
        unfold L2.start
        have : j < vs.length := (List.getElem?_eq_some_iff.mp h1).1
        rw [List.getElem?_append_left (by simpa using this), List.getElem?_map, h1]
        rfl
    · have hpl : I.ps.length ≤ I.N.length := by
        have := congrArg List.length S.pre
        rw [List.length_take] at this
        omega
      unfold L2.start
      simp only [List.length_append, List.length_map, List.length_replicate]
      rw [hxl, b3, hl, b2]
      omega
    · unfold run at af
      rw [ti] at af
      dsimp only at af
      rw [if_pos hxl] at af
      cases e : exs (run (tbl T) gl n) gl I.fn.body (xs.map Sl.v ++ List.replicate (I.fn.slots - I.fn.arity) .no) c with
      | nx env' c' =>
        rw [e] at af
        exact fun g' σ' H' r => af g' H' .non r.ext r.toCRel (show Rep P.K g'.F .non .non from .non)
      | rt v c' => rw [e] at af; exact af
      | exc k ds env' c' =>
        rw [e] at af
        exact fun g' σ' H' C fs d r q1 q2 => af g' H' C fs d r.ext r.toCRel q1 q2
      | stuck => rw [e] at af; exact af
end
end RX
end
section -- Rx27
namespace RX
open PySem PySem.Spec PyProof.Rows L2
theorem caller_guards : callerA.guards = some [] := rfl
/-- the script is none of the written part's lists -/
def noLists (K : PySem.W.Frag) : Bool := K.all fun p => !(p.2.cls == .type "list")
theorem mem_lookA {o : Obj} {a : Addr} : ∀ {l : PySem.W.Frag}, l.lookup a = some o → (a, o) ∈ l
  | [], h => by cases h
  | (b, u) :: r, h => by
    rw [List.lookup_cons] at h
    cases q : a == b with
    | true =>
      rw [q] at h
      have : a = b := by simpa using q
      rw [this, Option.some.inj h]
      exact List.mem_cons_self
    | false =>
      rw [q] at h
      exact List.mem_cons_of_mem _ (mem_lookA h)
theorem noLists_at {K : PySem.W.Frag} (h : noLists K = true) {a : Addr} {o : Obj} (e : K.lookup a = some o) (c : o.cls = .type "list") : False := by
  unfold noLists at h
  have m := List.all_eq_true.mp h (a, o) (mem_lookA e)
  simp [c] at m
theorem law_callG {Pg : Program} {w : World} {K : PySem.W.Frag} {mg mb : Str → Option Value} {k : Nat} {fa a : Addr} {fd : FuncData} {x : Str} {sp : Sp} {s1 : Shared} {us : List Value} {ns : List Int}
    (KX : K.In s1.heap) (nl : noLists K = true) (hns : s1.heap.Ns mainGlobals mg) (hb : s1.heap.Ns builtinsNs mb) (hbb : ∀ x : Str, x ≠ "__name__" → mb x = bootBuiltins x) (hlim : s1.heap.NoLimit) (hg : s1.gens = #[])
    (ha : s1.heap.get? a = some { cls := .type "list", data := .seq us.toArray }) (hi : IntsAre us ns) (hl : ns.length ≤ sizeLine) (hr : Room k callerA)
    (F : ∀ base : Heap, K.In base → base.Ns mainGlobals mg → FnG Pg w K mg base k fa fd [x] sp) (hbind : ∀ (s : Shared) (u : Value), BindsTo s fd ⟨[u], []⟩ [(x, u)])
    (hsp : ∀ H : Hp, (∀ b, H b ≠ none → b = a) → H a = some (.frz { cls := .type "list", data := .seq us.toArray } (.lst (ns.map V.int))) → sp [.ref a] H (fun v _ => v = .bl true) fun _ _ _ => False) :
    codeAny (model Pg w) callerA (.call (.ref fa) ⟨[.ref a], []⟩) (fun r s' => r = .ok (.ret (.bool true)) ∧ OldK s1.heap s'.heap ∧ s'.os = s1.os ∧ AllBare s'.gens) s1 := by
  have rv := vals_ints hi
  have hk : K.lookup a = none := by
    cases e : K.lookup a with
    | none => rfl
    | some o =>
      have e2 := KX a o e
      rw [ha] at e2
      cases e2
      exact (noLists_at nl e rfl).elim
  let ob : Obj := { cls := .type "list", data := .seq us.toArray }
  let H : Hp := fun b => if b = a then some (.frz ob (.lst (ns.map V.int))) else none
  have Ha : H a = some (.frz ob (.lst (ns.map V.int))) := if_pos rfl
  have Hn : ∀ {b : Addr}, b ≠ a → H b = none := fun n => if_neg n
  have only : ∀ b, H b ≠ none → b = a := fun b z => Classical.byContradiction fun n => z (Hn n)
  have hok : HOk Pg w H s1.heap := fun b u z => by
    by_cases e : b = a
    · subst e
      rw [Ha] at z
      cases z
      exact ⟨ha, by rw [List.length_map]; exact hl, us, _, rv, ha⟩
    · rw [Hn e] at z
      cases z
  have grd : ∀ {b : Addr} {o : Obj}, s1.heap.get? b = some o → b ≠ a → (hidT s1.heap H).get? b = some o := fun e n => hidT_get e (Hn n)
  have dic : ∀ {b : Addr} {o : Obj} {es : Array DictEntry} {ep : Nat}, s1.heap.get? b = some o → o.data = .dict es ep → b ≠ a := fun {b o es ep} e d z => by
    subst z
    rw [ha] at e
    cases e
    have d' : Data.seq us.toArray _ = Data.dict es ep := d
    cases d'
  have nsB : ∀ {b : Addr} {m : Str → Option Value}, s1.heap.Ns b m → (hidT s1.heap H).Ns b m := fun ⟨o, es, ep, e, d, r⟩ => ⟨o, es, ep, grd e (dic e d), d, r⟩
  have KB : K.In (hidT s1.heap H) := fun b o e => grd (KX b o e) fun z => by
    subst z
    rw [hk] at e
    cases e
  have lim : (hidT s1.heap H).NoLimit := by
    obtain ⟨mc, h1, h2⟩ := hlim
    exact ⟨mc, nsB h1, h2⟩
  have e0 : Env0 Pg w K mg (hidT s1.heap H) callerA [] s1 H := ⟨rfl, ⟨KB, nsB hns, ⟨mb, nsB hb, hbb⟩, lim⟩, fun b o e => of_hidT e, Nat.le_of_eq (hidT_size _ _), trivial, fun b hb => absurd (show b ∈ ([] : List Addr) from hb) (by simp), hok, .of_eq hg⟩
  refine codeAny_mono ((F _ KB (nsB hns)).run callerA [] s1 H ⟨[.ref a], []⟩ [.ref a] [.ref a] _ _ caller_guards hr e0 (hbind s1 (.ref a)) (.cons rfl .nil) (hsp H only Ha)) fun r s' h => ?_
  cases r with
  | error e =>
    obtain ⟨_, _, _, _, _, _, _, _, _, _, _, _, z⟩ := h
    exact z.elim
  | ok fl =>
    cases fl with
    | ret u =>
      obtain ⟨v, H', os, bare, un, hok', r', q⟩ := h
      have q' : v = .bl true := q
      subst q'
      obtain rfl : u = Value.bool true := r'
      refine ⟨rfl, OldK.of_keep fun b o e => ?_, os, bare⟩
      by_cases z : b = a
      · subst z
        have z2 := un.frzs b ob _ Ha
        obtain ⟨e1, _⟩ := hok b _ Ha
        obtain ⟨e2, _⟩ := hok' b _ z2
        rw [e] at e1
        cases e1
        exact e2
      · exact un.keep b o e (Hn z) (by simp [frs]) (by simp)
    | next => exact h.elim
    | brk => exact h.elim
    | cont => exact h.elim
/-- a law over a head by facts -/
theorem walkG {l : PySem.W.OpenLaw} {n k : Nat} {q : Program} {loose : List Str} {XP : (Str → Option Value) → Heap → Prop} {YP : World → Heap → Prop} {d : DefRec} {x : Str}
    (hn : l.most = some n) (hn2 : n ≤ sizeLine) (hdf : d.params.defaults = []) (hr : Room k callerA)
    (F : ∀ (w : World) (mg : Str → Option Value) (fa : Addr) (h : Heap), YP w h → h.Ns mainGlobals mg → mg d.name = some (.ref fa) →
      ∃ (K : PySem.W.Frag) (fd : FuncData) (sp : Sp), K.In h ∧ noLists K = true ∧ (∀ (s : Shared) (u : Value), BindsTo s fd ⟨[u], []⟩ [(x, u)]) ∧
        (∀ (H : Hp) (a : Addr) (ns : List Int) (us : List Value), ns.length ≤ n → (∀ b, H b ≠ none → b = a) → H a = some (.frz { cls := .type "list", data := .seq us.toArray } (.lst (ns.map V.int))) → sp [.ref a] H (fun v _ => v = .bl true) fun _ _ _ => False) ∧
        ∀ base : Heap, K.In base → base.Ns mainGlobals mg → FnG l.prog w K mg base k fa fd [x] sp) :
    PySem.W.WalkO q loose XP YP l.row.toRowW d [] (fun f vs => PySem.call f vs) := by
  refine Att.attach_call hn hdf fun w s0 s1 mg mb fa o pm cd doc a vs ns G Y ho hd hcd hmg hobj hints hlen hg => ?_
  obtain ⟨K, fd, sp, KX, nl, hb, hsp, hF⟩ := F w mg fa _ Y G.T.g hmg
  exact law_callG KX nl G.T.g G.T.b G.T.builtins G.T.nolimit hg hobj hints (Nat.le_trans hlen hn2) hr hF hb fun H hO hS => hsp H a ns vs hlen hO hS
end RX
namespace He
open PySem PySem.Spec PyProof.Rows L2
def obsX (fa : List Fa) (fn : List DefD) (ts : List Tab) (ck : PySem.W.Frag → Bool) (K : PySem.W.Frag) : AlT := (((obsD fa fn K).1 && ck K, (obsD fa fn K).2), ts.map fun t => dicW K (t.1 K))
def obsXG (n : Nat) (fa : List Fa) (fn : List DefD) (ts : List Tab) (ck : PySem.W.Frag → Bool) (g : Addr → Option Obj) : AlT := obsX fa fn ts ck (frG g (asD g n))
def hookX (n : Nat) (fa : List Fa) (fn : List DefD) (ts : List Tab) (ck : PySem.W.Frag → Bool) : PySem.W.Hook where
  α := AlT
  obs := fun s => obsXG n fa fn ts ck s.heap.get?
  val := fun w => valT fn ts w
  says := fun w h => ∃ K : PySem.W.Frag, K.In h ∧ SaysT fa fn ts w K ∧ ck K = true
  of := fun w s e => by
    refine ⟨frG s.heap.get? (asD s.heap.get? n), frG_in, ?_⟩
    have e : obsX fa fn ts ck (frG s.heap.get? (asD s.heap.get? n)) = valT fn ts w := e
    generalize frG s.heap.get? (asD s.heap.get? n) = K at e
    unfold obsX valT valD at e
    have e1 := congrArg (fun z : AlT => z.1.1) e
    have e2 := congrArg (fun z : AlT => z.1.2) e
    have e3 := congrArg (fun z : AlT => z.2) e
    simp only [Bool.and_eq_true] at e1
    refine ⟨?_, e1.2⟩
    unfold SaysT obsT valT valD
    have : obsD fa fn K = (true, fn.map DefD.val) := Prod.ext e1.1 e2
    rw [this]
    exact congrArg (fun z => ((true, fn.map DefD.val), z)) e3
  keeps := fun _ _ _ ⟨K, hK, c⟩ k => ⟨K, PySem.W.Frag.In.keeps hK k, c⟩
theorem obsXG_eq {n : Nat} {fa : List Fa} {fn : List DefD} {ts : List Tab} {ck : PySem.W.Frag → Bool} {g : Addr → Option Obj} {s : Shared} (h : ∀ a, g a = s.heap.get? a) : obsXG n fa fn ts ck g = (hookX n fa fn ts ck).obs s := by
  have e : g = s.heap.get? := funext h
  rw [e] <;> rfl
end He
end
section -- Rx28
namespace RX
open PySem PySem.Spec PyProof.Rows L2
def oexB (K : PySem.W.Frag) (C : Addr) : Bool := (match K.lookup C with
  | some ⟨.type "type", _, .cls cd, sl⟩ => (match cd.mro, sl.toList with
    | .ref C' :: bm, [_, _, _, _, some (.builtin n), _] => C' == C && n == "ValueError.__new__" && !cd.hasDel && cd.hasDict && PySem.HandSPX.refsVE bm
    | _, _ => false)
  | _ => false) && decide (PySem.W.findIn K (.ref C) "__setattr__" = some (some (.builtin "object.__setattr__"))) && decide (PySem.W.subIn K (.ref C) (.type "BaseException") = some true) && decide (PySem.W.typeIn K (.ref C) = some (.type "type")) && PySem.W.keepIn K (.ref C)
theorem oexB_ok {K : PySem.W.Frag} {C : Addr} (h : oexB K C = true) : OexC K C := by
  unfold oexB at h
  simp only [Bool.and_eq_true, decide_eq_true_eq] at h
  obtain ⟨⟨⟨⟨h1, h2⟩, h3⟩, h4⟩, h5⟩ := h
  refine ⟨?_, h2, h3, h4, h5⟩
  split at h1
  · rename_i dd cd sl ho
    split at h1
    · rename_i C' bm k0 k1 k2 k3 n k5 hm hs
      simp only [Bool.and_eq_true, beq_iff_eq, Bool.not_eq_true'] at h1
      obtain ⟨⟨⟨⟨rfl, rfl⟩, hd⟩, hh⟩, hr⟩ := h1
      obtain ⟨c1, c2, c3, c4, c5, c6, c7, c8, c9, c10, c11⟩ := cd
      dsimp only at hm hd hh
      subst hm hd hh
      have hsl : sl = #[k0, k1, k2, k3, some (.builtin "ValueError.__new__"), k5] := by
        obtain ⟨l⟩ := sl
        simp only at hs
        rw [hs]
      subst hsl
      exact ⟨_, _, _, _, bm, _, _, _, _, _, _, _, _, _, _, ho, hr⟩
    · cases h1
  · cases h1
/-- def __init__(s, v): s.f = v -/
def initB (f : Str) (N : List Str) (sc : Scope) : List Stmt → Bool
  | [.Assign [.Attribute (.Name s _) g _] (.Name v _) _] => decide (g = f) && decide (N = [s, v]) && visB sc s && visB sc v && nmOk s && nmOk v
  | _ => false
def spI (C : Addr) (f : Str) : Sp := fun vs H Q _ => ∃ a y, vs = [.ref a, y] ∧ H a = some (exo a C none) ∧ ∀ dx, H dx = none → dx ≠ a → Q .non (upd (upd H dx (exd dx [(f, y)])) a (exo a C (some dx)))
theorem init_ok {Pg : Program} {w : World} {K : PySem.W.Frag} {mg : Str → Option Value} {base : Heap} {nm qual : Str} {params : Arguments} {body : List Stmt} {scope : Scope} {fI C : Addr} {fd : FuncData} {f : Str} (F : FunD K nm qual params body scope [] [] fI fd) (S : scopeB (params.args.map (·.arg)) (params.args.map (·.arg)) scope = true)
    (hb : initB f (params.args.map (·.arg)) scope body = true) (T : OexC K C) (hn : PySem.W.findIn K (.ref C) f = some none) : FnOk Pg w K mg base CX0 1 fI fd (params.args.map (·.arg)) (spI C f) := by
  generalize params.args.map (·.arg) = N at S hb
  unfold initB at hb
  split at hb
  · rename_i s p1 g p2 v p3 p4
    simp only [Bool.and_eq_true, decide_eq_true_eq] at hb
    obtain ⟨⟨⟨⟨⟨rfl, rfl⟩, v1⟩, v2⟩, n1⟩, n2⟩ := hb
    have vis : ∀ {x : Str}, visB scope x = true → Vis scope x := fun {x} h => by
      unfold visB at h
      unfold Vis
      split at h <;> first | (rename_i e; simp [e]; done) | cases h
    have d1 := nm_debug n1
    have d2 := nm_debug n2
    refine F.ok (k := 0) (scopeB_of S) (fun vs H Q E h => ?_) (fun cdv A outer sh H vs Q E hr h => ⟨tOst K g (fun σ H Q => ∃ v, σ[0]? = some (some v) ∧ Q v H) (fun σ H Q => ∃ v, σ[1]? = some (some v) ∧ Q v H), PSs.nox ?_, ?_⟩)
    · obtain ⟨a, y, rfl, _⟩ := h
      rfl
    · exact pss_one (ps_ost (pe_var (i := 0) rfl (vis v1) d1.1 d1.2.1) (pe_var (i := 1) rfl (vis v2) d2.1 d2.2.1) rfl)
    · obtain ⟨a, y, rfl, ha, hq⟩ := h
      exact ⟨y, rfl, .ref a, rfl, a, C, rfl, T, hn, .inl ⟨ha, fun dx h1 h2 => hq dx h1 h2⟩⟩
  · cases hb
theorem pa_close {X : Cx} {es : List Expr} {ta : TA} (ha : PA X es ta) : PA X es (fun σ H R => ∃ R0, ta σ H R0 ∧ ∀ vs H', R0 vs H' → R vs H') := by
  refine ⟨fun pos pins s σ H Q I ⟨R0, h, i⟩ => ?_⟩
  exact thn (ha.run pos pins s σ H R0 I h) fun us s' ⟨vs, H', I', r, q⟩ => ⟨vs, H', I', r, i _ _ q⟩
theorem mk_of_init {X : Cx} {C fI : Addr} {fd : FuncData} {ps : List Str} {x f : Str} {p pos : Pos} {e : Expr} {es : List Expr} {ta : TA} (T : OexC X.K C) (iC : PySem.W.findIn X.K (.ref C) "__init__" = some (some (.ref fI))) (tI : PySem.W.typeIn X.K (.ref fI) = some (.type "function"))
    (F1 : FnOk X.prog X.w X.K X.mg X.base CX0 1 fI fd ps (spI C f)) (hr : Room 2 X.A) (hb : Binds X.K fd ps []) (hg : Gl X x) (hm : X.mg x = some (.ref C)) (ha : PA X (e :: es) ta) (hdb : (x == ("__debug__" : Str)) = false) (hst : noStar (e :: es) = true) :
    PMk X (.Call (.Name x p) (e :: es) [] pos) (fun σ H Q => ta σ H fun vs H1 => vs.length = 1 ∧ ∀ d, H1 d = none → Q (.ref C) (some d) (upd H1 d (.xd ([f].zip vs)))) := by
  obtain ⟨s1, s2⟩ := star_of hst
  have m := pmk_oex (p := p) (pos := pos) T iC tI F1 hr hb .nil pass0 hg hm (pa_close ha) hdb (starOk s1) (plainOk s2)
  intro pins s σ H Q I h
  refine m pins s σ H Q I ⟨_, h, ?_⟩
  show ∀ vs H1, _ → _
  have : ∀ vs H1, (vs.length = 1 ∧ ∀ d, H1 d = none → Q (.ref C) (some d) (upd H1 d (.xd ([f].zip vs)))) → (vs.length ≤ 1000 ∧ ∀ a, H1 a = none → spI C f (.ref a :: (vs ++ [])) (upd H1 a (exo a C none))
      (fun v H2 => v = .non ∧ ∃ (d : Addr) (fs : List (Str × V)), H2 a = some (exo a C (some d)) ∧ H2 d = some (exd d fs) ∧ H1 d = none ∧ Q (.ref C) (some d) (upd (del H2 a) d (.xd fs))) (fun _ _ _ => False)) := fun vs H1 ⟨hl, hq⟩ => by
    match vs, hl with
    | [y], _ =>
      refine ⟨by simp, fun a ha => ⟨a, y, rfl, upd_same, fun dx h1 h2 => ⟨rfl, dx, [(f, y)], upd_same, ?_, ?_, ?_⟩⟩⟩
      · rw [upd_ne h2, upd_same]
      · rw [upd_ne h2] at h1
        exact h1
      · rw [upd_ne h2] at h1
        have e : upd (del (upd (upd (upd H1 a (exo a C none)) dx (exd dx [(f, y)])) a (exo a C (some dx))) a) dx (.xd [(f, y)]) = upd H1 dx (.xd ([f].zip [y])) := by
          funext b
          by_cases hb : b = dx
          · subst hb; rw [upd_same, upd_same]; rfl
          · rw [upd_ne hb, upd_ne hb]
            by_cases hba : b = a
            · subst hba; rw [del_same, ha]
            · rw [del_ne hba, upd_ne hba, upd_ne hb, upd_ne hba]
        rw [e]
        exact hq dx h1
  exact this
end RX
end
section -- Rx29
namespace RX
open PySem PySem.Spec PyProof.Rows L2
mutual
def dB (K : PySem.W.Frag) : D → Value → Bool
  | .non, .none => true
  | .bl b, .bool c => b == c
  | .int i, .int j _ => decide (i = j)
  | .str s, .str t _ => decide (t = ⟨s.toArray⟩)
  | .tup ds, .ref a => (match K.lookup a with
    | some o => (match o.data with
      | .seq its _ => decide (o.cls = .type "tuple") && decide (its.size ≤ szLine) && dBs K ds its.toList
      | _ => false)
    | none => false)
  | _, _ => false
def dBs (K : PySem.W.Frag) : List D → List Value → Bool
  | [], [] => true
  | d :: ds, u :: us => dB K d u && dBs K ds us
  | _, _ => false
end
mutual
theorem dB_ok {K : PySem.W.Frag} : ∀ {d : D} {u : Value}, dB K d u = true → ∃ v, RelV v u ∧ ∀ F, Rep K F v d
  | .non, u, h => by
    cases u <;> first | (cases h; done) | exact ⟨.non, rfl, fun _ => .non⟩
  | .bl b, u, h => by
    cases u <;> first | (cases h; done) | skip
    rename_i c
    have e : b = c := by simpa [dB] using h
    subst e
    exact ⟨.bl b, rfl, fun _ => .bl b⟩
  | .int i, u, h => by
    cases u <;> first | (cases h; done) | skip
    rename_i c t
    have e : i = c := by simpa [dB] using h
    subst e
    exact ⟨.int i, ⟨t, rfl⟩, fun _ => .int i⟩
  | .str s, u, h => by
    cases u <;> first | (cases h; done) | skip
    rename_i c t
    have e : c = ⟨s.toArray⟩ := by simpa [dB] using h
    subst e
    exact ⟨.str _, ⟨t, rfl⟩, fun _ => .str s⟩
  | .tup ds, u, h => by
    cases u <;> first | (cases h; done) | skip
    rename_i a
    unfold dB at h
    split at h
    · rename_i o ho
      split at h
      · rename_i its n hd
        simp only [Bool.and_eq_true, decide_eq_true_eq] at h
        obtain ⟨⟨h1, h2⟩, h3⟩ := h
        obtain ⟨vs, r, f⟩ := dBs_ok h3
        exact ⟨.ref a, rfl, fun F => .tup (.inr ⟨o, its, n, ho, h1, hd, by rw [line_eq]; exact h2, r⟩) (f F)⟩
      · cases h
    · cases h
  | .lst ds, u, h => by cases u <;> cases h
theorem dBs_ok {K : PySem.W.Frag} : ∀ {ds : List D} {us : List Value}, dBs K ds us = true → ∃ vs, Vals vs us ∧ ∀ F, RepL K F vs ds
  | [], us, h => by
    cases us with
    | nil => exact ⟨[], .nil, fun _ => .nil⟩
    | cons _ _ => cases h
  | d :: ds, us, h => by
    cases us with
    | nil => cases h
    | cons u us =>
      unfold dBs at h
      rw [Bool.and_eq_true] at h
      obtain ⟨v, r1, f1⟩ := dB_ok h.1
      obtain ⟨vs, r2, f2⟩ := dBs_ok h.2
      exact ⟨v :: vs, .cons r1 r2, fun F => .cons (f1 F) (f2 F)⟩
end
def gvB (K : PySem.W.Frag) (x : Str) (d : D) : Bool := match PySem.W.nsIn K mainGlobals x with
  | some (some u) => dB K d u
  | _ => false
def enB (K : PySem.W.Frag) : List (List Nat × D) → List DictEntry → Bool
  | [], [] => true
  | (k, d) :: kvs, e :: es => (match e.key with
    | .str x _ => decide (x = ⟨k.toArray⟩)
    | _ => false) && dB K d e.val && enB K kvs es
  | _, _ => false
def tabB (K : PySem.W.Frag) (a : Addr) (kvs : List (List Nat × D)) : Bool := match K.lookup a with
  | some ⟨_, _, .dict es _, _⟩ => enB K kvs es.toList
  | _ => false
theorem en_find {K : PySem.W.Frag} (z : List Nat) : ∀ {kvs : List (List Nat × D)} {es : List DictEntry}, enB K kvs es = true → (es.any (·.refKey)) = false ∧
    (match es.find? (·.key.isStr ⟨z.toArray⟩) with | some e => lkR K (some e.val) (lookT z kvs) | none => lookT z kvs = none)
  | [], [], _ => ⟨rfl, rfl⟩
  | [], _ :: _, h => by cases h
  | _ :: _, [], h => by cases h
  | (k, d) :: kvs, e :: es, h => by
    unfold enB at h
    simp only [Bool.and_eq_true] at h
    obtain ⟨⟨h1, h2⟩, h3⟩ := h
    obtain ⟨i1, i2⟩ := en_find z h3
    split at h1
    · rename_i x t hx
      have hx2 : x = ⟨k.toArray⟩ := by simpa using h1
      subst hx2
      refine ⟨?_, ?_⟩
      · rw [List.any_cons, i1]
        unfold DictEntry.refKey
        rw [hx]
        rfl
      · rw [List.find?_cons]
        have ek : e.key.isStr ⟨z.toArray⟩ = decide (k = z) := by
          rw [hx]
          show ((⟨k.toArray⟩ : Str) == ⟨z.toArray⟩) = _
          rw [str_beq]
          by_cases q : k = z
          · subst q; simp
          · simp [q]
        rw [ek]
        unfold lookT
        by_cases q : k = z
        · subst q
          simp only [decide_true, if_true]
          obtain ⟨v, r, f⟩ := dB_ok h2
          exact ⟨e.val, v, rfl, r, f⟩
        · simp only [q, decide_false, if_false]
          exact i2
    · cases h1
theorem tabB_ok {w : World} {K : PySem.W.Frag} {mg : Str → Option Value} {x : Str} {a : Addr} {kvs : List (List Nat × D)} {es : Array DictEntry} {n : Nat} (hm : mg x = some (.ref a)) (D0 : KDict K w a es n) (h : tabB K a kvs = true) : GtP w K mg x kvs := by
  refine ⟨a, es, n, hm, D0, fun z => ?_⟩
  unfold tabB at h
  rw [D0.at_] at h
  obtain ⟨h1, h2⟩ := en_find z h
  unfold PySem.W.nsIn
  rw [D0.at_]
  dsimp only
  cases e : es.toList.find? (·.key.isStr ⟨z.toArray⟩) with
  | some en =>
    rw [e] at h2
    exact ⟨_, rfl, h2⟩
  | none =>
    rw [e] at h2
    refine ⟨none, by simp [h1], ?_⟩
    rw [h2]
    exact rfl
/-- an error class: its name, its __init__ -/
structure ExI where
  x : Str
  params : Arguments
  body : List Stmt
  scope : Scope
  qual : Str
structure PgD where
  T : List FnI
  ex : List ExI
  fld : Str
  gv : List (Str × GV)
def FnI.dd (I : FnI) : He.DefD := ⟨(I.x, none), I.x, I.x, I.params, I.body, I.scope, [], []⟩
def ExI.dd (e : ExI) : He.DefD := ⟨(e.x, some "__init__"), "__init__", e.qual, e.params, e.body, e.scope, [], []⟩
def PgD.defs (d : PgD) : List He.DefD := d.T.map FnI.dd ++ d.ex.map ExI.dd
def PgD.tabs (d : PgD) : List He.Tab := d.gv.filterMap fun p => match p.2 with
  | .t kvs => some ((fun K => He.ga K p.1), kvs.map fun q => (⟨q.1.toArray⟩ : Str))
  | .v _ => none
def PgD.gl (d : PgD) (i : Nat) : Option GV := (d.gv[i]?).map (·.2)
def PgD.nm (d : PgD) : Nm where
  N := []
  fn i := (d.T[i]?).map fun I => (I.x, I.ps)
  gl i := match d.gv[i]? with
    | some (x, .v _) => some x
    | _ => none
  gt i := match d.gv[i]? with
    | some (x, .t _) => some x
    | _ => none
  ex k := (d.ex[k]?).map fun e => (e.x, [d.fld])
  xf j := if j = 0 then some d.fld else none
def PgD.par (d : PgD) (K : PySem.W.Frag) : Par := ⟨K, fun k => (d.ex[k]?).map fun e => (He.ga K e.x, [d.fld]), none⟩
def gloB (K : PySem.W.Frag) (x : Str) : Bool := He.eqO (PySem.W.nsIn K mainGlobals x) (some (some (.ref (He.ga K x))))
def exB (K : PySem.W.Frag) (f : Str) (e : ExI) : Bool := gloB K e.x && oexB K (He.ga K e.x) && decide (PySem.W.findIn K (.ref (He.ga K e.x)) "__init__" = some (some (.ref (He.ma K (He.ga K e.x) "__init__")))) && decide (PySem.W.typeIn K (.ref (He.ma K (He.ga K e.x) "__init__")) = some (.type "function")) &&
  xfB K (He.ga K e.x) && decide (PySem.W.findIn K (.ref (He.ga K e.x)) f = some none)
/-- what is looked at behind the top -/
def PgD.ck (d : PgD) (K : PySem.W.Frag) : Bool := noLists K && d.T.all (fun I => gloB K I.x) && blts.all (fun x => He.eqO (PySem.W.nsIn K mainGlobals x) (some none)) && d.ex.all (exB K d.fld) &&
  (List.range d.ex.length).all (fun k => (List.range d.ex.length).all fun j => match d.ex[k]?, d.ex[j]? with
    | some e, some e' => decide (PySem.W.exmOne K (.ref (He.ga K e'.x)) (.ref (He.ga K e.x)) = some (decide (j = k)))
    | _, _ => true) &&
  d.gv.all (fun p => match p.2 with
    | .v c => gvB K p.1 c
    | .t kvs => gloB K p.1 && tabB K (He.ga K p.1) kvs)
/-- what is looked at in the text -/
def PgD.tx (d : PgD) : Bool := d.T.all (fnB d.nm) && d.ex.all (fun e => plainA e.params && scopeB (e.params.args.map (·.arg)) (e.params.args.map (·.arg)) e.scope && initB d.fld (e.params.args.map (·.arg)) e.scope e.body)
theorem glo_of {K : PySem.W.Frag} {h : Heap} {mg : Str → Option Value} (X : K.In h) (G : h.Ns mainGlobals mg) {x : Str} (c : gloB K x = true) : mg x = some (.ref (He.ga K x)) := PySem.W.mg_of X G (He.eqO_ok c)
theorem tabs_at : ∀ {l : List (Str × GV)} {p : Str × GV} {kvs : List (List Nat × D)}, p ∈ l → p.2 = .t kvs → ((fun K => He.ga K p.1), kvs.map fun q => (⟨q.1.toArray⟩ : Str)) ∈ (l.filterMap fun p => match p.2 with
  | .t kvs => some (((fun K => He.ga K p.1), kvs.map fun q => (⟨q.1.toArray⟩ : Str)) : He.Tab)
  | .v _ => none) := fun {l p kvs} hp e => List.mem_filterMap.mpr ⟨p, hp, by rw [e]⟩
theorem pg_ok {Pg : Program} {w : World} {K : PySem.W.Frag} {mg : Str → Option Value} {d : PgD} {h : Heap} (X : K.In h) (G : h.Ns mainGlobals mg) (c : He.SaysT [] d.defs d.tabs w K) (ck : d.ck K = true) (tx : d.tx = true) (base : Heap) : PgOk Pg w K mg base (d.par K) d.nm d.gl d.T := by
  unfold PgD.ck at ck
  simp only [Bool.and_eq_true] at ck
  obtain ⟨⟨⟨⟨⟨c1, c2⟩, c3⟩, c4⟩, c5⟩, c6⟩ := ck
  unfold PgD.tx at tx
  rw [Bool.and_eq_true] at tx
  obtain ⟨t1, t2⟩ := tx
  have exAt : ∀ {k : Nat} {e : ExI}, d.ex[k]? = some e → exB K d.fld e = true := fun {k e} he => List.all_eq_true.mp c4 e (List.mem_of_getElem? he)
  have cls : ∀ {k : Nat} {C : Addr} {fs : List Str}, (d.par K).cls k = some (C, fs) → ∃ e, d.ex[k]? = some e ∧ C = He.ga K e.x ∧ fs = [d.fld] := fun {k C fs} q => by
    obtain ⟨e, e1, e2⟩ := Option.map_eq_some_iff.mp q
    cases e2
    exact ⟨e, e1, rfl, rfl⟩
  have defA : ∀ {i : Nat} {I : FnI}, d.T[i]? = some I → ∃ fd, FunD K I.x I.x I.params I.body I.scope [] [] (He.ga K I.x) fd := fun {i I} hi => by
    have hd : d.defs[i]? = some I.dd := by
      unfold PgD.defs
      rw [List.getElem?_append_left (by rw [List.length_map]; exact (List.getElem?_eq_some_iff.mp hi).1), List.getElem?_map, hi]
      rfl
    exact c.d.def_ i hd
  have defE : ∀ {k : Nat} {e : ExI}, d.ex[k]? = some e → ∃ fd, FunD K "__init__" e.qual e.params e.body e.scope [] [] (He.ma K (He.ga K e.x) "__init__") fd := fun {k e} hk => by
    have hd : d.defs[d.T.length + k]? = some e.dd := by
      unfold PgD.defs
      rw [List.getElem?_append_right (by rw [List.length_map]; omega), List.length_map, Nat.add_sub_cancel_left, List.getElem?_map, hk]
      rfl
    exact c.d.def_ _ hd
  refine { hK := rfl, exa := rfl, nmf := fun i => rfl, fds := fun i I hi => ?_, chk := fun I hI => List.all_eq_true.mp t1 I hI, blt := fun x hx => ?_, xnd := fun k C fs q => ?_, xfn := fun k C fs j f q1 q2 q3 => ?_, nms := fun k x fs q => ?_, exm := fun k k' C C' fs fs' q1 q2 => ?_, xfc := fun k C fs j f q1 q2 => ?_, gts := fun i x q => ?_, gls := fun i x dd q1 q2 => ?_, mkx := ?_ }
  · obtain ⟨fd, F⟩ := defA hi
    exact ⟨_, fd, F, glo_of X G (List.all_eq_true.mp c2 I (List.mem_of_getElem? hi))⟩
  · exact PySem.W.mg_none_of X G (He.eqO_ok (List.all_eq_true.mp c3 x hx))
  · obtain ⟨e, _, _, rfl⟩ := cls q
    simp
  · obtain ⟨e, _, _, rfl⟩ := cls q1
    have hj : j = 0 := by simpa using q3
    subst hj
    have q2 : some d.fld = some f := q2
    rw [← q2]
    rfl
  · obtain ⟨e, e1, e2⟩ := Option.map_eq_some_iff.mp q
    cases e2
    have b := exAt e1
    unfold exB at b
    simp only [Bool.and_eq_true] at b
    refine ⟨He.ga K e.x, ?_, glo_of X G b.1.1.1.1.1⟩
    show (d.ex[k]?).map _ = _
    rw [e1]
    rfl
  · obtain ⟨e, e1, rfl, _⟩ := cls q1
    obtain ⟨e', e1', rfl, _⟩ := cls q2
    have h1 := List.all_eq_true.mp c5 k (List.mem_range.mpr (List.getElem?_eq_some_iff.mp e1).1)
    have h2 := List.all_eq_true.mp h1 k' (List.mem_range.mpr (List.getElem?_eq_some_iff.mp e1').1)
    rw [e1, e1'] at h2
    exact of_decide_eq_true h2
  · obtain ⟨e, e1, rfl, _⟩ := cls q1
    have b := exAt e1
    unfold exB at b
    simp only [Bool.and_eq_true, decide_eq_true_eq] at b
    have hf : f = d.fld := by
      have q2 : (if j = 0 then some d.fld else none) = some f := q2
      split at q2
      · exact (Option.some.inj q2).symm
      · cases q2
    subst hf
    exact ⟨xfB_ok b.1.2, b.2⟩
  · have q : (match d.gv[i]? with | some (x, .t _) => some x | _ => none) = some x := q
    split at q
    · rename_i y kvs hy
      obtain rfl : y = x := Option.some.inj q
      refine ⟨kvs, by unfold PgD.gl; rw [hy]; rfl, ?_⟩
      have hm := List.mem_of_getElem? hy
      have b := List.all_eq_true.mp c6 _ hm
      have b : (gloB K y && tabB K (He.ga K y) kvs) = true := b
      rw [Bool.and_eq_true] at b
      have ht := tabs_at hm rfl
      obtain ⟨j, hj⟩ := List.getElem?_of_mem ht
      obtain ⟨es, n, D0⟩ := c.tab j hj
      exact tabB_ok (glo_of X G b.1) D0 b.2
    · cases q
  · have q1 : (match d.gv[i]? with | some (x, .v _) => some x | _ => none) = some x := q1
    split at q1
    · rename_i y cc hy
      obtain rfl : y = x := Option.some.inj q1
      have q2 : (d.gv[i]?).map (·.2) = some (.v dd) := q2
      rw [hy] at q2
      cases q2
      have b := List.all_eq_true.mp c6 _ (List.mem_of_getElem? hy)
      have b : gvB K y dd = true := b
      unfold gvB at b
      split at b
      · rename_i u hu
        obtain ⟨v, r, f⟩ := dB_ok b
        exact ⟨v, u, PySem.W.mg_of X G hu, r, f⟩
      · cases b
    · cases q1
  · intro Y y1 y2 y3 y4 y5 hr k x fs C q1 q2 e es ta p pos ha hg hdb hst
    obtain ⟨e0, e1, e2⟩ := Option.map_eq_some_iff.mp q1
    cases e2
    obtain ⟨e0', e1', rfl, _⟩ := cls q2
    rw [e1] at e1'
    cases e1'
    have b := exAt e1
    unfold exB at b
    simp only [Bool.and_eq_true, decide_eq_true_eq] at b
    obtain ⟨⟨⟨⟨⟨b1, b2⟩, b3⟩, b4⟩, b5⟩, b6⟩ := b
    have t := List.all_eq_true.mp t2 e0 (List.mem_of_getElem? e1)
    simp only [Bool.and_eq_true] at t
    obtain ⟨fd, F⟩ := defE e1
    subst y1 y2 y3
    have nd : (e0.params.args.map (·.arg)).Nodup := (scopeB_of t.1.2).nd
    have F1 := init_ok (Pg := Y.prog) (w := Y.w) (mg := Y.mg) (base := Y.base) F t.1.2 t.2 (oexB_ok b2) b6
    have bb : Binds Y.K fd (e0.params.args.map (·.arg)) [] := fun s us _ hl => by
      rw [List.append_nil] at hl ⊢
      exact (binds_of F t.1.1 nd).1 s us hl
    exact mk_of_init (oexB_ok b2) b3 b4 F1 hr bb hg (by rw [y4]; exact glo_of X G b1) ha hdb hst
end RX
end
section -- Rx30
namespace RX
open PySem PySem.Spec PyProof.Rows L2
theorem walkP {l : PySem.W.OpenLaw} {d : PgD} {li N n m : Nat} {q : Program} {loose : List Str} {XP : (Str → Option Value) → Heap → Prop} {dr : DefRec} {I : FnI} {x : Str} (hn : l.most = some n) (hn2 : n ≤ sizeLine) (hdf : dr.params.defaults = []) (hr : Room (N + 2) callerA) (tx : d.tx = true)
    (hI : d.T[li]? = some I) (hx : I.ps = [x]) (hname : dr.name = I.x) (math : ∀ ns : List Int, ns.length ≤ n → ∃ c, run (tbl d.T) d.gl N li [.d (.lst (ns.map .int))] [] = .ok (.d (.bl true)) c) :
    PySem.W.WalkO q loose XP (He.hookX m [] d.defs d.tabs d.ck).says l.row.toRowW dr [] (fun f vs => PySem.call f vs) := by
  refine walkG (k := N + 2) (x := x) hn hn2 hdf hr fun w mg fa h Y G hmg => ?_
  obtain ⟨K, KX, c, ck⟩ := Y
  have pk := fun base => pg_ok (Pg := l.prog) (mg := mg) KX G c ck tx base
  have ck' := ck
  unfold PgD.ck at ck'
  simp only [Bool.and_eq_true] at ck'
  obtain ⟨⟨⟨⟨⟨c1, c2⟩, c3⟩, c4⟩, c5⟩, c6⟩ := ck'
  have hd : d.defs[li]? = some I.dd := by
    unfold PgD.defs
    rw [List.getElem?_append_left (by rw [List.length_map]; exact (List.getElem?_eq_some_iff.mp hI).1), List.getElem?_map, hI]
    rfl
  obtain ⟨fd, F0⟩ := c.d.def_ li hd
  have F : FunD K I.x I.x I.params I.body I.scope [] [] (He.ga K I.x) fd := F0
  rw [hname] at hmg
  have e : some (Value.ref fa) = some (Value.ref (He.ga K I.x)) := hmg.symm.trans (glo_of KX G (List.all_eq_true.mp c2 I (List.mem_of_getElem? hI)))
  cases e
  have hb := (pk h).chk I (List.mem_of_getElem? hI)
  unfold fnB at hb
  simp only [Bool.and_eq_true] at hb
  have S := scopeB_of hb.1.2
  have nd : I.ps.Nodup := by rw [← S.pre]; exact (List.take_sublist _ _).nodup S.nd
  have bd := (binds_of F hb.1.1.1.1 nd).1
  have hx' : I.params.args.map (·.arg) = [x] := hx
  refine ⟨K, fd, spF (d.par K) [x] (run (tbl d.T) d.gl N li), KX, c1, fun s u => ?_, fun H a ns us hl only Ha => ?_, fun base hb2 hG => ?_⟩
  · have := bd s [u] (by rw [hx']; rfl)
    rw [hx'] at this
    exact this
  · obtain ⟨cc, hm⟩ := math ns hl
    refine ⟨rfl, ⟨H, []⟩, [], [.d (.lst (ns.map .int))], ⟨Sub.refl, rfl, by simp, fun k b xs h1 => by simp at h1⟩, .cons (show Rep K H _ _ from .lst (.inr ⟨_, Ha⟩) (repL_ints ns)) .nil, ?_⟩
    rw [hm]
    intro g' H' v _ _ hv
    have hv : Rep K g'.F v (.bl true) := hv
    exact hv.ofBl
  · have := all_fns (pk base) N li I hI _ fd F
    rw [hx] at this
    exact this
end RX
end
section -- Mx0
namespace RX
/-- a def's end -/
def fin : SR → R Vl
  | .nx _ c => .ok (.d .non) c
  | .rt v c => .ok v c
  | .exc k ds _ c => .exc k ds c
  | .stuck => .stuck
theorem run_eq {T : Nat → Option Fn} {gl : Nat → Option GV} {n f : Nat} {vs : List Vl} {c : Cells} {fn : Fn} (h : T f = some fn) (hl : vs.length = fn.arity) :
    run T gl (n + 1) f vs c = fin (exs (run T gl n) gl fn.body (vs.map Sl.v ++ List.replicate (fn.slots - fn.arity) .no) c) := by
  show (match T f with | some fn => _ | none => _) = _
  rw [h]
  dsimp only
  rw [if_pos hl]
  rfl
section
variable {call : Nat → List Vl → M Vl} {gl : Nat → Option GV}
theorem exs_nil {env : EnvD} {c : Cells} : exs call gl .nil env c = .nx env c := rfl
theorem exs_cons {s : S} {ss : Ss} {env : EnvD} {c : Cells} : exs call gl (.cons s ss) env c = (exS call gl s env c).thn (exs call gl ss) := rfl
theorem thn_nx {env : EnvD} {c : Cells} {f : EnvD → Cells → SR} : (SR.nx env c).thn f = f env c := rfl
theorem thn_rt {v : Vl} {c : Cells} {f : EnvD → Cells → SR} : (SR.rt v c).thn f = .rt v c := rfl
theorem thn_exc {k : Nat} {ds : List D} {env : EnvD} {c : Cells} {f : EnvD → Cells → SR} : (SR.exc k ds env c).thn f = .exc k ds env c := rfl
theorem onR_ok {α : Type} {env : EnvD} {a : α} {c : Cells} {f : α → Cells → SR} : onR env (.ok a c) f = f a c := rfl
theorem onR_exc {α : Type} {env : EnvD} {k : Nat} {ds : List D} {c : Cells} {f : α → Cells → SR} : onR env (.exc k ds c) f = .exc k ds env c := rfl
theorem exS_asg {i e env c} : exS call gl (.asg i e) env c = onR env (ev call gl e false env c) fun v c => .nx (env.set i (.v v)) c := rfl
theorem exS_asgN {i e env c} : exS call gl (.asgN i e) env c = onR env (ev call gl e false env c) fun v c => match v with
    | .d (.lst xs) => .nx (env.set i (.own xs)) c
    | _ => .stuck := rfl
theorem exS_asgT {is e env c} : exS call gl (.asgT is e) env c = onR env (ev call gl e false env c) fun v c => match v with
    | .d (.tup xs) => if is.length = xs.length then .nx (setsE env is (xs.map fun x => .v (.d x))) c else .stuck
    | _ => .stuck := rfl
theorem exS_par {is es ns env c} : exS call gl (.par is es ns) env c = onR env (evs call gl es env c) fun vs c => if is.length = vs.length ∧ ns.length = vs.length ∧ vs.length ≤ szLine then
      (match (vs.zip ns).mapM slN with
      | some sl => .nx (setsE env is sl) c
      | none => .stuck) else .stuck := rfl
theorem exS_ex {e env c} : exS call gl (.ex e) env c = onR env (ev call gl e true env c) fun _ c => .nx env c := rfl
theorem exS_iff {t a b env c} : exS call gl (.iff t a b) env c = onR env (M.bind (ev call gl t true env) truM c) fun k c => if k then exs call gl a env c else exs call gl b env c := rfl
theorem exS_ret {e env c} : exS call gl (.ret e) env c = onR env (ev call gl e false env c) fun v c => .rt v c := rfl
theorem bind_def {α β : Type} {m : M α} {f : α → M β} {c : Cells} : M.bind m f c = (match m c with
  | .ok a c' => f a c'
  | .exc k ds c' => .exc k ds c'
  | .stuck => .stuck) := rfl
theorem pure_def {α : Type} {a : α} {c : Cells} : M.pure a c = .ok a c := rfl
theorem opt_some {α : Type} {a : α} : M.opt (some a) = M.pure a := rfl
theorem asD_d {x : D} : asD (.d x) = M.pure x := rfl
theorem truM_d {x : D} : truM (.d x) = M.bind (M.pure x) fun d => M.opt d.truth := rfl
theorem calm_def {α : Type} {m : M α} {c : Cells} : M.calm m c = (match m c with
  | .exc _ _ _ => .stuck
  | r => r) := rfl
theorem lcRun_nil {f : D → M (Option D)} : lcRun f [] = M.pure [] := rfl
theorem lcRun_cons {f : D → M (Option D)} {x : D} {r : List D} : lcRun f (x :: r) = M.bind (M.calm (f x)) fun o => M.bind (lcRun f r) fun ys => M.pure (match o with | some y => y :: ys | none => ys) := rfl
/-- a comprehension whose turns are plain -/
theorem lcRun_ok {f : D → M (Option D)} {g : D → Option D} {c : Cells} : ∀ {xs : List D}, (∀ x ∈ xs, f x c = .ok (g x) c) → lcRun f xs c = .ok (xs.filterMap g) c
  | [], _ => rfl
  | x :: r, h => by
    rw [lcRun_cons, bind_def, calm_def, h x List.mem_cons_self]
    dsimp only
    rw [bind_def, lcRun_ok (f := f) (g := g) fun y hy => h y (List.mem_cons_of_mem _ hy)]
    dsimp only
    rw [List.filterMap_cons]
    cases g x <;> rfl
end
end RX
end
section -- Mx1
namespace RX
/-- stuck, or the same -/
def R.le {α : Type} (a b : R α) : Prop := a = .stuck ∨ a = b
def M.le {α : Type} (m m' : M α) : Prop := ∀ c, (m c).le (m' c)
theorem R.le.refl {α : Type} {a : R α} : a.le a := .inr rfl
theorem M.le.refl {α : Type} {m : M α} : m.le m := fun _ => .inr rfl
theorem M.le.fail {α : Type} {m : M α} : M.le M.fail m := fun _ => .inl rfl
theorem M.le.bind {α β : Type} {m m' : M α} {f f' : α → M β} (h : m.le m') (k : ∀ a, (f a).le (f' a)) : (M.bind m f).le (M.bind m' f') := fun c => by
  unfold M.bind
  rcases h c with e | e
  · rw [e]; exact .inl rfl
  · rw [e]
    cases m' c with
    | ok a c' => exact k a c'
    | exc _ _ _ => exact .inr rfl
    | stuck => exact .inl rfl
theorem M.le.calm {α : Type} {m m' : M α} (h : m.le m') : (M.calm m).le (M.calm m') := fun c => by
  unfold M.calm
  rcases h c with e | e
  · rw [e]; exact .inl rfl
  · rw [e]; exact .inr rfl
theorem lcRun_le {f f' : D → M (Option D)} (h : ∀ x, (f x).le (f' x)) : ∀ xs, (lcRun f xs).le (lcRun f' xs)
  | [] => .refl
  | x :: r => .bind (.calm (h x)) fun o => .bind (lcRun_le h r) fun ys => .refl
theorem lcCat_le {f f' : D → M (List D)} (h : ∀ x, (f x).le (f' x)) : ∀ xs, (lcCat f xs).le (lcCat f' xs)
  | [] => .refl
  | x :: r => .bind (h x) fun o => .bind (lcCat_le h r) fun ys => .refl
section
variable {call call' : Nat → List Vl → M Vl} {gl : Nat → Option GV}
mutual
theorem ev_le (hc : ∀ f vs, (call f vs).le (call' f vs)) : ∀ (e : E) (b : Bool) (env : EnvD), (ev call gl e b env).le (ev call' gl e b env)
  | .var i, b, env => .refl
  | .cst c, b, env => .refl
  | .glo g, b, env => .refl
  | .bin o x y, b, env => .bind (ev_le hc x true env) fun _ => .bind .refl fun _ => .bind (ev_le hc y true env) fun _ => .refl
  | .neg x, b, env => .bind (ev_le hc x true env) fun _ => .refl
  | .nt x, b, env => .bind (ev_le hc x true env) fun _ => .refl
  | .and x y, b, env => .bind (ev_le hc x b env) fun v => .bind .refl fun k => by
    cases k
    · exact .refl
    · exact ev_le hc y b env
  | .or x y, b, env => .bind (ev_le hc x b env) fun v => .bind .refl fun k => by
    cases k
    · exact ev_le hc y b env
    · exact .refl
  | .ife t x y, b, env => .bind (ev_le hc t true env) fun v => .bind .refl fun k => by
    cases k
    · exact ev_le hc y b env
    · exact ev_le hc x b env
  | .cmp o x y, b, env => .bind (ev_le hc x true env) fun _ => .bind .refl fun _ => .bind (ev_le hc y true env) fun _ => .refl
  | .chn o p x y z, b, env => .bind (ev_le hc x true env) fun _ => .bind .refl fun _ => .bind (ev_le hc y true env) fun _ => .bind .refl fun _ => .bind .refl fun k => by
    cases k
    · exact .refl
    · exact .bind (ev_le hc z true env) fun _ => .refl
  | .call f as, b, env => .bind (evs_le hc as env) fun vs => hc f vs
  | .callk f perm as ks, b, env => .bind (evs_le hc as env) fun vs => .bind (evs_le hc ks env) fun us => .bind .refl fun ws => hc f ws
  | .bi o as, b, env => .bind (evB_le hc as env) fun _ => .refl
  | .mth _ _ _, b, env => .refl
  | .isi x ts, b, env => .bind (ev_le hc x true env) fun _ => .refl
  | .idx x i, b, env => .bind (ev_le hc x true env) fun _ => .bind .refl fun _ => .bind (ev_le hc i true env) fun _ => .refl
  | .cidx i k, b, env => .refl
  | .slc x lo hi, b, env => .bind (ev_le hc x true env) fun _ => .bind .refl fun _ => .bind (evO_le hc lo env) fun _ => .bind (evO_le hc hi env) fun _ => .refl
  | .lst as, b, env => .bind (evs_le hc as env) fun _ => .refl
  | .clst as, b, env => .bind (evs_le hc as env) fun _ => .refl
  | .tup as, b, env => .bind (evs_le hc as env) fun _ => .refl
  | .lc t s c e, b, env => .bind (evR_le hc s true env) fun xs => .bind (lcRun_le (fun x => .bind .refl fun env' => .bind (evC_le hc c env') fun k => by
      cases k
      · exact .refl
      · exact .bind (ev_le hc e false env') fun _ => .refl) xs) fun _ => .refl
  | .gin neg x g, b, env => .bind (ev_le hc x true env) fun _ => .refl
  | .gget g x, b, env => .bind (ev_le hc x true env) fun _ => .refl
  | .exf i k, b, env => .refl
  | .lc2 t s c t2 s2 c2 e, b, env => .bind (evR_le hc s true env) fun xs => .bind (lcCat_le (fun x => .bind .refl fun env' => .bind (.calm (evC_le hc c env')) fun k => by
      cases k
      · exact .refl
      · exact .bind (.calm (evR_le hc s2 true env')) fun zs => lcRun_le (fun z => .bind .refl fun env2 => .bind (evC_le hc c2 env2) fun k => by
          cases k
          · exact .refl
          · exact .bind (ev_le hc e false env2) fun _ => .refl) zs) xs) fun _ => .refl
theorem evs_le (hc : ∀ f vs, (call f vs).le (call' f vs)) : ∀ (es : Es) (env : EnvD), (evs call gl es env).le (evs call' gl es env)
  | .nil, env => .refl
  | .cons e es, env => .bind (ev_le hc e false env) fun _ => .bind (evs_le hc es env) fun _ => .refl
theorem evB_le (hc : ∀ f vs, (call f vs).le (call' f vs)) : ∀ (es : Es) (env : EnvD), (evB call gl es env).le (evB call' gl es env)
  | .nil, env => .refl
  | .cons e es, env => .bind (ev_le hc e true env) fun _ => .bind .refl fun _ => .bind (evB_le hc es env) fun _ => .refl
theorem evO_le (hc : ∀ f vs, (call f vs).le (call' f vs)) : ∀ (o : Oe) (env : EnvD), (evO call gl o env).le (evO call' gl o env)
  | .no, env => .refl
  | .yes e, env => .bind (ev_le hc e true env) fun _ => .refl
theorem evC_le (hc : ∀ f vs, (call f vs).le (call' f vs)) : ∀ (o : Oe) (env : EnvD), (evC call gl o env).le (evC call' gl o env)
  | .no, env => .refl
  | .yes e, env => .bind (ev_le hc e true env) fun _ => .refl
theorem evR_le (hc : ∀ f vs, (call f vs).le (call' f vs)) : ∀ (s : Sr) (b : Bool) (env : EnvD), (evR call gl s b env).le (evR call' gl s b env)
  | .seq e, b, env => .bind (ev_le hc e b env) fun _ => .refl
  | .rng1 a, b, env => .bind (ev_le hc a true env) fun _ => .refl
  | .rng2 a e, b, env => .bind (ev_le hc a true env) fun _ => .bind .refl fun _ => .bind (ev_le hc e true env) fun _ => .refl
  | .chars e, b, env => .bind (ev_le hc e true env) fun _ => .refl
  | .enum e, b, env => .bind (ev_le hc e b env) fun _ => .refl
  | .zip a e, b, env => .bind (ev_le hc a b env) fun _ => .bind .refl fun _ => .bind (ev_le hc e b env) fun _ => .refl
end
end
def SR.le (a b : SR) : Prop := a = .stuck ∨ a = b
theorem SR.le.refl {a : SR} : a.le a := .inr rfl
theorem onR_le {α : Type} {env : EnvD} {r r' : R α} {f f' : α → Cells → SR} (h : r.le r') (k : ∀ a c, (f a c).le (f' a c)) : (onR env r f).le (onR env r' f') := by
  rcases h with e | e
  · rw [e]; exact .inl rfl
  · rw [e]
    cases r' with
    | ok a c => exact k a c
    | exc _ _ _ => exact .inr rfl
    | stuck => exact .inl rfl
theorem thn_le {a a' : SR} {f f' : EnvD → Cells → SR} (h : a.le a') (k : ∀ env c, (f env c).le (f' env c)) : (a.thn f).le (a'.thn f') := by
  rcases h with e | e
  · rw [e]; exact .inl rfl
  · rw [e]
    cases a' with
    | nx env c => exact k env c
    | rt _ _ => exact .inr rfl
    | exc _ _ _ _ => exact .inr rfl
    | stuck => exact .inl rfl
theorem forRun_le {f f' : D → EnvD → Cells → SR} (h : ∀ x env c, (f x env c).le (f' x env c)) : ∀ xs env c, (forRun f xs env c).le (forRun f' xs env c)
  | [], _, _ => .refl
  | x :: r, env, c => thn_le (h x env c) fun env c => forRun_le h r env c
theorem whlN_le {t t' : EnvD → M Bool} {b b' : EnvD → Cells → SR} (ht : ∀ env, (t env).le (t' env)) (hb : ∀ env c, (b env c).le (b' env c)) : ∀ n env c, (whlN t b n env c).le (whlN t' b' n env c)
  | 0, _, _ => .inl rfl
  | n + 1, env, c => onR_le (ht env c) fun k c => by
    cases k
    · exact .refl
    · exact thn_le (hb env c) fun env c => whlN_le ht hb n env c
theorem whlN_up {t : EnvD → M Bool} {b : EnvD → Cells → SR} : ∀ n env c, (whlN t b n env c).le (whlN t b (n + 1) env c)
  | 0, _, _ => .inl rfl
  | n + 1, env, c => onR_le .refl fun k c => by
    cases k
    · exact .refl
    · exact thn_le .refl fun env c => whlN_up n env c
theorem whlN_add {t : EnvD → M Bool} {b : EnvD → Cells → SR} (n : Nat) (env : EnvD) (c : Cells) : ∀ k, (whlN t b n env c).le (whlN t b (n + k) env c)
  | 0 => .refl
  | k + 1 => by
    rcases whlN_add n env c k with e | e
    · exact .inl e
    · rw [e]; exact whlN_up (n + k) env c
/-- what one number of turns gives, the while gives -/
theorem whl_of_n {t : EnvD → M Bool} {b : EnvD → Cells → SR} {n : Nat} {env : EnvD} {c : Cells} (h : whlN t b n env c ≠ .stuck) : whl t b env c = whlN t b n env c := by
  unfold whl
  have hx : ∃ n, whlN t b n env c ≠ .stuck := ⟨n, h⟩
  rw [dif_pos hx]
  have h2 := hx.choose_spec
  generalize hx.choose = m at h2
  have a1 := (whlN_add n env c m).resolve_left h
  have a2 := (whlN_add m env c n).resolve_left h2
  rw [a1, a2, Nat.add_comm]
theorem whlN_whl {t : EnvD → M Bool} {b : EnvD → Cells → SR} (n : Nat) (env : EnvD) (c : Cells) : (whlN t b n env c).le (whl t b env c) := by
  by_cases h : whlN t b n env c = .stuck
  · exact .inl h
  · exact .inr (whl_of_n h).symm
theorem whl_le {t t' : EnvD → M Bool} {b b' : EnvD → Cells → SR} (ht : ∀ env, (t env).le (t' env)) (hb : ∀ env c, (b env c).le (b' env c)) (env : EnvD) (c : Cells) : (whl t b env c).le (whl t' b' env c) := by
  by_cases hx : ∃ n, whlN t b n env c ≠ .stuck
  · obtain ⟨n, h⟩ := hx
    rw [whl_of_n h]
    have e := (whlN_le ht hb n env c).resolve_left h
    rw [e]
    exact whlN_whl n env c
  · refine .inl ?_
    unfold whl
    rw [dif_neg hx]
/-- a while, one turn further -/
theorem whl_step {t : EnvD → M Bool} {b : EnvD → Cells → SR} {env : EnvD} {c : Cells} : whl t b env c = onR env (t env c) fun k c => if k then (b env c).thn (whl t b) else .nx env c := by
  by_cases hx : ∃ n, whlN t b n env c ≠ .stuck
  · obtain ⟨n, h⟩ := hx
    rw [whl_of_n h]
    cases n with
    | zero => exact absurd rfl h
    | succ n =>
      have : (whlN t b (n + 1) env c).le (onR env (t env c) fun k c => if k then (b env c).thn (whl t b) else .nx env c) := onR_le .refl fun k c => by
        cases k
        · exact .refl
        · exact thn_le .refl fun env c => whlN_whl n env c
      exact this.resolve_left h
  · have e : whl t b env c = .stuck := by unfold whl; rw [dif_neg hx]
    rw [e]
    have all : ∀ n, whlN t b n env c = .stuck := fun n => Classical.byContradiction fun h => hx ⟨n, h⟩
    cases h : t env c with
    | stuck => rfl
    | exc k ds c' =>
      have := all 1
      unfold whlN at this
      rw [h] at this
      cases this
    | ok k c' =>
      show SR.stuck = if k then (b env c').thn (whl t b) else .nx env c'
      cases k with
      | false =>
        have := all 1
        unfold whlN at this
        rw [h] at this
        cases this
      | true =>
        rw [if_pos rfl]
        cases h2 : b env c' with
        | stuck => rfl
        | rt v c2 =>
          have := all 1
          unfold whlN at this
          rw [h] at this
          simp only [onR, if_true, h2] at this
          cases this
        | exc k ds e2 c2 =>
          have := all 1
          unfold whlN at this
          rw [h] at this
          simp only [onR, if_true, h2] at this
          cases this
        | nx env' c2 =>
          show SR.stuck = whl t b env' c2
          unfold whl
          rw [dif_neg]
          rintro ⟨n, hn⟩
          have := all (n + 1)
          unfold whlN at this
          rw [h] at this
          simp only [onR, if_true, h2] at this
          exact hn this
end RX
end
section -- Mx2
namespace RX
section
variable (call : Nat → List Vl → M Vl) (gl : Nat → Option GV) (k0 : Nat)
mutual
def exsN : Ss → EnvD → Cells → SR
  | .nil, env, c => .nx env c
  | .cons s ss, env, c => (exSN s env c).thn (exsN ss)
def exSN : S → EnvD → Cells → SR
  | .asg i e, env, c => onR env (ev call gl e false env c) fun v c => .nx (env.set i (.v v)) c
  | .asgN i e, env, c => onR env (ev call gl e false env c) fun v c => match v with
    | .d (.lst xs) => .nx (env.set i (.own xs)) c
    | _ => .stuck
  | .asgT is e, env, c => onR env (ev call gl e false env c) fun v c => match v with
    | .d (.tup xs) => if is.length = xs.length then .nx (setsE env is (xs.map fun x => .v (.d x))) c else .stuck
    | _ => .stuck
  | .par is es ns, env, c => onR env (evs call gl es env c) fun vs c => if is.length = vs.length ∧ ns.length = vs.length ∧ vs.length ≤ szLine then
      (match (vs.zip ns).mapM slN with
      | some sl => .nx (setsE env is sl) c
      | none => .stuck) else .stuck
  | .app i e, env, c => match env.look i with
    | .own xs => onR env (ev call gl e false env c) fun v c => (match v with
      | .d x => if xs.length < szLine then .nx (env.set i (.own (xs ++ [x]))) c else .stuck
      | _ => .stuck)
    | _ => .stuck
  | .ext i e, env, c => match env.look i with
    | .own xs => onR env (ev call gl e false env c) fun v c => (match v with
      | .d (.lst ys) => if xs.length + ys.length ≤ szLine then .nx (env.set i (.own (xs ++ ys))) c else .stuck
      | _ => .stuck)
    | _ => .stuck
  | .pop1 j i, env, c => match env.look i with
    | .own xs => (match xs[xs.length - 1]? with
      | some x => .nx ((env.set i (.own xs.dropLast)).set j (.v (.d x))) c
      | none => .stuck)
    | _ => .stuck
  | .popT js i, env, c => match env.look i with
    | .own xs => (match xs[xs.length - 1]? with
      | some (.tup ys) => if js.length = ys.length then .nx (setsE (env.set i (.own xs.dropLast)) js (ys.map fun x => .v (.d x))) c else .stuck
      | _ => .stuck)
    | _ => .stuck
  | .set1 i k e, env, c => match env.look i with
    | .own xs => onR env (ev call gl e false env c) fun v c => onR env (ev call gl k true env c) fun u c => (match v, u with
      | .d x, .d (.int k) => (match ixAt xs.length k with
        | some j => .nx (env.set i (.own (xs.set j x))) c
        | none => .stuck)
      | _, _ => .stuck)
    | _ => .stuck
  | .cset i k e, env, c => match env.look i with
    | .v (.c j) => onR env (ev call gl e false env c) fun v c => (match v, c[j]? with
      | .d x, some xs => if k < xs.length then .nx env (c.set j (xs.set k x)) else .stuck
      | _, _ => .stuck)
    | _ => .stuck
  | .csetT i k j e, env, c => match env.look i with
    | .v (.c m) => onR env (ev call gl e false env c) fun v c => (match v, c[m]? with
      | .d (.tup [x, y]), some xs => if k < xs.length then .nx (env.set j (.v (.d y))) (c.set m (xs.set k x)) else .stuck
      | _, _ => .stuck)
    | _ => .stuck
  | .ex e, env, c => onR env (ev call gl e true env c) fun _ c => .nx env c
  | .iff t a b, env, c => onR env (M.bind (ev call gl t true env) truM c) fun k c => if k then exsN a env c else exsN b env c
  | .for t s b, env, c => onR env (evR call gl s false env c) fun xs c => forRun (fun x env c => match t.bind x env with
      | some env' => exsN b env' c
      | none => .stuck) xs env c
  | .whl t b, env, c => whlN (fun env => M.bind (ev call gl t true env) truM) (exsN b) k0 env c
  | .ret e, env, c => onR env (ev call gl e false env c) fun v c => .rt v c
  | .rais k as, env, c => onR env (evs call gl as env c) fun vs c => match vs.mapM fun | Vl.d x => some x | .c _ => none with
    | some ds => .exc k ds env c
    | none => .stuck
  | .tri b k i h, env, c => match exsN b env c with
    | .exc k' ds env' c' => if k' = k then (match exsN h (env'.set i (.exn k ds)) c' with
        | .nx env2 c2 => .nx ((env2.map Sl.noX).set i .no) c2
        | .rt v c2 => .rt v c2
        | _ => .stuck) else .exc k' ds env' c'
    | r => r
  | .frz i, env, c => match env.look i with
    | .own xs => .nx (env.set i (.v (.d (.lst xs)))) c
    | _ => .stuck
end
end
def runN (T : Nat → Option Fn) (gl : Nat → Option GV) (k0 : Nat) : Nat → Nat → List Vl → M Vl
  | 0, _, _ => M.fail
  | n + 1, f, vs => fun c => match T f with
    | some fn => if vs.length = fn.arity then (match exsN (runN T gl k0 n) gl k0 fn.body (vs.map Sl.v ++ List.replicate (fn.slots - fn.arity) .no) c with
        | .nx _ c => .ok (.d .non) c
        | .rt v c => .ok v c
        | .exc k ds _ c => .exc k ds c
        | .stuck => .stuck) else .stuck
    | none => .stuck
section
variable {call call' : Nat → List Vl → M Vl} {gl : Nat → Option GV}
theorem SR.le.stuck {a : SR} : SR.le .stuck a := .inl rfl
mutual
theorem exS_le (hc : ∀ f vs, (call f vs).le (call' f vs)) : ∀ (s : S) (env : EnvD) (c : Cells), (exS call gl s env c).le (exS call' gl s env c)
  | .asg i e, env, c => onR_le (ev_le hc e false env c) fun _ _ => .refl
  | .asgN i e, env, c => onR_le (ev_le hc e false env c) fun _ _ => .refl
  | .asgT is e, env, c => onR_le (ev_le hc e false env c) fun _ _ => .refl
  | .par is es ns, env, c => onR_le (evs_le hc es env c) fun _ _ => .refl
  | .app i e, env, c => by
    unfold exS
    cases env.look i <;> first | exact .refl | exact onR_le (ev_le hc e false env c) fun _ _ => .refl
  | .ext i e, env, c => by
    unfold exS
    cases env.look i <;> first | exact .refl | exact onR_le (ev_le hc e false env c) fun _ _ => .refl
  | .pop1 j i, env, c => .refl
  | .popT js i, env, c => .refl
  | .set1 i k e, env, c => by
    unfold exS
    cases env.look i <;> first | exact .refl | exact onR_le (ev_le hc e false env c) fun _ c => onR_le (ev_le hc k true env c) fun _ _ => .refl
  | .cset i k e, env, c => by
    unfold exS
    cases env.look i with
    | v y => cases y <;> first | exact .refl | exact onR_le (ev_le hc e false env c) fun _ _ => .refl
    | _ => exact .refl
  | .csetT i k j e, env, c => by
    unfold exS
    cases env.look i with
    | v y => cases y <;> first | exact .refl | exact onR_le (ev_le hc e false env c) fun _ _ => .refl
    | _ => exact .refl
  | .ex e, env, c => onR_le (ev_le hc e true env c) fun _ _ => .refl
  | .iff t a b, env, c => onR_le (M.le.bind (ev_le hc t true env) (fun _ => .refl) c) fun k c => by
    cases k
    · exact exs_le hc b env c
    · exact exs_le hc a env c
  | .for t s b, env, c => onR_le (evR_le hc s false env c) fun xs c => forRun_le (fun x env c => by
    cases t.bind x env with
    | none => exact .refl
    | some env' => exact exs_le hc b env' c) xs env c
  | .whl t b, env, c => whl_le (fun env => .bind (ev_le hc t true env) fun _ => .refl) (fun env c => exs_le hc b env c) env c
  | .ret e, env, c => onR_le (ev_le hc e false env c) fun _ _ => .refl
  | .rais k as, env, c => onR_le (evs_le hc as env c) fun _ _ => .refl
  | .tri b k i h, env, c => by
    unfold exS
    rcases exs_le hc b env c with e | e
    · rw [e]; exact .inl rfl
    · rw [e]
      cases exs call' gl b env c with
      | exc k' ds env' c' =>
        dsimp only
        by_cases hk : k' = k
        · rw [if_pos hk, if_pos hk]
          rcases exs_le hc h (env'.set i (.exn k ds)) c' with e2 | e2
          · rw [e2]; exact .inl rfl
          · rw [e2]; exact .refl
        · rw [if_neg hk, if_neg hk]; exact .refl
      | _ => exact .refl
  | .frz i, env, c => .refl
theorem exs_le (hc : ∀ f vs, (call f vs).le (call' f vs)) : ∀ (ss : Ss) (env : EnvD) (c : Cells), (exs call gl ss env c).le (exs call' gl ss env c)
  | .nil, env, c => .refl
  | .cons s ss, env, c => thn_le (exS_le hc s env c) fun env c => exs_le hc ss env c
end
variable {k0 : Nat}
mutual
theorem exSN_le (hc : ∀ f vs, (call f vs).le (call' f vs)) : ∀ (s : S) (env : EnvD) (c : Cells), (exSN call gl k0 s env c).le (exS call' gl s env c)
  | .asg i e, env, c => onR_le (ev_le hc e false env c) fun _ _ => .refl
  | .asgN i e, env, c => onR_le (ev_le hc e false env c) fun _ _ => .refl
  | .asgT is e, env, c => onR_le (ev_le hc e false env c) fun _ _ => .refl
  | .par is es ns, env, c => onR_le (evs_le hc es env c) fun _ _ => .refl
  | .app i e, env, c => by
    unfold exS exSN
    cases env.look i <;> first | exact .refl | exact onR_le (ev_le hc e false env c) fun _ _ => .refl
  | .ext i e, env, c => by
    unfold exS exSN
    cases env.look i <;> first | exact .refl | exact onR_le (ev_le hc e false env c) fun _ _ => .refl
  | .pop1 j i, env, c => .refl
  | .popT js i, env, c => .refl
  | .set1 i k e, env, c => by
    unfold exS exSN
    cases env.look i <;> first | exact .refl | exact onR_le (ev_le hc e false env c) fun _ c => onR_le (ev_le hc k true env c) fun _ _ => .refl
  | .cset i k e, env, c => by
    unfold exS exSN
    cases env.look i with
    | v y => cases y <;> first | exact .refl | exact onR_le (ev_le hc e false env c) fun _ _ => .refl
    | _ => exact .refl
  | .csetT i k j e, env, c => by
    unfold exS exSN
    cases env.look i with
    | v y => cases y <;> first | exact .refl | exact onR_le (ev_le hc e false env c) fun _ _ => .refl
    | _ => exact .refl
  | .ex e, env, c => onR_le (ev_le hc e true env c) fun _ _ => .refl
  | .iff t a b, env, c => onR_le (M.le.bind (ev_le hc t true env) (fun _ => .refl) c) fun k c => by
    cases k
    · exact exsN_le hc b env c
    · exact exsN_le hc a env c
  | .for t s b, env, c => onR_le (evR_le hc s false env c) fun xs c => forRun_le (fun x env c => by
    cases t.bind x env with
    | none => exact .refl
    | some env' => exact exsN_le hc b env' c) xs env c
  | .whl t b, env, c => by
    unfold exS exSN
    rcases whlN_le (t := fun env => M.bind (ev call gl t true env) truM) (t' := fun env => M.bind (ev call' gl t true env) truM) (b := exsN call gl k0 b) (b' := exs call' gl b) (fun env => .bind (ev_le hc t true env) fun _ => .refl) (fun env c => exsN_le hc b env c) k0 env c with e | e
    · rw [e]; exact .inl rfl
    · rw [e]; exact whlN_whl k0 env c
  | .ret e, env, c => onR_le (ev_le hc e false env c) fun _ _ => .refl
  | .rais k as, env, c => onR_le (evs_le hc as env c) fun _ _ => .refl
  | .tri b k i h, env, c => by
    unfold exS exSN
    rcases exsN_le hc b env c with e | e
    · rw [e]; exact .inl rfl
    · rw [e]
      cases exs call' gl b env c with
      | exc k' ds env' c' =>
        dsimp only
        by_cases hk : k' = k
        · rw [if_pos hk, if_pos hk]
          rcases exsN_le hc h (env'.set i (.exn k ds)) c' with e2 | e2
          · rw [e2]; exact .inl rfl
          · rw [e2]; exact .refl
        · rw [if_neg hk, if_neg hk]; exact .refl
      | _ => exact .refl
  | .frz i, env, c => .refl
theorem exsN_le (hc : ∀ f vs, (call f vs).le (call' f vs)) : ∀ (ss : Ss) (env : EnvD) (c : Cells), (exsN call gl k0 ss env c).le (exs call' gl ss env c)
  | .nil, env, c => .refl
  | .cons s ss, env, c => thn_le (exSN_le hc s env c) fun env c => exsN_le hc ss env c
end
end
theorem fin_le {a b : SR} (h : a.le b) : (fin a).le (fin b) := by
  rcases h with e | e
  · rw [e]; exact .inl rfl
  · rw [e]; exact .inr rfl
section
variable {T : Nat → Option Fn} {gl : Nat → Option GV}
theorem run_le1 : ∀ (n f : Nat) (vs : List Vl), (run T gl n f vs).le (run T gl (n + 1) f vs)
  | 0, f, vs => .fail
  | n + 1, f, vs => fun c => by
    cases h : T f with
    | none => exact .inl (by unfold run; rw [h])
    | some fn =>
      by_cases hl : vs.length = fn.arity
      · rw [run_eq h hl, run_eq h hl]
        exact fin_le (exs_le (fun g ws => run_le1 n g ws) _ _ _)
      · exact .inl (by unfold run; rw [h]; exact if_neg hl)
theorem run_leN {n m : Nat} (h : n ≤ m) (f : Nat) (vs : List Vl) : (run T gl n f vs).le (run T gl m f vs) := by
  induction h with
  | refl => exact .refl
  | step _ ih =>
    intro c
    · rcases ih c with e | e
      · exact .inl e
      · rw [e]; exact run_le1 _ f vs c
/-- more fuel, the same answer -/
theorem run_up {n m f : Nat} {vs : List Vl} {c : Cells} {r : R Vl} (h : run T gl n f vs c = r) (hr : r ≠ .stuck) (hm : n ≤ m) : run T gl m f vs c = r := by
  rcases run_leN (T := T) (gl := gl) hm f vs c with e | e
  · rw [h] at e; exact absurd e hr
  · rw [← e]; exact h
theorem runN_le {k0 : Nat} : ∀ (n f : Nat) (vs : List Vl), (runN T gl k0 n f vs).le (run T gl n f vs)
  | 0, f, vs => .fail
  | n + 1, f, vs => fun c => by
    cases h : T f with
    | none => exact .inl (by unfold runN; rw [h])
    | some fn =>
      by_cases hl : vs.length = fn.arity
      · rw [run_eq h hl]
        have : runN T gl k0 (n + 1) f vs c = fin (exsN (runN T gl k0 n) gl k0 fn.body (vs.map Sl.v ++ List.replicate (fn.slots - fn.arity) .no) c) := by
          show (match T f with | some fn => _ | none => _) = _
          rw [h]
          dsimp only
          rw [if_pos hl]
          rfl
        rw [this]
        exact fin_le (exsN_le (fun g ws => runN_le n g ws) _ _ _)
      · exact .inl (by unfold runN; rw [h]; exact if_neg hl)
/-- by the kernel -/
theorem run_by {k0 n f : Nat} {vs : List Vl} {c : Cells} {r : R Vl} (h : runN T gl k0 n f vs c = r) (hr : r ≠ .stuck) : run T gl n f vs c = r := by
  rcases runN_le (T := T) (gl := gl) (k0 := k0) n f vs c with e | e
  · rw [h] at e; exact absurd e hr
  · rw [← e]; exact h
end
end RX
end
section -- Mz
namespace RX
open PySem PySem.Spec PyProof.Rows
mutual
def D.sz : D → Nat
  | .non => 4
  | .bl _ => 5
  | .int i => (PyData.shown (.int i)).length
  | .str s => 10 * s.length + 2
  | .lst xs => D.szs xs + 2
  | .tup xs => D.szs xs + 3
def D.szs : List D → Nat
  | [] => 0
  | x :: xs => D.sz x + 2 + D.szs xs
end
mutual
def D.okC : D → Bool
  | .int i => decide (i.natAbs.log2 < 1920)
  | .str s => s.all fun c => decide (c < 16 ^ 8)
  | .lst xs => D.okCs xs
  | .tup xs => D.okCs xs
  | _ => true
def D.okCs : List D → Bool
  | [] => true
  | x :: xs => D.okC x && D.okCs xs
end
theorem textFrom_le : ∀ (ts : List Str) (k : Nat) (acc : Str), (textFrom k acc ts).length ≤ acc.length + (ts.map fun t => t.length + 2).sum
  | [], k, acc => by simp [textFrom]
  | t :: r, k, acc => by
    have ih := textFrom_le r (k + 1) (acc ++ (if k > 0 then ", " else "" : String) ++ t)
    have e : (acc ++ (if k > 0 then ", " else "" : String) ++ t).length = acc.length + (if k > 0 then 2 else 0) + t.length := by
      rw [strLen_append, strLen_append]
      split <;> rfl
    unfold textFrom
    rw [List.map_cons, List.sum_cons]
    rw [e] at ih
    have h2 : (if k > 0 then 2 else 0) ≤ 2 := by split <;> omega
    omega
theorem join_le : ∀ ts : List Str, (Str.join ", " ts).length ≤ (ts.map fun t => t.length + 2).sum
  | [] => by
    show (0 : Nat) ≤ _
    omega
  | [x] => by
    show x.length ≤ _
    simp
  | x :: y :: r => by
    have ih := join_le (y :: r)
    show (x ++ ", " ++ Str.join ", " (y :: r)).length ≤ _
    have e2 : ((", " : String) : Str).length = 2 := rfl
    rw [strLen_append, strLen_append, e2, List.map_cons, List.sum_cons]
    omega
mutual
theorem shown_le : ∀ d : D, d.okC = true → d.py.shown.length ≤ d.sz
  | .non, _ => by
    show (PyData.shown .none).length ≤ 4
    simp only [PyData.shown]
    decide
  | .bl b, _ => by
    show (PyData.shown (.bool b)).length ≤ 5
    cases b <;> (simp only [PyData.shown]; decide)
  | .int i, _ => Nat.le_refl _
  | .str s, h => by
    show (PyData.shown (.str _)).length ≤ _
    simp only [PyData.shown]
    refine PySem.StrLaws.reprText_len _ fun c hc => ?_
    have := List.all_eq_true.mp h c (by simpa using hc)
    simpa using this
  | .lst xs, h => by
    show (PyData.shown (.list (D.pys xs))).length ≤ _
    simp only [PyData.shown]
    unfold listText
    have e : (("]" : String) : Str).length = 1 := rfl
    have e1 : (("[" : String) : Str).length = 1 := rfl
    rw [strLen_append, e]
    have a := textFrom_le (PyData.shownAll (D.pys xs)) 0 "["
    have b := shownAll_le xs h
    rw [e1] at a
    show _ ≤ D.szs xs + 2
    omega
  | .tup xs, h => by
    show (PyData.shown (.tuple (D.pys xs))).length ≤ _
    simp only [PyData.shown]
    unfold tupleText
    have e1 : (("(" : String) : Str).length = 1 := rfl
    rw [strLen_append, strLen_append, e1]
    have a := join_le (PyData.shownAll (D.pys xs))
    have b := shownAll_le xs h
    have c : (((if (PyData.shownAll (D.pys xs)).length == 1 then ",)" else ")") : String) : Str).length ≤ 2 := by
      split <;> decide
    show _ ≤ D.szs xs + 3
    omega
theorem shownAll_le : ∀ xs : List D, D.okCs xs = true → ((PyData.shownAll (D.pys xs)).map fun t => t.length + 2).sum ≤ D.szs xs
  | [], _ => by simp [D.pys, PyData.shownAll, D.szs]
  | x :: xs, h => by
    unfold D.okCs at h
    rw [Bool.and_eq_true] at h
    have a := shown_le x h.1
    have b := shownAll_le xs h.2
    show (((PyData.shown x.py :: PyData.shownAll (D.pys xs)).map fun t => t.length + 2).sum) ≤ D.sz x + 2 + D.szs xs
    rw [List.map_cons, List.sum_cons]
    omega
end
mutual
theorem okC_showable : ∀ d : D, d.okC = true → d.py.showable = true
  | .non, _ => by show PyData.showable .none = true; simp only [PyData.showable]
  | .bl b, _ => by show PyData.showable (.bool b) = true; simp only [PyData.showable]
  | .int i, h => by show PyData.showable (.int i) = true; simp only [PyData.showable]; exact h
  | .str s, _ => by show PyData.showable (.str _) = true; simp only [PyData.showable]
  | .lst xs, h => by show PyData.showable (.list (D.pys xs)) = true; simp only [PyData.showable]; exact okCs_showable xs h
  | .tup xs, h => by show PyData.showable (.tuple (D.pys xs)) = true; simp only [PyData.showable]; exact okCs_showable xs h
theorem okCs_showable : ∀ xs : List D, D.okCs xs = true → PyData.showableAll (D.pys xs) = true
  | [], _ => by simp only [D.pys, PyData.showableAll]
  | x :: xs, h => by
    unfold D.okCs at h
    rw [Bool.and_eq_true] at h
    show PyData.showableAll (x.py :: D.pys xs) = true
    simp only [PyData.showableAll, Bool.and_eq_true]
    exact ⟨okC_showable x h.1, okCs_showable xs h.2⟩
end
theorem showOk_of {d : D} (h : d.okC = true) (hs : d.sz ≤ szLine) (hd : d.depth ≤ 64) : showOk d = true := by
  unfold showOk
  have a := shown_le d h
  have : d.shown.length = d.py.shown.length := by unfold D.shown; rfl
  simp only [okC_showable d h, Bool.true_and, Bool.and_eq_true, decide_eq_true_eq]
  exact ⟨by omega, hd⟩
end RX
end
section -- Mr
namespace RX
section
variable {call : Nat → List Vl → M Vl} {gl : Nat → Option GV}
@[simp] theorem z_exs_nil {env : EnvD} {c : Cells} : exs call gl .nil env c = .nx env c := rfl
@[simp] theorem z_exs_cons {s : S} {ss : Ss} {env : EnvD} {c : Cells} : exs call gl (.cons s ss) env c = (exS call gl s env c).thn (exs call gl ss) := rfl
@[simp] theorem z_exS_asg {i e env c} : exS call gl (.asg i e) env c = onR env (ev call gl e false env c) fun v c => .nx (env.set i (.v v)) c := rfl
@[simp] theorem z_exS_asgN {i e env c} : exS call gl (.asgN i e) env c = onR env (ev call gl e false env c) fun v c => match v with
    | .d (.lst xs) => .nx (env.set i (.own xs)) c
    | _ => .stuck := rfl
@[simp] theorem z_exS_asgT {is e env c} : exS call gl (.asgT is e) env c = onR env (ev call gl e false env c) fun v c => match v with
    | .d (.tup xs) => if is.length = xs.length then .nx (setsE env is (xs.map fun x => .v (.d x))) c else .stuck
    | _ => .stuck := rfl
@[simp] theorem z_exS_par {is es ns env c} : exS call gl (.par is es ns) env c = onR env (evs call gl es env c) fun vs c => if is.length = vs.length ∧ ns.length = vs.length ∧ vs.length ≤ szLine then
      (match (vs.zip ns).mapM slN with
      | some sl => .nx (setsE env is sl) c
      | none => .stuck) else .stuck := rfl
@[simp] theorem z_exS_ex {e env c} : exS call gl (.ex e) env c = onR env (ev call gl e true env c) fun _ c => .nx env c := rfl
@[simp] theorem z_exS_iff {t a b env c} : exS call gl (.iff t a b) env c = onR env (M.bind (ev call gl t true env) truM c) fun k c => if k then exs call gl a env c else exs call gl b env c := rfl
@[simp] theorem z_exS_ret {e env c} : exS call gl (.ret e) env c = onR env (ev call gl e false env c) fun v c => .rt v c := rfl
@[simp] theorem z_ev_and {x y b} : ev call gl (E.and x y) b = fun env => M.bind (ev call gl x b env) fun v => M.bind (truM v) fun k => if k then ev call gl y b env else M.pure v := rfl
@[simp] theorem z_ev_or {x y b} : ev call gl (E.or x y) b = fun env => M.bind (ev call gl x b env) fun v => M.bind (truM v) fun k => if k then M.pure v else ev call gl y b env := rfl
@[simp] theorem z_ev_isi {x ts b} : ev call gl (E.isi x ts) b = fun env => M.bind (ev call gl x true env) fun v => M.bind (asD v) fun v => M.pure (.d (.bl (ts.any v.isTy))) := rfl
@[simp] theorem z_ev_var {i b} : ev call gl (E.var i) b = fun env => match env.look i with
    | .v x => M.pure x
    | .own xs => if b then M.pure (.d (.lst xs)) else M.fail
    | _ => M.fail := rfl
@[simp] theorem z_ev_nt {x b} : ev call gl (E.nt x) b = fun env => M.bind (ev call gl x true env) fun v => M.bind (truM v) fun k => M.pure (.d (.bl !k)) := rfl
@[simp] theorem z_ev_cst {c b} : ev call gl (E.cst c) b = fun env => M.pure (.d c) := rfl
@[simp] theorem z_ev_glo {g b} : ev call gl (E.glo g) b = fun env => match gl g with
    | some (.v x) => M.pure (.d x)
    | _ => M.fail := rfl
@[simp] theorem z_ev_bin {o x y b} : ev call gl (E.bin o x y) b = fun env => M.bind (ev call gl x true env) fun v => M.bind (asD v) fun v => M.bind (ev call gl y true env) fun u => M.bind (asD u) fun u => M.bind (M.opt (o.run v u)) fun z => M.pure (.d z) := rfl
@[simp] theorem z_ev_neg {x b} : ev call gl (E.neg x) b = fun env => M.bind (ev call gl x true env) fun v => M.bind (asD v) fun v => match v with
    | .int i => M.pure (.d (.int (-i)))
    | _ => M.fail := rfl
@[simp] theorem z_ev_ife {c x y b} : ev call gl (E.ife c x y) b = fun env => M.bind (ev call gl c true env) fun v => M.bind (truM v) fun k => if k then ev call gl x b env else ev call gl y b env := rfl
@[simp] theorem z_ev_cmp {o x y b} : ev call gl (E.cmp o x y) b = fun env => M.bind (ev call gl x true env) fun v => M.bind (asD v) fun v => M.bind (ev call gl y true env) fun u => M.bind (asD u) fun u => M.bind (M.opt (o.run v u)) fun z => M.pure (.d (.bl z)) := rfl
@[simp] theorem z_ev_chn {o p x y z b} : ev call gl (E.chn o p x y z) b = fun env => M.bind (ev call gl x true env) fun v => M.bind (asD v) fun v => M.bind (ev call gl y true env) fun u => M.bind (asD u) fun u => M.bind (M.opt (o.run v u)) fun k =>
      if k then M.bind (ev call gl z true env) fun w => M.bind (asD w) fun w => M.bind (M.opt (p.run u w)) fun k => M.pure (.d (.bl k)) else M.pure (.d (.bl false)) := rfl
@[simp] theorem z_ev_call {f as b} : ev call gl (E.call f as) b = fun env => M.bind (evs call gl as env) fun vs => call f vs := rfl
@[simp] theorem z_ev_bi {o as b} : ev call gl (E.bi o as) b = fun env => M.bind (evB call gl as env) fun vs => M.bind (M.opt (o.run vs)) fun z => M.pure (.d z) := rfl
@[simp] theorem z_ev_idx {x i b} : ev call gl (E.idx x i) b = fun env => M.bind (ev call gl x true env) fun v => M.bind (asD v) fun v => M.bind (ev call gl i true env) fun u => M.bind (asD u) fun u => M.bind (M.opt (v.idx u)) fun z => M.pure (.d z) := rfl
@[simp] theorem z_ev_slc {x lo hi b} : ev call gl (E.slc x lo hi) b = fun env => M.bind (ev call gl x true env) fun v => M.bind (asD v) fun v => M.bind (evO call gl lo env) fun l => M.bind (evO call gl hi env) fun h => M.bind (M.opt (v.slc l h)) fun z => M.pure (.d z) := rfl
@[simp] theorem z_ev_lst {as b} : ev call gl (E.lst as) b = fun env => M.bind (evs call gl as env) fun vs => M.bind (M.opt (vs.mapM fun | .d x => some x | .c _ => none)) fun xs => if xs.length ≤ szLine then M.pure (.d (.lst xs)) else M.fail := rfl
@[simp] theorem z_ev_tup {as b} : ev call gl (E.tup as) b = fun env => M.bind (evs call gl as env) fun vs => M.bind (M.opt (vs.mapM fun | .d x => some x | .c _ => none)) fun xs => if xs.length ≤ szLine then M.pure (.d (.tup xs)) else M.fail := rfl
@[simp] theorem z_ev_gin {neg x g b} : ev call gl (E.gin neg x g) b = fun env => M.bind (ev call gl x true env) fun v => M.bind (asD v) fun v => match v, gl g with
    | .str k, some (.t kvs) => M.pure (.d (.bl (neg != (lookT k kvs).isSome)))
    | _, _ => M.fail := rfl
@[simp] theorem z_ev_gget {g x b} : ev call gl (E.gget g x) b = fun env => M.bind (ev call gl x true env) fun v => M.bind (asD v) fun v => match v, gl g with
    | .str k, some (.t kvs) => M.bind (M.opt (lookT k kvs)) fun d => M.pure (.d d)
    | _, _ => M.fail := rfl
@[simp] theorem z_ev_lc {t s c e b} : ev call gl (E.lc t s c e) b = fun env => M.bind (evR call gl s true env) fun xs => M.bind (lcRun (fun x => M.bind (M.opt (t.bind x (wipeE env t.slots))) fun env' => M.bind (evC call gl c env') fun k => if k then M.bind (ev call gl e false env') fun v => M.bind (asD v) fun v => M.pure (some v) else M.pure none) xs) fun ys =>
      if ys.length ≤ szLine then M.pure (.d (.lst ys)) else M.fail := rfl
@[simp] theorem z_evs_nil : evs call gl (Es.nil) = fun env => M.pure [] := rfl
@[simp] theorem z_evs_cons {e es} : evs call gl (Es.cons e es) = fun env => M.bind (ev call gl e false env) fun v => M.bind (evs call gl es env) fun vs => M.pure (v :: vs) := rfl
@[simp] theorem z_evB_nil : evB call gl (Es.nil) = fun env => M.pure [] := rfl
@[simp] theorem z_evB_cons {e es} : evB call gl (Es.cons e es) = fun env => M.bind (ev call gl e true env) fun v => M.bind (asD v) fun v => M.bind (evB call gl es env) fun vs => M.pure (v :: vs) := rfl
@[simp] theorem z_evO_no : evO call gl (Oe.no) = fun env => M.pure none := rfl
@[simp] theorem z_evO_yes {e} : evO call gl (Oe.yes e) = fun env => M.bind (ev call gl e true env) fun v => M.bind (asD v) fun v => match v with
    | .int i => M.pure (some i)
    | _ => M.fail := rfl
@[simp] theorem z_evC_no : evC call gl (Oe.no) = fun env => M.pure true := rfl
@[simp] theorem z_evC_yes {e} : evC call gl (Oe.yes e) = fun env => M.bind (ev call gl e true env) truM := rfl
@[simp] theorem z_evR_seq {e b} : evR call gl (Sr.seq e) b = fun env => M.bind (ev call gl e b env) fun v => M.bind (asD v) fun v => M.opt v.items := rfl
@[simp] theorem z_evR_chars {e b} : evR call gl (Sr.chars e) b = fun env => M.bind (ev call gl e true env) fun v => M.bind (asD v) fun v => match v with
    | .str s => M.pure (s.map fun c => .str [c])
    | _ => M.fail := rfl
@[simp] theorem z_evR_enum {e b} : evR call gl (Sr.enum e) b = fun env => M.bind (ev call gl e b env) fun v => M.bind (asD v) fun v => M.bind (M.opt v.items) fun xs => M.pure (enumI 0 xs) := rfl
@[simp] theorem z_evR_rng1 {a b} : evR call gl (Sr.rng1 a) b = fun env => M.bind (ev call gl a true env) fun v => M.bind (asD v) fun v => match v with
    | .int j => if rngOk j then M.pure (rangeI 0 j.toNat) else M.fail
    | _ => M.fail := rfl
@[simp] theorem z_evR_rng2 {a e b} : evR call gl (Sr.rng2 a e) b = fun env => M.bind (ev call gl a true env) fun v => M.bind (asD v) fun v => M.bind (ev call gl e true env) fun u => M.bind (asD u) fun u => match v, u with
    | .int i, .int j => if rngOk i && rngOk j then M.pure (rangeI i (j - i).toNat) else M.fail
    | _, _ => M.fail := rfl
@[simp] theorem z_bind_def {α β : Type} {m : M α} {f : α → M β} {c : Cells} : M.bind m f c = (match m c with
  | .ok a c' => f a c'
  | .exc k ds c' => .exc k ds c'
  | .stuck => .stuck) := rfl
@[simp] theorem z_pure_def {α : Type} {a : α} {c : Cells} : M.pure a c = .ok a c := rfl
@[simp] theorem z_asD_d {x : D} : asD (.d x) = M.pure x := rfl
@[simp] theorem z_truM_d {x : D} : truM (.d x) = M.bind (M.pure x) fun d => M.opt d.truth := rfl
@[simp] theorem z_opt_some {α : Type} {a : α} : M.opt (some a) = M.pure a := rfl
@[simp] theorem z_onR_ok {α : Type} {env : EnvD} {a : α} {c : Cells} {f : α → Cells → SR} : onR env (.ok a c) f = f a c := rfl
@[simp] theorem z_onR_exc {α : Type} {env : EnvD} {k : Nat} {ds : List D} {c : Cells} {f : α → Cells → SR} : onR env (.exc k ds c) f = .exc k ds env c := rfl
@[simp] theorem z_thn_rt {v : Vl} {c : Cells} {f : EnvD → Cells → SR} : (SR.rt v c).thn f = .rt v c := rfl
@[simp] theorem z_thn_nx {env : EnvD} {c : Cells} {f : EnvD → Cells → SR} : (SR.nx env c).thn f = f env c := rfl
@[simp] theorem z_thn_exc {k : Nat} {ds : List D} {env : EnvD} {c : Cells} {f : EnvD → Cells → SR} : (SR.exc k ds env c).thn f = .exc k ds env c := rfl
@[simp] theorem z_calm_def {α : Type} {m : M α} {c : Cells} : M.calm m c = (match m c with
  | .exc _ _ _ => .stuck
  | r => r) := rfl
end
@[simp] theorem z_look (env : EnvD) (i : Nat) : EnvD.look env i = env.getD i .no := rfl
@[simp] theorem z_truth_non : D.truth .non = some false := rfl
@[simp] theorem z_truth_bl (b : Bool) : D.truth (.bl b) = some b := rfl
@[simp] theorem z_truth_int (i : Int) : D.truth (.int i) = some (i != 0) := rfl
@[simp] theorem z_truth_str (s : List Nat) : D.truth (.str s) = if s.length ≤ szLine then some (!s.isEmpty) else none := rfl
@[simp] theorem z_truth_lst (xs : List D) : D.truth (.lst xs) = some (!xs.isEmpty) := rfl
@[simp] theorem z_truth_tup (xs : List D) : D.truth (.tup xs) = some (!xs.isEmpty) := rfl
@[simp] theorem z_fin_nx (env : EnvD) (c : Cells) : fin (.nx env c) = .ok (.d .non) c := rfl
@[simp] theorem z_fin_rt (v : Vl) (c : Cells) : fin (.rt v c) = .ok v c := rfl
@[simp] theorem z_fin_exc (k : Nat) (ds : List D) (env : EnvD) (c : Cells) : fin (.exc k ds env c) = .exc k ds c := rfl
@[simp] theorem z_bind_nm (i : Nat) (x : D) (env : EnvD) : (Tg.nm i).bind x env = some (env.set i (.v (.d x))) := rfl
@[simp] theorem z_bind_tp (is : List Nat) (xs : List D) (env : EnvD) : (Tg.tp is).bind (.tup xs) env = if is.length = xs.length then some ((is.zip xs).foldl (fun e p => e.set p.1 (.v (.d p.2))) env) else none := rfl
@[simp] theorem z_slots_nm (i : Nat) : (Tg.nm i).slots = [i] := rfl
@[simp] theorem z_slots_tp (is : List Nat) : (Tg.tp is).slots = is := rfl
@[simp] theorem z_wipe_nil (env : EnvD) : wipeE env [] = env := rfl
@[simp] theorem z_wipe_cons (env : EnvD) (i : Nat) (is : List Nat) : wipeE env (i :: is) = (wipeE env is).set i .no := rfl
@[simp] theorem z_items_lst (xs : List D) : D.items (.lst xs) = some xs := rfl
@[simp] theorem z_items_tup (xs : List D) : D.items (.tup xs) = some xs := rfl
@[simp] theorem z_items_non : D.items .non = none := rfl
@[simp] theorem z_items_bl (b : Bool) : D.items (.bl b) = none := rfl
@[simp] theorem z_items_int (b : Int) : D.items (.int b) = none := rfl
@[simp] theorem z_items_str (b : List Nat) : D.items (.str b) = none := rfl
/-- a cell's place -/
def cget (j k : Nat) : M Vl := fun c => match (c[j]?).bind (·[k]?) with
  | some x => .ok (.d x) c
  | none => .stuck
@[simp] theorem cget_def (j k : Nat) (c : Cells) : cget j k c = match (c[j]?).bind (·[k]?) with
  | some x => .ok (.d x) c
  | none => .stuck := rfl
@[simp] theorem ev_cidx2 {call : Nat → List Vl → M Vl} {gl : Nat → Option GV} {i k : Nat} {b : Bool} : ev call gl (E.cidx i k) b = fun env => match env.look i with
    | .v (.c j) => cget j k
    | _ => M.fail := by
  funext env
  rw [ev_cidx]
  dsimp only
  cases env.look i with
  | v x => cases x <;> rfl
  | _ => rfl
def cnew (xs : List D) : M Vl := fun c => .ok (.c c.length) (c ++ [xs])
@[simp] theorem cnew_def (xs : List D) (c : Cells) : cnew xs c = .ok (.c c.length) (c ++ [xs]) := rfl
@[simp] theorem ev_clst2 {call : Nat → List Vl → M Vl} {gl : Nat → Option GV} {as : Es} {b : Bool} : ev call gl (E.clst as) b = fun env => M.bind (evs call gl as env) fun vs => M.bind (M.opt (vs.mapM fun | .d x => some x | .c _ => none)) fun xs => if xs.length ≤ szLine then cnew xs else M.fail := rfl
end RX
end
section -- Ms
namespace RX
section
variable (a b i j : Int) (s t : List Nat) (xs ys : List D) (x y : D)
@[simp] theorem r_add_i : Bop.run .add (.int a) (.int b) = some (.int (a + b)) := rfl
@[simp] theorem r_sub_i : Bop.run .sub (.int a) (.int b) = some (.int (a - b)) := rfl
theorem r_add_l (h : xs.length + ys.length ≤ szLine) : Bop.run .add (.lst xs) (.lst ys) = some (.lst (xs ++ ys)) := by simp [Bop.run, h]
theorem r_add_t (h : xs.length + ys.length ≤ szLine) : Bop.run .add (.tup xs) (.tup ys) = some (.tup (xs ++ ys)) := by simp [Bop.run, h]
@[simp] theorem r_lt_i : Cop.run .lt (.int a) (.int b) = some (decide (a < b)) := rfl
@[simp] theorem r_le_i : Cop.run .le (.int a) (.int b) = some (decide (a ≤ b)) := rfl
@[simp] theorem r_gt_i : Cop.run .gt (.int a) (.int b) = some (decide (b < a)) := rfl
@[simp] theorem r_ge_i : Cop.run .ge (.int a) (.int b) = some (decide (b ≤ a)) := rfl
theorem beqL (s t : List Nat) : (s == t) = decide (s = t) := by
  by_cases h : s = t
  · subst h; simp
  · simp [h]
theorem beqI (a b : Int) : (a == b) = decide (a = b) := by
  by_cases h : a = b
  · subst h; simp
  · simp [h]
@[simp] theorem r_eq_s : Cop.run .eq (.str s) (.str t) = some (decide (s = t)) := by simp [Cop.run, eqOk, D.depth, D.eqv, beqL]
@[simp] theorem r_ne_s : Cop.run .ne (.str s) (.str t) = some (!decide (s = t)) := by simp [Cop.run, eqOk, D.depth, D.eqv, beqL]
@[simp] theorem r_eq_i : Cop.run .eq (.int a) (.int b) = some (decide (a = b)) := by simp [Cop.run, eqOk, D.depth, D.eqv, beqI]
@[simp] theorem r_ne_i : Cop.run .ne (.int a) (.int b) = some (!decide (a = b)) := by simp [Cop.run, eqOk, D.depth, D.eqv, beqI]
theorem eqvs_nil : ∀ xs : List D, D.eqvs xs [] = xs.isEmpty
  | [] => rfl
  | _ :: _ => rfl
@[simp] theorem r_eq_l0 : Cop.run .eq (.lst xs) (.lst []) = some xs.isEmpty := by
  have : min (D.depth (.lst xs)) (D.depth (.lst [])) ≤ 64 := Nat.le_trans (Nat.min_le_right _ _) (by decide)
  simp only [Cop.run, eqOk, this, decide_true, if_true, D.eqv, eqvs_nil]
@[simp] theorem r_ne_l0 : Cop.run .ne (.lst xs) (.lst []) = some (!xs.isEmpty) := by
  have : min (D.depth (.lst xs)) (D.depth (.lst [])) ≤ 64 := Nat.le_trans (Nat.min_le_right _ _) (by decide)
  simp only [Cop.run, eqOk, this, decide_true, if_true, D.eqv, eqvs_nil]
@[simp] theorem r_eq_t0 : Cop.run .eq (.tup xs) (.tup []) = some xs.isEmpty := by
  have : min (D.depth (.tup xs)) (D.depth (.tup [])) ≤ 64 := Nat.le_trans (Nat.min_le_right _ _) (by decide)
  simp only [Cop.run, eqOk, this, decide_true, if_true, D.eqv, eqvs_nil]
@[simp] theorem r_isn : Cop.run .isn x .non = some x.isNon := rfl
@[simp] theorem r_ntn : Cop.run .ntn x .non = some (!x.isNon) := rfl
@[simp] theorem r_inn_c (c : Nat) : Cop.run .inn (.str [c]) (.str s) = some (decide (c ∈ s)) := rfl
@[simp] theorem r_nin_c (c : Nat) : Cop.run .nin (.str [c]) (.str s) = some (!decide (c ∈ s)) := rfl
/-- a text among texts -/
theorem mems_str : ∀ (ts : List (List Nat)), mems (.str s) (ts.map .str) = decide (s ∈ ts)
  | [] => by simp [mems]
  | t :: ts => by
    have ih := mems_str ts
    unfold mems at ih ⊢
    rw [List.map_cons, List.any_cons, ih]
    simp only [D.eqv, beqL, List.mem_cons, eq_comm (a := s) (b := t)]
    by_cases h : t = s <;> simp [h]
@[simp] theorem depths_str : ∀ ts : List (List Nat), D.depths (ts.map .str) = 0
  | [] => rfl
  | t :: ts => by
    rw [List.map_cons]
    unfold D.depths
    rw [depths_str ts]
    rfl
theorem r_inn_ss (ts : List (List Nat)) : Cop.run .inn (.str s) (.tup (ts.map .str)) = some (decide (s ∈ ts)) := by
  simp [Cop.run, D.depth, mems_str]
theorem r_nin_ss (ts : List (List Nat)) : Cop.run .nin (.str s) (.tup (ts.map .str)) = some (!decide (s ∈ ts)) := by
  simp [Cop.run, D.depth, mems_str]
@[simp] theorem r_inn2 (p q : List Nat) : Cop.run .inn (.str s) (.tup [.str p, .str q]) = some (decide (s = p) || decide (s = q)) := by
  rw [show [D.str p, D.str q] = [p, q].map .str from rfl, r_inn_ss]; simp
@[simp] theorem r_inn3 (p q r : List Nat) : Cop.run .inn (.str s) (.tup [.str p, .str q, .str r]) = some (decide (s = p) || decide (s = q) || decide (s = r)) := by
  rw [show [D.str p, D.str q, D.str r] = [p, q, r].map .str from rfl, r_inn_ss]; simp [Bool.or_assoc]
@[simp] theorem r_inn4 (p q r t : List Nat) : Cop.run .inn (.str s) (.tup [.str p, .str q, .str r, .str t]) = some (decide (s = p) || decide (s = q) || decide (s = r) || decide (s = t)) := by
  rw [show [D.str p, D.str q, D.str r, D.str t] = [p, q, r, t].map .str from rfl, r_inn_ss]; simp [Bool.or_assoc]
@[simp] theorem r_nin2 (p q : List Nat) : Cop.run .nin (.str s) (.tup [.str p, .str q]) = some (!(decide (s = p) || decide (s = q))) := by
  rw [show [D.str p, D.str q] = [p, q].map .str from rfl, r_nin_ss]; simp
theorem b_len_s (h : s.length ≤ szLine) : Bi.run .len [.str s] = some (.int s.length) := by simp [Bi.run, h]
@[simp] theorem b_len_l : Bi.run .len [.lst xs] = some (.int xs.length) := rfl
@[simp] theorem b_len_t : Bi.run .len [.tup xs] = some (.int xs.length) := rfl
@[simp] theorem b_max2 : Bi.run .max2 [.int i, .int j] = some (.int (if j > i then j else i)) := rfl
@[simp] theorem b_list_l : Bi.run .list1 [.lst xs] = some (.lst xs) := rfl
@[simp] theorem b_list_t : Bi.run .list1 [.tup xs] = some (.lst xs) := rfl
@[simp] theorem b_tuple_l : Bi.run .tuple1 [.lst xs] = some (.tup xs) := rfl
@[simp] theorem b_tuple_t : Bi.run .tuple1 [.tup xs] = some (.tup xs) := rfl
end
theorem asBls_map {α : Type} (p : α → Bool) : ∀ xs : List α, asBls (xs.map fun x => D.bl (p x)) = some (xs.map p)
  | [] => rfl
  | x :: xs => by
    show (asBls (xs.map fun x => D.bl (p x))).map _ = _
    rw [asBls_map p xs]
    rfl
@[simp] theorem b_all_map {α : Type} (p : α → Bool) (xs : List α) : Bi.run .all [.lst (xs.map fun x => D.bl (p x))] = some (.bl (xs.all p)) := by
  show (asBls _).map _ = _
  rw [asBls_map]
  simp
@[simp] theorem b_any_map {α : Type} (p : α → Bool) (xs : List α) : Bi.run .any [.lst (xs.map fun x => D.bl (p x))] = some (.bl (xs.any p)) := by
  show (asBls _).map _ = _
  rw [asBls_map]
  simp
/-- every turn gives one -/
theorem lcRun_map {f : D → M (Option D)} {g : D → D} {c : Cells} {xs : List D} (h : ∀ x ∈ xs, f x c = .ok (some (g x)) c) : lcRun f xs c = .ok (xs.map g) c := by
  rw [lcRun_ok (g := fun x => some (g x)) h]
  congr 1
  induction xs with
  | nil => rfl
  | cons x xs ih => simp [List.filterMap_cons]
@[simp] theorem cut_to {α : Type} (xs : List α) (k : Nat) : cut xs none (some (k : Int)) = xs.take k := by
  unfold cut cutIx
  have h : ¬ ((k : Int) < 0) := by omega
  simp only [h, if_false, List.drop_zero, Nat.sub_zero, Int.toNat_natCast]
  rcases Nat.le_total k xs.length with q | q
  · rw [Nat.min_eq_left q]
  · rw [Nat.min_eq_right q, List.take_of_length_le (Nat.le_refl _), List.take_of_length_le q]
@[simp] theorem cut_from {α : Type} (xs : List α) (k : Nat) : cut xs (some (k : Int)) none = xs.drop k := by
  unfold cut cutIx
  have h : ¬ ((k : Int) < 0) := by omega
  simp only [h, if_false, Int.toNat_natCast]
  rcases Nat.le_total k xs.length with q | q
  · rw [Nat.min_eq_left q, List.take_of_length_le (by rw [List.length_drop]; exact Nat.le_refl _)]
  · rw [Nat.min_eq_right q, Nat.sub_self, List.take_zero, List.drop_of_length_le q]
@[simp] theorem cut_1 {α : Type} (xs : List α) : cut xs (some 1) none = xs.drop 1 := cut_from xs 1
theorem enumI_mem {xs : List D} {p : D} (h : p ∈ enumI 0 xs) : ∃ (k : Nat) (x : D), p = .tup [.int (k : Int), x] ∧ xs[k]? = some x := by
  obtain ⟨i, hi⟩ := List.getElem?_of_mem h
  rw [enumI_get] at hi
  obtain ⟨x, h1, h2⟩ := Option.map_eq_some_iff.mp hi
  rw [Nat.zero_add] at h2
  exact ⟨i, x, h2.symm, h1⟩
/-- none that stood already -/
def distB (xs : List D) : Bool := (enumI 0 xs).all fun p => match p with
  | .tup [.int k, x] => !mems x (xs.take k.toNat)
  | _ => false
theorem sz_mem : ∀ {xs : List D} {x : D}, x ∈ xs → x.sz + 2 ≤ D.szs xs
  | y :: xs, x, h => by
    unfold D.szs
    rcases List.mem_cons.mp h with e | h
    · subst e; omega
    · have := sz_mem h; omega
theorem depth_mem : ∀ {xs : List D} {x : D}, x ∈ xs → x.depth ≤ D.depths xs
  | y :: xs, x, h => by
    unfold D.depths
    rcases List.mem_cons.mp h with e | h
    · subst e; omega
    · have := depth_mem h; omega
theorem szs_len : ∀ xs : List D, xs.length ≤ D.szs xs
  | [] => Nat.zero_le _
  | x :: xs => by
    have := szs_len xs
    unfold D.szs
    rw [List.length_cons]
    omega
theorem enumI_len (xs : List D) : (enumI 0 xs).length = xs.length := enumI_length xs 0
theorem filterMap_none {α β : Type} {g : α → Option β} : ∀ {xs : List α}, (xs.filterMap g).isEmpty = xs.all fun x => (g x).isNone
  | [] => rfl
  | x :: xs => by
    rw [List.filterMap_cons, List.all_cons, ← filterMap_none (xs := xs)]
    cases g x <;> simp
theorem filterMap_len {α β : Type} {g : α → Option β} (xs : List α) : (xs.filterMap g).length ≤ xs.length := List.length_filterMap_le g xs
/-- a for that leaves at the first that is not so -/
theorem forRun_all {f : D → EnvD → Cells → SR} {p : D → Bool} {v0 : Vl} {E : EnvD → Prop} {c : Cells} : ∀ {xs : List D} {env : EnvD}, (∀ x env, x ∈ xs → E env → (p x = true ∧ ∃ env', E env' ∧ f x env c = .nx env' c) ∨ (p x = false ∧ f x env c = .rt v0 c)) → E env →
    (xs.all p = true ∧ ∃ env', E env' ∧ forRun f xs env c = .nx env' c) ∨ (xs.all p = false ∧ forRun f xs env c = .rt v0 c)
  | [], env, h, he => .inl ⟨rfl, env, he, rfl⟩
  | x :: xs, env, h, he => by
    rcases h x env List.mem_cons_self he with ⟨h1, env', h2, h3⟩ | ⟨h1, h2⟩
    · have ih := forRun_all (f := f) (p := p) (v0 := v0) (E := E) (c := c) (xs := xs) (env := env') (fun y env hy => h y env (List.mem_cons_of_mem _ hy)) h2
      have e : forRun f (x :: xs) env c = forRun f xs env' c := by
        show (f x env c).thn (forRun f xs) = _
        rw [h3]
        rfl
      rw [e, List.all_cons, h1, Bool.true_and]
      exact ih
    · refine .inr ⟨by rw [List.all_cons, h1, Bool.false_and], ?_⟩
      show (f x env c).thn (forRun f xs) = _
      rw [h2]
      rfl
theorem ite_ap {α β : Type} {p : Prop} [Decidable p] {f g : α → β} {a : α} : (if p then f else g) a = if p then f a else g a := by split <;> rfl
theorem all_mem {α : Type} {p q : α → Bool} : ∀ {xs : List α}, (∀ x ∈ xs, p x = q x) → xs.all p = xs.all q
  | [], _ => rfl
  | x :: xs, h => by rw [List.all_cons, List.all_cons, h x List.mem_cons_self, all_mem fun y hy => h y (List.mem_cons_of_mem _ hy)]
@[simp] theorem ty_non (t : Ty) : D.isTy .non t = false := by cases t <;> rfl
@[simp] theorem ty_bl (b : Bool) (t : Ty) : D.isTy (.bl b) t = (decide (t = .bool) || decide (t = .int)) := by cases t <;> rfl
@[simp] theorem ty_int (i : Int) (t : Ty) : D.isTy (.int i) t = decide (t = .int) := by cases t <;> rfl
@[simp] theorem ty_str (s : List Nat) (t : Ty) : D.isTy (.str s) t = decide (t = .str) := by cases t <;> rfl
@[simp] theorem ty_lst (xs : List D) (t : Ty) : D.isTy (.lst xs) t = decide (t = .list) := by cases t <;> rfl
@[simp] theorem ty_tup (xs : List D) (t : Ty) : D.isTy (.tup xs) t = decide (t = .tuple) := by cases t <;> rfl
section
variable {call : Nat → List Vl → M Vl} {gl : Nat → Option GV}
theorem exS_for {t : Tg} {s : Sr} {b : Ss} {env : EnvD} {c : Cells} : exS call gl (.for t s b) env c = onR env (evR call gl s false env c) fun xs c => forRun (fun x env c => match t.bind x env with
      | some env' => exs call gl b env' c
      | none => .stuck) xs env c := rfl
/-- a for that leaves at the first that is not so -/
theorem for_all {t : Tg} {s : Sr} {b : Ss} {p : D → Bool} {v0 : Vl} {E : EnvD → Prop} {c : Cells} {xs : List D} {env : EnvD} (hs : evR call gl s false env c = .ok xs c)
    (h : ∀ x env, x ∈ xs → E env → ∃ env1, t.bind x env = some env1 ∧ ((p x = true ∧ ∃ env', E env' ∧ exs call gl b env1 c = .nx env' c) ∨ (p x = false ∧ exs call gl b env1 c = .rt v0 c))) (he : E env) :
    (xs.all p = true ∧ ∃ env', E env' ∧ exS call gl (.for t s b) env c = .nx env' c) ∨ (xs.all p = false ∧ exS call gl (.for t s b) env c = .rt v0 c) := by
  rw [exS_for, hs]
  refine forRun_all (p := p) (v0 := v0) (E := E) (fun x env hx he => ?_) he
  obtain ⟨env1, e1, h⟩ := h x env hx he
  rw [e1]
  exact h
/-- a for with a state -/
theorem for_st {t : Tg} {s : Sr} {b : Ss} {St : List D → EnvD → Cells → Prop} {c : Cells} {xs : List D} {env : EnvD} {c0 : Cells} (hs : evR call gl s false env c0 = .ok xs c)
    (h : ∀ ds x rest env c, xs = ds ++ x :: rest → St ds env c → ∃ env1, t.bind x env = some env1 ∧ ∃ env' c', St (ds ++ [x]) env' c' ∧ exs call gl b env1 c = .nx env' c') (he : St [] env c) :
    ∃ env' c', St xs env' c' ∧ exS call gl (.for t s b) env c0 = .nx env' c' := by
  rw [exS_for, hs]
  show ∃ env' c', St xs env' c' ∧ forRun _ xs env c = .nx env' c'
  have main : ∀ rest ds env c, xs = ds ++ rest → St ds env c → ∃ env' c', St xs env' c' ∧ forRun (fun x env c => match t.bind x env with
      | some env' => exs call gl b env' c
      | none => .stuck) rest env c = .nx env' c' := by
    intro rest
    induction rest with
    | nil =>
      intro ds env c e st
      rw [List.append_nil] at e
      subst e
      exact ⟨env, c, st, rfl⟩
    | cons x rest ih =>
      intro ds env c e st
      obtain ⟨env1, e1, env', c', st', e2⟩ := h ds x rest env c e st
      obtain ⟨env2, c2, st2, e3⟩ := ih (ds ++ [x]) env' c' (by rw [e]; simp) st'
      refine ⟨env2, c2, st2, ?_⟩
      show ((match t.bind x env with | some env' => exs call gl b env' c | none => .stuck) : SR).thn _ = _
      rw [e1]
      dsimp only
      rw [e2]
      exact e3
  exact main xs [] env c rfl he
end
@[simp] theorem szl_1 : 1 ≤ szLine := by decide
@[simp] theorem szl_2 : 2 ≤ szLine := by decide
@[simp] theorem szl_3 : 3 ≤ szLine := by decide
@[simp] theorem szl_4 : 4 ≤ szLine := by decide
@[simp] theorem szl_5 : 5 ≤ szLine := by decide
@[simp] theorem szl_6 : 6 ≤ szLine := by decide
@[simp] theorem szl_7 : 7 ≤ szLine := by decide
@[simp] theorem szl_8 : 8 ≤ szLine := by decide
@[simp] theorem szl_9 : 9 ≤ szLine := by decide
@[simp] theorem szl_10 : 10 ≤ szLine := by decide
@[simp] theorem szl_11 : 11 ≤ szLine := by decide
@[simp] theorem szl_12 : 12 ≤ szLine := by decide
@[simp] theorem szl_13 : 13 ≤ szLine := by decide
@[simp] theorem szl_14 : 14 ≤ szLine := by decide
@[simp] theorem szl_15 : 15 ≤ szLine := by decide
@[simp] theorem szl_16 : 16 ≤ szLine := by decide
@[simp] theorem szl_17 : 17 ≤ szLine := by decide
@[simp] theorem szl_18 : 18 ≤ szLine := by decide
@[simp] theorem szl_19 : 19 ≤ szLine := by decide
@[simp] theorem szl_20 : 20 ≤ szLine := by decide
@[simp] theorem szl_21 : 21 ≤ szLine := by decide
@[simp] theorem szl_22 : 22 ≤ szLine := by decide
@[simp] theorem szl_23 : 23 ≤ szLine := by decide
@[simp] theorem szl_24 : 24 ≤ szLine := by decide
@[simp] theorem szl_25 : 25 ≤ szLine := by decide
@[simp] theorem szl_26 : 26 ≤ szLine := by decide
@[simp] theorem szl_27 : 27 ≤ szLine := by decide
@[simp] theorem szl_28 : 28 ≤ szLine := by decide
@[simp] theorem szl_29 : 29 ≤ szLine := by decide
@[simp] theorem szl_30 : 30 ≤ szLine := by decide
@[simp] theorem szl_31 : 31 ≤ szLine := by decide
@[simp] theorem szl_32 : 32 ≤ szLine := by decide
@[simp] theorem szl_33 : 33 ≤ szLine := by decide
@[simp] theorem szl_34 : 34 ≤ szLine := by decide
@[simp] theorem szl_35 : 35 ≤ szLine := by decide
@[simp] theorem szl_36 : 36 ≤ szLine := by decide
@[simp] theorem szl_37 : 37 ≤ szLine := by decide
@[simp] theorem szl_38 : 38 ≤ szLine := by decide
@[simp] theorem szl_39 : 39 ≤ szLine := by decide
@[simp] theorem szl_40 : 40 ≤ szLine := by decide
end RX
end
section -- Mk
namespace RX
section
variable {call : Nat → List Vl → M Vl} {gl : Nat → Option GV}
theorem exS_whl {t : E} {b : Ss} {env : EnvD} {c : Cells} : exS call gl (.whl t b) env c = whl (fun env => M.bind (ev call gl t true env) truM) (exs call gl b) env c := rfl
/-- a while, by a measure: J holds at its head; what it ends with is P -/
theorem whl_rule {t : EnvD → M Bool} {b : EnvD → Cells → SR} {J : EnvD → Cells → Nat → Prop} {P : SR → Prop}
    (h : ∀ env c m, J env c m → (t env c = .ok false c ∧ P (.nx env c)) ∨ (t env c = .ok true c ∧ ((∃ env' c' m', m' < m ∧ b env c = .nx env' c' ∧ J env' c' m') ∨ ((∃ v c', b env c = .rt v c') ∧ P (b env c))))) :
    ∀ (m : Nat) (env : EnvD) (c : Cells), J env c m → P (whl t b env c) := by
  intro m
  induction m using Nat.strongRecOn with
  | ind m ih =>
    intro env c j
    rw [whl_step]
    rcases h env c m j with ⟨e1, p⟩ | ⟨e1, ⟨env', c', m', hm, e2, j'⟩ | ⟨⟨v, c', e2⟩, p⟩⟩
    · rw [e1]; exact p
    · rw [e1]
      show P (if true = true then (b env c).thn (whl t b) else .nx env c)
      rw [if_pos rfl, e2]
      exact ih m' hm env' c' j'
    · rw [e1]
      show P (if true = true then (b env c).thn (whl t b) else .nx env c)
      rw [if_pos rfl, e2]
      rw [e2] at p
      exact p
theorem exS_app {i e env c} : exS call gl (.app i e) env c = (match env.look i with
    | .own xs => onR env (ev call gl e false env c) fun v c => (match v with
      | .d x => if xs.length < szLine then .nx (env.set i (.own (xs ++ [x]))) c else .stuck
      | _ => .stuck)
    | _ => .stuck) := rfl
theorem exS_ext {i e env c} : exS call gl (.ext i e) env c = (match env.look i with
    | .own xs => onR env (ev call gl e false env c) fun v c => (match v with
      | .d (.lst ys) => if xs.length + ys.length ≤ szLine then .nx (env.set i (.own (xs ++ ys))) c else .stuck
      | _ => .stuck)
    | _ => .stuck) := rfl
theorem exS_pop1 {j i env c} : exS call gl (.pop1 j i) env c = (match env.look i with
    | .own xs => (match xs[xs.length - 1]? with
      | some x => .nx ((env.set i (.own xs.dropLast)).set j (.v (.d x))) c
      | none => .stuck)
    | _ => .stuck) := rfl
theorem exS_popT {js i env c} : exS call gl (.popT js i) env c = (match env.look i with
    | .own xs => (match xs[xs.length - 1]? with
      | some (.tup ys) => if js.length = ys.length then .nx (setsE (env.set i (.own xs.dropLast)) js (ys.map fun x => .v (.d x))) c else .stuck
      | _ => .stuck)
    | _ => .stuck) := rfl
theorem exS_frz {i env c} : exS call gl (.frz i) env c = (match env.look i with
    | .own xs => .nx (env.set i (.v (.d (.lst xs)))) c
    | _ => .stuck) := rfl
end
@[simp] theorem last_get {α : Type} (l : List α) (x : α) : (l ++ [x])[l.length]? = some x := by simp
abbrev wMap : List Nat := [109, 97, 112]
abbrev wPair : List Nat := [112, 97, 105, 114]
abbrev wLater : List Nat := [108, 97, 116, 101, 114]
abbrev wAbove : List Nat := [97, 98, 111, 118, 101]
def sideB (w : List Nat) : Bool := decide (w = wMap) || decide (w = wPair) || decide (w = wLater) || decide (w = wAbove)
mutual
def deepF : D → Nat
  | .tup (.str w :: r) => if sideB w then deepFs r + 1 else 1
  | _ => 1
def deepFs : List D → Nat
  | [] => 0
  | x :: xs => max (deepF x) (deepFs xs)
end
mutual
def manyF : D → Nat
  | .tup (.str w :: r) => if sideB w then manyFs r + 1 else 1
  | _ => 1
def manyFs : List D → Nat
  | [] => 0
  | x :: xs => manyF x + manyFs xs
end
/-- kinds over leaves -/
inductive KOk (L : D → Prop) : D → Prop
  | leaf {w : List Nat} {r : List D} : L (.tup (.str w :: r)) → sideB w = false → KOk L (.tup (.str w :: r))
  | map {k : D} : KOk L k → KOk L (.tup [.str wMap, k])
  | two {w : List Nat} {a b : D} : (w = wPair ∨ w = wLater ∨ w = wAbove) → KOk L a → KOk L b → KOk L (.tup [.str w, a, b])
theorem deepF_pos : ∀ d : D, 1 ≤ deepF d
  | .tup (.str w :: r) => by unfold deepF; split <;> omega
  | .tup [] => Nat.le_refl _
  | .tup (.non :: _) => Nat.le_refl _
  | .tup (.bl _ :: _) => Nat.le_refl _
  | .tup (.int _ :: _) => Nat.le_refl _
  | .tup (.lst _ :: _) => Nat.le_refl _
  | .tup (.tup _ :: _) => Nat.le_refl _
  | .non => Nat.le_refl _
  | .bl _ => Nat.le_refl _
  | .int _ => Nat.le_refl _
  | .str _ => Nat.le_refl _
  | .lst _ => Nat.le_refl _
theorem manyF_pos : ∀ d : D, 1 ≤ manyF d
  | .tup (.str w :: r) => by unfold manyF; split <;> omega
  | .tup [] => Nat.le_refl _
  | .tup (.non :: _) => Nat.le_refl _
  | .tup (.bl _ :: _) => Nat.le_refl _
  | .tup (.int _ :: _) => Nat.le_refl _
  | .tup (.lst _ :: _) => Nat.le_refl _
  | .tup (.tup _ :: _) => Nat.le_refl _
  | .non => Nat.le_refl _
  | .bl _ => Nat.le_refl _
  | .int _ => Nat.le_refl _
  | .str _ => Nat.le_refl _
  | .lst _ => Nat.le_refl _
theorem side_map : sideB wMap = true := by decide
theorem side_two {w : List Nat} (h : w = wPair ∨ w = wLater ∨ w = wAbove) : sideB w = true := by rcases h with h | h | h <;> (subst h; decide)
/-- a kind's head and its inner kinds -/
theorem KOk.shape {L : D → Prop} {k : D} (h : KOk L k) : ∃ w r, k = .tup (.str w :: r) ∧ (sideB w = true → r ≠ [] ∧ r.length ≤ 2 ∧ ∀ x ∈ r, KOk L x) := by
  cases h with
  | leaf h1 h2 => exact ⟨_, _, rfl, fun q => by rw [h2] at q; cases q⟩
  | map h => exact ⟨_, _, rfl, fun _ => ⟨by simp, by simp, fun x hx => by simp at hx; subst hx; exact h⟩⟩
  | two hw h1 h2 => exact ⟨_, _, rfl, fun _ => ⟨by simp, by simp, fun x hx => by
      simp at hx
      rcases hx with e | e
      · subst e; exact h1
      · subst e; exact h2⟩⟩
def fitB (k : D) : Bool := decide (deepF k ≤ 4) && decide (manyF k ≤ 12)
/-- what waits: a kind, how deep it stands -/
def wtD (p : D × Nat) : D := .tup [p.1, .int (p.2 : Int)]
def wtDeep (st : List (D × Nat)) : Bool := st.all fun p => decide (p.2 - 1 + deepF p.1 ≤ 4)
def wtMany : List (D × Nat) → Nat
  | [] => 0
  | p :: st => manyF p.1 + wtMany st
theorem wtMany_app : ∀ (a b : List (D × Nat)), wtMany (a ++ b) = wtMany a + wtMany b
  | [], b => by simp [wtMany]
  | p :: a, b => by
    show manyF p.1 + wtMany (a ++ b) = manyF p.1 + wtMany a + wtMany b
    rw [wtMany_app a b]
    omega
theorem wtMany_kids (d : Nat) : ∀ r : List D, wtMany (r.map fun x => (x, d)) = manyFs r
  | [] => rfl
  | x :: r => by
    rw [List.map_cons]
    unfold wtMany manyFs
    rw [wtMany_kids d r]
theorem wtDeep_kids {d : Nat} : ∀ r : List D, wtDeep (r.map fun x => (x, d + 1)) = (decide (d + deepFs r ≤ 4) || r.isEmpty)
  | [] => by simp [wtDeep]
  | x :: r => by
    have ih := wtDeep_kids (d := d) r
    unfold wtDeep at ih ⊢
    rw [List.map_cons, List.all_cons, ih]
    have h2 : deepFs (x :: r) = max (deepF x) (deepFs r) := rfl
    have p := deepF_pos x
    rw [h2]
    cases r with
    | nil =>
      have h0 : deepFs ([] : List D) = 0 := rfl
      rw [h0]
      simp
    | cons y r =>
      simp only [List.isEmpty_cons, Bool.or_false, Nat.add_sub_cancel]
      by_cases q1 : d + deepF x ≤ 4
      · by_cases q2 : d + deepFs (y :: r) ≤ 4
        · have : d + max (deepF x) (deepFs (y :: r)) ≤ 4 := by omega
          simp [q1, q2, this]
        · have : ¬ d + max (deepF x) (deepFs (y :: r)) ≤ 4 := by omega
          simp [q1, q2, this]
      · have : ¬ d + max (deepF x) (deepFs (y :: r)) ≤ 4 := by omega
        simp [q1, this]
end RX
end
section -- Pg_k62
namespace K62
open PySem RX
def top (i : Nat) : Stmt := PySem.Challenge.pw_partsmet_k62_any_value_as_a_view.main.body.getD i (.Pass ⟨0, 0, 0, 0⟩)
/-- is_integer -/
def b0 : Ss := .cons (.ret (.and (.isi (.var 0) [.int]) (.nt (.isi (.var 0) [.bool])))) .nil
def f0 : FnI := ⟨"is_integer", L2.defArgs (top 5), ["value"], L2.defScope (top 5), L2.defBody (top 5), ⟨1, 1, b0⟩⟩
/-- is_count -/
def b1 : Ss := .cons (.ret (.and (.call 0 (.cons (.var 0) .nil)) (.cmp .ge (.var 0) (.cst (.int 0))))) .nil
def f1 : FnI := ⟨"is_count", L2.defArgs (top 6), ["value"], L2.defScope (top 6), L2.defBody (top 6), ⟨1, 1, b1⟩⟩
/-- is_list -/
def b2 : Ss := .cons (.ret (.isi (.var 0) [.list, .tuple])) .nil
def f2 : FnI := ⟨"is_list", L2.defArgs (top 7), ["value"], L2.defScope (top 7), L2.defBody (top 7), ⟨1, 1, b2⟩⟩
def b3_1 : Ss := .cons (.iff (.or (.nt (.call 2 (.cons (.var 2) .nil))) (.or (.cmp .ne (.bi .len (.cons (.var 2) .nil)) (.var 1)) (.nt (.bi .all (.cons (.lc (.nm 3) (.seq (.var 2)) .no (.and (.call 1 (.cons (.var 3) .nil)) (.cmp .lt (.var 3) (.var 1)))) .nil))))) (.cons (.ret (.cst (.bl false))) .nil) .nil) .nil
/-- are_table_rows -/
def b3 : Ss := .cons (.iff (.or (.nt (.call 2 (.cons (.var 0) .nil))) (.nt (.chn .le .le (.cst (.int 1)) (.bi .len (.cons (.var 0) .nil)) (.glo 0)))) (.cons (.ret (.cst (.bl false))) .nil) .nil) (.cons (.asg 1 (.bi .len (.cons (.var 0) .nil))) (.cons (.for (.nm 2) (.seq (.var 0)) b3_1) (.cons (.ret (.call 4 (.cons (.var 0) .nil))) .nil)))
def f3 : FnI := ⟨"are_table_rows", L2.defArgs (top 10), ["value", "size", "row", "number"], L2.defScope (top 10), L2.defBody (top 10), ⟨1, 4, b3⟩⟩
def b4_1 : Ss := .cons (.iff (.cmp .ne (.idx (.idx (.var 0) (.var 2)) (.var 3)) (.idx (.idx (.var 0) (.var 3)) (.var 2))) (.cons (.ret (.cst (.bl false))) .nil) .nil) (.cons (.asg 4 (.idx (.var 0) (.idx (.idx (.var 0) (.var 2)) (.var 3)))) (.cons (.iff (.bi .any (.cons (.lc (.nm 5) (.rng1 (.var 1)) .no (.cmp .ne (.idx (.var 4) (.var 5)) (.idx (.idx (.var 0) (.var 2)) (.idx (.idx (.var 0) (.var 3)) (.var 5))))) .nil)) (.cons (.ret (.cst (.bl false))) .nil) .nil) .nil))
def b4_2 : Ss := .cons (.iff (.or (.cmp .ne (.idx (.idx (.var 0) (.cst (.int 0))) (.var 2)) (.var 2)) (.cmp .ne (.idx (.idx (.var 0) (.var 2)) (.var 2)) (.var 2))) (.cons (.ret (.cst (.bl false))) .nil) .nil) (.cons (.for (.nm 3) (.rng1 (.var 1)) b4_1) .nil)
/-- table_is_join -/
def b4 : Ss := .cons (.asg 1 (.bi .len (.cons (.var 0) .nil))) (.cons (.for (.nm 2) (.rng1 (.var 1)) b4_2) (.cons (.ret (.cst (.bl true))) .nil))
def f4 : FnI := ⟨"table_is_join", L2.defArgs (top 11), ["rows", "size", "one", "other", "both", "third"], L2.defScope (top 11), L2.defBody (top 11), ⟨1, 6, b4⟩⟩
/-- is_name_word -/
def b5 : Ss := .cons (.ret (.and (.isi (.var 0) [.str]) (.and (.chn .le .le (.cst (.int 1)) (.bi .len (.cons (.var 0) .nil)) (.glo 6)) (.bi .all (.cons (.lc (.nm 1) (.chars (.var 0)) .no (.cmp .inn (.var 1) (.glo 7))) .nil))))) .nil
def f5 : FnI := ⟨"is_name_word", L2.defArgs (top 21), ["value", "sign"], L2.defScope (top 21), L2.defBody (top 21), ⟨1, 2, b5⟩⟩
def b6_1 : Ss := .cons (.iff (.and (.cmp .eq (.var 7) (.var 6)) (.cmp .nin (.var 8) (.var 4))) (.cons (.app 4 (.var 8)) (.cons (.app 5 (.var 8)) .nil)) .nil) .nil
def b6_2 : Ss := .cons (.pop1 6 5) (.cons (.for (.tp [7, 8]) (.seq (.var 1)) b6_1) .nil)
def b6_3 : Ss := .cons (.par [4, 5] (.cons (.lst .nil) (.cons (.lst (.cons (.var 3) .nil)) .nil)) [true, true]) (.cons (.whl (.cmp .ne (.var 5) (.lst .nil)) b6_2) (.cons (.app 2 (.bi .sorted (.cons (.var 4) .nil))) .nil))
/-- highs_of_points -/
def b6 : Ss := .cons (.asgN 2 (.lst .nil)) (.cons (.for (.nm 3) (.rng1 (.var 0)) b6_3) (.cons (.frz 2) (.cons (.ret (.var 2)) .nil)))
def f6 : FnI := ⟨"highs_of_points", L2.defArgs (top 22), ["many", "ties", "found", "point", "met", "left", "here", "low", "high"], L2.defScope (top 22), L2.defBody (top 22), ⟨2, 9, b6⟩⟩
/-- is_tie -/
def b7 : Ss := .cons (.ret (.and (.isi (.var 1) [.tuple]) (.and (.cmp .eq (.bi .len (.cons (.var 1) .nil)) (.cst (.int 2))) (.bi .all (.cons (.lc (.nm 2) (.seq (.var 1)) .no (.and (.call 1 (.cons (.var 2) .nil)) (.cmp .lt (.var 2) (.var 0)))) .nil))))) .nil
def f7 : FnI := ⟨"is_tie", L2.defArgs (top 23), ["many", "value", "point"], L2.defScope (top 23), L2.defBody (top 23), ⟨2, 3, b7⟩⟩
/-- are_ties -/
def b8 : Ss := .cons (.iff (.or (.nt (.call 2 (.cons (.var 1) .nil))) (.or (.cmp .gt (.bi .len (.cons (.var 1) .nil)) (.glo 3)) (.nt (.bi .all (.cons (.lc (.nm 4) (.seq (.var 1)) .no (.call 7 (.cons (.var 0) (.cons (.var 4) .nil)))) .nil))))) (.cons (.ret (.cst (.bl false))) .nil) .nil) (.cons (.asg 2 (.call 6 (.cons (.var 0) (.cons (.var 1) .nil)))) (.cons (.ret (.nt (.bi .any (.cons (.lc (.nm 3) (.rng1 (.var 0)) .no (.cmp .inn (.var 3) (.idx (.var 2) (.var 3)))) .nil)))) .nil))
def f8 : FnI := ⟨"are_ties", L2.defArgs (top 24), ["many", "value", "highs", "point", "tie"], L2.defScope (top 24), L2.defBody (top 24), ⟨2, 5, b8⟩⟩
/-- has_right_sides -/
def b9 : Ss := .cons (.asg 1 (.idx (.var 0) (.cst (.int 0)))) (.cons (.iff (.cmp .eq (.var 1) (.cst (.str [99, 111, 117, 110, 116]))) (.cons (.ret (.cmp .eq (.bi .len (.cons (.var 0) .nil)) (.cst (.int 1)))) .nil) .nil) (.cons (.iff (.cmp .eq (.var 1) (.cst (.str [114, 111, 119]))) (.cons (.ret (.and (.cmp .eq (.bi .len (.cons (.var 0) .nil)) (.cst (.int 2))) (.and (.call 1 (.cons (.idx (.var 0) (.cst (.int 1))) .nil)) (.chn .le .le (.cst (.int 1)) (.idx (.var 0) (.cst (.int 1))) (.glo 1))))) .nil) .nil) (.cons (.iff (.cmp .eq (.var 1) (.cst (.str [116, 111, 112, 115]))) (.cons (.ret (.and (.cmp .eq (.bi .len (.cons (.var 0) .nil)) (.cst (.int 3))) (.and (.call 1 (.cons (.idx (.var 0) (.cst (.int 1))) .nil)) (.and (.cmp .le (.idx (.var 0) (.cst (.int 1))) (.glo 2)) (.call 8 (.cons (.idx (.var 0) (.cst (.int 1))) (.cons (.idx (.var 0) (.cst (.int 2))) .nil))))))) .nil) .nil) (.cons (.iff (.cmp .eq (.var 1) (.cst (.str [116, 97, 98, 108, 101]))) (.cons (.ret (.and (.cmp .eq (.bi .len (.cons (.var 0) .nil)) (.cst (.int 2))) (.call 3 (.cons (.idx (.var 0) (.cst (.int 1))) .nil)))) .nil) .nil) (.cons (.ret (.and (.gin false (.var 1) 8) (.cmp .eq (.bi .len (.cons (.var 0) .nil)) (.bin .add (.gget 8 (.var 1)) (.cst (.int 1)))))) .nil)))))
def f9 : FnI := ⟨"has_right_sides", L2.defArgs (top 25), ["value", "word"], L2.defScope (top 25), L2.defBody (top 25), ⟨1, 2, b9⟩⟩
def b10_1 : Ss := .cons (.popT [3, 4] 1) (.cons (.asg 2 (.bin .add (.var 2) (.cst (.int 1)))) (.cons (.iff (.or (.nt (.isi (.var 3) [.tuple])) (.or (.cmp .eq (.bi .len (.cons (.var 3) .nil)) (.cst (.int 0))) (.nt (.isi (.idx (.var 3) (.cst (.int 0))) [.str])))) (.cons (.ret (.cst (.bl false))) .nil) .nil) (.cons (.iff (.or (.cmp .gt (.var 4) (.glo 4)) (.or (.cmp .gt (.var 2) (.glo 5)) (.nt (.call 9 (.cons (.var 3) .nil))))) (.cons (.ret (.cst (.bl false))) .nil) .nil) (.cons (.iff (.gin false (.idx (.var 3) (.cst (.int 0))) 8) (.cons (.ext 1 (.lc (.nm 5) (.seq (.slc (.var 3) (.yes (.cst (.int 1))) .no)) .no (.tup (.cons (.var 5) (.cons (.bin .add (.var 4) (.cst (.int 1))) .nil))))) .nil) .nil) .nil))))
/-- is_kind_value -/
def b10 : Ss := .cons (.par [1, 2] (.cons (.lst (.cons (.tup (.cons (.var 0) (.cons (.cst (.int 1)) .nil))) .nil)) (.cons (.cst (.int 0)) .nil)) [true, false]) (.cons (.whl (.cmp .ne (.var 1) (.lst .nil)) b10_1) (.cons (.ret (.cst (.bl true))) .nil))
def f10 : FnI := ⟨"is_kind_value", L2.defArgs (top 26), ["value", "left", "met", "here", "deep", "side"], L2.defScope (top 26), L2.defBody (top 26), ⟨1, 6, b10⟩⟩
/-- kind_as_told -/
def b11 : Ss := .cons (.iff (.gin false (.idx (.var 0) (.cst (.int 0))) 8) (.cons (.ret (.bin .add (.tup (.cons (.idx (.var 0) (.cst (.int 0))) .nil)) (.bi .tuple1 (.cons (.lc (.nm 2) (.seq (.slc (.var 0) (.yes (.cst (.int 1))) .no)) .no (.call 11 (.cons (.var 2) .nil))) .nil)))) .nil) .nil) (.cons (.iff (.cmp .eq (.idx (.var 0) (.cst (.int 0))) (.cst (.str [116, 111, 112, 115]))) (.cons (.ret (.tup (.cons (.cst (.str [116, 111, 112, 115])) (.cons (.idx (.var 0) (.cst (.int 1))) (.cons (.bi .sset (.cons (.idx (.var 0) (.cst (.int 2))) .nil)) .nil))))) .nil) .nil) (.cons (.ret (.ife (.cmp .eq (.idx (.var 0) (.cst (.int 0))) (.cst (.str [116, 97, 98, 108, 101]))) (.tup (.cons (.cst (.str [116, 97, 98, 108, 101])) (.cons (.lc (.nm 1) (.seq (.idx (.var 0) (.cst (.int 1)))) .no (.bi .list1 (.cons (.var 1) .nil))) .nil))) (.bi .tuple1 (.cons (.var 0) .nil)))) .nil))
def f11 : FnI := ⟨"kind_as_told", L2.defArgs (top 27), ["value", "row", "side"], L2.defScope (top 27), L2.defBody (top 27), ⟨1, 3, b11⟩⟩
/-- want_kind -/
def b12 : Ss := .cons (.iff (.nt (.call 10 (.cons (.var 0) .nil))) (.cons (.rais 0 (.cons (.var 0) .nil)) .nil) .nil) (.cons (.ret (.call 11 (.cons (.var 0) .nil))) .nil)
def f12 : FnI := ⟨"want_kind", L2.defArgs (top 28), ["value"], L2.defScope (top 28), L2.defBody (top 28), ⟨1, 1, b12⟩⟩
/-- are_unlike_names -/
def b13 : Ss := .cons (.iff (.or (.nt (.call 2 (.cons (.var 0) .nil))) (.or (.cmp .gt (.bi .len (.cons (.var 0) .nil)) (.glo 11)) (.nt (.bi .all (.cons (.lc (.nm 2) (.seq (.var 0)) .no (.call 5 (.cons (.var 2) .nil))) .nil))))) (.cons (.ret (.cst (.bl false))) .nil) .nil) (.cons (.ret (.bi .all (.cons (.lc (.tp [1, 2]) (.enum (.var 0)) .no (.cmp .nin (.var 2) (.slc (.var 0) .no (.yes (.var 1))))) .nil))) .nil)
def f13 : FnI := ⟨"are_unlike_names", L2.defArgs (top 33), ["value", "at", "one"], L2.defScope (top 33), L2.defBody (top 33), ⟨1, 3, b13⟩⟩
/-- are_name_pairs -/
def b14 : Ss := .cons (.iff (.or (.nt (.call 2 (.cons (.var 0) .nil))) (.nt (.bi .all (.cons (.lc (.nm 1) (.seq (.var 0)) .no (.and (.isi (.var 1) [.tuple]) (.cmp .eq (.bi .len (.cons (.var 1) .nil)) (.cst (.int 2))))) .nil)))) (.cons (.ret (.cst (.bl false))) .nil) .nil) (.cons (.ret (.and (.call 13 (.cons (.lc (.nm 1) (.seq (.var 0)) .no (.idx (.var 1) (.cst (.int 0)))) .nil)) (.bi .all (.cons (.lc (.nm 1) (.seq (.var 0)) .no (.call 5 (.cons (.idx (.var 1) (.cst (.int 1))) .nil))) .nil)))) .nil)
def f14 : FnI := ⟨"are_name_pairs", L2.defArgs (top 34), ["value", "one"], L2.defScope (top 34), L2.defBody (top 34), ⟨1, 2, b14⟩⟩
def b15_1 : Ss := .cons (.popT [3, 4] 2) (.cons (.asg 1 (.bin .add (.var 1) (.cst (.int 1)))) (.cons (.iff (.or (.cmp .gt (.var 4) (.glo 4)) (.cmp .gt (.var 1) (.glo 5))) (.cons (.ret (.cst (.bl false))) .nil) .nil) (.cons (.iff (.cmp .inn (.idx (.var 3) (.cst (.int 0))) (.tup (.cons (.cst (.str [109, 97, 112])) (.cons (.cst (.str [112, 97, 105, 114])) (.cons (.cst (.str [108, 97, 116, 101, 114])) (.cons (.cst (.str [97, 98, 111, 118, 101])) .nil)))))) (.cons (.ext 2 (.lc (.nm 5) (.seq (.slc (.var 3) (.yes (.cst (.int 1))) .no)) .no (.tup (.cons (.var 5) (.cons (.bin .add (.var 4) (.cst (.int 1))) .nil))))) .nil) .nil) .nil)))
/-- is_within_bounds -/
def b15 : Ss := .cons (.par [1, 2] (.cons (.cst (.int 0)) (.cons (.lst (.cons (.tup (.cons (.var 0) (.cons (.cst (.int 1)) .nil))) .nil)) .nil)) [false, true]) (.cons (.whl (.cmp .ne (.var 2) (.lst .nil)) b15_1) (.cons (.ret (.cst (.bl true))) .nil))
def f15 : FnI := ⟨"is_within_bounds", L2.defArgs (top 35), ["kind", "met", "waiting", "here", "deep", "inner"], L2.defScope (top 35), L2.defBody (top 35), ⟨1, 6, b15⟩⟩
/-- plain_view_looked -/
def b16 : Ss := .cons (.iff (.cmp .eq (.var 1) (.cst (.str [115, 97, 109, 101]))) (.cons (.ret (.tup (.cons (.tup (.cons (.cst (.str [115, 97, 109, 101])) .nil)) (.cons (.var 0) .nil)))) .nil) .nil) (.cons (.iff (.and (.cmp .eq (.var 1) (.cst (.str [106, 111, 105, 110, 101, 100]))) (.cmp .eq (.idx (.var 0) (.cst (.int 0))) (.cst (.str [109, 97, 112])))) (.cons (.ret (.tup (.cons (.tup (.cons (.cst (.str [106, 111, 105, 110, 101, 100])) .nil)) (.cons (.idx (.var 0) (.cst (.int 1))) .nil)))) .nil) .nil) (.cons (.iff (.and (.cmp .eq (.var 1) (.cst (.str [102, 105, 114, 115, 116]))) (.cmp .inn (.idx (.var 0) (.cst (.int 0))) (.tup (.cons (.cst (.str [112, 97, 105, 114])) (.cons (.cst (.str [108, 97, 116, 101, 114])) .nil))))) (.cons (.ret (.tup (.cons (.tup (.cons (.cst (.str [102, 105, 114, 115, 116])) .nil)) (.cons (.idx (.var 0) (.cst (.int 1))) .nil)))) .nil) .nil) (.cons (.iff (.and (.cmp .eq (.var 1) (.cst (.str [115, 101, 99, 111, 110, 100]))) (.cmp .eq (.idx (.var 0) (.cst (.int 0))) (.cst (.str [112, 97, 105, 114])))) (.cons (.ret (.tup (.cons (.tup (.cons (.cst (.str [115, 101, 99, 111, 110, 100])) .nil)) (.cons (.idx (.var 0) (.cst (.int 2))) .nil)))) .nil) .nil) (.cons (.ret (.ife (.and (.cmp .eq (.var 1) (.cst (.str [117, 112, 112, 101, 114]))) (.cmp .eq (.idx (.var 0) (.cst (.int 0))) (.cst (.str [97, 98, 111, 118, 101])))) (.tup (.cons (.tup (.cons (.cst (.str [117, 112, 112, 101, 114])) .nil)) (.cons (.idx (.var 0) (.cst (.int 2))) .nil))) (.cst (.non)))) .nil))))
def f16 : FnI := ⟨"plain_view_looked", L2.defArgs (top 36), ["kind", "word"], L2.defScope (top 36), L2.defBody (top 36), ⟨2, 2, b16⟩⟩
/-- map_view_looked -/
def b17 : Ss := .cons (.asgT [4, 5] (.var 1)) (.cons (.iff (.cmp .ne (.idx (.var 0) (.cst (.int 0))) (.cst (.str [109, 97, 112]))) (.cons (.ret (.cst (.non))) .nil) .nil) (.cons (.iff (.cmp .eq (.var 4) (.cst (.str [97, 116]))) (.cons (.ret (.ife (.call 5 (.cons (.var 5) .nil)) (.tup (.cons (.tup (.cons (.cst (.str [97, 116])) (.cons (.var 5) .nil))) (.cons (.idx (.var 0) (.cst (.int 1))) .nil))) (.cst (.non)))) .nil) .nil) (.cons (.iff (.cmp .eq (.var 4) (.cst (.str [115, 111, 109, 101]))) (.cons (.ret (.ife (.call 13 (.cons (.var 5) .nil)) (.tup (.cons (.tup (.cons (.cst (.str [115, 111, 109, 101])) (.cons (.bi .list1 (.cons (.var 5) .nil)) .nil))) (.cons (.var 0) .nil))) (.cst (.non)))) .nil) .nil) (.cons (.iff (.cmp .eq (.var 4) (.cst (.str [114, 101, 110, 97, 109, 101, 100]))) (.cons (.ret (.ife (.call 14 (.cons (.var 5) .nil)) (.tup (.cons (.tup (.cons (.cst (.str [114, 101, 110, 97, 109, 101, 100])) (.cons (.bi .list1 (.cons (.var 5) .nil)) .nil))) (.cons (.var 0) .nil))) (.cst (.non)))) .nil) .nil) (.cons (.asg 3 (.ife (.cmp .eq (.var 4) (.cst (.str [118, 97, 108, 117, 101, 115]))) (.call 19 (.cons (.idx (.var 0) (.cst (.int 1))) (.cons (.var 5) (.cons (.bin .sub (.var 2) (.cst (.int 1))) .nil)))) (.cst (.non)))) (.cons (.iff (.or (.cmp .isn (.var 3) (.cst (.non))) (.nt (.call 15 (.cons (.tup (.cons (.cst (.str [109, 97, 112])) (.cons (.idx (.var 3) (.cst (.int 1))) .nil))) .nil)))) (.cons (.ret (.cst (.non))) .nil) .nil) (.cons (.ret (.tup (.cons (.tup (.cons (.cst (.str [118, 97, 108, 117, 101, 115])) (.cons (.idx (.var 3) (.cst (.int 0))) .nil))) (.cons (.tup (.cons (.cst (.str [109, 97, 112])) (.cons (.idx (.var 3) (.cst (.int 1))) .nil))) .nil)))) .nil)))))))
def f17 : FnI := ⟨"map_view_looked", L2.defArgs (top 37), ["kind", "value", "left", "inner", "word", "told"], L2.defScope (top 37), L2.defBody (top 37), ⟨3, 6, b17⟩⟩
/-- twofold_view_looked -/
def b18 : Ss := .cons (.asgT [6, 7, 8] (.var 1)) (.cons (.iff (.cmp .nin (.var 6) (.tup (.cons (.cst (.str [98, 111, 116, 104])) (.cons (.cst (.str [116, 104, 101, 110])) .nil)))) (.cons (.ret (.cst (.non))) .nil) .nil) (.cons (.asg 3 (.call 19 (.cons (.var 0) (.cons (.var 7) (.cons (.bin .sub (.var 2) (.cst (.int 1))) .nil))))) (.cons (.asg 4 (.ife (.cmp .ntn (.var 3) (.cst (.non))) (.call 19 (.cons (.ife (.cmp .eq (.var 6) (.cst (.str [98, 111, 116, 104]))) (.var 0) (.idx (.var 3) (.cst (.int 1)))) (.cons (.var 8) (.cons (.bin .sub (.var 2) (.cst (.int 1))) .nil)))) (.cst (.non)))) (.cons (.iff (.cmp .isn (.var 4) (.cst (.non))) (.cons (.ret (.cst (.non))) .nil) .nil) (.cons (.iff (.cmp .eq (.var 6) (.cst (.str [116, 104, 101, 110]))) (.cons (.ret (.tup (.cons (.tup (.cons (.cst (.str [116, 104, 101, 110])) (.cons (.idx (.var 3) (.cst (.int 0))) (.cons (.idx (.var 4) (.cst (.int 0))) .nil)))) (.cons (.idx (.var 4) (.cst (.int 1))) .nil)))) .nil) .nil) (.cons (.asg 5 (.tup (.cons (.cst (.str [112, 97, 105, 114])) (.cons (.idx (.var 3) (.cst (.int 1))) (.cons (.idx (.var 4) (.cst (.int 1))) .nil))))) (.cons (.ret (.ife (.call 15 (.cons (.var 5) .nil)) (.tup (.cons (.tup (.cons (.cst (.str [98, 111, 116, 104])) (.cons (.idx (.var 3) (.cst (.int 0))) (.cons (.idx (.var 4) (.cst (.int 0))) .nil)))) (.cons (.var 5) .nil))) (.cst (.non)))) .nil)))))))
def f18 : FnI := ⟨"twofold_view_looked", L2.defArgs (top 38), ["kind", "value", "left", "one", "other", "found", "word", "near", "far"], L2.defScope (top 38), L2.defBody (top 38), ⟨3, 9, b18⟩⟩
/-- view_looked -/
def b19 : Ss := .cons (.iff (.or (.cmp .eq (.var 2) (.cst (.int 0))) (.or (.nt (.isi (.var 1) [.tuple])) (.or (.nt (.chn .le .le (.cst (.int 1)) (.bi .len (.cons (.var 1) .nil)) (.cst (.int 3)))) (.nt (.isi (.idx (.var 1) (.cst (.int 0))) [.str]))))) (.cons (.ret (.cst (.non))) .nil) .nil) (.cons (.iff (.cmp .eq (.bi .len (.cons (.var 1) .nil)) (.cst (.int 1))) (.cons (.ret (.call 16 (.cons (.var 0) (.cons (.idx (.var 1) (.cst (.int 0))) .nil)))) .nil) .nil) (.cons (.ret (.ife (.cmp .eq (.bi .len (.cons (.var 1) .nil)) (.cst (.int 2))) (.call 17 (.cons (.var 0) (.cons (.var 1) (.cons (.var 2) .nil)))) (.call 18 (.cons (.var 0) (.cons (.var 1) (.cons (.var 2) .nil)))))) .nil))
def f19 : FnI := ⟨"view_looked", L2.defArgs (top 39), ["kind", "value", "left"], L2.defScope (top 39), L2.defBody (top 39), ⟨3, 3, b19⟩⟩
def b20_1 : Ss := .cons (.pop1 3 2) (.cons (.app 1 (.var 3)) (.cons (.iff (.cmp .inn (.idx (.var 3) (.cst (.int 0))) (.tup (.cons (.cst (.str [98, 111, 116, 104])) (.cons (.cst (.str [116, 104, 101, 110])) (.cons (.cst (.str [118, 97, 108, 117, 101, 115])) .nil))))) (.cons (.ext 2 (.bi .list1 (.cons (.slc (.var 3) (.yes (.cst (.int 1))) .no) .nil))) .nil) .nil) .nil))
/-- views_within -/
def b20 : Ss := .cons (.par [1, 2] (.cons (.lst .nil) (.cons (.lst (.cons (.var 0) .nil)) .nil)) [true, true]) (.cons (.whl (.cmp .ne (.var 2) (.lst .nil)) b20_1) (.cons (.frz 1) (.cons (.ret (.var 1)) .nil)))
def f20 : FnI := ⟨"views_within", L2.defArgs (top 40), ["view", "found", "waiting", "here"], L2.defScope (top 40), L2.defBody (top 40), ⟨1, 4, b20⟩⟩
/-- view_in -/
def b21 : Ss := .cons (.asg 2 (.call 19 (.cons (.var 0) (.cons (.var 1) (.cons (.glo 9) .nil))))) (.cons (.ret (.ife (.and (.cmp .ntn (.var 2) (.cst (.non))) (.cmp .le (.bi .len (.cons (.call 20 (.cons (.idx (.var 2) (.cst (.int 0))) .nil)) .nil)) (.glo 10))) (.idx (.var 2) (.cst (.int 0))) (.cst (.non)))) .nil)
def f21 : FnI := ⟨"view_in", L2.defArgs (top 41), ["kind", "value", "found"], L2.defScope (top 41), L2.defBody (top 41), ⟨2, 3, b21⟩⟩
/-- want_view_of -/
def b22 : Ss := .cons (.asg 2 (.call 21 (.cons (.var 0) (.cons (.var 1) .nil)))) (.cons (.iff (.cmp .isn (.var 2) (.cst (.non))) (.cons (.rais 1 (.cons (.var 1) .nil)) .nil) .nil) (.cons (.ret (.var 2)) .nil))
def f22 : FnI := ⟨"want_view_of", L2.defArgs (top 42), ["kind", "value", "found"], L2.defScope (top 42), L2.defBody (top 42), ⟨2, 3, b22⟩⟩
/-- kind_of_view -/
def b23 : Ss := .cons (.asg 2 (.idx (.var 1) (.cst (.int 0)))) (.cons (.iff (.cmp .inn (.var 2) (.tup (.cons (.cst (.str [97, 116])) (.cons (.cst (.str [106, 111, 105, 110, 101, 100])) (.cons (.cst (.str [102, 105, 114, 115, 116])) .nil))))) (.cons (.ret (.idx (.var 0) (.cst (.int 1)))) .nil) .nil) (.cons (.iff (.cmp .inn (.var 2) (.tup (.cons (.cst (.str [115, 101, 99, 111, 110, 100])) (.cons (.cst (.str [117, 112, 112, 101, 114])) .nil)))) (.cons (.ret (.idx (.var 0) (.cst (.int 2)))) .nil) .nil) (.cons (.iff (.cmp .eq (.var 2) (.cst (.str [118, 97, 108, 117, 101, 115]))) (.cons (.ret (.tup (.cons (.cst (.str [109, 97, 112])) (.cons (.call 23 (.cons (.idx (.var 0) (.cst (.int 1))) (.cons (.idx (.var 1) (.cst (.int 1))) .nil))) .nil)))) .nil) .nil) (.cons (.iff (.cmp .eq (.var 2) (.cst (.str [98, 111, 116, 104]))) (.cons (.ret (.tup (.cons (.cst (.str [112, 97, 105, 114])) (.cons (.call 23 (.cons (.var 0) (.cons (.idx (.var 1) (.cst (.int 1))) .nil))) (.cons (.call 23 (.cons (.var 0) (.cons (.idx (.var 1) (.cst (.int 2))) .nil))) .nil))))) .nil) .nil) (.cons (.ret (.ife (.cmp .eq (.var 2) (.cst (.str [116, 104, 101, 110]))) (.call 23 (.cons (.call 23 (.cons (.var 0) (.cons (.idx (.var 1) (.cst (.int 1))) .nil))) (.cons (.idx (.var 1) (.cst (.int 2))) .nil))) (.var 0))) .nil)))))
def f23 : FnI := ⟨"kind_of_view", L2.defArgs (top 43), ["kind", "view", "word"], L2.defScope (top 43), L2.defBody (top 43), ⟨2, 3, b23⟩⟩
/-- is_view -/
def b24 : Ss := .cons (.ret (.cmp .ntn (.call 21 (.cons (.call 12 (.cons (.var 0) .nil)) (.cons (.var 1) .nil))) (.cst (.non)))) .nil
def f24 : FnI := ⟨"is_view", L2.defArgs (top 44), ["kind", "value"], L2.defScope (top 44), L2.defBody (top 44), ⟨2, 2, b24⟩⟩
/-- view_kind -/
def b25 : Ss := .cons (.asg 2 (.call 12 (.cons (.var 0) .nil))) (.cons (.ret (.call 11 (.cons (.call 23 (.cons (.var 2) (.cons (.call 22 (.cons (.var 2) (.cons (.var 1) .nil))) .nil))) .nil))) .nil)
def f25 : FnI := ⟨"view_kind", L2.defArgs (top 45), ["kind", "view", "here"], L2.defScope (top 45), L2.defBody (top 45), ⟨2, 3, b25⟩⟩
/-- _law_pot -/
def b26 : Ss := .cons (.asg 2 (.ife (.cmp .lt (.var 1) (.bi .len (.cons (.var 0) .nil))) (.bi .abs (.cons (.idx (.var 0) (.var 1)) .nil)) (.bin .add (.bin .mul (.cst (.int 733)) (.var 1)) (.cst (.int 683))))) (.cons (.ret (.clst (.cons (.bi .max2 (.cons (.cst (.int 0)) (.cons (.bin .sub (.var 2) (.bin .pow (.cst (.int 10)) (.cst (.int 18)))) .nil))) (.cons (.bin .add (.bin .mod (.bi .int1 (.cons (.bin .add (.bin .add (.bin .mul (.bin .mod (.bi .int1 (.cons (.var 2) .nil)) (.cst (.int 2147483549))) (.cst (.int 48271))) (.bin .mul (.cst (.int 8317)) (.var 1))) (.cst (.int 31))) .nil)) (.cst (.int 2147483563))) (.cst (.int 1))) .nil)))) .nil)
def f26 : FnI := ⟨"_law_pot", L2.defArgs (top 47), ["_law_script", "_law_k", "_law_cell"], L2.defScope (top 47), L2.defBody (top 47), ⟨2, 3, b26⟩⟩
/-- _law_draw -/
def b27 : Ss := .cons (.iff (.cmp .gt (.cidx 0 0) (.cst (.int 0))) (.cons (.csetT 0 0 2 (.bi .divmod (.cons (.cidx 0 0) (.cons (.var 1) .nil)))) (.cons (.ret (.var 2)) .nil)) .nil) (.cons (.cset 0 1 (.bin .mod (.bi .int1 (.cons (.bin .add (.bin .mul (.cidx 0 1) (.cst (.int 39373))) (.cst (.int 8317))) .nil)) (.cst (.int 2147483587)))) (.cons (.ret (.bin .mod (.bi .int1 (.cons (.bin .fdiv (.bin .mod (.bi .int1 (.cons (.bin .mul (.cidx 0 1) (.cidx 0 1)) .nil)) (.cst (.int 2147483563))) (.cst (.int 19))) .nil)) (.var 1))) .nil))
def f27 : FnI := ⟨"_law_draw", L2.defArgs (top 48), ["_law_pot_here", "_law_many", "_law_digit"], L2.defScope (top 48), L2.defBody (top 48), ⟨2, 3, b27⟩⟩
/-- _law_pick -/
def b28 : Ss := .cons (.ret (.idx (.var 1) (.call 27 (.cons (.var 0) (.cons (.bi .len (.cons (.var 1) .nil)) .nil))))) .nil
def f28 : FnI := ⟨"_law_pick", L2.defArgs (top 49), ["_law_pot_here", "_law_some"], L2.defScope (top 49), L2.defBody (top 49), ⟨2, 2, b28⟩⟩
/-- _law_leaf -/
def b29 : Ss := .cons (.asg 1 (.call 27 (.cons (.var 0) (.cons (.cst (.int 6)) .nil)))) (.cons (.iff (.cmp .lt (.var 1) (.cst (.int 2))) (.cons (.ret (.tup (.cons (.cst (.str [99, 111, 117, 110, 116])) .nil))) .nil) .nil) (.cons (.iff (.cmp .eq (.var 1) (.cst (.int 2))) (.cons (.ret (.tup (.cons (.cst (.str [114, 111, 119])) (.cons (.bin .add (.cst (.int 2)) (.call 27 (.cons (.var 0) (.cons (.cst (.int 2)) .nil)))) .nil)))) .nil) .nil) (.cons (.iff (.cmp .eq (.var 1) (.cst (.int 3))) (.cons (.ret (.tup (.cons (.cst (.str [116, 111, 112, 115])) (.cons (.cst (.int 3)) (.cons (.call 28 (.cons (.var 0) (.cons (.lst (.cons (.lst .nil) (.cons (.lst (.cons (.tup (.cons (.cst (.int 0)) (.cons (.cst (.int 1)) .nil))) .nil)) (.cons (.lst (.cons (.tup (.cons (.cst (.int 0)) (.cons (.cst (.int 2)) .nil))) (.cons (.tup (.cons (.cst (.int 1)) (.cons (.cst (.int 2)) .nil))) .nil))) (.cons (.lst (.cons (.tup (.cons (.cst (.int 0)) (.cons (.cst (.int 1)) .nil))) (.cons (.tup (.cons (.cst (.int 1)) (.cons (.cst (.int 2)) .nil))) .nil))) .nil))))) .nil))) .nil))))) .nil) .nil) (.cons (.ret (.tup (.cons (.cst (.str [116, 97, 98, 108, 101])) (.cons (.lst (.cons (.lst (.cons (.cst (.int 0)) (.cons (.cst (.int 1)) (.cons (.cst (.int 2)) (.cons (.cst (.int 3)) .nil))))) (.cons (.lst (.cons (.cst (.int 1)) (.cons (.cst (.int 1)) (.cons (.cst (.int 3)) (.cons (.cst (.int 3)) .nil))))) (.cons (.lst (.cons (.cst (.int 2)) (.cons (.cst (.int 3)) (.cons (.cst (.int 2)) (.cons (.cst (.int 3)) .nil))))) (.cons (.lst (.cons (.cst (.int 3)) (.cons (.cst (.int 3)) (.cons (.cst (.int 3)) (.cons (.cst (.int 3)) .nil))))) .nil))))) .nil)))) .nil))))
def f29 : FnI := ⟨"_law_leaf", L2.defArgs (top 50), ["_law_pot_here", "_law_way"], L2.defScope (top 50), L2.defBody (top 50), ⟨1, 2, b29⟩⟩
/-- _law_around -/
def b30 : Ss := .cons (.asg 2 (.call 27 (.cons (.var 0) (.cons (.cst (.int 7)) .nil)))) (.cons (.iff (.cmp .lt (.var 2) (.cst (.int 3))) (.cons (.ret (.tup (.cons (.cst (.str [109, 97, 112])) (.cons (.var 1) .nil)))) .nil) .nil) (.cons (.iff (.cmp .eq (.var 2) (.cst (.int 3))) (.cons (.ret (.tup (.cons (.cst (.str [112, 97, 105, 114])) (.cons (.var 1) (.cons (.call 29 (.cons (.var 0) .nil)) .nil))))) .nil) .nil) (.cons (.iff (.cmp .eq (.var 2) (.cst (.int 4))) (.cons (.asg 3 (.call 29 (.cons (.var 0) .nil))) (.cons (.asg 4 (.cmp .inn (.idx (.var 1) (.cst (.int 0))) (.tup (.cons (.cst (.str [109, 97, 112])) (.cons (.cst (.str [112, 97, 105, 114])) (.cons (.cst (.str [108, 97, 116, 101, 114])) (.cons (.cst (.str [97, 98, 111, 118, 101])) .nil))))))) (.cons (.ret (.tup (.cons (.cst (.str [112, 97, 105, 114])) (.cons (.ife (.var 4) (.tup (.cons (.cst (.str [109, 97, 112])) (.cons (.var 3) .nil))) (.var 3)) (.cons (.var 1) .nil))))) .nil))) .nil) (.cons (.iff (.cmp .eq (.var 2) (.cst (.int 5))) (.cons (.ret (.tup (.cons (.cst (.str [108, 97, 116, 101, 114])) (.cons (.call 28 (.cons (.var 0) (.cons (.lst (.cons (.tup (.cons (.cst (.str [99, 111, 117, 110, 116])) .nil)) (.cons (.tup (.cons (.cst (.str [114, 111, 119])) (.cons (.cst (.int 3)) .nil))) .nil))) .nil))) (.cons (.var 1) .nil))))) .nil) .nil) (.cons (.ret (.tup (.cons (.cst (.str [97, 98, 111, 118, 101])) (.cons (.var 1) (.cons (.call 29 (.cons (.var 0) .nil)) .nil))))) .nil)))))
def f30 : FnI := ⟨"_law_around", L2.defArgs (top 51), ["_law_pot_here", "_law_inner", "_law_way", "_law_far", "_law_deeper"], L2.defScope (top 51), L2.defBody (top 51), ⟨2, 5, b30⟩⟩
def b31_1 : Ss := .cons (.asg 2 (.call 30 (.cons (.var 0) (.cons (.var 2) .nil)))) .nil
/-- _law_kind -/
def b31 : Ss := .cons (.asg 2 (.call 29 (.cons (.var 0) .nil))) (.cons (.for (.nm 3) (.rng1 (.call 27 (.cons (.var 0) (.cons (.var 1) .nil)))) b31_1) (.cons (.ret (.var 2)) .nil))
def f31 : FnI := ⟨"_law_kind", L2.defArgs (top 52), ["_law_pot_here", "_law_deep_here", "_law_kind_here", "_law_turn"], L2.defScope (top 52), L2.defBody (top 52), ⟨2, 4, b31⟩⟩
/-- _law_view_kind -/
def b32 : Ss := .cons (.asg 2 (.idx (.var 1) (.cst (.int 0)))) (.cons (.iff (.cmp .inn (.var 2) (.tup (.cons (.cst (.str [115, 97, 109, 101])) (.cons (.cst (.str [115, 111, 109, 101])) (.cons (.cst (.str [114, 101, 110, 97, 109, 101, 100])) .nil))))) (.cons (.ret (.var 0)) .nil) .nil) (.cons (.iff (.cmp .inn (.var 2) (.tup (.cons (.cst (.str [97, 116])) (.cons (.cst (.str [106, 111, 105, 110, 101, 100])) (.cons (.cst (.str [102, 105, 114, 115, 116])) .nil))))) (.cons (.ret (.idx (.var 0) (.cst (.int 1)))) .nil) .nil) (.cons (.iff (.cmp .inn (.var 2) (.tup (.cons (.cst (.str [115, 101, 99, 111, 110, 100])) (.cons (.cst (.str [117, 112, 112, 101, 114])) .nil)))) (.cons (.ret (.idx (.var 0) (.cst (.int 2)))) .nil) .nil) (.cons (.iff (.cmp .eq (.var 2) (.cst (.str [118, 97, 108, 117, 101, 115]))) (.cons (.ret (.tup (.cons (.cst (.str [109, 97, 112])) (.cons (.call 32 (.cons (.idx (.var 0) (.cst (.int 1))) (.cons (.idx (.var 1) (.cst (.int 1))) .nil))) .nil)))) .nil) .nil) (.cons (.asg 3 (.call 32 (.cons (.var 0) (.cons (.idx (.var 1) (.cst (.int 1))) .nil)))) (.cons (.iff (.cmp .eq (.var 2) (.cst (.str [98, 111, 116, 104]))) (.cons (.ret (.tup (.cons (.cst (.str [112, 97, 105, 114])) (.cons (.var 3) (.cons (.call 32 (.cons (.var 0) (.cons (.idx (.var 1) (.cst (.int 2))) .nil))) .nil))))) .nil) .nil) (.cons (.ret (.call 32 (.cons (.var 3) (.cons (.idx (.var 1) (.cst (.int 2))) .nil)))) .nil)))))))
def f32 : FnI := ⟨"_law_view_kind", L2.defArgs (top 53), ["_law_kind_here", "_law_view_here", "_law_word", "_law_near"], L2.defScope (top 53), L2.defBody (top 53), ⟨2, 4, b32⟩⟩
/-- _law_kinds_within -/
def b33 : Ss := .cons (.iff (.cmp .eq (.idx (.var 0) (.cst (.int 0))) (.cst (.str [109, 97, 112]))) (.cons (.ret (.bin .add (.lst (.cons (.var 0) .nil)) (.call 33 (.cons (.idx (.var 0) (.cst (.int 1))) .nil)))) .nil) .nil) (.cons (.iff (.cmp .inn (.idx (.var 0) (.cst (.int 0))) (.tup (.cons (.cst (.str [112, 97, 105, 114])) (.cons (.cst (.str [108, 97, 116, 101, 114])) (.cons (.cst (.str [97, 98, 111, 118, 101])) .nil))))) (.cons (.ret (.bin .add (.bin .add (.lst (.cons (.var 0) .nil)) (.call 33 (.cons (.idx (.var 0) (.cst (.int 1))) .nil))) (.call 33 (.cons (.idx (.var 0) (.cst (.int 2))) .nil)))) .nil) .nil) (.cons (.ret (.lst (.cons (.var 0) .nil))) .nil))
def f33 : FnI := ⟨"_law_kinds_within", L2.defArgs (top 54), ["_law_kind_here"], L2.defScope (top 54), L2.defBody (top 54), ⟨1, 1, b33⟩⟩
/-- _law_deep -/
def b34 : Ss := .cons (.iff (.cmp .eq (.idx (.var 0) (.cst (.int 0))) (.cst (.str [109, 97, 112]))) (.cons (.ret (.bin .add (.cst (.int 1)) (.call 34 (.cons (.idx (.var 0) (.cst (.int 1))) .nil)))) .nil) .nil) (.cons (.iff (.cmp .inn (.idx (.var 0) (.cst (.int 0))) (.tup (.cons (.cst (.str [112, 97, 105, 114])) (.cons (.cst (.str [108, 97, 116, 101, 114])) (.cons (.cst (.str [97, 98, 111, 118, 101])) .nil))))) (.cons (.ret (.bin .add (.cst (.int 1)) (.bi .max2 (.cons (.call 34 (.cons (.idx (.var 0) (.cst (.int 1))) .nil)) (.cons (.call 34 (.cons (.idx (.var 0) (.cst (.int 2))) .nil)) .nil))))) .nil) .nil) (.cons (.ret (.cst (.int 1))) .nil))
def f34 : FnI := ⟨"_law_deep", L2.defArgs (top 55), ["_law_kind_here"], L2.defScope (top 55), L2.defBody (top 55), ⟨1, 1, b34⟩⟩
/-- _law_fits -/
def b35 : Ss := .cons (.ret (.and (.cmp .le (.call 34 (.cons (.var 0) .nil)) (.cst (.int 4))) (.cmp .le (.bi .len (.cons (.call 33 (.cons (.var 0) .nil)) .nil)) (.cst (.int 12))))) .nil
def f35 : FnI := ⟨"_law_fits", L2.defArgs (top 56), ["_law_kind_here"], L2.defScope (top 56), L2.defBody (top 56), ⟨1, 1, b35⟩⟩
/-- _law_step -/
def b36 : Ss := .cons (.par [2, 3] (.cons (.idx (.var 1) (.cst (.int 0))) (.cons (.lst (.cons (.cst (.str [97])) (.cons (.cst (.str [98])) (.cons (.cst (.str [99])) (.cons (.cst (.str [100])) .nil))))) .nil)) [false, false]) (.cons (.iff (.cmp .eq (.var 2) (.cst (.str [109, 97, 112]))) (.cons (.asg 4 (.call 27 (.cons (.var 0) (.cons (.cst (.int 6)) .nil)))) (.cons (.iff (.cmp .eq (.var 4) (.cst (.int 0))) (.cons (.ret (.tup (.cons (.cst (.str [97, 116])) (.cons (.call 28 (.cons (.var 0) (.cons (.var 3) .nil))) .nil)))) .nil) .nil) (.cons (.iff (.cmp .eq (.var 4) (.cst (.int 1))) (.cons (.ret (.tup (.cons (.cst (.str [115, 111, 109, 101])) (.cons (.call 28 (.cons (.var 0) (.cons (.lst (.cons (.lst (.cons (.cst (.str [97])) .nil)) (.cons (.lst (.cons (.cst (.str [98])) (.cons (.cst (.str [97])) .nil))) (.cons (.lst .nil) (.cons (.lst (.cons (.cst (.str [99])) (.cons (.cst (.str [100])) .nil))) .nil))))) .nil))) .nil)))) .nil) .nil) (.cons (.iff (.cmp .eq (.var 4) (.cst (.int 2))) (.cons (.asg 5 (.lst (.cons (.lst (.cons (.tup (.cons (.cst (.str [97])) (.cons (.cst (.str [98])) .nil))) .nil)) (.cons (.lst (.cons (.tup (.cons (.cst (.str [97])) (.cons (.cst (.str [98])) .nil))) (.cons (.tup (.cons (.cst (.str [98])) (.cons (.cst (.str [97])) .nil))) .nil))) (.cons (.lst (.cons (.tup (.cons (.cst (.str [99])) (.cons (.cst (.str [97])) .nil))) (.cons (.tup (.cons (.cst (.str [97])) (.cons (.cst (.str [100])) .nil))) .nil))) (.cons (.lst .nil) .nil)))))) (.cons (.ret (.tup (.cons (.cst (.str [114, 101, 110, 97, 109, 101, 100])) (.cons (.call 28 (.cons (.var 0) (.cons (.var 5) .nil))) .nil)))) .nil)) .nil) (.cons (.iff (.cmp .eq (.var 4) (.cst (.int 3))) (.cons (.ret (.tup (.cons (.cst (.str [118, 97, 108, 117, 101, 115])) (.cons (.call 36 (.cons (.var 0) (.cons (.idx (.var 1) (.cst (.int 1))) .nil))) .nil)))) .nil) .nil) (.cons (.ret (.tup (.cons (.cst (.str [106, 111, 105, 110, 101, 100])) .nil))) .nil)))))) .nil) (.cons (.iff (.cmp .eq (.var 2) (.cst (.str [112, 97, 105, 114]))) (.cons (.ret (.call 28 (.cons (.var 0) (.cons (.lst (.cons (.tup (.cons (.cst (.str [102, 105, 114, 115, 116])) .nil)) (.cons (.tup (.cons (.cst (.str [115, 101, 99, 111, 110, 100])) .nil)) .nil))) .nil)))) .nil) .nil) (.cons (.iff (.cmp .eq (.var 2) (.cst (.str [108, 97, 116, 101, 114]))) (.cons (.ret (.call 28 (.cons (.var 0) (.cons (.lst (.cons (.tup (.cons (.cst (.str [102, 105, 114, 115, 116])) .nil)) (.cons (.tup (.cons (.cst (.str [115, 97, 109, 101])) .nil)) .nil))) .nil)))) .nil) .nil) (.cons (.ret (.ife (.cmp .eq (.var 2) (.cst (.str [97, 98, 111, 118, 101]))) (.tup (.cons (.cst (.str [117, 112, 112, 101, 114])) .nil)) (.tup (.cons (.cst (.str [115, 97, 109, 101])) .nil)))) .nil))))
def f36 : FnI := ⟨"_law_step", L2.defArgs (top 57), ["_law_pot_here", "_law_kind_here", "_law_word", "_law_names", "_law_way", "_law_some"], L2.defScope (top 57), L2.defBody (top 57), ⟨2, 6, b36⟩⟩
/-- _law_view -/
def b37 : Ss := .cons (.asg 3 (.call 27 (.cons (.var 0) (.cons (.cst (.int 5)) .nil)))) (.cons (.iff (.or (.cmp .eq (.var 2) (.cst (.int 0))) (.cmp .lt (.var 3) (.cst (.int 2)))) (.cons (.ret (.call 36 (.cons (.var 0) (.cons (.var 1) .nil)))) .nil) .nil) (.cons (.asg 4 (.call 37 (.cons (.var 0) (.cons (.var 1) (.cons (.bin .sub (.var 2) (.cst (.int 1))) .nil))))) (.cons (.iff (.cmp .eq (.var 3) (.cst (.int 2))) (.cons (.asg 5 (.call 37 (.cons (.var 0) (.cons (.var 1) (.cons (.bin .sub (.var 2) (.cst (.int 1))) .nil))))) (.cons (.asg 6 (.tup (.cons (.cst (.str [112, 97, 105, 114])) (.cons (.call 32 (.cons (.var 1) (.cons (.var 4) .nil))) (.cons (.call 32 (.cons (.var 1) (.cons (.var 5) .nil))) .nil))))) (.cons (.ret (.ife (.call 35 (.cons (.var 6) .nil)) (.tup (.cons (.cst (.str [98, 111, 116, 104])) (.cons (.var 4) (.cons (.var 5) .nil)))) (.var 4))) .nil))) .nil) (.cons (.ret (.tup (.cons (.cst (.str [116, 104, 101, 110])) (.cons (.var 4) (.cons (.call 37 (.cons (.var 0) (.cons (.call 32 (.cons (.var 1) (.cons (.var 4) .nil))) (.cons (.bin .sub (.var 2) (.cst (.int 1))) .nil)))) .nil))))) .nil))))
def f37 : FnI := ⟨"_law_view", L2.defArgs (top 58), ["_law_pot_here", "_law_kind_here", "_law_left", "_law_way", "_law_near", "_law_far", "_law_both"], L2.defScope (top 58), L2.defBody (top 58), ⟨3, 7, b37⟩⟩
/-- _law_is_name -/
def b38 : Ss := .cons (.iff (.or (.nt (.isi (.var 0) [.str])) (.nt (.chn .le .le (.cst (.int 1)) (.bi .len (.cons (.var 0) .nil)) (.cst (.int 8))))) (.cons (.ret (.cst (.bl false))) .nil) .nil) (.cons (.ret (.cmp .eq (.lc (.nm 1) (.chars (.var 0)) (.yes (.cmp .nin (.var 1) (.cst (.str [97, 98, 99, 100, 101, 102, 103, 104, 105, 106, 107, 108, 109, 110, 111, 112, 113, 114, 115, 116, 117, 118, 119, 120, 121, 122])))) (.var 1)) (.lst .nil))) .nil)
def f38 : FnI := ⟨"_law_is_name", L2.defArgs (top 59), ["_law_value", "_law_sign"], L2.defScope (top 59), L2.defBody (top 59), ⟨1, 2, b38⟩⟩
/-- _law_are_names -/
def b39 : Ss := .cons (.iff (.or (.nt (.isi (.var 0) [.list, .tuple])) (.cmp .gt (.bi .len (.cons (.var 0) .nil)) (.cst (.int 6)))) (.cons (.ret (.cst (.bl false))) .nil) .nil) (.cons (.iff (.nt (.bi .all (.cons (.lc (.nm 1) (.seq (.var 0)) .no (.call 38 (.cons (.var 1) .nil))) .nil))) (.cons (.ret (.cst (.bl false))) .nil) .nil) (.cons (.ret (.cmp .eq (.lc (.tp [2, 1]) (.enum (.var 0)) (.yes (.cmp .inn (.var 1) (.slc (.var 0) .no (.yes (.var 2))))) (.var 2)) (.lst .nil))) .nil))
def f39 : FnI := ⟨"_law_are_names", L2.defArgs (top 60), ["_law_value", "_law_name", "_law_at"], L2.defScope (top 60), L2.defBody (top 60), ⟨1, 3, b39⟩⟩
def b40_1 : Ss := .cons (.iff (.or (.nt (.isi (.var 1) [.tuple])) (.or (.cmp .ne (.bi .len (.cons (.var 1) .nil)) (.cst (.int 2))) (.nt (.call 38 (.cons (.idx (.var 1) (.cst (.int 1))) .nil))))) (.cons (.ret (.cst (.bl false))) .nil) .nil) .nil
/-- _law_are_renamed -/
def b40 : Ss := .cons (.iff (.or (.nt (.isi (.var 0) [.list, .tuple])) (.cmp .gt (.bi .len (.cons (.var 0) .nil)) (.cst (.int 6)))) (.cons (.ret (.cst (.bl false))) .nil) .nil) (.cons (.for (.nm 1) (.seq (.var 0)) b40_1) (.cons (.ret (.call 39 (.cons (.lc (.nm 1) (.seq (.var 0)) .no (.idx (.var 1) (.cst (.int 0)))) .nil))) .nil))
def f40 : FnI := ⟨"_law_are_renamed", L2.defArgs (top 61), ["_law_value", "_law_pair"], L2.defScope (top 61), L2.defBody (top 61), ⟨1, 2, b40⟩⟩
/-- _law_eye_step -/
def b41 : Ss := .cons (.par [2, 3] (.cons (.idx (.var 1) (.cst (.int 0))) (.cons (.slc (.var 1) (.yes (.cst (.int 1))) .no) .nil)) [false, false]) (.cons (.iff (.cmp .eq (.var 3) (.tup .nil)) (.cons (.iff (.cmp .eq (.var 2) (.cst (.str [115, 97, 109, 101]))) (.cons (.ret (.var 0)) .nil) .nil) (.cons (.iff (.and (.cmp .eq (.var 2) (.cst (.str [106, 111, 105, 110, 101, 100]))) (.cmp .eq (.idx (.var 0) (.cst (.int 0))) (.cst (.str [109, 97, 112])))) (.cons (.ret (.idx (.var 0) (.cst (.int 1)))) .nil) .nil) (.cons (.iff (.and (.cmp .eq (.var 2) (.cst (.str [102, 105, 114, 115, 116]))) (.cmp .inn (.idx (.var 0) (.cst (.int 0))) (.tup (.cons (.cst (.str [112, 97, 105, 114])) (.cons (.cst (.str [108, 97, 116, 101, 114])) .nil))))) (.cons (.ret (.idx (.var 0) (.cst (.int 1)))) .nil) .nil) (.cons (.asg 4 (.and (.cmp .eq (.var 2) (.cst (.str [115, 101, 99, 111, 110, 100]))) (.cmp .eq (.idx (.var 0) (.cst (.int 0))) (.cst (.str [112, 97, 105, 114]))))) (.cons (.ret (.ife (.or (.var 4) (.and (.cmp .eq (.var 2) (.cst (.str [117, 112, 112, 101, 114]))) (.cmp .eq (.idx (.var 0) (.cst (.int 0))) (.cst (.str [97, 98, 111, 118, 101]))))) (.idx (.var 0) (.cst (.int 2))) (.cst (.non)))) .nil))))) .nil) (.cons (.iff (.or (.cmp .ne (.idx (.var 0) (.cst (.int 0))) (.cst (.str [109, 97, 112]))) (.cmp .ne (.bi .len (.cons (.var 3) .nil)) (.cst (.int 1)))) (.cons (.ret (.cst (.non))) .nil) .nil) (.cons (.iff (.and (.cmp .eq (.var 2) (.cst (.str [97, 116]))) (.call 38 (.cons (.idx (.var 3) (.cst (.int 0))) .nil))) (.cons (.ret (.idx (.var 0) (.cst (.int 1)))) .nil) .nil) (.cons (.iff (.and (.cmp .eq (.var 2) (.cst (.str [115, 111, 109, 101]))) (.call 39 (.cons (.idx (.var 3) (.cst (.int 0))) .nil))) (.cons (.ret (.var 0)) .nil) .nil) (.cons (.ret (.ife (.and (.cmp .eq (.var 2) (.cst (.str [114, 101, 110, 97, 109, 101, 100]))) (.call 40 (.cons (.idx (.var 3) (.cst (.int 0))) .nil))) (.var 0) (.cst (.non)))) .nil)))))
def f41 : FnI := ⟨"_law_eye_step", L2.defArgs (top 62), ["_law_kind_here", "_law_value", "_law_word", "_law_more", "_law_is_second"], L2.defScope (top 62), L2.defBody (top 62), ⟨2, 5, b41⟩⟩
/-- _law_eye -/
def b42 : Ss := .cons (.iff (.or (.nt (.isi (.var 1) [.tuple])) (.or (.cmp .eq (.var 1) (.tup .nil)) (.nt (.isi (.idx (.var 1) (.cst (.int 0))) [.str])))) (.cons (.ret (.cst (.non))) .nil) .nil) (.cons (.iff (.and (.cmp .eq (.idx (.var 1) (.cst (.int 0))) (.cst (.str [118, 97, 108, 117, 101, 115]))) (.and (.cmp .eq (.bi .len (.cons (.var 1) .nil)) (.cst (.int 2))) (.cmp .eq (.idx (.var 0) (.cst (.int 0))) (.cst (.str [109, 97, 112]))))) (.cons (.asg 2 (.call 42 (.cons (.idx (.var 0) (.cst (.int 1))) (.cons (.idx (.var 1) (.cst (.int 1))) .nil)))) (.cons (.iff (.or (.cmp .isn (.var 2) (.cst (.non))) (.nt (.call 35 (.cons (.tup (.cons (.cst (.str [109, 97, 112])) (.cons (.idx (.var 2) (.cst (.int 0))) .nil))) .nil)))) (.cons (.ret (.cst (.non))) .nil) .nil) (.cons (.ret (.tup (.cons (.tup (.cons (.cst (.str [109, 97, 112])) (.cons (.idx (.var 2) (.cst (.int 0))) .nil))) (.cons (.bin .add (.idx (.var 2) (.cst (.int 1))) (.cst (.int 1))) (.cons (.bin .add (.idx (.var 2) (.cst (.int 2))) (.cst (.int 1))) .nil))))) .nil))) .nil) (.cons (.iff (.or (.cmp .nin (.idx (.var 1) (.cst (.int 0))) (.tup (.cons (.cst (.str [98, 111, 116, 104])) (.cons (.cst (.str [116, 104, 101, 110])) .nil)))) (.cmp .ne (.bi .len (.cons (.var 1) .nil)) (.cst (.int 3)))) (.cons (.asg 5 (.call 41 (.cons (.var 0) (.cons (.var 1) .nil)))) (.cons (.ret (.ife (.cmp .isn (.var 5) (.cst (.non))) (.cst (.non)) (.tup (.cons (.var 5) (.cons (.cst (.int 1)) (.cons (.cst (.int 1)) .nil)))))) .nil)) .nil) (.cons (.asg 2 (.call 42 (.cons (.var 0) (.cons (.idx (.var 1) (.cst (.int 1))) .nil)))) (.cons (.iff (.cmp .isn (.var 2) (.cst (.non))) (.cons (.ret (.cst (.non))) .nil) .nil) (.cons (.asg 3 (.call 42 (.cons (.ife (.cmp .eq (.idx (.var 1) (.cst (.int 0))) (.cst (.str [98, 111, 116, 104]))) (.var 0) (.idx (.var 2) (.cst (.int 0)))) (.cons (.idx (.var 1) (.cst (.int 2))) .nil)))) (.cons (.iff (.cmp .isn (.var 3) (.cst (.non))) (.cons (.ret (.cst (.non))) .nil) .nil) (.cons (.asg 4 (.ife (.cmp .eq (.idx (.var 1) (.cst (.int 0))) (.cst (.str [98, 111, 116, 104]))) (.tup (.cons (.cst (.str [112, 97, 105, 114])) (.cons (.idx (.var 2) (.cst (.int 0))) (.cons (.idx (.var 3) (.cst (.int 0))) .nil)))) (.idx (.var 3) (.cst (.int 0))))) (.cons (.iff (.nt (.call 35 (.cons (.var 4) .nil))) (.cons (.ret (.cst (.non))) .nil) .nil) (.cons (.ret (.tup (.cons (.var 4) (.cons (.bin .add (.bi .max2 (.cons (.idx (.var 2) (.cst (.int 1))) (.cons (.idx (.var 3) (.cst (.int 1))) .nil))) (.cst (.int 1))) (.cons (.bin .add (.bin .add (.idx (.var 2) (.cst (.int 2))) (.idx (.var 3) (.cst (.int 2)))) (.cst (.int 1))) .nil))))) .nil)))))))))
def f42 : FnI := ⟨"_law_eye", L2.defArgs (top 63), ["_law_kind_here", "_law_value", "_law_near", "_law_far", "_law_told", "_law_found"], L2.defScope (top 63), L2.defBody (top 63), ⟨2, 6, b42⟩⟩
/-- _law_bent -/
def b43 : Ss := .cons (.iff (.and (.isi (.var 1) [.list, .tuple]) (.cmp .gt (.bi .len (.cons (.var 1) .nil)) (.cst (.int 0)))) (.cons (.par [5, 6] (.cons (.call 27 (.cons (.var 0) (.cons (.bi .len (.cons (.var 1) .nil)) .nil))) (.cons (.call 27 (.cons (.var 0) (.cons (.cst (.int 8)) .nil))) .nil)) [false, false]) (.cons (.iff (.cmp .eq (.var 6) (.cst (.int 0))) (.cons (.ret (.bin .add (.slc (.var 1) .no (.yes (.var 5))) (.slc (.var 1) (.yes (.bin .add (.var 5) (.cst (.int 1)))) .no))) .nil) .nil) (.cons (.iff (.cmp .eq (.var 6) (.cst (.int 1))) (.cons (.ret (.bin .add (.bin .add (.slc (.var 1) .no (.yes (.var 5))) (.slc (.var 1) (.yes (.var 5)) (.yes (.bin .add (.var 5) (.cst (.int 1)))))) (.slc (.var 1) (.yes (.var 5)) .no))) .nil) .nil) (.cons (.iff (.cmp .eq (.var 6) (.cst (.int 2))) (.cons (.ret (.ife (.isi (.var 1) [.tuple]) (.bi .list1 (.cons (.var 1) .nil)) (.bi .tuple1 (.cons (.var 1) .nil)))) .nil) .nil) (.cons (.asg 4 (.lst (.cons (.call 43 (.cons (.var 0) (.cons (.idx (.var 1) (.var 5)) .nil))) .nil))) (.cons (.ret (.bin .add (.bin .add (.slc (.var 1) .no (.yes (.var 5))) (.ife (.isi (.var 1) [.list]) (.var 4) (.bi .tuple1 (.cons (.var 4) .nil)))) (.slc (.var 1) (.yes (.bin .add (.var 5) (.cst (.int 1)))) .no))) .nil)))))) .nil) (.cons (.asg 2 (.lst (.cons (.cst (.str [115, 97, 109, 101])) (.cons (.cst (.str [97, 116])) (.cons (.cst (.str [115, 111, 109, 101])) (.cons (.cst (.str [114, 101, 110, 97, 109, 101, 100])) (.cons (.cst (.str [106, 111, 105, 110, 101, 100])) (.cons (.cst (.str [102, 105, 114, 115, 116])) (.cons (.cst (.str [115, 101, 99, 111, 110, 100])) (.cons (.cst (.str [117, 112, 112, 101, 114])) (.cons (.cst (.str [118, 97, 108, 117, 101, 115])) .nil))))))))))) (.cons (.asg 3 (.lst (.cons (.cst (.str [98, 111, 116, 104])) (.cons (.cst (.str [116, 104, 101, 110])) (.cons (.cst (.str [97])) (.cons (.cst (.str [98])) (.cons (.cst (.str [122])) (.cons (.cst (.str [65])) (.cons (.cst (.str [])) (.cons (.cst (.non)) (.cons (.cst (.bl true)) (.cons (.cst (.int 0)) (.cons (.cst (.int 1)) (.cons (.tup .nil) (.cons (.tup (.cons (.cst (.str [115, 97, 109, 101])) .nil)) (.cons (.tup (.cons (.cst (.str [97])) (.cons (.cst (.str [98])) .nil))) .nil)))))))))))))))) (.cons (.ret (.call 28 (.cons (.var 0) (.cons (.bin .add (.bin .add (.var 2) (.var 3)) (.lst (.cons (.lst .nil) (.cons (.lst (.cons (.cst (.str [97])) .nil)) (.cons (.lst (.cons (.cst (.str [97])) (.cons (.cst (.str [97])) .nil))) (.cons (.lst (.cons (.tup (.cons (.cst (.str [97])) (.cons (.cst (.str [99])) .nil))) .nil)) (.cons (.tup (.cons (.cst (.str [106, 111, 105, 110, 101, 100])) .nil)) .nil))))))) .nil)))) .nil)))
def f43 : FnI := ⟨"_law_bent", L2.defArgs (top 64), ["_law_pot_here", "_law_value", "_law_words", "_law_others", "_law_bent_here", "_law_at", "_law_way"], L2.defScope (top 64), L2.defBody (top 64), ⟨2, 7, b43⟩⟩
/-- _law_wide -/
def b44 : Ss := .cons (.asg 3 (.call 27 (.cons (.var 0) (.cons (.cst (.int 4)) .nil)))) (.cons (.iff (.cmp .eq (.var 3) (.cst (.int 0))) (.cons (.ret (.tup (.cons (.cst (.str [116, 104, 101, 110])) (.cons (.tup (.cons (.cst (.str [115, 97, 109, 101])) .nil)) (.cons (.var 2) .nil))))) .nil) .nil) (.cons (.iff (.cmp .eq (.var 3) (.cst (.int 1))) (.cons (.ret (.tup (.cons (.cst (.str [98, 111, 116, 104])) (.cons (.var 2) (.cons (.var 2) .nil))))) .nil) .nil) (.cons (.iff (.cmp .eq (.var 3) (.cst (.int 2))) (.cons (.ret (.tup (.cons (.cst (.str [116, 104, 101, 110])) (.cons (.var 2) (.cons (.tup (.cons (.cst (.str [115, 97, 109, 101])) .nil)) .nil))))) .nil) .nil) (.cons (.ret (.tup (.cons (.cst (.str [116, 104, 101, 110])) (.cons (.tup (.cons (.cst (.str [115, 97, 109, 101])) .nil)) (.cons (.tup (.cons (.cst (.str [116, 104, 101, 110])) (.cons (.tup (.cons (.cst (.str [115, 97, 109, 101])) .nil)) (.cons (.tup (.cons (.cst (.str [116, 104, 101, 110])) (.cons (.tup (.cons (.cst (.str [115, 97, 109, 101])) .nil)) (.cons (.var 2) .nil)))) .nil)))) .nil))))) .nil))))
def f44 : FnI := ⟨"_law_wide", L2.defArgs (top 65), ["_law_pot_here", "_law_kind_here", "_law_value", "_law_way"], L2.defScope (top 65), L2.defBody (top 65), ⟨3, 4, b44⟩⟩
/-- _law_value_right -/
def b45 : Ss := .cons (.par [5, 6] (.cons (.bi .repr (.cons (.lst (.cons (.var 0) (.cons (.var 1) .nil))) .nil)) (.cons (.call 42 (.cons (.var 0) (.cons (.var 1) .nil))) .nil)) [false, false]) (.cons (.asg 2 (.and (.cmp .ntn (.var 6) (.cst (.non))) (.and (.cmp .le (.idx (.var 6) (.cst (.int 1))) (.cst (.int 5))) (.cmp .le (.idx (.var 6) (.cst (.int 2))) (.cst (.int 12)))))) (.cons (.iff (.or (.cmp .ne (.bi .repr (.cons (.call 24 (.cons (.var 0) (.cons (.var 1) .nil))) .nil)) (.bi .repr (.cons (.var 2) .nil))) (.cmp .ne (.bi .repr (.cons (.callk 24 [1, 0] .nil (.cons (.var 1) (.cons (.var 0) .nil))) .nil)) (.bi .repr (.cons (.var 2) .nil)))) (.cons (.ret (.cst (.bl false))) .nil) .nil) (.cons (.asg 3 (.cst (.non))) (.cons (.tri (.cons (.asg 3 (.call 25 (.cons (.var 0) (.cons (.var 1) .nil)))) .nil) 1 4 (.cons (.asg 3 (.cmp .eq (.bi .repr (.cons (.exf 4 0) .nil)) (.bi .repr (.cons (.var 1) .nil)))) .nil)) (.cons (.ret (.and (.cmp .eq (.bi .repr (.cons (.var 3) .nil)) (.bi .repr (.cons (.ife (.var 2) (.idx (.var 6) (.cst (.int 0))) (.cst (.bl true))) .nil))) (.cmp .eq (.bi .repr (.cons (.lst (.cons (.var 0) (.cons (.var 1) .nil))) .nil)) (.var 5)))) .nil)))))
def f45 : FnI := ⟨"_law_value_right", L2.defArgs (top 66), ["_law_kind_here", "_law_value", "_law_due", "_law_told", "e", "_law_shown", "_law_found"], L2.defScope (top 66), L2.defBody (top 66), ⟨2, 7, b45⟩⟩
def b46_1 : Ss := .cons (.iff (.nt (.call 45 (.cons (.var 1) (.cons (.call 43 (.cons (.var 0) (.cons (.var 2) .nil))) .nil)))) (.cons (.ret (.cst (.bl false))) .nil) .nil) .nil
def b46_2 : Ss := .cons (.asg 2 (.call 44 (.cons (.var 0) (.cons (.var 1) (.cons (.var 2) .nil))))) (.cons (.iff (.or (.nt (.call 45 (.cons (.var 1) (.cons (.var 2) .nil)))) (.nt (.call 45 (.cons (.var 1) (.cons (.call 43 (.cons (.var 0) (.cons (.var 2) .nil))) .nil))))) (.cons (.ret (.cst (.bl false))) .nil) .nil) .nil)
/-- _law_right -/
def b46 : Ss := .cons (.asg 1 (.call 31 (.cons (.var 0) (.cons (.cst (.int 3)) .nil)))) (.cons (.asg 2 (.call 37 (.cons (.var 0) (.cons (.var 1) (.cons (.cst (.int 2)) .nil))))) (.cons (.iff (.nt (.call 45 (.cons (.var 1) (.cons (.var 2) .nil)))) (.cons (.ret (.cst (.bl false))) .nil) .nil) (.cons (.for (.nm 3) (.rng1 (.cst (.int 5))) b46_1) (.cons (.for (.nm 3) (.rng1 (.cst (.int 2))) b46_2) (.cons (.ret (.cst (.bl true))) .nil)))))
def f46 : FnI := ⟨"_law_right", L2.defArgs (top 67), ["_law_pot_here", "_law_kind_here", "_law_view_here", "_law_turn"], L2.defScope (top 67), L2.defBody (top 67), ⟨1, 4, b46⟩⟩
/-- law -/
def b47 : Ss := .cons (.ret (.call 46 (.cons (.call 26 (.cons (.var 0) (.cons (.cst (.int 0)) .nil))) .nil))) .nil
def f47 : FnI := ⟨"law", L2.defArgs (top 68), ["_law_script"], L2.defScope (top 68), L2.defBody (top 68), ⟨1, 1, b47⟩⟩
def clsDef (i j : Nat) : Stmt := match top i with
  | .ClassDef (body := b) .. => b.getD j (.Pass ⟨0, 0, 0, 0⟩)
  | s => s
def e0 : ExI := ⟨"InvalidKind", L2.defArgs (clsDef 2 0), L2.defBody (clsDef 2 0), L2.defScope (clsDef 2 0), "InvalidKind.__init__"⟩
def e1 : ExI := ⟨"InvalidView", L2.defArgs (clsDef 3 0), L2.defBody (clsDef 3 0), L2.defScope (clsDef 3 0), "InvalidView.__init__"⟩
def gv : List (Str × GV) := [("MOST_TABLE_STATES", .v (.int 8)), ("MOST_ROW", .v (.int 20)), ("MOST_POINTS", .v (.int 6)), ("MOST_TIES", .v (.int 15)), ("MOST_DEEP", .v (.int 4)), ("MOST_KINDS", .v (.int 12)), ("MOST_NAME", .v (.int 8)), ("LETTERS", .v (.str [97, 98, 99, 100, 101, 102, 103, 104, 105, 106, 107, 108, 109, 110, 111, 112, 113, 114, 115, 116, 117, 118, 119, 120, 121, 122])), ("SIDES", .t [([109, 97, 112], .int 1), ([112, 97, 105, 114], .int 2), ([108, 97, 116, 101, 114], .int 2), ([97, 98, 111, 118, 101], .int 2)]), ("MOST_VIEW_DEEP", .v (.int 5)), ("MOST_VIEWS", .v (.int 12)), ("MOST_TOLD_NAMES", .v (.int 6))]
def pg : PgD := ⟨[f0, f1, f2, f3, f4, f5, f6, f7, f8, f9, f10, f11, f12, f13, f14, f15, f16, f17, f18, f19, f20, f21, f22, f23, f24, f25, f26, f27, f28, f29, f30, f31, f32, f33, f34, f35, f36, f37, f38, f39, f40, f41, f42, f43, f44, f45, f46, f47], [e0, e1], "value", gv⟩
@[simp] theorem gl_0 : pg.gl 0 = some (.v (.int 8)) := rfl
@[simp] theorem gl_1 : pg.gl 1 = some (.v (.int 20)) := rfl
@[simp] theorem gl_2 : pg.gl 2 = some (.v (.int 6)) := rfl
@[simp] theorem gl_3 : pg.gl 3 = some (.v (.int 15)) := rfl
@[simp] theorem gl_4 : pg.gl 4 = some (.v (.int 4)) := rfl
@[simp] theorem gl_5 : pg.gl 5 = some (.v (.int 12)) := rfl
@[simp] theorem gl_6 : pg.gl 6 = some (.v (.int 8)) := rfl
@[simp] theorem gl_7 : pg.gl 7 = some (.v (.str [97, 98, 99, 100, 101, 102, 103, 104, 105, 106, 107, 108, 109, 110, 111, 112, 113, 114, 115, 116, 117, 118, 119, 120, 121, 122])) := rfl
@[simp] theorem gl_8 : pg.gl 8 = some (.t [([109, 97, 112], .int 1), ([112, 97, 105, 114], .int 2), ([108, 97, 116, 101, 114], .int 2), ([97, 98, 111, 118, 101], .int 2)]) := rfl
@[simp] theorem gl_9 : pg.gl 9 = some (.v (.int 5)) := rfl
@[simp] theorem gl_10 : pg.gl 10 = some (.v (.int 12)) := rfl
@[simp] theorem gl_11 : pg.gl 11 = some (.v (.int 6)) := rfl
end K62
end
section -- N1
namespace K62
open RX
theorem is_integer {n : Nat} {v : D} {c : Cells} : RX.run (tbl pg.T) pg.gl (n + 1) 0 [.d v] c = .ok (.d (.bl (v.isTy .int && !v.isTy .bool))) c := by
  rw [run_eq (fn := f0.fn) rfl rfl]
  simp [f0, b0]
  cases v.isTy .int <;> simp
theorem is_count {n : Nat} {v : D} {c : Cells} : RX.run (tbl pg.T) pg.gl (n + 2) 1 [.d v] c = .ok (.d (.bl (match v with | .int i => decide (0 ≤ i) | _ => false))) c := by
  rw [run_eq (fn := f1.fn) rfl rfl]
  simp [f1, b1, is_integer]
  cases v <;> simp
theorem is_list {n : Nat} {v : D} {c : Cells} : RX.run (tbl pg.T) pg.gl (n + 1) 2 [.d v] c = .ok (.d (.bl (v.isTy .list || v.isTy .tuple))) c := by
  rw [run_eq (fn := f2.fn) rfl rfl]
  simp [f2, b2]
def letters : List Nat := [97, 98, 99, 100, 101, 102, 103, 104, 105, 106, 107, 108, 109, 110, 111, 112, 113, 114, 115, 116, 117, 118, 119, 120, 121, 122]
def nameB : D → Bool
  | .str s => decide (1 ≤ s.length) && decide (s.length ≤ 8) && s.all fun c => decide (c ∈ letters)
  | _ => false
theorem is_name_word {n : Nat} {v : D} {c : Cells} (hv : v.sz ≤ szLine) : RX.run (tbl pg.T) pg.gl (n + 1) 5 [.d v] c = .ok (.d (.bl (nameB v))) c := by
  rw [run_eq (fn := f5.fn) rfl rfl]
  cases v with
  | str s =>
    have hl : s.length ≤ szLine := by
      unfold D.sz at hv
      omega
    by_cases h1 : (1 : Int) ≤ s.length
    · by_cases h2 : (s.length : Int) ≤ 8
      · simp [f5, b5, b_len_s, hl, h1, h2]
        rw [lcRun_map (g := fun x => match x with | .str [k] => .bl (decide (k ∈ letters)) | _ => .non)]
        · have e : List.map (fun x => match x with | D.str [k] => D.bl (decide (k ∈ letters)) | _ => .non) (List.map (fun c => D.str [c]) s) = s.map fun k => D.bl (decide (k ∈ letters)) := by
            rw [List.map_map]
            rfl
          have z1 : 1 ≤ s.length := by omega
          have z2 : s.length ≤ 8 := by omega
          simp [e, hl, nameB, z1, z2]
        · intro x hx
          simp at hx
          obtain ⟨k, hk, rfl⟩ := hx
          simp [letters]
      · simp [f5, b5, b_len_s, hl, h1, h2, nameB]
        omega
    · simp [f5, b5, b_len_s, hl, h1, nameB]
      omega
  | _ => simp [f5, b5, nameB]
/-- a list or a tuple -/
def seqB (v : D) : Bool := v.isTy .list || v.isTy .tuple
def namesL (xs : List D) : Bool := decide (xs.length ≤ 6) && xs.all nameB && distB xs
def namesB (v : D) : Bool := match v.items with
  | some xs => namesL xs
  | none => false
theorem name_depth {x : D} (h : nameB x = true) : x.depth = 0 := by
  cases x <;> first | rfl | cases h
theorem are_unlike_names {n : Nat} {v : D} {c : Cells} (hv : v.sz ≤ szLine) : RX.run (tbl pg.T) pg.gl (n + 2) 13 [.d v] c = .ok (.d (.bl (namesB v))) c := by
  rw [run_eq (fn := f13.fn) rfl rfl]
  have main : ∀ xs : List D, (v = .lst xs ∨ v = .tup xs) → fin (exs (RX.run (tbl pg.T) pg.gl (n + 1)) pg.gl (f13.fn).body ([Vl.d v].map Sl.v ++ List.replicate ((f13.fn).slots - (f13.fn).arity) .no) c) = .ok (.d (.bl (namesL xs))) c := fun xs hx => by
    have hz : D.szs xs ≤ szLine := by
      rcases hx with e | e <;> (subst e; unfold D.sz at hv; omega)
    have hl : xs.length ≤ szLine := Nat.le_trans (szs_len xs) hz
    by_cases h1 : (6 : Int) < xs.length
    · have z1 : ¬ xs.length ≤ 6 := by omega
      rcases hx with e | e <;> (subst e; simp [f13, b13, is_list, h1, namesL, z1])
    · have z1 : xs.length ≤ 6 := by omega
      have turn : ∀ x ∈ xs, RX.run (tbl pg.T) pg.gl (n + 1) 5 [.d x] c = .ok (.d (.bl (nameB x))) c := fun x hx => is_name_word (by have := sz_mem hx; omega)
      have turn2 : ∀ p ∈ enumI 0 xs, ∃ (k : Nat) (x : D), p = .tup [.int (k : Int), x] ∧ x ∈ xs := fun p hp => by
        obtain ⟨k, x, e1, e2⟩ := enumI_mem hp
        exact ⟨k, x, e1, List.mem_of_getElem? e2⟩
      have el := enumI_len xs
      have fin2 : xs.all nameB = true → ∀ w, (w = D.lst xs ∨ w = D.tup xs) → ∀ p ∈ enumI 0 xs, ∃ (k : Nat) (x : D), p = .tup [.int (k : Int), x] ∧ Cop.run .nin x (.lst (xs.take k)) = some (!mems x (xs.take k)) ∧ Cop.run .nin x (.tup (xs.take k)) = some (!mems x (xs.take k)) := fun ha w _ p hp => by
        obtain ⟨k, x, e1, e2⟩ := turn2 p hp
        have hd := name_depth (List.all_eq_true.mp ha x e2)
        have : min (D.depths (xs.take k)) x.depth ≤ 64 := by rw [hd]; omega
        exact ⟨k, x, e1, by simp [Cop.run, this], by simp [Cop.run, this]⟩
      have gdef : (fun p => D.bl (match p with | D.tup [.int k, x] => !mems x (xs.take k.toNat) | _ => false)) = fun p => D.bl ((fun p => match p with | D.tup [.int k, x] => !mems x (xs.take k.toNat) | _ => false) p) := rfl
      by_cases h2 : xs.all nameB = true
      · rcases hx with e | e
        · subst e
          simp [f13, b13, is_list, h1]
          rw [lcRun_map (g := fun x => .bl (nameB x)) (fun x hx => by simp [turn x hx])]
          simp [hl, h2]
          rw [lcRun_map (g := fun p => .bl ((fun p => match p with | D.tup [.int k, x] => !mems x (xs.take k.toNat) | _ => false) p)) (fun p hp => by
            obtain ⟨k, x, e1, e2, e3⟩ := fin2 h2 _ (.inl rfl) p hp
            subst e1
            simp [D.slc, e2])]
          have : ((enumI 0 xs).map fun p => D.bl ((fun p => match p with | D.tup [.int k, x] => !mems x (xs.take k.toNat) | _ => false) p)).length ≤ szLine := by rw [List.length_map, el]; exact hl
          simp only [this, if_true, b_all_map]
          simp [namesL, h2, z1]
          rfl
        · subst e
          simp [f13, b13, is_list, h1]
          rw [lcRun_map (g := fun x => .bl (nameB x)) (fun x hx => by simp [turn x hx])]
          simp [hl, h2]
          rw [lcRun_map (g := fun p => .bl ((fun p => match p with | D.tup [.int k, x] => !mems x (xs.take k.toNat) | _ => false) p)) (fun p hp => by
            obtain ⟨k, x, e1, e2, e3⟩ := fin2 h2 _ (.inl rfl) p hp
            subst e1
            simp [D.slc, e3])]
          have : ((enumI 0 xs).map fun p => D.bl ((fun p => match p with | D.tup [.int k, x] => !mems x (xs.take k.toNat) | _ => false) p)).length ≤ szLine := by rw [List.length_map, el]; exact hl
          simp only [this, if_true, b_all_map]
          simp [namesL, h2, z1]
          rfl
      · have h3 : xs.all nameB = false := by simpa using h2
        rcases hx with e | e <;>
        · subst e
          simp [f13, b13, is_list, h1]
          rw [lcRun_map (g := fun x => .bl (nameB x)) (fun x hx => by simp [turn x hx])]
          simp [hl, h3, namesL]
  cases v with
  | lst xs => exact main xs (.inl rfl)
  | tup xs => exact main xs (.inr rfl)
  | _ => simp [f13, b13, is_list, namesB]
def isPr : D → Bool
  | .tup [_, _] => true
  | _ => false
def prF : D → D
  | .tup [a, _] => a
  | d => d
def prS : D → D
  | .tup [_, b] => b
  | d => d
theorem isPr_of {d : D} (h : isPr d = true) : ∃ a b, d = .tup [a, b] := by
  cases d <;> first | (cases h; done) | skip
  rename_i xs
  match xs, h with
  | [a, b], _ => exact ⟨a, b, rfl⟩
def pairsL (xs : List D) : Bool := xs.all isPr && namesL (xs.map prF) && xs.all fun p => nameB (prS p)
def pairsB (v : D) : Bool := match v.items with
  | some xs => pairsL xs
  | none => false
theorem szs_prF : ∀ {xs : List D}, xs.all isPr = true → D.szs (xs.map prF) ≤ D.szs xs
  | [], _ => Nat.le_refl _
  | x :: xs, h => by
    rw [List.all_cons, Bool.and_eq_true] at h
    obtain ⟨a, b, rfl⟩ := isPr_of h.1
    have := szs_prF h.2
    have e1 : D.szs ((D.tup [a, b] :: xs).map prF) = a.sz + 2 + D.szs (xs.map prF) := rfl
    have e2 : D.szs (D.tup [a, b] :: xs) = ((a.sz + 2 + (b.sz + 2 + 0)) + 3) + 2 + D.szs xs := rfl
    omega
theorem law_is_name {n : Nat} {v : D} {c : Cells} (hv : v.sz ≤ szLine) : RX.run (tbl pg.T) pg.gl (n + 1) 38 [.d v] c = .ok (.d (.bl (nameB v))) c := by
  rw [run_eq (fn := f38.fn) rfl rfl]
  cases v with
  | str s =>
    have hl : s.length ≤ szLine := by
      unfold D.sz at hv
      omega
    by_cases h1 : (1 : Int) ≤ s.length
    · by_cases h2 : (s.length : Int) ≤ 8
      · simp [f38, b38, b_len_s, hl, h1, h2]
        rw [lcRun_ok (g := fun x => match x with | .str [k] => if k ∈ letters then none else some x | _ => none)]
        · have z1 : 1 ≤ s.length := by omega
          have z2 : s.length ≤ 8 := by omega
          have hlen : (List.filterMap (fun x => match x with | D.str [k] => if k ∈ letters then none else some x | _ => none) (List.map (fun c => D.str [c]) s)).length ≤ szLine := Nat.le_trans (filterMap_len _) (by simpa using hl)
          simp only [hlen, if_true]
          simp [nameB, z1, z2]
          rw [filterMap_none]
          congr 1
          funext k
          show (if k ∈ letters then none else some (D.str [k])).isNone = _
          by_cases hk : k ∈ letters <;> simp [hk]
        · intro x hx
          simp at hx
          obtain ⟨k, hk, rfl⟩ := hx
          by_cases hk : k ∈ letters <;> (simp [letters] at hk; simp [letters, hk])
      · simp [f38, b38, b_len_s, hl, h1, h2, nameB]
        omega
    · simp [f38, b38, b_len_s, hl, h1, nameB]
      omega
  | _ => simp [f38, b38, nameB]
end K62
end
section -- N2
namespace K62
open RX
theorem law_are_names {n : Nat} {v : D} {c : Cells} (hv : v.sz ≤ szLine) : RX.run (tbl pg.T) pg.gl (n + 2) 39 [.d v] c = .ok (.d (.bl (namesB v))) c := by
  rw [run_eq (fn := f39.fn) rfl rfl]
  have main : ∀ xs : List D, (v = .lst xs ∨ v = .tup xs) → fin (exs (RX.run (tbl pg.T) pg.gl (n + 1)) pg.gl (f39.fn).body ([Vl.d v].map Sl.v ++ List.replicate ((f39.fn).slots - (f39.fn).arity) .no) c) = .ok (.d (.bl (namesL xs))) c := fun xs hx => by
    have hz : D.szs xs ≤ szLine := by
      rcases hx with e | e <;> (subst e; unfold D.sz at hv; omega)
    have hl : xs.length ≤ szLine := Nat.le_trans (szs_len xs) hz
    by_cases h1 : (6 : Int) < xs.length
    · have z1 : ¬ xs.length ≤ 6 := by omega
      rcases hx with e | e <;> (subst e; simp [f39, b39, h1, namesL, z1])
    · have z1 : xs.length ≤ 6 := by omega
      have turn : ∀ x ∈ xs, RX.run (tbl pg.T) pg.gl (n + 1) 38 [.d x] c = .ok (.d (.bl (nameB x))) c := fun x hx => law_is_name (by have := sz_mem hx; omega)
      have el := enumI_len xs
      by_cases h2 : xs.all nameB = true
      · have fin2 : ∀ p ∈ enumI 0 xs, ∃ (k : Nat) (x : D), p = .tup [.int (k : Int), x] ∧ Cop.run .inn x (.lst (xs.take k)) = some (mems x (xs.take k)) ∧ Cop.run .inn x (.tup (xs.take k)) = some (mems x (xs.take k)) := fun p hp => by
          obtain ⟨k, x, e1, e2⟩ := enumI_mem hp
          have hd := name_depth (List.all_eq_true.mp h2 x (List.mem_of_getElem? e2))
          have : min (D.depths (xs.take k)) x.depth ≤ 64 := by rw [hd]; omega
          exact ⟨k, x, e1, by simp [Cop.run, this], by simp [Cop.run, this]⟩
        have hlen : ∀ g : D → Option D, ((enumI 0 xs).filterMap g).length ≤ szLine := fun g => Nat.le_trans (filterMap_len _) (by rw [el]; exact hl)
        have res : ((enumI 0 xs).filterMap fun p => match p with | D.tup [.int k, x] => if mems x (xs.take k.toNat) then some (D.int k) else none | _ => none).isEmpty = distB xs := by
          rw [filterMap_none]
          unfold distB
          refine all_mem fun p hp => ?_
          obtain ⟨k, x, e1, _⟩ := enumI_mem hp
          subst e1
          show (if mems x (xs.take k) = true then some (D.int k) else none).isNone = !mems x (xs.take k)
          cases mems x (xs.take k) <;> rfl
        rcases hx with e | e <;>
        · subst e
          simp [f39, b39, h1]
          rw [lcRun_map (g := fun x => .bl (nameB x)) (fun x hx => by simp [turn x hx])]
          simp [hl, h2]
          rw [lcRun_ok (g := fun p => match p with | D.tup [.int k, x] => if mems x (xs.take k.toNat) then some (D.int k) else none | _ => none) (fun p hp => by
            obtain ⟨k, x, e1, e2, e3⟩ := fin2 p hp
            subst e1
            cases hm : mems x (xs.take k) <;> simp [D.slc, e2, e3, hm])]
          simp only [hlen, if_true]
          simp [res, namesL, h2, z1]
      · have h3 : xs.all nameB = false := by simpa using h2
        rcases hx with e | e <;>
        · subst e
          simp [f39, b39, h1]
          rw [lcRun_map (g := fun x => .bl (nameB x)) (fun x hx => by simp [turn x hx])]
          simp [hl, h3, namesL]
  cases v with
  | lst xs => exact main xs (.inl rfl)
  | tup xs => exact main xs (.inr rfl)
  | _ => simp [f39, b39, namesB]
theorem are_name_pairs {n : Nat} {v : D} {c : Cells} (hv : v.sz ≤ szLine) : RX.run (tbl pg.T) pg.gl (n + 3) 14 [.d v] c = .ok (.d (.bl (pairsB v))) c := by
  rw [run_eq (fn := f14.fn) rfl rfl]
  have main : ∀ xs : List D, (v = .lst xs ∨ v = .tup xs) → fin (exs (RX.run (tbl pg.T) pg.gl (n + 2)) pg.gl (f14.fn).body ([Vl.d v].map Sl.v ++ List.replicate ((f14.fn).slots - (f14.fn).arity) .no) c) = .ok (.d (.bl (pairsL xs))) c := fun xs hx => by
    have hz : D.szs xs ≤ szLine - 2 ∨ True := .inr trivial
    have hz2 : D.szs xs + 2 ≤ szLine := by
      rcases hx with e | e <;> (subst e; unfold D.sz at hv; omega)
    have hl : xs.length ≤ szLine := Nat.le_trans (szs_len xs) (by omega)
    have turn : ∀ x ∈ xs, isPr x = false → ((∃ ys : List D, x = .tup ys ∧ ¬ (ys.length : Int) = 2) ∨ x.isTy .tuple = false) := fun x hx0 h => by
      clear hx0
      cases x <;> first | exact .inr rfl | skip
      rename_i ys
      refine .inl ⟨ys, rfl, fun e => ?_⟩
      match ys, h, e with
      | [a, b], h, _ => cases h
      | [], _, e => simp at e
      | [_], _, e => simp at e
      | _ :: _ :: _ :: _, _, e => simp at e; omega
    have t1 : ∀ x ∈ xs, isPr x = true ∨ isPr x = false := fun x _ => by cases isPr x <;> simp
    have first : ∀ (f : D → M (Option D)), (∀ x ∈ xs, f x c = .ok (some (.bl (isPr x))) c) → lcRun f xs c = .ok (xs.map fun x => .bl (isPr x)) c := fun f h => lcRun_map h
    by_cases h2 : xs.all isPr = true
    · have el : ∀ x ∈ xs, ∃ a b, x = .tup [a, b] := fun x hx => isPr_of (List.all_eq_true.mp h2 x hx)
      have call1 : RX.run (tbl pg.T) pg.gl (n + 2) 13 [.d (.lst (xs.map prF))] c = .ok (.d (.bl (namesL (xs.map prF)))) c := are_unlike_names (by
        have := szs_prF h2
        unfold D.sz
        omega)
      have call2 : ∀ x ∈ xs, RX.run (tbl pg.T) pg.gl (n + 2) 5 [.d (prS x)] c = .ok (.d (.bl (nameB (prS x)))) c := fun x hx => is_name_word (by
        obtain ⟨a, b, rfl⟩ := el x hx
        have := sz_mem hx
        have e2 : (D.tup [a, b]).sz = (a.sz + 2 + (b.sz + 2 + 0)) + 3 := rfl
        show b.sz ≤ _
        omega)
      rcases hx with e | e <;>
      · subst e
        simp [f14, b14, is_list]
        rw [lcRun_map (g := fun x => .bl (isPr x)) (fun x hx => by
          obtain ⟨a, b, rfl⟩ := el x hx
          simp [isPr])]
        simp [hl, h2]
        rw [lcRun_map (g := prF) (fun x hx => by
          obtain ⟨a, b, rfl⟩ := el x hx
          simp [D.idx, getAt, ixAt, prF])]
        simp [hl, call1]
        cases hn : namesL (xs.map prF) with
        | false => simp [pairsL, hn]
        | true =>
          simp
          rw [lcRun_map (g := fun x => .bl (nameB (prS x))) (fun x hx => by
            have := call2 x hx
            obtain ⟨a, b, rfl⟩ := el x hx
            simp [D.idx, getAt, ixAt]
            simp [prS] at this
            simp [this, prS])]
          simp [hl, pairsL, hn, h2]
    · have h3 : xs.all isPr = false := by simpa using h2
      rcases hx with e | e <;>
      · subst e
        simp [f14, b14, is_list]
        rw [lcRun_map (g := fun x => .bl (isPr x)) (fun x hx => by
          rcases t1 x hx with q | q
          · obtain ⟨a, b, rfl⟩ := isPr_of q
            simp [isPr]
          · rcases turn x hx q with ⟨ys, rfl, q2⟩ | q2
            · simp [q, q2]
            · simp [q2, q])]
        simp [hl, h3, pairsL]
  cases v with
  | lst xs => exact main xs (.inl rfl)
  | tup xs => exact main xs (.inr rfl)
  | _ => simp [f14, b14, is_list, pairsB]
theorem law_are_renamed {n : Nat} {v : D} {c : Cells} (hv : v.sz ≤ szLine) : RX.run (tbl pg.T) pg.gl (n + 3) 40 [.d v] c = .ok (.d (.bl (pairsB v))) c := by
  rw [run_eq (fn := f40.fn) rfl rfl]
  have main : ∀ xs : List D, (v = .lst xs ∨ v = .tup xs) → fin (exs (RX.run (tbl pg.T) pg.gl (n + 2)) pg.gl (f40.fn).body ([Vl.d v].map Sl.v ++ List.replicate ((f40.fn).slots - (f40.fn).arity) .no) c) = .ok (.d (.bl (pairsL xs))) c := fun xs hx => by
    have hz2 : D.szs xs + 2 ≤ szLine := by
      rcases hx with e | e <;> (subst e; unfold D.sz at hv; omega)
    have hl : xs.length ≤ szLine := Nat.le_trans (szs_len xs) (by omega)
    by_cases h1 : (6 : Int) < xs.length
    · have z1 : ¬ xs.length ≤ 6 := by omega
      rcases hx with e | e <;> (subst e; simp [f40, b40, h1, pairsL, namesL, z1])
    · have z1 : xs.length ≤ 6 := by omega
      let p : D → Bool := fun x => isPr x && nameB (prS x)
      have call1 : ∀ a b, D.tup [a, b] ∈ xs → RX.run (tbl pg.T) pg.gl (n + 2) 38 [.d b] c = .ok (.d (.bl (nameB b))) c := fun a b hx => law_is_name (by
        have := sz_mem hx
        have e2 : (D.tup [a, b]).sz = (a.sz + 2 + (b.sz + 2 + 0)) + 3 := rfl
        omega)
      have hp : pairsL xs = (xs.all p && namesL (xs.map prF)) := by
        unfold pairsL
        have : xs.all p = (xs.all isPr && xs.all fun q => nameB (prS q)) := by
          clear hx hz2 hl h1 z1 call1
          induction xs with
          | nil => rfl
          | cons x xs ih =>
            simp only [List.all_cons, ih, p]
            cases isPr x <;> cases nameB (prS x) <;> simp
        rw [this]
        cases xs.all isPr <;> cases (xs.all fun q => nameB (prS q)) <;> cases namesL (xs.map prF) <;> rfl
      have body : ∀ (w : D) x env, x ∈ xs → (∃ u', env = [.v (.d w), u']) → ∃ env1, (Tg.nm 1).bind x env = some env1 ∧ ((p x = true ∧ ∃ env', (∃ u', env' = [.v (.d w), u']) ∧ exs (RX.run (tbl pg.T) pg.gl (n + 2)) pg.gl b40_1 env1 c = .nx env' c) ∨ (p x = false ∧ exs (RX.run (tbl pg.T) pg.gl (n + 2)) pg.gl b40_1 env1 c = .rt (.d (.bl false)) c)) := fun w x env hx he => by
        obtain ⟨u', rfl⟩ := he
        refine ⟨[.v (.d w), .v (.d x)], rfl, ?_⟩
        cases hp : isPr x with
        | true =>
          obtain ⟨a, b, rfl⟩ := isPr_of hp
          have c1 := call1 a b hx
          cases hn : nameB b with
          | true => exact .inl ⟨by simp [p, isPr, prS, hn], [.v (.d w), .v (.d (.tup [a, b]))], ⟨_, rfl⟩, by simp [b40_1, D.idx, getAt, ixAt, c1, hn]⟩
          | false => exact .inr ⟨by simp [p, isPr, prS, hn], by simp [b40_1, D.idx, getAt, ixAt, c1, hn]⟩
        | false =>
          refine .inr ⟨by simp [p, hp], ?_⟩
          cases x with
          | tup ys =>
            have h2 : ¬ (ys.length : Int) = 2 := fun e => by
              match ys, hp, e with
              | [a, b], h, _ => cases h
              | [], _, e => simp at e
              | [_], _, e => simp at e
              | _ :: _ :: _ :: _, _, e => simp at e; omega
            simp [b40_1, h2]
          | _ => simp [b40_1]
      have loop := for_all (call := RX.run (tbl pg.T) pg.gl (n + 2)) (gl := pg.gl) (t := .nm 1) (s := .seq (.var 0)) (b := b40_1) (p := p) (v0 := .d (.bl false)) (c := c) (xs := xs) (env := [.v (.d v), .no]) (by rcases hx with e | e <;> (subst e; simp)) (body v) ⟨Sl.no, rfl⟩
      rcases hx with e | e <;>
      · subst e
        rcases loop with ⟨q1, env', ⟨u', rfl⟩, q2⟩ | ⟨q1, q2⟩
        · have h2 : xs.all isPr = true := by
            rw [List.all_eq_true] at q1 ⊢
            intro x hx
            have := q1 x hx
            simp [p] at this
            exact this.1
          have el : ∀ x ∈ xs, ∃ a b, x = .tup [a, b] := fun x hx => isPr_of (List.all_eq_true.mp h2 x hx)
          have call2 : RX.run (tbl pg.T) pg.gl (n + 2) 39 [.d (.lst (xs.map prF))] c = .ok (.d (.bl (namesL (xs.map prF)))) c := law_are_names (by
            have := szs_prF h2
            unfold D.sz
            omega)
          simp [f40, b40, h1, q2]
          rw [lcRun_map (g := prF) (fun x hx => by
            obtain ⟨a, b, rfl⟩ := el x hx
            simp [D.idx, getAt, ixAt, prF])]
          simp [hl, call2, hp, q1]
        · simp [f40, b40, h1, q2, hp, q1]
  cases v with
  | lst xs => exact main xs (.inl rfl)
  | tup xs => exact main xs (.inr rfl)
  | _ => simp [f40, b40, pairsB]
end K62
end
section -- K1
namespace K62
open RX
theorem wb_step {n : Nat} {L : D → Prop} {k0 : D} {ini : List (D × Nat)} {p : D × Nat} {met : Nat} {u3 u4 u5 : Sl} {c : Cells} (hp : KOk L p.1) (hd1 : 1 ≤ p.2) (hl : (ini ++ [p]).length ≤ met + 1) (hm : met ≤ 12) :
    (¬ (p.2 ≤ 4 ∧ met + 1 ≤ 12) ∧ exs (RX.run (tbl pg.T) pg.gl n) pg.gl b15_1 [.v (.d k0), .v (.d (.int met)), .own ((ini ++ [p]).map wtD), u3, u4, u5] c = .rt (.d (.bl false)) c) ∨
    ((p.2 ≤ 4 ∧ met + 1 ≤ 12) ∧ ∃ u3' u4' u5' kids, exs (RX.run (tbl pg.T) pg.gl n) pg.gl b15_1 [.v (.d k0), .v (.d (.int met)), .own ((ini ++ [p]).map wtD), u3, u4, u5] c = .nx [.v (.d k0), .v (.d (.int ((met + 1 : Nat) : Int))), .own ((ini ++ kids).map wtD), u3', u4', u5'] c ∧
      kids.length ≤ 2 ∧ (∀ q ∈ kids, KOk L q.1) ∧ wtMany kids + 1 = manyF p.1 ∧ (p.2 ≤ 4 → wtDeep kids = decide (p.2 - 1 + deepF p.1 ≤ 4)) ∧ ∀ q ∈ kids, 1 ≤ q.2) := by
  obtain ⟨k, d⟩ := p
  obtain ⟨w, r, rfl, hs⟩ := hp.shape
  by_cases h1 : (4 : Int) < d
  · refine .inl ⟨by omega, ?_⟩
    simp [b15_1, exS_popT, wtD, setsE, h1]
  · by_cases h2 : (12 : Int) < (met : Int) + 1
    · refine .inl ⟨by omega, ?_⟩
      simp [b15_1, exS_popT, wtD, setsE, h1, h2]
    · refine .inr ⟨by omega, ?_⟩
      have z2 : ¬ (12 : Int) < ((met : Int) + 1) := h2
      have zl : ini.length ≤ 12 := by simp at hl; omega
      cases hw : sideB w with
      | false =>
        have hw' := hw
        unfold sideB at hw'
        refine ⟨.v (.d (.tup (.str w :: r))),   .v (.d (.int d)), u5, [], ?_, by simp, by simp, ?_, ?_, by simp⟩
        · simp [b15_1, exS_popT, wtD, setsE, h1, h2, D.idx, getAt, ixAt, hw']
        · show 0 + 1 = manyF (.tup (.str w :: r))
          unfold manyF
          rw [hw]
          rfl
        · intro hd
          have : deepF (.tup (.str w :: r)) = 1 := by unfold deepF; rw [hw]; rfl
          rw [this]
          have : d - 1 + 1 ≤ 4 := by omega
          simp [wtDeep, this]
      | true =>
        have hw' := hw
        unfold sideB at hw'
        obtain ⟨hr0, hr, hk⟩ := hs hw
        refine ⟨.v (.d (.tup (.str w :: r))), .v (.d (.int d)), u5, r.map fun x => (x, d + 1), ?_, by simpa using hr, fun q hq => ?_, ?_, ?_, fun q hq => ?_⟩
        · simp [b15_1, exS_popT, exS_ext, wtD, setsE, h1, h2, D.idx, getAt, ixAt, hw', D.slc]
          rw [lcRun_map (g := fun x => .tup [x, .int ((d : Int) + 1)]) (fun x hx => by simp)]
          have q1 : r.length ≤ szLine := Nat.le_trans hr (by decide)
          have q2 : ini.length + r.length ≤ szLine := Nat.le_trans (show ini.length + r.length ≤ 14 by omega) (by decide)
          simp [q1, q2]
          intro x _
          rfl
        · obtain ⟨x, hx, rfl⟩ := List.mem_map.mp hq
          exact hk x hx
        · show wtMany (r.map fun x => (x, d + 1)) + 1 = manyF (.tup (.str w :: r))
          rw [wtMany_kids]
          unfold manyF
          rw [hw]
          rfl
        · intro hd
          have e : deepF (.tup (.str w :: r)) = deepFs r + 1 := by unfold deepF; rw [hw]; rfl
          have hd1 : 1 ≤ d := hd1
          rw [e, wtDeep_kids]
          have : r.isEmpty = false := by
            cases r with
            | nil => exact absurd rfl hr0
            | cons _ _ => rfl
          rw [this, Bool.or_false]
          have : d - 1 + (deepFs r + 1) = d + deepFs r := by omega
          rw [this]
        · obtain ⟨x, hx, rfl⟩ := List.mem_map.mp hq
          exact Nat.le_add_left 1 d
theorem is_within_bounds {n : Nat} {L : D → Prop} {k : D} {c : Cells} (hk : KOk L k) : RX.run (tbl pg.T) pg.gl (n + 1) 15 [.d k] c = .ok (.d (.bl (fitB k))) c := by
  rw [run_eq (fn := f15.fn) rfl rfl]
  let J : EnvD → Cells → Nat → Prop := fun env c' m => c' = c ∧ ∃ (met : Nat) (st : List (D × Nat)) (u3 u4 u5 : Sl), env = [.v (.d k), .v (.d (.int met)), .own (st.map wtD), u3, u4, u5] ∧ met ≤ 12 ∧ st.length ≤ met + 1 ∧ (∀ q ∈ st, KOk L q.1 ∧ 1 ≤ q.2) ∧ m = wtMany st ∧
    fitB k = (wtDeep st && decide (met + wtMany st ≤ 12))
  let P : SR → Prop := fun r => (fitB k = true ∧ ∃ env, r = .nx env c) ∨ (fitB k = false ∧ r = .rt (.d (.bl false)) c)
  have loop := whl_rule (J := J) (P := P) (t := fun env => M.bind (ev (RX.run (tbl pg.T) pg.gl n) pg.gl (.cmp .ne (.var 2) (.lst .nil)) true env) truM) (b := exs (RX.run (tbl pg.T) pg.gl n) pg.gl b15_1) (fun env c' m ⟨hc, met, st, u3, u4, u5, he, hm, hl, hs, hmm, hf⟩ => by
    subst hc he
    rcases List.eq_nil_or_concat st with e | ⟨ini, p, e⟩
    · subst e
      refine .inl ⟨by simp, .inl ⟨?_, _, rfl⟩⟩
      rw [hf]
      simp [wtDeep, wtMany, hm]
    · rw [List.concat_eq_append] at e
      subst e
      have hp := hs p (by simp)
      refine .inr ⟨by simp, ?_⟩
      have hmy := manyF_pos p.1
      have hdp := deepF_pos p.1
      have hsum : wtMany (ini ++ [p]) = wtMany ini + manyF p.1 := by rw [wtMany_app]; rfl
      have hdd : wtDeep (ini ++ [p]) = (wtDeep ini && decide (p.2 - 1 + deepF p.1 ≤ 4)) := by unfold wtDeep; simp
      rcases wb_step (n := n) (k0 := k) (u3 := u3) (u4 := u4) (u5 := u5) (c := c') hp.1 hp.2 hl hm with ⟨h1, h2⟩ | ⟨h1, u3', u4', u5', kids, h2, h3, h4, h5, h6, h7⟩
      · refine .inr ⟨⟨_, _, h2⟩, .inr ⟨?_, h2⟩⟩
        rw [hf, hsum, hdd]
        by_cases q : p.2 ≤ 4
        · have : ¬ met + (wtMany ini + manyF p.1) ≤ 12 := by omega
          simp [this]
        · have : ¬ p.2 - 1 + deepF p.1 ≤ 4 := by omega
          simp [this]
      · refine .inl ⟨_, _, _, ?_, h2, rfl, met + 1, ini ++ kids, u3', u4', u5', rfl, by omega, ?_, fun q hq => ?_, rfl, ?_⟩
        · rw [wtMany_app, hmm, hsum]
          omega
        · simp at hl ⊢
          omega
        · rcases List.mem_append.mp hq with hq | hq
          · exact hs q (by simp [hq])
          · exact ⟨h4 q hq, h7 q hq⟩
        · rw [hf, hsum, hdd]
          have e1 : wtDeep (ini ++ kids) = (wtDeep ini && wtDeep kids) := by unfold wtDeep; simp
          rw [e1, h6 h1.1, wtMany_app]
          have e2 : met + 1 + (wtMany ini + wtMany kids) = met + (wtMany ini + manyF p.1) := by omega
          rw [e2])
  have start := loop (wtMany [(k, 1)]) [.v (.d k), .v (.d (.int 0)), .own ([(k, 1)].map wtD), .no, .no, .no] c ⟨rfl, 0, [(k, 1)], .no, .no, .no, rfl, by omega, by simp, fun q hq => by simp at hq; subst hq; exact ⟨hk, Nat.le_refl _⟩, rfl, by
    have e : 1 - 1 + deepF k = deepF k := by omega
    simp [fitB, wtDeep, wtMany]⟩
  rcases start with ⟨q1, env, q2⟩ | ⟨q1, q2⟩
  · have q2 : exS (RX.run (tbl pg.T) pg.gl n) pg.gl (.whl (.cmp .ne (.var 2) (.lst .nil)) b15_1) [.v (.d k), .v (.d (.int 0)), .own [.tup [k, .int 1]], .no, .no, .no] c = .nx env c := q2
    simp [f15, b15, slN, setsE, q2, q1]
  · have q2 : exS (RX.run (tbl pg.T) pg.gl n) pg.gl (.whl (.cmp .ne (.var 2) (.lst .nil)) b15_1) [.v (.d k), .v (.d (.int 0)), .own [.tup [k, .int 1]], .no, .no, .no] c = .rt (.d (.bl false)) c := q2
    simp [f15, b15, slN, setsE, q2, q1]
end K62
end
section -- K2
namespace K62
open RX
def ii (l : List Int) : D := .lst (l.map .int)
def pp (a b : Int) : D := .tup [.int a, .int b]
def wCount : List Nat := [99, 111, 117, 110, 116]
def wRow : List Nat := [114, 111, 119]
def wTops : List Nat := [116, 111, 112, 115]
def wTable : List Nat := [116, 97, 98, 108, 101]
def lvCount : D := .tup [.str wCount]
def lvTable : D := .tup [.str wTable, .lst [ii [0, 1, 2, 3], ii [1, 1, 3, 3], ii [2, 3, 2, 3], ii [3, 3, 3, 3]]]
def tiesL : List D := [.lst [], .lst [pp 0 1], .lst [pp 0 2, pp 1 2], .lst [pp 0 1, pp 1 2]]
def leaves : List D := [lvCount, .tup [.str wRow, .int 2], .tup [.str wRow, .int 3], lvTable] ++ tiesL.map fun t => .tup [.str wTops, .int 3, t]
def Lf (d : D) : Prop := d ∈ leaves
theorem map_at {α β : Type} {f g : α → β} : ∀ {l : List α}, l.map f = l.map g → ∀ x ∈ l, f x = g x
  | y :: l, h, x, hx => by
    rw [List.map_cons, List.map_cons] at h
    injection h with h1 h2
    rcases List.mem_cons.mp hx with e | hx
    · subst e; exact h1
    · exact map_at h2 x hx
theorem leaf_sides0 (c : Cells) : leaves.map (fun d => runN (tbl pg.T) pg.gl 60 12 9 [.d d] c) = leaves.map fun d => .ok (.d (.bl true)) c := by kernel_rfl
theorem leaf_told0 (c : Cells) : leaves.map (fun d => runN (tbl pg.T) pg.gl 60 12 11 [.d d] c) = leaves.map fun d => .ok (.d d) c := by kernel_rfl
theorem leaf_kinds : (leaves.all fun d => match d with | .tup (.str w :: r) => !sideB w && decide (D.depth d ≤ 4) && decide (D.sz d ≤ 300) && d.okC | _ => false) = true := by decide +kernel
theorem leaf_sides {n : Nat} {d : D} {c : Cells} (h : Lf d) : RX.run (tbl pg.T) pg.gl (n + 12) 9 [.d d] c = .ok (.d (.bl true)) c :=
  run_up (run_by (map_at (leaf_sides0 c) d h) (by simp)) (by simp) (Nat.le_add_left 12 n)
theorem leaf_told {n : Nat} {d : D} {c : Cells} (h : Lf d) : RX.run (tbl pg.T) pg.gl (n + 12) 11 [.d d] c = .ok (.d d) c :=
  run_up (run_by (map_at (leaf_told0 c) d h) (by simp)) (by simp) (Nat.le_add_left 12 n)
end K62
end
section -- K3
namespace K62
open RX
theorem side_sides {n : Nat} {w : List Nat} {r : List D} {c : Cells} (h : (w = wMap ∧ r.length = 1) ∨ ((w = wPair ∨ w = wLater ∨ w = wAbove) ∧ r.length = 2)) : RX.run (tbl pg.T) pg.gl (n + 1) 9 [.d (.tup (.str w :: r))] c = .ok (.d (.bl true)) c := by
  rw [run_eq (fn := f9.fn) rfl rfl]
  rcases h with ⟨rfl, h⟩ | ⟨rfl | rfl | rfl, h⟩ <;> simp [f9, b9, D.idx, getAt, ixAt, lookT, h]
theorem kind_sides {n : Nat} {k : D} {c : Cells} (h : KOk Lf k) : RX.run (tbl pg.T) pg.gl (n + 12) 9 [.d k] c = .ok (.d (.bl true)) c := by
  cases h with
  | leaf h1 h2 => exact leaf_sides h1
  | map h => exact side_sides (.inl ⟨rfl, rfl⟩)
  | two hw h1 h2 => exact side_sides (.inr ⟨hw, rfl⟩)
theorem sides_look (w : List Nat) : (lookT w [([109, 97, 112], .int 1), ([112, 97, 105, 114], .int 2), ([108, 97, 116, 101, 114], .int 2), ([97, 98, 111, 118, 101], .int 2)]).isSome = sideB w := by
  unfold lookT sideB
  by_cases h1 : [109, 97, 112] = w
  · subst h1; rfl
  · unfold lookT
    by_cases h2 : [112, 97, 105, 114] = w
    · subst h2; rfl
    · unfold lookT
      by_cases h3 : [108, 97, 116, 101, 114] = w
      · subst h3; rfl
      · unfold lookT
        by_cases h4 : [97, 98, 111, 118, 101] = w
        · subst h4; rfl
        · have e1 : ¬ w = [109, 97, 112] := fun e => h1 e.symm
          have e2 : ¬ w = [112, 97, 105, 114] := fun e => h2 e.symm
          have e3 : ¬ w = [108, 97, 116, 101, 114] := fun e => h3 e.symm
          have e4 : ¬ w = [97, 98, 111, 118, 101] := fun e => h4 e.symm
          simp [h1, h2, h3, h4, e1, e2, e3, e4, lookT]
theorem kv_step {n : Nat} {k0 : D} {ini : List (D × Nat)} {p : D × Nat} {met : Nat} {u3 u4 u5 : Sl} {c : Cells} (hp : KOk Lf p.1) (hd1 : 1 ≤ p.2) (hl : (ini ++ [p]).length ≤ met + 1) (hm : met + 1 ≤ 12) (hd : p.2 ≤ 4) :
    ∃ u3' u4' u5' kids, exs (RX.run (tbl pg.T) pg.gl (n + 12)) pg.gl b10_1 [.v (.d k0), .own ((ini ++ [p]).map wtD), .v (.d (.int met)), u3, u4, u5] c = .nx [.v (.d k0), .own ((ini ++ kids).map wtD), .v (.d (.int ((met + 1 : Nat) : Int))), u3', u4', u5'] c ∧
      kids.length ≤ 2 ∧ (∀ q ∈ kids, KOk Lf q.1) ∧ wtMany kids + 1 = manyF p.1 ∧ wtDeep kids = decide (p.2 - 1 + deepF p.1 ≤ 4) ∧ ∀ q ∈ kids, 1 ≤ q.2 := by
  obtain ⟨k, d⟩ := p
  have hp' := hp
  obtain ⟨w, r, rfl, hs⟩ := hp.shape
  have h1 : ¬ (4 : Int) < d := by
    have : d ≤ 4 := hd
    omega
  have h2 : ¬ (12 : Int) < (met : Int) + 1 := by omega
  have zl : ini.length ≤ 12 := by simp at hl; omega
  have hc := kind_sides (n := n) (c := c) hp'
  have hne : ¬ ((r.length : Int) + 1 = 0) := by omega
  cases hw : sideB w with
  | false =>
    refine ⟨.v (.d (.tup (.str w :: r))), .v (.d (.int d)), u5, [], ?_, by simp, by simp, ?_, ?_, by simp⟩
    · simp [b10_1, exS_popT, wtD, setsE, h1, h2, D.idx, getAt, ixAt, sides_look, hw, hc, hne]
    · show 0 + 1 = manyF (.tup (.str w :: r))
      unfold manyF
      rw [hw]
      rfl
    · have : deepF (.tup (.str w :: r)) = 1 := by unfold deepF; rw [hw]; rfl
      rw [this]
      have hd : d ≤ 4 := hd
      have : d - 1 + 1 ≤ 4 := by omega
      simp [wtDeep, this]
  | true =>
    obtain ⟨hr0, hr, hk⟩ := hs hw
    refine ⟨.v (.d (.tup (.str w :: r))), .v (.d (.int d)), u5, r.map fun x => (x, d + 1), ?_, by simpa using hr, fun q hq => ?_, ?_, ?_, fun q hq => ?_⟩
    · simp [b10_1, exS_popT, exS_ext, wtD, setsE, h1, h2, D.idx, getAt, ixAt, sides_look, hw, hc, hne, D.slc]
      rw [lcRun_map (g := fun x => .tup [x, .int ((d : Int) + 1)]) (fun x hx => by simp)]
      have q1 : r.length ≤ szLine := Nat.le_trans hr (by decide)
      have q2 : ini.length + r.length ≤ szLine := Nat.le_trans (show ini.length + r.length ≤ 14 by omega) (by decide)
      simp [q1, q2]
      intro x _
      rfl
    · obtain ⟨x, hx, rfl⟩ := List.mem_map.mp hq
      exact hk x hx
    · show wtMany (r.map fun x => (x, d + 1)) + 1 = manyF (.tup (.str w :: r))
      rw [wtMany_kids]
      unfold manyF
      rw [hw]
      rfl
    · have e : deepF (.tup (.str w :: r)) = deepFs r + 1 := by unfold deepF; rw [hw]; rfl
      have hd1 : 1 ≤ d := hd1
      rw [e, wtDeep_kids]
      have : r.isEmpty = false := by
        cases r with
        | nil => exact absurd rfl hr0
        | cons _ _ => rfl
      rw [this, Bool.or_false]
      have : d - 1 + (deepFs r + 1) = d + deepFs r := by omega
      rw [this]
    · obtain ⟨x, hx, rfl⟩ := List.mem_map.mp hq
      exact Nat.le_add_left 1 d
theorem is_kind_value {n : Nat} {k : D} {c : Cells} (hk : KOk Lf k) (hf : fitB k = true) : RX.run (tbl pg.T) pg.gl (n + 13) 10 [.d k] c = .ok (.d (.bl true)) c := by
  rw [run_eq (fn := f10.fn) rfl rfl]
  unfold fitB at hf
  simp only [Bool.and_eq_true, decide_eq_true_eq] at hf
  let J : EnvD → Cells → Nat → Prop := fun env c' m => c' = c ∧ ∃ (met : Nat) (st : List (D × Nat)) (u3 u4 u5 : Sl), env = [.v (.d k), .own (st.map wtD), .v (.d (.int met)), u3, u4, u5] ∧ st.length ≤ met + 1 ∧ (∀ q ∈ st, KOk Lf q.1 ∧ 1 ≤ q.2) ∧ m = wtMany st ∧ wtDeep st = true ∧ met + wtMany st ≤ 12
  let P : SR → Prop := fun r => ∃ env, r = .nx env c
  have loop := whl_rule (J := J) (P := P) (t := fun env => M.bind (ev (RX.run (tbl pg.T) pg.gl (n + 12)) pg.gl (.cmp .ne (.var 1) (.lst .nil)) true env) truM) (b := exs (RX.run (tbl pg.T) pg.gl (n + 12)) pg.gl b10_1) (fun env c' m ⟨hc, met, st, u3, u4, u5, he, hl, hs, hmm, hdp, hmy⟩ => by
    subst hc he
    rcases List.eq_nil_or_concat st with e | ⟨ini, p, e⟩
    · subst e
      exact .inl ⟨by simp, _, rfl⟩
    · rw [List.concat_eq_append] at e
      subst e
      have hp := hs p (by simp)
      refine .inr ⟨by simp, .inl ?_⟩
      have q1 := manyF_pos p.1
      have q2 := deepF_pos p.1
      have hsum : wtMany (ini ++ [p]) = wtMany ini + manyF p.1 := by rw [wtMany_app]; rfl
      have hdd : wtDeep (ini ++ [p]) = (wtDeep ini && decide (p.2 - 1 + deepF p.1 ≤ 4)) := by unfold wtDeep; simp
      rw [hdd, Bool.and_eq_true, decide_eq_true_eq] at hdp
      rw [hsum] at hmy
      obtain ⟨u3', u4', u5', kids, h2, h3, h4, h5, h6, h7⟩ := kv_step (n := n) (k0 := k) (u3 := u3) (u4 := u4) (u5 := u5) (c := c') hp.1 hp.2 hl (by omega) (by omega)
      refine ⟨_, _, _, ?_, h2, rfl, met + 1, ini ++ kids, u3', u4', u5', rfl, ?_, fun q hq => ?_, rfl, ?_, ?_⟩
      · rw [wtMany_app, hmm, hsum]
        omega
      · simp at hl ⊢
        omega
      · rcases List.mem_append.mp hq with hq | hq
        · exact hs q (by simp [hq])
        · exact ⟨h4 q hq, h7 q hq⟩
      · have e1 : wtDeep (ini ++ kids) = (wtDeep ini && wtDeep kids) := by unfold wtDeep; simp
        rw [e1, h6, hdp.1]
        simpa using hdp.2
      · rw [wtMany_app]
        omega)
  have start := loop (wtMany [(k, 1)]) [.v (.d k), .own ([(k, 1)].map wtD), .v (.d (.int 0)), .no, .no, .no] c ⟨rfl, 0, [(k, 1)], .no, .no, .no, rfl, by simp, fun q hq => by simp at hq; subst hq; exact ⟨hk, Nat.le_refl _⟩, rfl, by
    simp [wtDeep, hf.1], by
    show 0 + (manyF k + 0) ≤ 12
    omega⟩
  obtain ⟨env, q2⟩ := start
  have q2 : exS (RX.run (tbl pg.T) pg.gl (n + 12)) pg.gl (.whl (.cmp .ne (.var 1) (.lst .nil)) b10_1) [.v (.d k), .own [.tup [k, .int 1]], .v (.d (.int 0)), .no, .no, .no] c = .nx env c := q2
  simp [f10, b10, slN, setsE, q2]
end K62
end
section -- K4
namespace K62
open RX
theorem deep_map (k : D) : deepF (.tup [.str wMap, k]) = deepF k + 1 := by
  show (if sideB wMap then deepFs [k] + 1 else 1) = _
  rw [side_map, if_pos rfl]
  show max (deepF k) 0 + 1 = _
  omega
theorem many_map (k : D) : manyF (.tup [.str wMap, k]) = manyF k + 1 := by
  show (if sideB wMap then manyFs [k] + 1 else 1) = _
  rw [side_map, if_pos rfl]
  show manyF k + 0 + 1 = _
  omega
theorem deep_two {w : List Nat} (h : w = wPair ∨ w = wLater ∨ w = wAbove) (a b : D) : deepF (.tup [.str w, a, b]) = max (deepF a) (deepF b) + 1 := by
  show (if sideB w then deepFs [a, b] + 1 else 1) = _
  rw [side_two h, if_pos rfl]
  show max (deepF a) (max (deepF b) 0) + 1 = _
  omega
theorem many_two {w : List Nat} (h : w = wPair ∨ w = wLater ∨ w = wAbove) (a b : D) : manyF (.tup [.str w, a, b]) = manyF a + manyF b + 1 := by
  show (if sideB w then manyFs [a, b] + 1 else 1) = _
  rw [side_two h, if_pos rfl]
  show manyF a + (manyF b + 0) + 1 = _
  omega
theorem deep_leaf {w : List Nat} {r : List D} (h : sideB w = false) : deepF (.tup (.str w :: r)) = 1 := by
  show (if sideB w then deepFs r + 1 else 1) = _
  rw [h]; rfl
theorem many_leaf {w : List Nat} {r : List D} (h : sideB w = false) : manyF (.tup (.str w :: r)) = 1 := by
  show (if sideB w then manyFs r + 1 else 1) = _
  rw [h]; rfl
theorem not_side {w : List Nat} (h : sideB w = false) : ¬ w = wMap ∧ ¬ w = wPair ∧ ¬ w = wLater ∧ ¬ w = wAbove := by
  unfold sideB at h
  simp only [Bool.or_eq_false_iff, decide_eq_false_iff_not] at h
  exact ⟨h.1.1.1, h.1.1.2, h.1.2, h.2⟩
theorem two_words {w : List Nat} (h : w = wPair ∨ w = wLater ∨ w = wAbove) : ¬ w = wMap := by rcases h with h | h | h <;> (subst h; decide)
theorem law_deep {L : D → Prop} {k : D} {c : Cells} (hk : KOk L k) : ∀ m, deepF k ≤ m → RX.run (tbl pg.T) pg.gl m 34 [.d k] c = .ok (.d (.int (deepF k))) c := by
  induction hk with
  | @leaf w r h1 h2 =>
    intro m hm
    rw [deep_leaf h2] at hm ⊢
    obtain ⟨m, rfl⟩ : ∃ j, m = j + 1 := ⟨m - 1, by omega⟩
    obtain ⟨n1, n2, n3, n4⟩ := not_side h2
    rw [run_eq (fn := f34.fn) rfl rfl]
    simp [f34, b34, D.idx, getAt, ixAt, n1, n2, n3, n4]
  | @map k hk ih =>
    intro m hm
    rw [deep_map] at hm ⊢
    obtain ⟨m, rfl⟩ : ∃ j, m = j + 1 := ⟨m - 1, by omega⟩
    rw [run_eq (fn := f34.fn) rfl rfl]
    simp [f34, b34, D.idx, getAt, ixAt, ih m (by omega)]
    omega
  | @two w a b hw ha hb iha ihb =>
    intro m hm
    rw [deep_two hw] at hm ⊢
    obtain ⟨m, rfl⟩ : ∃ j, m = j + 1 := ⟨m - 1, by omega⟩
    rw [run_eq (fn := f34.fn) rfl rfl]
    have e1 := iha m (by omega)
    have e2 := ihb m (by omega)
    have hmx : ((1 : Int) + if deepF a < deepF b then (deepF b : Int) else deepF a) = ((max (deepF a) (deepF b) : Nat) : Int) + 1 := by
      split <;> omega
    rcases hw with rfl | rfl | rfl <;> simp [f34, b34, D.idx, getAt, ixAt, e1, e2, hmx]
theorem law_kinds {L : D → Prop} {k : D} {c : Cells} (hk : KOk L k) : ∀ m, deepF k ≤ m → manyF k ≤ szLine → ∃ ks, RX.run (tbl pg.T) pg.gl m 33 [.d k] c = .ok (.d (.lst ks)) c ∧ ks.length = manyF k := by
  induction hk with
  | @leaf w r h1 h2 =>
    intro m hm hz
    rw [deep_leaf h2] at hm
    rw [many_leaf h2]
    obtain ⟨m, rfl⟩ : ∃ j, m = j + 1 := ⟨m - 1, by omega⟩
    obtain ⟨n1, n2, n3, n4⟩ := not_side h2
    refine ⟨[.tup (.str w :: r)], ?_, rfl⟩
    rw [run_eq (fn := f33.fn) rfl rfl]
    simp [f33, b33, D.idx, getAt, ixAt, n1, n2, n3, n4]
  | @map k hk ih =>
    intro m hm hz
    rw [deep_map] at hm
    rw [many_map] at hz ⊢
    obtain ⟨m, rfl⟩ : ∃ j, m = j + 1 := ⟨m - 1, by omega⟩
    obtain ⟨ks, e, hl⟩ := ih m (by omega) (by omega)
    refine ⟨[.tup [.str wMap, k]] ++ ks, ?_, by simp [hl]⟩
    rw [run_eq (fn := f33.fn) rfl rfl]
    have q : [D.tup [D.str [109, 97, 112], k]].length + ks.length ≤ szLine := by rw [hl]; simp; omega
    simp [f33, b33, D.idx, getAt, ixAt, e, r_add_l _ _ q]
  | @two w a b hw ha hb iha ihb =>
    intro m hm hz
    rw [deep_two hw] at hm
    rw [many_two hw] at hz ⊢
    obtain ⟨m, rfl⟩ : ∃ j, m = j + 1 := ⟨m - 1, by omega⟩
    obtain ⟨ks, e1, h1⟩ := iha m (by omega) (by omega)
    obtain ⟨js, e2, h2⟩ := ihb m (by omega) (by omega)
    refine ⟨[.tup [.str w, a, b]] ++ ks ++ js, ?_, by simp [h1, h2]⟩
    rw [run_eq (fn := f33.fn) rfl rfl]
    have q1 : ∀ x : D, [x].length + ks.length ≤ szLine := fun x => by rw [h1]; simp; omega
    have q2 : ∀ x : D, (x :: ks).length + js.length ≤ szLine := fun x => by rw [h2, List.length_cons, h1]; omega
    rcases hw with rfl | rfl | rfl <;> simp [f33, b33, D.idx, getAt, ixAt, e1, e2, r_add_l _ _ (q1 _), r_add_l _ _ (q2 _)]
theorem law_fits {n : Nat} {L : D → Prop} {k : D} {c : Cells} (hk : KOk L k) (hd : deepF k ≤ n) (hm : manyF k ≤ szLine) : RX.run (tbl pg.T) pg.gl (n + 1) 35 [.d k] c = .ok (.d (.bl (fitB k))) c := by
  rw [run_eq (fn := f35.fn) rfl rfl]
  obtain ⟨ks, e2, hl⟩ := law_kinds (c := c) hk n hd hm
  have e1 := law_deep (c := c) hk n hd
  by_cases h1 : (deepF k : Int) ≤ 4
  · have z : deepF k ≤ 4 := by omega
    simp [f35, b35, e1, e2, hl, h1, fitB, z]
    omega
  · have z : ¬ deepF k ≤ 4 := by omega
    simp [f35, b35, e1, h1, fitB, z]
theorem kind_as_told {k : D} {c : Cells} (hk : KOk Lf k) : ∀ m, deepF k + 12 ≤ m → RX.run (tbl pg.T) pg.gl m 11 [.d k] c = .ok (.d k) c := by
  induction hk with
  | @leaf w r h1 h2 =>
    intro m hm
    obtain ⟨m, rfl⟩ : ∃ j, m = j + 12 := ⟨m - 12, by omega⟩
    exact leaf_told h1
  | @map k hk ih =>
    intro m hm
    rw [deep_map] at hm
    obtain ⟨m, rfl⟩ : ∃ j, m = j + 1 := ⟨m - 1, by omega⟩
    rw [run_eq (fn := f11.fn) rfl rfl]
    have e := ih m (by omega)
    have q1 : [D.str [109, 97, 112]].length + [k].length ≤ szLine := by simp
    simp [f11, b11, D.idx, getAt, ixAt, lookT, D.slc, lcRun_cons, lcRun_nil, e, r_add_t _ _ q1]
  | @two w a b hw ha hb iha ihb =>
    intro m hm
    rw [deep_two hw] at hm
    obtain ⟨m, rfl⟩ : ∃ j, m = j + 1 := ⟨m - 1, by omega⟩
    rw [run_eq (fn := f11.fn) rfl rfl]
    have e1 := iha m (by omega)
    have e2 := ihb m (by omega)
    have q1 : ∀ x : D, [x].length + [a, b].length ≤ szLine := fun x => by simp
    rcases hw with rfl | rfl | rfl <;> simp [f11, b11, D.idx, getAt, ixAt, lookT, D.slc, lcRun_cons, lcRun_nil, e1, e2, r_add_t _ _ (q1 _)]
theorem exS_rais' {call : Nat → List Vl → M Vl} {gl : Nat → Option GV} {k : Nat} {as : Es} {env : EnvD} {c : Cells} : exS call gl (.rais k as) env c = onR env (evs call gl as env c) fun vs c => match vs.mapM fun | Vl.d x => some x | .c _ => none with
    | some ds => .exc k ds env c
    | none => .stuck := rfl
theorem want_kind {n : Nat} {k : D} {c : Cells} (hk : KOk Lf k) (hf : fitB k = true) : RX.run (tbl pg.T) pg.gl (n + 20) 12 [.d k] c = .ok (.d k) c := by
  rw [run_eq (fn := f12.fn) rfl rfl]
  have hf' := hf
  unfold fitB at hf'
  simp only [Bool.and_eq_true, decide_eq_true_eq] at hf'
  have e1 := is_kind_value (n := n + 6) (c := c) hk hf
  have e2 := kind_as_told (c := c) hk (n + 19) (by omega)
  simp [f12, b12, e1, e2]
end K62
end
section -- K5
namespace K62
open RX
abbrev wSame : List Nat := [115, 97, 109, 101]
abbrev wJoined : List Nat := [106, 111, 105, 110, 101, 100]
abbrev wFirst : List Nat := [102, 105, 114, 115, 116]
abbrev wSecond : List Nat := [115, 101, 99, 111, 110, 100]
abbrev wUpper : List Nat := [117, 112, 112, 101, 114]
abbrev wAt : List Nat := [97, 116]
abbrev wSome : List Nat := [115, 111, 109, 101]
abbrev wRenamed : List Nat := [114, 101, 110, 97, 109, 101, 100]
abbrev wValues : List Nat := [118, 97, 108, 117, 101, 115]
abbrev wBoth : List Nat := [98, 111, 116, 104]
abbrev wThen : List Nat := [116, 104, 101, 110]
def hd : D → List Nat
  | .tup (.str w :: _) => w
  | _ => []
def sd (k : D) (i : Nat) : D := match k with
  | .tup (_ :: r) => r.getD i .non
  | _ => .non
@[simp] theorem hd_t (w : List Nat) (r : List D) : hd (.tup (.str w :: r)) = w := rfl
@[simp] theorem sd_0 (x a : D) (r : List D) : sd (.tup (x :: a :: r)) 0 = a := rfl
@[simp] theorem sd_1 (x a b : D) (r : List D) : sd (.tup (x :: a :: b :: r)) 1 = b := rfl
@[simp] theorem idx_0 (x : D) (r : List D) : D.idx (.tup (x :: r)) (.int 0) = some x := by simp [D.idx, getAt, ixAt]
@[simp] theorem idx_1 (x y : D) (r : List D) : D.idx (.tup (x :: y :: r)) (.int 1) = some y := by
  have : (1 : Int) < (r.length : Int) + 1 + 1 := by omega
  simp [D.idx, getAt, ixAt, this]
@[simp] theorem idx_2 (x y z : D) (r : List D) : D.idx (.tup (x :: y :: z :: r)) (.int 2) = some z := by
  have : (2 : Int) < (r.length : Int) + 1 + 1 + 1 := by omega
  simp [D.idx, getAt, ixAt, this]
def eye1 (k : D) (w : List Nat) : Option D :=
  if w = wSame then some k
  else if w = wJoined ∧ hd k = wMap then some (sd k 0)
  else if w = wFirst ∧ (hd k = wPair ∨ hd k = wLater) then some (sd k 0)
  else if w = wSecond ∧ hd k = wPair then some (sd k 1)
  else if w = wUpper ∧ hd k = wAbove then some (sd k 1)
  else none
def eye2 (k : D) (w : List Nat) (t : D) : Option D :=
  if hd k = wMap then
    if w = wAt ∧ nameB t = true then some (sd k 0)
    else if w = wSome ∧ namesB t = true then some k
    else if w = wRenamed ∧ pairsB t = true then some k
    else none
  else none
abbrev mapD (k : D) : D := .tup [.str wMap, k]
abbrev pairD2 (a b : D) : D := .tup [.str wPair, a, b]
def eyeV : Option (D × Nat × Nat) → Option (D × Nat × Nat)
  | none => none
  | some (k', d, n) => if fitB (mapD k') = true then some (mapD k', d + 1, n + 1) else none
def eyeB : Option (D × Nat × Nat) → Option (D × Nat × Nat) → Option (D × Nat × Nat)
  | some (k1, d1, n1), some (k2, d2, n2) => if fitB (pairD2 k1 k2) = true then some (pairD2 k1 k2, max d1 d2 + 1, n1 + n2 + 1) else none
  | _, _ => none
def eyeT : Option (D × Nat × Nat) → (D → Option (D × Nat × Nat)) → Option (D × Nat × Nat)
  | none, _ => none
  | some (k1, d1, n1), f => match f k1 with
    | none => none
    | some (k2, d2, n2) => some (k2, max d1 d2 + 1, n1 + n2 + 1)
def one (o : Option D) : Option (D × Nat × Nat) := o.map fun k' => (k', 1, 1)
def eyeF : Nat → D → D → Option (D × Nat × Nat)
  | 0, _, _ => none
  | f + 1, k, v => match v with
    | .tup [.str w] => one (eye1 k w)
    | .tup [.str w, t] => if w = wValues then (if hd k = wMap then eyeV (eyeF f (sd k 0) t) else none) else one (eye2 k w t)
    | .tup [.str w, a, b] =>
      if w = wBoth then eyeB (eyeF f k a) (eyeF f k b)
      else if w = wThen then eyeT (eyeF f k a) fun k1 => eyeF f k1 b
      else none
    | _ => none
def eyeD : Option (D × Nat × Nat) → D
  | none => .non
  | some (k, d, n) => .tup [k, .int (d : Int), .int (n : Int)]
def optD : Option D → D
  | none => .non
  | some k => k
/-- a kind that fits -/
def KF (k : D) : Prop := KOk Lf k ∧ fitB k = true
theorem fit_iff {k : D} : fitB k = true ↔ deepF k ≤ 4 ∧ manyF k ≤ 12 := by
  unfold fitB
  simp
theorem KF.map {k : D} (h : KF (mapD k)) : KF k := by
  obtain ⟨h1, h2⟩ := h
  have e1 := deep_map k
  have e2 := many_map k
  rw [fit_iff] at h2
  unfold mapD at h2 h1
  rw [e1, e2] at h2
  refine ⟨?_, fit_iff.mpr ⟨by omega, by omega⟩⟩
  generalize hk : D.tup [.str wMap, k] = k0 at h1
  cases h1 with
  | leaf a b => injection hk with hk; injection hk with q1 q2; injection q1 with q1; subst q1; cases b
  | map h => injection hk with hk; injection hk with q1 q2; injection q2 with q2; subst q2; exact h
  | two hw a b => injection hk with hk; injection hk with q1 q2; injection q2 with _ q2; cases q2
theorem KF.two {w : List Nat} {a b : D} (hw : w = wPair ∨ w = wLater ∨ w = wAbove) (h : KF (.tup [.str w, a, b])) : KF a ∧ KF b := by
  obtain ⟨h1, h2⟩ := h
  have e1 := deep_two hw a b
  have e2 := many_two hw a b
  rw [fit_iff, e1, e2] at h2
  have z : KOk Lf a ∧ KOk Lf b := by
    generalize hk : D.tup [.str w, a, b] = k0 at h1
    cases h1 with
    | leaf p q => injection hk with hk; injection hk with q1 q2; injection q1 with q1; subst q1; rw [side_two hw] at q; cases q
    | map h => injection hk with hk; injection hk with q1 q2; injection q2 with _ q2; cases q2
    | two hw p q => injection hk with hk; injection hk with q1 q2; injection q2 with q2 q3; injection q3 with q3; subst q2; subst q3; exact ⟨p, q⟩
  exact ⟨⟨z.1, fit_iff.mpr ⟨by omega, by omega⟩⟩, z.2, fit_iff.mpr ⟨by omega, by omega⟩⟩
theorem KF.sz {k : D} (h : KF k) : deepF k ≤ 4 ∧ manyF k ≤ 12 := fit_iff.mp h.2
/-- a kind by its word -/
theorem KF.shape {k : D} (h : KF k) : ∃ w r, k = .tup (.str w :: r) ∧ hd k = w ∧ (w = wMap → ∃ a, r = [a] ∧ KF a) ∧ ((w = wPair ∨ w = wLater ∨ w = wAbove) → ∃ a b, r = [a, b] ∧ KF a ∧ KF b) := by
  have h0 := h
  obtain ⟨h1, h2⟩ := h
  cases h1 with
  | leaf a b =>
    obtain ⟨n1, n2, n3, n4⟩ := not_side b
    exact ⟨_, _, rfl, rfl, fun e => absurd e n1, fun e => by rcases e with e | e | e <;> contradiction⟩
  | map a => exact ⟨_, _, rfl, rfl, fun _ => ⟨_, rfl, KF.map h0⟩, fun e => by rcases e with e | e | e <;> exact absurd e (by decide)⟩
  | two hw a b => exact ⟨_, _, rfl, rfl, fun e => absurd e (two_words hw), fun _ => ⟨_, _, rfl, KF.two hw h0⟩⟩
theorem eye1_ok {k k' : D} {w : List Nat} (h : KF k) (e : eye1 k w = some k') : KF k' := by
  obtain ⟨v, r, rfl, hv, hm, h2⟩ := h.shape
  unfold eye1 at e
  rw [hv] at e
  split at e
  · cases e; exact h
  split at e
  · rename_i q; obtain ⟨a, rfl, ha⟩ := hm q.2; cases e; exact ha
  split at e
  · rename_i q; obtain ⟨a, b, rfl, ha, hb⟩ := h2 (q.2.elim .inl fun z => .inr (.inl z)); cases e; exact ha
  split at e
  · rename_i q; obtain ⟨a, b, rfl, ha, hb⟩ := h2 (.inl q.2); cases e; exact hb
  split at e
  · rename_i q; obtain ⟨a, b, rfl, ha, hb⟩ := h2 (.inr (.inr q.2)); cases e; exact hb
  cases e
theorem eye2_ok {k k' t : D} {w : List Nat} (h : KF k) (e : eye2 k w t = some k') : KF k' := by
  obtain ⟨v, r, rfl, hv, hm, h2⟩ := h.shape
  unfold eye2 at e
  rw [hv] at e
  split at e
  · rename_i q
    obtain ⟨a, rfl, ha⟩ := hm q
    split at e
    · cases e; exact ha
    split at e
    · cases e; exact h
    split at e
    · cases e; exact h
    cases e
  · cases e
theorem kf_map {k : D} (h : KF k) (f : fitB (mapD k) = true) : KF (mapD k) := ⟨.map h.1, f⟩
theorem kf_pair {a b : D} (h : KF a) (h' : KF b) (f : fitB (pairD2 a b) = true) : KF (pairD2 a b) := ⟨.two (.inl rfl) h.1 h'.1, f⟩
theorem KF.sub0 {k : D} (h : KF k) (e : hd k = wMap) : ∃ a, k = mapD a ∧ sd k 0 = a ∧ KF a := by
  obtain ⟨v, r, rfl, hv, hm, h2⟩ := h.shape
  obtain ⟨a, rfl, ha⟩ := hm (hv ▸ e)
  rw [hv] at e
  subst e
  exact ⟨a, rfl, rfl, ha⟩
theorem eyeF_ok : ∀ (f : Nat) {k v k' : D} {d n : Nat}, KF k → eyeF f k v = some (k', d, n) → KF k' ∧ 1 ≤ d ∧ 1 ≤ n ∧ n ≤ v.sz
  | 0, _, _, _, _, _, _, e => by cases e
  | f + 1, k, v, k', d, n, h, e => by
    unfold eyeF at e
    split at e
    · rename_i w
      unfold one at e
      obtain ⟨k2, e1, e2⟩ := Option.map_eq_some_iff.mp e
      cases e2
      exact ⟨eye1_ok h e1, Nat.le_refl _, Nat.le_refl _, by unfold D.sz; omega⟩
    · rename_i w t
      split at e
      · split at e
        · rename_i q
          obtain ⟨a, _, ea, ha⟩ := h.sub0 q
          rw [ea] at e
          cases e1 : eyeF f a t with
          | none => rw [e1] at e; cases e
          | some p =>
            obtain ⟨k1, d1, n1⟩ := p
            have ih := eyeF_ok f ha e1
            rw [e1] at e
            unfold eyeV at e
            dsimp only at e
            split at e
            · rename_i fit
              cases e
              refine ⟨kf_map ih.1 fit, by omega, by omega, ?_⟩
              have : (D.tup [.str w, t]).sz = (10 * w.length + 2) + 2 + (t.sz + 2 + 0) + 3 := rfl
              omega
            · cases e
        · cases e
      · unfold one at e
        obtain ⟨k2, e1, e2⟩ := Option.map_eq_some_iff.mp e
        cases e2
        exact ⟨eye2_ok h e1, Nat.le_refl _, Nat.le_refl _, by unfold D.sz; omega⟩
    · rename_i w a b
      have hs : (D.tup [.str w, a, b]).sz = (10 * w.length + 2) + 2 + (a.sz + 2 + (b.sz + 2 + 0)) + 3 := rfl
      split at e
      · cases e1 : eyeF f k a with
        | none => rw [e1] at e; cases e
        | some p =>
          obtain ⟨k1, d1, n1⟩ := p
          cases e2 : eyeF f k b with
          | none => rw [e1, e2] at e; cases e
          | some p =>
            obtain ⟨k2, d2, n2⟩ := p
            rw [e1, e2] at e
            unfold eyeB at e
            dsimp only at e
            have i1 := eyeF_ok f h e1
            have i2 := eyeF_ok f h e2
            split at e
            · rename_i fit
              cases e
              exact ⟨kf_pair i1.1 i2.1 fit, by omega, by omega, by omega⟩
            · cases e
      · split at e
        · cases e1 : eyeF f k a with
          | none => rw [e1] at e; cases e
          | some p =>
            obtain ⟨k1, d1, n1⟩ := p
            have i1 := eyeF_ok f h e1
            rw [e1] at e
            unfold eyeT at e
            dsimp only at e
            cases e2 : eyeF f k1 b with
            | none => rw [e2] at e; cases e
            | some p =>
              obtain ⟨k2, d2, n2⟩ := p
              rw [e2] at e
              have i2 := eyeF_ok f i1.1 e2
              cases e
              exact ⟨i2.1, by omega, by omega, by omega⟩
        · cases e
    · cases e
theorem law_eye_step {n : Nat} {k : D} {w : List Nat} {r : List D} {c : Cells} (hk : KF k) (hv : (D.tup (.str w :: r)).sz ≤ szLine) : RX.run (tbl pg.T) pg.gl (n + 4) 41 [.d k, .d (.tup (.str w :: r))] c =
    .ok (.d (optD (match r with | [] => eye1 k w | [t] => eye2 k w t | _ => none))) c := by
  rw [run_eq (fn := f41.fn) rfl rfl]
  obtain ⟨kw, kr, rfl, hh, hm, h2⟩ := hk.shape
  match r, hv with
  | [], hv =>
    simp [f41, b41, setsE, slN, D.slc, eye1, optD]
    by_cases h1 : w = wSame
    · subst h1; simp
    by_cases h2' : w = wJoined
    · subst h2'
      by_cases q : kw = wMap
      · obtain ⟨a, rfl, ha⟩ := hm q
        simp [q]
      · simp [q]
    by_cases h3 : w = wFirst
    · subst h3
      by_cases q : kw = wPair
      · obtain ⟨a, b, rfl, ha, hb⟩ := h2 (.inl q)
        simp [q]
      · by_cases q' : kw = wLater
        · obtain ⟨a, b, rfl, ha, hb⟩ := h2 (.inr (.inl q'))
          simp [q']
        · simp [q, q']
    by_cases h4 : w = wSecond
    · subst h4
      by_cases q : kw = wPair
      · obtain ⟨a, b, rfl, ha, hb⟩ := h2 (.inl q)
        simp [q]
      · simp [q]
    by_cases h5 : w = wUpper
    · subst h5
      by_cases q : kw = wAbove
      · obtain ⟨a, b, rfl, ha, hb⟩ := h2 (.inr (.inr q))
        simp [q]
      · simp [q]
    simp [h1, h2', h3, h4, h5]
  | [t], hv =>
    have ht : t.sz ≤ szLine := by
      have : (D.tup [.str w, t]).sz = (10 * w.length + 2) + 2 + (t.sz + 2 + 0) + 3 := rfl
      omega
    have e1 := law_is_name (n := n + 2) (c := c) ht
    have e2 := law_are_names (n := n + 1) (c := c) ht
    have e3 := law_are_renamed (n := n) (c := c) ht
    simp [f41, b41, setsE, slN, D.slc, eye2, optD]
    by_cases q : kw = wMap
    · obtain ⟨a, rfl, ha⟩ := hm q
      subst q
      by_cases h1 : w = wAt
      · subst h1; cases hn : nameB t <;> simp [e1, hn]
      by_cases h2 : w = wSome
      · subst h2; cases hn : namesB t <;> simp [e2, hn]
      by_cases h3 : w = wRenamed
      · subst h3; cases hn : pairsB t <;> simp [e3, hn]
      simp [h1, h2, h3]
    · simp [q]
  | t :: u :: r, hv =>
    have z : ¬ ((r.length : Int) + 1 + 1 = 1) := by omega
    by_cases q : kw = wMap
    · subst q; simp [f41, b41, setsE, slN, D.slc, optD, z]
    · simp [f41, b41, setsE, slN, D.slc, optD, z, q]
end K62
end
section -- K6
namespace K62
open RX
@[simp] theorem isNon_non : D.isNon .non = true := rfl
@[simp] theorem isNon_tup (xs : List D) : D.isNon (.tup xs) = false := rfl
@[simp] theorem isNon_lst (xs : List D) : D.isNon (.lst xs) = false := rfl
@[simp] theorem isNon_str (xs : List Nat) : D.isNon (.str xs) = false := rfl
@[simp] theorem isNon_int (i : Int) : D.isNon (.int i) = false := rfl
@[simp] theorem isNon_bl (i : Bool) : D.isNon (.bl i) = false := rfl
theorem KF.non {k : D} (h : KF k) : k.isNon = false := by
  obtain ⟨w, r, rfl, _⟩ := h.shape
  rfl
theorem szl_100 : 100 ≤ szLine := by decide
theorem law_fits_map {k : D} {c : Cells} (h : KF k) {m : Nat} (hm : 6 ≤ m) : RX.run (tbl pg.T) pg.gl m 35 [.d (.tup [.str wMap, k])] c = .ok (.d (.bl (fitB (mapD k)))) c := by
  obtain ⟨j, rfl⟩ : ∃ j, m = j + 1 := ⟨m - 1, by omega⟩
  have := h.sz
  exact law_fits (.map h.1) (by rw [deep_map]; omega) (by rw [many_map]; have := szl_100; omega)
theorem law_fits_pair {a b : D} {c : Cells} (h : KF a) (h' : KF b) {m : Nat} (hm : 6 ≤ m) : RX.run (tbl pg.T) pg.gl m 35 [.d (.tup [.str wPair, a, b])] c = .ok (.d (.bl (fitB (pairD2 a b)))) c := by
  obtain ⟨j, rfl⟩ : ∃ j, m = j + 1 := ⟨m - 1, by omega⟩
  have := h.sz
  have := h'.sz
  exact law_fits (.two (.inl rfl) h.1 h'.1) (by rw [deep_two (.inl rfl)]; omega) (by rw [many_two (.inl rfl)]; have := szl_100; omega)
theorem law_fits_one {k : D} {c : Cells} (h : KF k) {m : Nat} (hm : 6 ≤ m) : RX.run (tbl pg.T) pg.gl m 35 [.d k] c = .ok (.d (.bl true)) c := by
  obtain ⟨j, rfl⟩ : ∃ j, m = j + 1 := ⟨m - 1, by omega⟩
  have := h.sz
  have e := law_fits (c := c) (n := j) h.1 (by omega) (by have := szl_100; omega)
  rw [h.2] at e
  exact e
theorem eyeF_nt (f : Nat) (k : D) {v : D} (h : v.isTy .tuple = false) : eyeF f k v = none := by
  cases f with
  | zero => rfl
  | succ f => cases v <;> first | rfl | (simp at h)
theorem max_if (a b : Nat) : (if a < b then (b : Int) else (a : Int)) = ((max a b : Nat) : Int) := by split <;> omega
theorem words3 (w : List Nat) : w = wValues ∨ w = wBoth ∨ w = wThen ∨ (¬ w = wValues ∧ ¬ w = wBoth ∧ ¬ w = wThen) := by
  by_cases h1 : w = wValues
  · exact .inl h1
  by_cases h2 : w = wBoth
  · exact .inr (.inl h2)
  by_cases h3 : w = wThen
  · exact .inr (.inr (.inl h3))
  exact .inr (.inr (.inr ⟨h1, h2, h3⟩))
theorem law_eye {c : Cells} : ∀ (f : Nat) (k v : D), KF k → v.sz ≤ szLine → v.depth ≤ f → ∀ m, f + 16 ≤ m → RX.run (tbl pg.T) pg.gl m 42 [.d k, .d v] c = .ok (.d (eyeD (eyeF f k v))) c
  | f, k, .non, hk, hv, hd, m, hm => by
    obtain ⟨m, rfl⟩ : ∃ j, m = j + 1 := ⟨m - 1, by omega⟩
    rw [run_eq (fn := f42.fn) rfl rfl, eyeF_nt f k rfl]
    simp [f42, b42, eyeD]
  | f, k, .bl _, hk, hv, hd, m, hm => by
    obtain ⟨m, rfl⟩ : ∃ j, m = j + 1 := ⟨m - 1, by omega⟩
    rw [run_eq (fn := f42.fn) rfl rfl, eyeF_nt f k rfl]
    simp [f42, b42, eyeD]
  | f, k, .int _, hk, hv, hd, m, hm => by
    obtain ⟨m, rfl⟩ : ∃ j, m = j + 1 := ⟨m - 1, by omega⟩
    rw [run_eq (fn := f42.fn) rfl rfl, eyeF_nt f k rfl]
    simp [f42, b42, eyeD]
  | f, k, .str _, hk, hv, hd, m, hm => by
    obtain ⟨m, rfl⟩ : ∃ j, m = j + 1 := ⟨m - 1, by omega⟩
    rw [run_eq (fn := f42.fn) rfl rfl, eyeF_nt f k rfl]
    simp [f42, b42, eyeD]
  | f, k, .lst _, hk, hv, hd, m, hm => by
    obtain ⟨m, rfl⟩ : ∃ j, m = j + 1 := ⟨m - 1, by omega⟩
    rw [run_eq (fn := f42.fn) rfl rfl, eyeF_nt f k rfl]
    simp [f42, b42, eyeD]
  | 0, k, .tup xs, hk, hv, hd, m, hm => by
    have : (D.tup xs).depth = D.depths xs + 1 := rfl
    omega
  | f + 1, k, .tup [], hk, hv, hd, m, hm => by
    obtain ⟨m, rfl⟩ : ∃ j, m = j + 1 := ⟨m - 1, by omega⟩
    rw [run_eq (fn := f42.fn) rfl rfl]
    simp [f42, b42, eyeD, eyeF]
  | f + 1, k, .tup (x :: r), hk, hv, hd, m, hm => by
    obtain ⟨m, rfl⟩ : ∃ j, m = j + 1 := ⟨m - 1, by omega⟩
    obtain ⟨kw, kr, rfl, hh, hm', h2⟩ := hk.shape
    cases x with
    | str w =>
      have es := law_eye_step (n := m - 4) (c := c) hk hv
      rw [show m - 4 + 4 = m by omega] at es
      match r with
      | [] =>
        have es : RX.run (tbl pg.T) pg.gl m 41 [.d (.tup (.str kw :: kr)), .d (.tup [.str w])] c = .ok (.d (optD (eye1 (.tup (.str kw :: kr)) w))) c := es
        rw [run_eq (fn := f42.fn) rfl rfl]
        cases e1 : eye1 (.tup (.str kw :: kr)) w with
        | none => rw [e1] at es; rcases words3 w with rfl | rfl | rfl | ⟨z1, z2, z3⟩ <;> simp [f42, b42, eyeF, e1, optD, one, eyeD, es, *]
        | some k' =>
          have kn := (eye1_ok hk e1).non
          rw [e1] at es
          rcases words3 w with rfl | rfl | rfl | ⟨z1, z2, z3⟩ <;> simp [f42, b42, eyeF, e1, optD, one, eyeD, es, *]
      | [t] =>
        have es : RX.run (tbl pg.T) pg.gl m 41 [.d (.tup (.str kw :: kr)), .d (.tup [.str w, t])] c = .ok (.d (optD (eye2 (.tup (.str kw :: kr)) w t))) c := es
        by_cases q : w = wValues ∧ kw = wMap
        · obtain ⟨q1, q2⟩ := q
          obtain ⟨a, rfl, ha⟩ := hm' q2
          subst q1 q2
          have ht : t.sz ≤ szLine := by
            have : (D.tup [.str wValues, t]).sz = (10 * wValues.length + 2) + 2 + (t.sz + 2 + 0) + 3 := rfl
            omega
          have hdt : t.depth ≤ f := by
            have : (D.tup [.str wValues, t]).depth = max 0 (max t.depth 0) + 1 := rfl
            omega
          have ih := law_eye (c := c) f a t ha ht hdt m (by omega)
          rw [run_eq (fn := f42.fn) rfl rfl]
          cases e1 : eyeF f a t with
          | none =>
            rw [e1] at ih
            simp [f42, b42, ih, eyeF, e1, eyeD, eyeV, D.isNon]
          | some p =>
            obtain ⟨k1, d1, n1⟩ := p
            rw [e1] at ih
            have ok := eyeF_ok f ha e1
            have ef := law_fits_map (c := c) ok.1 (m := m) (by omega)
            cases fit : fitB (mapD k1) <;> (rw [fit] at ef; simp [f42, b42, ih, eyeF, e1, eyeD, eyeV, D.isNon, ef, fit])
        · have q1 : w = wValues → ¬ kw = wMap := fun a b => q ⟨a, b⟩
          have e2 : eyeF (f + 1) (.tup (.str kw :: kr)) (.tup [.str w, t]) = one (eye2 (.tup (.str kw :: kr)) w t) := by
            unfold eyeF
            dsimp only
            by_cases z : w = wValues
            · have z2 := q1 z
              subst z
              simp [z2, eye2, one]
            · simp [z]
          rw [e2, run_eq (fn := f42.fn) rfl rfl]
          cases e1 : eye2 (.tup (.str kw :: kr)) w t with
          | none =>
            rw [e1] at es
            rcases words3 w with rfl | rfl | rfl | ⟨z1, z2, z3⟩
            · have z2 := q1 rfl; simp [f42, b42, optD, one, eyeD, es, z2]
            all_goals simp [f42, b42, optD, one, eyeD, es, *]
          | some k' =>
            have kn := (eye2_ok hk e1).non
            rw [e1] at es
            rcases words3 w with rfl | rfl | rfl | ⟨z1, z2, z3⟩
            · have z2 := q1 rfl; simp [f42, b42, optD, one, eyeD, es, z2, kn]
            all_goals simp [f42, b42, optD, one, eyeD, es, *]
      | [a, b] =>
        have hs : (D.tup [.str w, a, b]).sz = (10 * w.length + 2) + 2 + (a.sz + 2 + (b.sz + 2 + 0)) + 3 := rfl
        have hdp : (D.tup [.str w, a, b]).depth = max 0 (max a.depth (max b.depth 0)) + 1 := rfl
        have es : RX.run (tbl pg.T) pg.gl m 41 [.d (.tup (.str kw :: kr)), .d (.tup [.str w, a, b])] c = .ok (.d .non) c := es
        have ih1 := law_eye (c := c) f _ a hk (by omega) (by omega) m (by omega)
        rcases words3 w with rfl | rfl | rfl | ⟨z1, z2, z3⟩
        · rw [run_eq (fn := f42.fn) rfl rfl]
          simp [f42, b42, es, eyeF, eyeD]
        · have ih2 := law_eye (c := c) f _ b hk (by omega) (by omega) m (by omega)
          rw [run_eq (fn := f42.fn) rfl rfl]
          cases e1 : eyeF f (.tup (.str kw :: kr)) a with
          | none =>
            rw [e1] at ih1
            simp [f42, b42, ih1, eyeF, e1, eyeD, eyeB, D.isNon]
          | some p =>
            obtain ⟨k1, d1, n1⟩ := p
            rw [e1] at ih1
            cases e2 : eyeF f (.tup (.str kw :: kr)) b with
            | none =>
              rw [e2] at ih2
              simp [f42, b42, ih1, ih2, eyeF, e1, e2, eyeD, eyeB, D.isNon]
            | some p =>
              obtain ⟨k2, d2, n2⟩ := p
              rw [e2] at ih2
              have o1 := eyeF_ok f hk e1
              have o2 := eyeF_ok f hk e2
              have ef := law_fits_pair (c := c) o1.1 o2.1 (m := m) (by omega)
              cases fit : fitB (pairD2 k1 k2) <;> (rw [fit] at ef; simp [f42, b42, ih1, ih2, eyeF, e1, e2, eyeD, eyeB, D.isNon, ef, fit, max_if])
        · rw [run_eq (fn := f42.fn) rfl rfl]
          cases e1 : eyeF f (.tup (.str kw :: kr)) a with
          | none =>
            rw [e1] at ih1
            simp [f42, b42, ih1, eyeF, e1, eyeD, eyeT, D.isNon]
          | some p =>
            obtain ⟨k1, d1, n1⟩ := p
            rw [e1] at ih1
            have o1 := eyeF_ok f hk e1
            have ih2 := law_eye (c := c) f k1 b o1.1 (by omega) (by omega) m (by omega)
            cases e2 : eyeF f k1 b with
            | none =>
              rw [e2] at ih2
              simp [f42, b42, ih1, ih2, eyeF, e1, e2, eyeD, eyeT, D.isNon]
            | some p =>
              obtain ⟨k2, d2, n2⟩ := p
              rw [e2] at ih2
              have o2 := eyeF_ok f o1.1 e2
              have ef := law_fits_one (c := c) o2.1 (m := m) (by omega)
              simp [f42, b42, ih1, ih2, eyeF, e1, e2, eyeD, eyeT, D.isNon, ef, max_if]
        · rw [run_eq (fn := f42.fn) rfl rfl]
          simp [f42, b42, es, eyeF, eyeD, D.isNon, *]
      | a :: b :: d :: r =>
        have es : RX.run (tbl pg.T) pg.gl m 41 [.d (.tup (.str kw :: kr)), .d (.tup (.str w :: a :: b :: d :: r))] c = .ok (.d .non) c := es
        have z4 : ¬ ((r.length : Int) + 1 + 1 + 1 + 1 = 2) := by omega
        have z5 : ¬ ((r.length : Int) + 1 + 1 + 1 + 1 = 3) := by omega
        rw [run_eq (fn := f42.fn) rfl rfl]
        rcases words3 w with rfl | rfl | rfl | ⟨z1, z2, z3⟩ <;> simp [f42, b42, es, eyeF, eyeD, D.isNon, *]
    | _ =>
      rw [run_eq (fn := f42.fn) rfl rfl]
      simp [f42, b42, eyeD, eyeF]
end K62
end
section -- K7
namespace K62
open RX
def itemsD : D → D
  | .tup xs => .lst xs
  | d => d
def toldF : Nat → D → D
  | 0, v => v
  | f + 1, v => match v with
    | .tup [.str w, t] => if w = wSome ∨ w = wRenamed then .tup [.str w, itemsD t] else if w = wValues then .tup [.str w, toldF f t] else .tup [.str w, t]
    | .tup [.str w, a, b] => .tup [.str w, toldF f a, toldF f b]
    | v => v
def lookD (f : Nat) (k v : D) (left : Nat) : D := match eyeF f k v with
  | none => .non
  | some (k', d, _) => if d ≤ left then .tup [toldF f v, k'] else .non
theorem in_bounds_map {k : D} {c : Cells} (h : KF k) {n : Nat} : RX.run (tbl pg.T) pg.gl (n + 1) 15 [.d (.tup [.str wMap, k])] c = .ok (.d (.bl (fitB (mapD k)))) c := is_within_bounds (.map h.1)
theorem in_bounds_pair {a b : D} {c : Cells} (h : KF a) (h' : KF b) {n : Nat} : RX.run (tbl pg.T) pg.gl (n + 1) 15 [.d (.tup [.str wPair, a, b])] c = .ok (.d (.bl (fitB (pairD2 a b)))) c := is_within_bounds (.two (.inl rfl) h.1 h'.1)
theorem plain_looked {n : Nat} {k : D} {w : List Nat} {c : Cells} (hk : KF k) : RX.run (tbl pg.T) pg.gl (n + 1) 16 [.d k, .d (.str w)] c = .ok (.d (match eye1 k w with | none => .non | some k' => .tup [.tup [.str w], k'])) c := by
  rw [run_eq (fn := f16.fn) rfl rfl]
  obtain ⟨kw, kr, rfl, hh, hm, h2⟩ := hk.shape
  unfold eye1
  rw [hh]
  by_cases h1 : w = wSame
  · subst h1; simp [f16, b16]
  by_cases h2' : w = wJoined
  · subst h2'
    by_cases q : kw = wMap
    · obtain ⟨a, rfl, ha⟩ := hm q
      simp [f16, b16, q]
    · simp [f16, b16, q]
  by_cases h3 : w = wFirst
  · subst h3
    by_cases q : kw = wPair
    · obtain ⟨a, b, rfl, ha, hb⟩ := h2 (.inl q)
      simp [f16, b16, q]
    · by_cases q' : kw = wLater
      · obtain ⟨a, b, rfl, ha, hb⟩ := h2 (.inr (.inl q'))
        simp [f16, b16, q']
      · simp [f16, b16, q, q']
  by_cases h4 : w = wSecond
  · subst h4
    by_cases q : kw = wPair
    · obtain ⟨a, b, rfl, ha, hb⟩ := h2 (.inl q)
      simp [f16, b16, q]
    · simp [f16, b16, q]
  by_cases h5 : w = wUpper
  · subst h5
    by_cases q : kw = wAbove
    · obtain ⟨a, b, rfl, ha, hb⟩ := h2 (.inr (.inr q))
      simp [f16, b16, q]
    · simp [f16, b16, q]
  simp [f16, b16, h1, h2', h3, h4, h5]
theorem items_list {t : D} (h : namesB t = true ∨ pairsB t = true) : Bi.run .list1 [t] = some (itemsD t) := by
  cases t with
  | lst xs => rfl
  | tup xs => rfl
  | _ => rcases h with h | h <;> cases h
theorem toldF_2 (f : Nat) (w : List Nat) (t : D) (h : w = wSome ∨ w = wRenamed) : toldF (f + 1) (.tup [.str w, t]) = .tup [.str w, itemsD t] := by
  show (if w = wSome ∨ w = wRenamed then D.tup [.str w, itemsD t] else _) = _
  rw [if_pos h]
theorem toldF_v (f : Nat) (t : D) : toldF (f + 1) (.tup [.str wValues, t]) = .tup [.str wValues, toldF f t] := rfl
theorem toldF_a (f : Nat) (t : D) : toldF (f + 1) (.tup [.str wAt, t]) = .tup [.str wAt, t] := rfl
theorem toldF_3 (f : Nat) (w : List Nat) (a b : D) : toldF (f + 1) (.tup [.str w, a, b]) = .tup [.str w, toldF f a, toldF f b] := rfl
theorem toldF_1 (f : Nat) (w : List Nat) : toldF (f + 1) (.tup [.str w]) = .tup [.str w] := rfl
theorem words4 (w : List Nat) : w = wAt ∨ w = wSome ∨ w = wRenamed ∨ w = wValues ∨ (¬ w = wAt ∧ ¬ w = wSome ∧ ¬ w = wRenamed ∧ ¬ w = wValues) := by
  by_cases h1 : w = wAt
  · exact .inl h1
  by_cases h2 : w = wSome
  · exact .inr (.inl h2)
  by_cases h3 : w = wRenamed
  · exact .inr (.inr (.inl h3))
  by_cases h4 : w = wValues
  · exact .inr (.inr (.inr (.inl h4)))
  exact .inr (.inr (.inr (.inr ⟨h1, h2, h3, h4⟩)))
theorem eyeF_2n (f : Nat) (k : D) (w : List Nat) (t : D) (h : ¬ w = wValues) : eyeF (f + 1) k (.tup [.str w, t]) = one (eye2 k w t) := by
  show (if w = wValues then _ else _) = _
  rw [if_neg h]
theorem eyeF_2v (f : Nat) (k : D) (t : D) : eyeF (f + 1) k (.tup [.str wValues, t]) = if hd k = wMap then eyeV (eyeF f (sd k 0) t) else none := rfl
theorem eyeF_1 (f : Nat) (k : D) (w : List Nat) : eyeF (f + 1) k (.tup [.str w]) = one (eye1 k w) := rfl
theorem eyeF_3b (f : Nat) (k a b : D) : eyeF (f + 1) k (.tup [.str wBoth, a, b]) = eyeB (eyeF f k a) (eyeF f k b) := rfl
theorem eyeF_3t (f : Nat) (k a b : D) : eyeF (f + 1) k (.tup [.str wThen, a, b]) = eyeT (eyeF f k a) fun k1 => eyeF f k1 b := rfl
theorem eyeF_3n (f : Nat) (k a b : D) (w : List Nat) (h : ¬ w = wBoth) (h' : ¬ w = wThen) : eyeF (f + 1) k (.tup [.str w, a, b]) = none := by
  show (if w = wBoth then _ else if w = wThen then _ else _) = _
  rw [if_neg h, if_neg h']
/-- a view of two words -/
theorem map_looked {f n : Nat} {k t : D} {w : List Nat} {left : Nat} {c : Cells} (hk : KF k) (ht : t.sz ≤ szLine)
    (ih : w = wValues → ∀ a, k = mapD a → KF a → RX.run (tbl pg.T) pg.gl (n + 3) 19 [.d a, .d t, .d (.int left)] c = .ok (.d (lookD f a t left)) c) :
    RX.run (tbl pg.T) pg.gl (n + 4) 17 [.d k, .d (.tup [.str w, t]), .d (.int ((left : Int) + 1))] c = .ok (.d (lookD (f + 1) k (.tup [.str w, t]) (left + 1))) c := by
  rw [run_eq (fn := f17.fn) rfl rfl]
  obtain ⟨kw, kr, rfl, hh, hm, h2⟩ := hk.shape
  have p1 := is_name_word (n := n + 2) (c := c) ht
  have p2 := are_unlike_names (n := n + 1) (c := c) ht
  have p3 := are_name_pairs (n := n) (c := c) ht
  unfold lookD
  by_cases q : kw = wMap
  · obtain ⟨a, rfl, ha⟩ := hm q
    subst q
    rcases words4 w with rfl | rfl | rfl | rfl | ⟨z1, z2, z3, z4⟩
    · rw [eyeF_2n _ _ _ _ (by decide), toldF_a]
      cases hn : nameB t <;> simp [f17, b17, setsE, p1, hn, eye2, one]
    · rw [eyeF_2n _ _ _ _ (by decide), toldF_2 _ _ _ (.inl rfl)]
      cases hn : namesB t
      · simp [f17, b17, setsE, p2, hn, eye2, one]
      · have il := items_list (t := t) (.inl hn)
        simp [f17, b17, setsE, p2, hn, eye2, one, il]
    · rw [eyeF_2n _ _ _ _ (by decide), toldF_2 _ _ _ (.inr rfl)]
      cases hn : pairsB t
      · simp [f17, b17, setsE, p3, hn, eye2, one]
      · have il := items_list (t := t) (.inr hn)
        simp [f17, b17, setsE, p3, hn, eye2, one, il]
    · have i := ih rfl a rfl ha
      unfold lookD at i
      rw [eyeF_2v, toldF_v]
      cases e1 : eyeF f a t with
      | none =>
        rw [e1] at i
        simp [f17, b17, setsE, i, e1, eyeV]
      | some p =>
        obtain ⟨k1, d1, n1⟩ := p
        rw [e1] at i
        have o := eyeF_ok f ha e1
        have ef := in_bounds_map (c := c) o.1 (n := n + 2)
        by_cases z : d1 ≤ left
        · cases fit : fitB (mapD k1) <;> (rw [fit] at ef; simp [f17, b17, setsE, i, e1, eyeV, z, ef, fit])
        · cases fit : fitB (mapD k1) <;> simp [f17, b17, setsE, i, e1, eyeV, z, fit]
    · rw [eyeF_2n _ _ _ _ z4]
      simp [f17, b17, setsE, z1, z2, z3, z4, eye2, one]
  · have e0 : eyeF (f + 1) (.tup (.str kw :: kr)) (.tup [.str w, t]) = none := by
      by_cases z : w = wValues
      · subst z; rw [eyeF_2v, hh, if_neg q]
      · rw [eyeF_2n _ _ _ _ z]; simp [eye2, q, one]
    rw [e0]
    simp [f17, b17, setsE, q]
end K62
end
section -- K8
namespace K62
open RX
theorem words2 (w : List Nat) : w = wBoth ∨ w = wThen ∨ (¬ w = wBoth ∧ ¬ w = wThen) := by
  by_cases h2 : w = wBoth
  · exact .inl h2
  by_cases h3 : w = wThen
  · exact .inr (.inl h3)
  exact .inr (.inr ⟨h2, h3⟩)
/-- a view of three words -/
theorem two_looked {f n : Nat} {k a b : D} {w : List Nat} {left : Nat} {c : Cells} (hk : KF k)
    (ih : ∀ k v, KF k → (v = a ∨ v = b) → RX.run (tbl pg.T) pg.gl (n + 3) 19 [.d k, .d v, .d (.int left)] c = .ok (.d (lookD f k v left)) c) :
    RX.run (tbl pg.T) pg.gl (n + 4) 18 [.d k, .d (.tup [.str w, a, b]), .d (.int ((left : Int) + 1))] c = .ok (.d (lookD (f + 1) k (.tup [.str w, a, b]) (left + 1))) c := by
  rw [run_eq (fn := f18.fn) rfl rfl]
  have i1 := ih k a hk (.inl rfl)
  unfold lookD at i1 ⊢
  rcases words2 w with rfl | rfl | ⟨z1, z2⟩
  · have i2 := ih k b hk (.inr rfl)
    unfold lookD at i2
    rw [eyeF_3b, toldF_3]
    cases e1 : eyeF f k a with
    | none =>
      rw [e1] at i1
      simp [f18, b18, setsE, i1, eyeB]
    | some p =>
      obtain ⟨k1, d1, n1⟩ := p
      rw [e1] at i1
      have o1 := eyeF_ok f hk e1
      cases e2 : eyeF f k b with
      | none =>
        rw [e2] at i2
        by_cases z : d1 ≤ left <;> simp [f18, b18, setsE, i1, i2, eyeB, z]
      | some p =>
        obtain ⟨k2, d2, n2⟩ := p
        rw [e2] at i2
        have o2 := eyeF_ok f hk e2
        have ef := in_bounds_pair (c := c) o1.1 o2.1 (n := n + 2)
        by_cases z : d1 ≤ left
        · by_cases z' : d2 ≤ left
          · have z3 : max d1 d2 ≤ left := by omega
            cases fit : fitB (pairD2 k1 k2) <;> (rw [fit] at ef; simp [f18, b18, setsE, i1, i2, eyeB, z, z', ef, fit] <;> omega)
          · have z3 : ¬ max d1 d2 ≤ left := by omega
            cases fit : fitB (pairD2 k1 k2) <;> simp [f18, b18, setsE, i1, i2, eyeB, z, z', fit] <;> omega
        · have z3 : ¬ max d1 d2 ≤ left := by omega
          cases fit : fitB (pairD2 k1 k2) <;> simp [f18, b18, setsE, i1, eyeB, z, fit] <;> omega
  · rw [eyeF_3t, toldF_3]
    cases e1 : eyeF f k a with
    | none =>
      rw [e1] at i1
      simp [f18, b18, setsE, i1, eyeT]
    | some p =>
      obtain ⟨k1, d1, n1⟩ := p
      rw [e1] at i1
      have o1 := eyeF_ok f hk e1
      have i2 := ih k1 b o1.1 (.inr rfl)
      unfold lookD at i2
      cases e2 : eyeF f k1 b with
      | none =>
        rw [e2] at i2
        by_cases z : d1 ≤ left <;> simp [f18, b18, setsE, i1, i2, eyeT, e2, z]
      | some p =>
        obtain ⟨k2, d2, n2⟩ := p
        rw [e2] at i2
        have o2 := eyeF_ok f o1.1 e2
        by_cases z : d1 ≤ left
        · by_cases z' : d2 ≤ left <;> simp [f18, b18, setsE, i1, i2, eyeT, e2, z, z'] <;> omega
        · simp [f18, b18, setsE, i1, eyeT, e2, z] <;> omega
  · rw [eyeF_3n _ _ _ _ _ z1 z2]
    simp [f18, b18, setsE, z1, z2]
theorem lookD_0 {f : Nat} {k v : D} (hk : KF k) : lookD f k v 0 = .non := by
  unfold lookD
  cases e : eyeF f k v with
  | none => rfl
  | some p =>
    obtain ⟨k1, d1, n1⟩ := p
    have o := eyeF_ok f hk e
    have : ¬ d1 ≤ 0 := by omega
    simp [this]
theorem lookD_nt {f : Nat} {k v : D} {l : Nat} (h : v.isTy .tuple = false) : lookD f k v l = .non := by
  unfold lookD
  rw [eyeF_nt f k h]
theorem eyeF_odd (f : Nat) (k x : D) (r : List D) (h : (∀ w, x ≠ .str w) ∨ 3 ≤ r.length) : eyeF f k (.tup (x :: r)) = none := by
  cases f with
  | zero => rfl
  | succ f =>
    rcases h with h | h
    · cases x <;> first | rfl | (exact absurd rfl (h _))
    · match r, h with
      | a :: b :: d :: r, _ => cases x <;> rfl
theorem view_looked {c : Cells} : ∀ (f : Nat) (k v : D) (left : Nat), KF k → v.sz ≤ szLine → v.depth ≤ f → ∀ m, 2 * f + 16 ≤ m → RX.run (tbl pg.T) pg.gl m 19 [.d k, .d v, .d (.int left)] c = .ok (.d (lookD f k v left)) c
  | f, k, v, 0, hk, hv, hd, m, hm => by
    obtain ⟨m, rfl⟩ : ∃ j, m = j + 1 := ⟨m - 1, by omega⟩
    rw [run_eq (fn := f19.fn) rfl rfl, lookD_0 hk]
    simp [f19, b19]
  | f, k, .non, left + 1, hk, hv, hd, m, hm => by
    obtain ⟨m, rfl⟩ : ∃ j, m = j + 1 := ⟨m - 1, by omega⟩
    have z : ¬ ((left : Int) + 1 = 0) := by omega
    rw [run_eq (fn := f19.fn) rfl rfl, lookD_nt rfl]
    simp [f19, b19, z]
  | f, k, .bl _, left + 1, hk, hv, hd, m, hm => by
    obtain ⟨m, rfl⟩ : ∃ j, m = j + 1 := ⟨m - 1, by omega⟩
    have z : ¬ ((left : Int) + 1 = 0) := by omega
    rw [run_eq (fn := f19.fn) rfl rfl, lookD_nt rfl]
    simp [f19, b19, z]
  | f, k, .int _, left + 1, hk, hv, hd, m, hm => by
    obtain ⟨m, rfl⟩ : ∃ j, m = j + 1 := ⟨m - 1, by omega⟩
    have z : ¬ ((left : Int) + 1 = 0) := by omega
    rw [run_eq (fn := f19.fn) rfl rfl, lookD_nt rfl]
    simp [f19, b19, z]
  | f, k, .str _, left + 1, hk, hv, hd, m, hm => by
    obtain ⟨m, rfl⟩ : ∃ j, m = j + 1 := ⟨m - 1, by omega⟩
    have z : ¬ ((left : Int) + 1 = 0) := by omega
    rw [run_eq (fn := f19.fn) rfl rfl, lookD_nt rfl]
    simp [f19, b19, z]
  | f, k, .lst _, left + 1, hk, hv, hd, m, hm => by
    obtain ⟨m, rfl⟩ : ∃ j, m = j + 1 := ⟨m - 1, by omega⟩
    have z : ¬ ((left : Int) + 1 = 0) := by omega
    rw [run_eq (fn := f19.fn) rfl rfl, lookD_nt rfl]
    simp [f19, b19, z]
  | 0, k, .tup xs, left + 1, hk, hv, hd, m, hm => by
    have : (D.tup xs).depth = D.depths xs + 1 := rfl
    omega
  | f + 1, k, .tup [], left + 1, hk, hv, hd, m, hm => by
    obtain ⟨m, rfl⟩ : ∃ j, m = j + 1 := ⟨m - 1, by omega⟩
    have z : ¬ ((left : Int) + 1 = 0) := by omega
    have e : lookD (f + 1) k (.tup []) (left + 1) = .non := rfl
    rw [run_eq (fn := f19.fn) rfl rfl, e]
    simp [f19, b19, z]
  | f + 1, k, .tup (x :: r), left + 1, hk, hv, hd, m, hm => by
    obtain ⟨m, rfl⟩ : ∃ j, m = j + 1 := ⟨m - 1, by omega⟩
    have z : ¬ ((left : Int) + 1 = 0) := by omega
    by_cases odd : (∀ w, x ≠ .str w) ∨ 3 ≤ r.length
    · have e : lookD (f + 1) k (.tup (x :: r)) (left + 1) = .non := by unfold lookD; rw [eyeF_odd _ _ _ _ odd]
      rw [run_eq (fn := f19.fn) rfl rfl, e]
      by_cases o2 : 3 ≤ r.length
      · have y1 : (1 : Int) ≤ (r.length : Int) + 1 := by omega
        have y2 : ¬ ((r.length : Int) + 1 ≤ 3) := by omega
        simp [f19, b19, z, y1, y2]
      · have y1 : (1 : Int) ≤ (r.length : Int) + 1 := by omega
        have y2 : ((r.length : Int) + 1 ≤ 3) := by omega
        have y3 : ∀ w, x ≠ .str w := odd.resolve_right o2
        cases x with
        | str w => exact absurd rfl (y3 w)
        | _ => simp [f19, b19, z, y1, y2]
    · cases x with
      | str w =>
        match r, odd with
        | [], _ =>
          obtain ⟨j, rfl⟩ : ∃ j, m = j + 1 := ⟨m - 1, by omega⟩
          have p := plain_looked (n := j) (w := w) (c := c) hk
          rw [run_eq (fn := f19.fn) rfl rfl]
          unfold lookD
          rw [eyeF_1, toldF_1]
          cases e1 : eye1 k w with
          | none => rw [e1] at p; simp [f19, b19, z, p, one]
          | some k' => rw [e1] at p; simp [f19, b19, z, p, one]
        | [t], _ =>
          obtain ⟨j, rfl⟩ : ∃ j, m = j + 4 := ⟨m - 4, by omega⟩
          have ht : t.sz ≤ szLine := by
            have : (D.tup [.str w, t]).sz = (10 * w.length + 2) + 2 + (t.sz + 2 + 0) + 3 := rfl
            omega
          have hdt : t.depth ≤ f := by
            have : (D.tup [.str w, t]).depth = max 0 (max t.depth 0) + 1 := rfl
            omega
          have p := map_looked (f := f) (n := j) (w := w) (left := left) (c := c) hk ht (fun _ a _ ha => view_looked f a t left ha ht hdt (j + 3) (by omega))
          rw [run_eq (fn := f19.fn) rfl rfl]
          simp [f19, b19, z, p]
        | [a, b], _ =>
          obtain ⟨j, rfl⟩ : ∃ j, m = j + 4 := ⟨m - 4, by omega⟩
          have hs : (D.tup [.str w, a, b]).sz = (10 * w.length + 2) + 2 + (a.sz + 2 + (b.sz + 2 + 0)) + 3 := rfl
          have hdp : (D.tup [.str w, a, b]).depth = max 0 (max a.depth (max b.depth 0)) + 1 := rfl
          have p := two_looked (f := f) (n := j) (w := w) (left := left) (a := a) (b := b) (c := c) hk (fun k v hk' hv' => view_looked f k v left hk' (by rcases hv' with rfl | rfl <;> omega) (by rcases hv' with rfl | rfl <;> omega) (j + 3) (by omega))
          rw [run_eq (fn := f19.fn) rfl rfl]
          simp [f19, b19, z, p]
        | _ :: _ :: _ :: r, odd => exact absurd (.inr (by simp)) odd
      | _ => exact absurd (.inl fun w => by simp) odd
end K62
end
section -- K9
namespace K62
open RX
def vB (w : List Nat) : Bool := decide (w = wBoth) || decide (w = wThen) || decide (w = wValues)
mutual
def cntF : D → Nat
  | .tup (.str w :: r) => if vB w then cntFs r + 1 else 1
  | _ => 1
def cntFs : List D → Nat
  | [] => 0
  | x :: xs => cntF x + cntFs xs
end
inductive VW : D → Prop
  | leaf {w : List Nat} {r : List D} : vB w = false → VW (.tup (.str w :: r))
  | more {w : List Nat} {r : List D} : vB w = true → r.length ≤ 2 → (∀ x ∈ r, VW x) → VW (.tup (.str w :: r))
theorem cntF_pos : ∀ d : D, 1 ≤ cntF d
  | .tup (.str w :: r) => by unfold cntF; split <;> omega
  | .tup [] => Nat.le_refl _
  | .tup (.non :: _) => Nat.le_refl _
  | .tup (.bl _ :: _) => Nat.le_refl _
  | .tup (.int _ :: _) => Nat.le_refl _
  | .tup (.lst _ :: _) => Nat.le_refl _
  | .tup (.tup _ :: _) => Nat.le_refl _
  | .non => Nat.le_refl _
  | .bl _ => Nat.le_refl _
  | .int _ => Nat.le_refl _
  | .str _ => Nat.le_refl _
  | .lst _ => Nat.le_refl _
theorem cntFs_app : ∀ (a b : List D), cntFs (a ++ b) = cntFs a + cntFs b
  | [], b => by simp [cntFs]
  | p :: a, b => by
    show cntF p + cntFs (a ++ b) = cntF p + cntFs a + cntFs b
    rw [cntFs_app a b]
    omega
theorem cntFs_len : ∀ xs : List D, xs.length ≤ cntFs xs
  | [] => Nat.le_refl _
  | x :: xs => by
    have := cntF_pos x
    have := cntFs_len xs
    show xs.length + 1 ≤ cntF x + cntFs xs
    omega
theorem vB_1 {k k' : D} {w : List Nat} (e : eye1 k w = some k') : vB w = false := by
  unfold eye1 at e
  split at e
  · rename_i q; subst q; decide
  split at e
  · rename_i q; rw [q.1]; decide
  split at e
  · rename_i q; rw [q.1]; decide
  split at e
  · rename_i q; rw [q.1]; decide
  split at e
  · rename_i q; rw [q.1]; decide
  cases e
theorem vB_2 {k k' t : D} {w : List Nat} (e : eye2 k w t = some k') : vB w = false ∧ (w = wAt ∨ w = wSome ∨ w = wRenamed) := by
  unfold eye2 at e
  split at e
  · split at e
    · rename_i q; rw [q.1]; exact ⟨by decide, .inl rfl⟩
    split at e
    · rename_i q; rw [q.1]; exact ⟨by decide, .inr (.inl rfl)⟩
    split at e
    · rename_i q; rw [q.1]; exact ⟨by decide, .inr (.inr rfl)⟩
    cases e
  · cases e
theorem cnt_leaf {w : List Nat} {r : List D} (h : vB w = false) : cntF (.tup (.str w :: r)) = 1 := by unfold cntF; rw [h]; rfl
theorem cnt_more {w : List Nat} {r : List D} (h : vB w = true) : cntF (.tup (.str w :: r)) = cntFs r + 1 := by unfold cntF; rw [h]; rfl
theorem toldF_ok : ∀ (f : Nat) {k v k' : D} {d n : Nat}, KF k → eyeF f k v = some (k', d, n) → VW (toldF f v) ∧ cntF (toldF f v) = n ∧ (toldF f v).isNon = false
  | 0, _, _, _, _, _, _, e => by cases e
  | f + 1, k, v, k', d, n, h, e => by
    unfold eyeF at e
    split at e
    · rename_i w
      unfold one at e
      obtain ⟨k2, e1, e2⟩ := Option.map_eq_some_iff.mp e
      cases e2
      rw [toldF_1]
      exact ⟨.leaf (vB_1 e1), cnt_leaf (vB_1 e1), rfl⟩
    · rename_i w t
      split at e
      · rename_i hw
        subst hw
        split at e
        · rename_i q
          obtain ⟨a, _, ea, ha⟩ := h.sub0 q
          rw [ea] at e
          cases e1 : eyeF f a t with
          | none => rw [e1] at e; cases e
          | some p =>
            obtain ⟨k1, d1, n1⟩ := p
            have ih := toldF_ok f ha e1
            rw [e1] at e
            unfold eyeV at e
            dsimp only at e
            split at e
            · cases e
              rw [toldF_v]
              exact ⟨.more (by decide) (by simp) (fun x hx => by simp at hx; subst hx; exact ih.1), by rw [cnt_more (by decide)]; show cntF _ + 0 + 1 = _; rw [ih.2.1], rfl⟩
            · cases e
        · cases e
      · unfold one at e
        obtain ⟨k2, e1, e2⟩ := Option.map_eq_some_iff.mp e
        cases e2
        obtain ⟨q1, q2⟩ := vB_2 e1
        rcases q2 with rfl | rfl | rfl
        · rw [toldF_a]; exact ⟨.leaf q1, cnt_leaf q1, rfl⟩
        · rw [toldF_2 _ _ _ (.inl rfl)]; exact ⟨.leaf q1, cnt_leaf q1, rfl⟩
        · rw [toldF_2 _ _ _ (.inr rfl)]; exact ⟨.leaf q1, cnt_leaf q1, rfl⟩
    · rename_i w a b
      rw [toldF_3]
      split at e
      · rename_i hw
        subst hw
        cases e1 : eyeF f k a with
        | none => rw [e1] at e; cases e
        | some p =>
          obtain ⟨k1, d1, n1⟩ := p
          cases e2 : eyeF f k b with
          | none => rw [e1, e2] at e; cases e
          | some p =>
            obtain ⟨k2, d2, n2⟩ := p
            rw [e1, e2] at e
            unfold eyeB at e
            dsimp only at e
            have i1 := toldF_ok f h e1
            have i2 := toldF_ok f h e2
            split at e
            · cases e
              exact ⟨.more (by decide) (by simp) (fun x hx => by simp at hx; rcases hx with rfl | rfl; exact i1.1; exact i2.1), by rw [cnt_more (by decide)]; show cntF _ + (cntF _ + 0) + 1 = _; rw [i1.2.1, i2.2.1]; omega, rfl⟩
            · cases e
      · split at e
        · rename_i hw
          subst hw
          cases e1 : eyeF f k a with
          | none => rw [e1] at e; cases e
          | some p =>
            obtain ⟨k1, d1, n1⟩ := p
            have i1 := toldF_ok f h e1
            rw [e1] at e
            unfold eyeT at e
            dsimp only at e
            cases e2 : eyeF f k1 b with
            | none => rw [e2] at e; cases e
            | some p =>
              obtain ⟨k2, d2, n2⟩ := p
              rw [e2] at e
              have i2 := toldF_ok f (eyeF_ok f h e1).1 e2
              cases e
              exact ⟨.more (by decide) (by simp) (fun x hx => by simp at hx; rcases hx with rfl | rfl; exact i1.1; exact i2.1), by rw [cnt_more (by decide)]; show cntF _ + (cntF _ + 0) + 1 = _; rw [i1.2.1, i2.2.1]; omega, rfl⟩
        · cases e
    · cases e
theorem kov1 {n : Nat} {k k' : D} {w : List Nat} {c : Cells} (h : KF k) (e : eye1 k w = some k') : RX.run (tbl pg.T) pg.gl (n + 1) 23 [.d k, .d (.tup [.str w])] c = .ok (.d k') c := by
  rw [run_eq (fn := f23.fn) rfl rfl]
  obtain ⟨kw, kr, rfl, hh, hm, h2⟩ := h.shape
  unfold eye1 at e
  rw [hh] at e
  split at e
  · rename_i q; subst q; cases e; simp [f23, b23]
  split at e
  · rename_i q
    obtain ⟨q1, q2⟩ := q
    obtain ⟨a, rfl, ha⟩ := hm q2
    subst q1
    cases e
    simp [f23, b23]
  split at e
  · rename_i q
    obtain ⟨q1, q2⟩ := q
    obtain ⟨a, b, rfl, ha, hb⟩ := h2 (q2.elim .inl fun z => .inr (.inl z))
    subst q1
    cases e
    simp [f23, b23]
  split at e
  · rename_i q
    obtain ⟨q1, q2⟩ := q
    obtain ⟨a, b, rfl, ha, hb⟩ := h2 (.inl q2)
    subst q1
    cases e
    simp [f23, b23]
  split at e
  · rename_i q
    obtain ⟨q1, q2⟩ := q
    obtain ⟨a, b, rfl, ha, hb⟩ := h2 (.inr (.inr q2))
    subst q1
    cases e
    simp [f23, b23]
  cases e
theorem kov2 {n : Nat} {k k' t u : D} {w : List Nat} {c : Cells} (h : KF k) (e : eye2 k w t = some k') : RX.run (tbl pg.T) pg.gl (n + 1) 23 [.d k, .d (.tup [.str w, u])] c = .ok (.d k') c := by
  rw [run_eq (fn := f23.fn) rfl rfl]
  obtain ⟨kw, kr, rfl, hh, hm, h2⟩ := h.shape
  unfold eye2 at e
  rw [hh] at e
  split at e
  · rename_i q0
    obtain ⟨a, rfl, ha⟩ := hm q0
    split at e
    · rename_i q; obtain ⟨q1, q2⟩ := q; subst q1; cases e; simp [f23, b23]
    split at e
    · rename_i q; obtain ⟨q1, q2⟩ := q; subst q1; cases e; simp [f23, b23]
    split at e
    · rename_i q; obtain ⟨q1, q2⟩ := q; subst q1; cases e; simp [f23, b23]
    cases e
  · cases e
theorem kind_of_view {c : Cells} : ∀ (f : Nat) {k v k' : D} {d n : Nat}, KF k → eyeF f k v = some (k', d, n) → ∀ m, f ≤ m → RX.run (tbl pg.T) pg.gl m 23 [.d k, .d (toldF f v)] c = .ok (.d k') c
  | 0, _, _, _, _, _, _, e, _, _ => by cases e
  | f + 1, k, v, k', d, n, h, e, m, hm => by
    obtain ⟨m, rfl⟩ : ∃ j, m = j + 1 := ⟨m - 1, by omega⟩
    unfold eyeF at e
    split at e
    · rename_i w
      unfold one at e
      obtain ⟨k2, e1, e2⟩ := Option.map_eq_some_iff.mp e
      cases e2
      rw [toldF_1]
      exact kov1 h e1
    · rename_i w t
      split at e
      · rename_i hw
        subst hw
        split at e
        · rename_i q
          obtain ⟨a, rfl, ea, ha⟩ := h.sub0 q
          rw [ea] at e
          cases e1 : eyeF f a t with
          | none => rw [e1] at e; cases e
          | some p =>
            obtain ⟨k1, d1, n1⟩ := p
            have ih := kind_of_view (c := c) f ha e1 m (by omega)
            rw [e1] at e
            unfold eyeV at e
            dsimp only at e
            split at e
            · cases e
              rw [toldF_v, run_eq (fn := f23.fn) rfl rfl]
              simp [f23, b23, ih]
            · cases e
        · cases e
      · unfold one at e
        obtain ⟨k2, e1, e2⟩ := Option.map_eq_some_iff.mp e
        cases e2
        obtain ⟨q1, q2⟩ := vB_2 e1
        rcases q2 with rfl | rfl | rfl
        · rw [toldF_a]; exact kov2 h e1
        · rw [toldF_2 _ _ _ (.inl rfl)]; exact kov2 h e1
        · rw [toldF_2 _ _ _ (.inr rfl)]; exact kov2 h e1
    · rename_i w a b
      rw [toldF_3]
      split at e
      · rename_i hw
        subst hw
        cases e1 : eyeF f k a with
        | none => rw [e1] at e; cases e
        | some p =>
          obtain ⟨k1, d1, n1⟩ := p
          cases e2 : eyeF f k b with
          | none => rw [e1, e2] at e; cases e
          | some p =>
            obtain ⟨k2, d2, n2⟩ := p
            rw [e1, e2] at e
            unfold eyeB at e
            dsimp only at e
            have i1 := kind_of_view (c := c) f h e1 m (by omega)
            have i2 := kind_of_view (c := c) f h e2 m (by omega)
            split at e
            · cases e
              rw [run_eq (fn := f23.fn) rfl rfl]
              simp [f23, b23, i1, i2]
            · cases e
      · split at e
        · rename_i hw
          subst hw
          cases e1 : eyeF f k a with
          | none => rw [e1] at e; cases e
          | some p =>
            obtain ⟨k1, d1, n1⟩ := p
            have i1 := kind_of_view (c := c) f h e1 m (by omega)
            rw [e1] at e
            unfold eyeT at e
            dsimp only at e
            cases e2 : eyeF f k1 b with
            | none => rw [e2] at e; cases e
            | some p =>
              obtain ⟨k2, d2, n2⟩ := p
              rw [e2] at e
              have i2 := kind_of_view (c := c) f (eyeF_ok f h e1).1 e2 m (by omega)
              cases e
              rw [run_eq (fn := f23.fn) rfl rfl]
              simp [f23, b23, i1, i2]
        · cases e
    · cases e
/-- the views in a view -/
theorem views_within {n : Nat} {v : D} {c : Cells} (hv : VW v) (hz : cntF v ≤ 1000000) : ∃ xs, RX.run (tbl pg.T) pg.gl (n + 1) 20 [.d v] c = .ok (.d (.lst xs)) c ∧ xs.length = cntF v := by
  rw [run_eq (fn := f20.fn) rfl rfl]
  let J : EnvD → Cells → Nat → Prop := fun env c' m => c' = c ∧ ∃ (fs ws : List D) (u : Sl), env = [.v (.d v), .own fs, .own ws, u] ∧ (∀ q ∈ ws, VW q) ∧ fs.length + cntFs ws = cntF v ∧ ws.length ≤ cntFs ws ∧ m = cntFs ws
  let P : SR → Prop := fun r => ∃ (fs ws : List D) (u : Sl), r = .nx [.v (.d v), .own fs, .own ws, u] c ∧ fs.length = cntF v
  have loop := whl_rule (J := J) (P := P) (t := fun env => M.bind (ev (RX.run (tbl pg.T) pg.gl n) pg.gl (.cmp .ne (.var 2) (.lst .nil)) true env) truM) (b := exs (RX.run (tbl pg.T) pg.gl n) pg.gl b20_1) (fun env c' m ⟨hc, fs, ws, u, he, hw, hs, hl, hm⟩ => by
    subst hc he
    rcases List.eq_nil_or_concat ws with e | ⟨ini, p, e⟩
    · subst e
      exact .inl ⟨by simp, _, _, _, rfl, by simpa [cntFs] using hs⟩
    · rw [List.concat_eq_append] at e
      subst e
      have hp := hw p (by simp)
      have hi : ∀ q ∈ ini, VW q := fun q hq => hw q (by simp [hq])
      have hsum : cntFs (ini ++ [p]) = cntFs ini + cntF p := by rw [cntFs_app]; rfl
      have hcl : ini.length ≤ cntFs ini := by
        exact cntFs_len ini
      have big : 1000000 + 2 ≤ szLine := by decide
      have q1 : fs.length < szLine := by omega
      refine .inr ⟨by simp, .inl ?_⟩
      cases hp with
      | @leaf w r h1 =>
        have h1' := h1
        unfold vB at h1'
        simp only [Bool.or_eq_false_iff, decide_eq_false_iff_not] at h1'
        refine ⟨[.v (.d v), .own (fs ++ [.tup (.str w :: r)]), .own ini, .v (.d (.tup (.str w :: r)))], _, cntFs ini, ?_, ?_, rfl, _, _, _, rfl, hi, ?_, hcl, rfl⟩
        · rw [hm, hsum]; have := cntF_pos (.tup (.str w :: r)); omega
        · simp [b20_1, exS_pop1, exS_app, q1, h1']
        · rw [hsum, cnt_leaf h1] at hs
          rw [List.length_append]
          simp
          omega
      | @more w r h1 h2 h3 =>
        have h1' := h1
        unfold vB at h1'
        have e2 := cnt_more (r := r) h1
        have q2 : ini.length + r.length ≤ szLine := by omega
        have q3 : r.length ≤ szLine := by omega
        refine ⟨[.v (.d v), .own (fs ++ [.tup (.str w :: r)]), .own (ini ++ r), .v (.d (.tup (.str w :: r)))], _, cntFs (ini ++ r), ?_, ?_, rfl, _, _, _, rfl, ?_, ?_, ?_, rfl⟩
        · rw [hm, hsum, cntFs_app, e2]; omega
        · simp only [Bool.or_eq_true, decide_eq_true_eq] at h1'
          rcases h1' with (rfl | rfl) | rfl <;> simp [b20_1, exS_pop1, exS_app, exS_ext, q1, q2, D.slc]
        · intro q hq
          rcases List.mem_append.mp hq with hq | hq
          · exact hi q hq
          · exact h3 q hq
        · rw [hsum, e2] at hs
          rw [cntFs_app, List.length_append]
          simp
          omega
        · rw [cntFs_app, List.length_append]
          have := cntFs_len r
          omega)
  obtain ⟨fs, ws, u, q1, q2⟩ := loop (cntF v + 0) [.v (.d v), .own [], .own [v], .no] c ⟨rfl, [], [v], .no, rfl, fun q hq => by simp at hq; subst hq; exact hv, by simp [cntFs], by have := cntF_pos v; show 1 ≤ cntF v + 0; omega, rfl⟩
  refine ⟨fs, ?_, q2⟩
  have q1 : exS (RX.run (tbl pg.T) pg.gl n) pg.gl (.whl (.cmp .ne (.var 2) (.lst .nil)) b20_1) [.v (.d v), .own [], .own [v], .no] c = .nx [.v (.d v), .own fs, .own ws, u] c := q1
  simp [f20, b20, slN, setsE, q1, exS_frz]
end K62
end
section -- K10
namespace K62
open RX
def dueF : Option (D × Nat × Nat) → Bool
  | none => false
  | some (_, d, n) => decide (d ≤ 5) && decide (n ≤ 12)
def kindF : Option (D × Nat × Nat) → D
  | none => .non
  | some (k, _, _) => k
theorem view_in {f m : Nat} {k v : D} {c : Cells} (hk : KF k) (hz : v.sz ≤ 1000000) (hd : v.depth ≤ f) (hm : 2 * f + 17 ≤ m) :
    RX.run (tbl pg.T) pg.gl m 21 [.d k, .d v] c = .ok (.d (if dueF (eyeF f k v) = true then toldF f v else .non)) c := by
  obtain ⟨m, rfl⟩ : ∃ j, m = j + 2 := ⟨m - 2, by omega⟩
  have big : 1000000 + 2 ≤ szLine := by decide
  have e := view_looked (c := c) f k v 5 hk (by omega) hd (m + 1) (by omega)
  rw [run_eq (fn := f21.fn) rfl rfl]
  unfold lookD at e
  cases e1 : eyeF f k v with
  | none =>
    rw [e1] at e
    have e : RX.run (tbl pg.T) pg.gl (m + 1) 19 [.d k, .d v, .d (.int 5)] c = .ok (.d .non) c := e
    simp [f21, b21, e, dueF]
  | some p =>
    obtain ⟨k', d, n⟩ := p
    rw [e1] at e
    have t := toldF_ok f hk e1
    have o := eyeF_ok f hk e1
    obtain ⟨xs, e2, e3⟩ := views_within (n := m) (c := c) t.1 (by rw [t.2.1]; omega)
    by_cases z : d ≤ 5
    · have e : RX.run (tbl pg.T) pg.gl (m + 1) 19 [.d k, .d v, .d (.int 5)] c = .ok (.d (.tup [toldF f v, k'])) c := by
        have e : _ = R.ok (Vl.d (if d ≤ 5 then D.tup [toldF f v, k'] else .non)) c := e
        rw [if_pos z] at e
        exact e
      rw [t.2.1] at e3
      by_cases z2 : n ≤ 12
      · have z3 : (n : Int) ≤ 12 := by omega
        simp [f21, b21, e, dueF, z, z2, e2, e3, z3]
      · have z3 : ¬ (n : Int) ≤ 12 := by omega
        simp [f21, b21, e, dueF, z, z2, e2, e3, z3]
    · have e : RX.run (tbl pg.T) pg.gl (m + 1) 19 [.d k, .d v, .d (.int 5)] c = .ok (.d .non) c := by
        have e : _ = R.ok (Vl.d (if d ≤ 5 then D.tup [toldF f v, k'] else .non)) c := e
        rw [if_neg z] at e
        exact e
      simp [f21, b21, e, dueF, z]
theorem due_some {f : Nat} {k v : D} (h : dueF (eyeF f k v) = true) : ∃ k' d n, eyeF f k v = some (k', d, n) := by
  cases e : eyeF f k v with
  | none => rw [e] at h; cases h
  | some p => exact ⟨_, _, _, rfl⟩
theorem is_view {f m : Nat} {k v : D} {c : Cells} (hk : KF k) (hz : v.sz ≤ 1000000) (hd : v.depth ≤ f) (hm : 2 * f + 40 ≤ m) :
    RX.run (tbl pg.T) pg.gl m 24 [.d k, .d v] c = .ok (.d (.bl (dueF (eyeF f k v)))) c := by
  obtain ⟨m, rfl⟩ : ∃ j, m = j + 21 := ⟨m - 21, by omega⟩
  have e1 := want_kind (n := m) (c := c) hk.1 hk.2
  have e2 := view_in (c := c) (m := m + 20) hk hz hd (by omega)
  rw [run_eq (fn := f24.fn) rfl rfl]
  cases e : dueF (eyeF f k v) with
  | false =>
    rw [e] at e2
    simp [f24, b24, e1, e2]
  | true =>
    rw [e] at e2
    obtain ⟨k', d, n, e3⟩ := due_some e
    have t := toldF_ok f hk e3
    simp [f24, b24, e1, e2, t.2.2]
theorem want_view_of {f m : Nat} {k v : D} {c : Cells} (hk : KF k) (hz : v.sz ≤ 1000000) (hd : v.depth ≤ f) (hm : 2 * f + 18 ≤ m) :
    RX.run (tbl pg.T) pg.gl m 22 [.d k, .d v] c = if dueF (eyeF f k v) = true then .ok (.d (toldF f v)) c else .exc 1 [v] c := by
  obtain ⟨m, rfl⟩ : ∃ j, m = j + 1 := ⟨m - 1, by omega⟩
  have e2 := view_in (c := c) (m := m) hk hz hd (by omega)
  rw [run_eq (fn := f22.fn) rfl rfl]
  cases e : dueF (eyeF f k v) with
  | false =>
    rw [e] at e2
    simp [f22, b22, e2, exS_rais']
  | true =>
    rw [e] at e2
    obtain ⟨k', d, n, e3⟩ := due_some e
    have t := toldF_ok f hk e3
    simp [f22, b22, e2, t.2.2]
theorem told_kind {m : Nat} {k : D} {c : Cells} (hk : KF k) (hm : 16 ≤ m) : RX.run (tbl pg.T) pg.gl m 11 [.d k] c = .ok (.d k) c := kind_as_told hk.1 m (by have := hk.sz; omega)
theorem view_kind {f m : Nat} {k v : D} {c : Cells} (hk : KF k) (hz : v.sz ≤ 1000000) (hd : v.depth ≤ f) (hm : 2 * f + 40 ≤ m) :
    RX.run (tbl pg.T) pg.gl m 25 [.d k, .d v] c = if dueF (eyeF f k v) = true then .ok (.d (kindF (eyeF f k v))) c else .exc 1 [v] c := by
  obtain ⟨m, rfl⟩ : ∃ j, m = j + 21 := ⟨m - 21, by omega⟩
  have e1 := want_kind (n := m) (c := c) hk.1 hk.2
  have e2 := want_view_of (c := c) (m := m + 20) hk hz hd (by omega)
  rw [run_eq (fn := f25.fn) rfl rfl]
  cases e : dueF (eyeF f k v) with
  | false =>
    rw [e] at e2
    simp [f25, b25, e1, e2]
  | true =>
    rw [e] at e2
    obtain ⟨k', d, n, e3⟩ := due_some e
    have e4 := kind_of_view (c := c) f hk e3 (m + 20) (by omega)
    have e5 := told_kind (c := c) (m := m + 20) (eyeF_ok f hk e3).1 (by omega)
    simp [f25, b25, e1, e2, e4, e5, e3, kindF]
end K62
end
section -- K11
namespace K62
open RX
def PotOk (c : Cells) : Prop := ∃ p0 p1 : Int, c = [[.int p0, .int p1]] ∧ 0 ≤ p0 ∧ 0 ≤ p1 ∧ p1 < 18446744073709551616
/-- what may come of a draw -/
def Dr (m : M Vl) (S : D → Prop) : Prop := ∀ c, PotOk c → ∃ d c', m c = .ok (.d d) c' ∧ PotOk c' ∧ S d
@[simp] theorem r_mul_i (a b : Int) (h : 0 ≤ b) (h' : b < 18446744073709551616) : Bop.run .mul (.int a) (.int b) = some (.int (a * b)) := by
  have : mulOk a b = true := by unfold mulOk; simp; right; constructor <;> omega
  simp [Bop.run, this]
@[simp] theorem r_mod_i (a b : Int) (h : 0 < b) : Bop.run .mod (.int a) (.int b) = some (.int (a % b)) := by simp [Bop.run, h]
@[simp] theorem r_fdiv_i (a b : Int) (h : 0 < b) (h' : b < 1073741824) : Bop.run .fdiv (.int a) (.int b) = some (.int (a / b)) := by simp [Bop.run, h, h']
@[simp] theorem b_divmod_i (a b : Int) (h : 0 < b) (h' : b < 1073741824) : Bi.run .divmod [.int a, .int b] = some (.tup [.int (a / b), .int (a % b)]) := by simp [Bi.run, h, h']
@[simp] theorem b_int1_i (a : Int) : Bi.run .int1 [.int a] = some (.int a) := rfl
@[simp] theorem b_abs_i (a : Int) : Bi.run .abs [.int a] = some (.int (if a < 0 then -a else a)) := rfl
theorem exS_cset {call : Nat → List Vl → M Vl} {gl : Nat → Option GV} {i k : Nat} {e : E} {env : EnvD} {c : Cells} : exS call gl (.cset i k e) env c = (match env.look i with
    | .v (.c j) => onR env (ev call gl e false env c) fun v c => (match v, c[j]? with
      | .d x, some xs => if k < xs.length then .nx env (c.set j (xs.set k x)) else .stuck
      | _, _ => .stuck)
    | _ => .stuck) := rfl
theorem exS_csetT {call : Nat → List Vl → M Vl} {gl : Nat → Option GV} {i k j : Nat} {e : E} {env : EnvD} {c : Cells} : exS call gl (.csetT i k j e) env c = (match env.look i with
    | .v (.c m) => onR env (ev call gl e false env c) fun v c => (match v, c[m]? with
      | .d (.tup [x, y]), some xs => if k < xs.length then .nx (env.set j (.v (.d y))) (c.set m (xs.set k x)) else .stuck
      | _, _ => .stuck)
    | _ => .stuck) := rfl
def IntIn (m : Int) (d : D) : Prop := ∃ r : Int, d = .int r ∧ 0 ≤ r ∧ r < m
theorem draw {n : Nat} {m : Int} (h : 0 < m) (h' : m < 1073741824) : Dr (RX.run (tbl pg.T) pg.gl (n + 1) 27 [.c 0, .d (.int m)]) (IntIn m) := by
  rintro c ⟨p0, p1, rfl, h0, h1, h2⟩
  rw [run_eq (fn := f27.fn) rfl rfl]
  by_cases q : 0 < p0
  · have e1 : 0 ≤ p0 / m := Int.ediv_nonneg h0 (by omega)
    refine ⟨.int (p0 % m), [[.int (p0 / m), .int p1]], ?_, ⟨_, _, rfl, e1, h1, h2⟩, _, rfl, Int.emod_nonneg _ (by omega), Int.emod_lt_of_pos _ h⟩
    simp [f27, b27, exS_csetT, q, h, h']
  · have z0 : 0 ≤ (p1 * 39373 + 8317) % 2147483587 := Int.emod_nonneg _ (by decide)
    have z1 : (p1 * 39373 + 8317) % 2147483587 < 18446744073709551616 := Int.lt_trans (Int.emod_lt_of_pos _ (by decide)) (by decide)
    generalize e : (p1 * 39373 + 8317) % 2147483587 = q1 at z0 z1
    have e1 : exS (RX.run (tbl pg.T) pg.gl n) pg.gl (.cset 0 1 (.bin .mod (.bi .int1 (.cons (.bin .add (.bin .mul (.cidx 0 1) (.cst (.int 39373))) (.cst (.int 8317))) .nil)) (.cst (.int 2147483587)))) [.v (.c 0), .v (.d (.int m)), .no] [[.int p0, .int p1]] = .nx [.v (.c 0), .v (.d (.int m)), .no] [[.int p0, .int q1]] := by
      simp [exS_cset, e]
    refine ⟨.int (?z % m), [[.int p0, .int q1]], ?g, ⟨p0, q1, rfl, h0, z0, z1⟩, _, rfl, Int.emod_nonneg _ (by omega), Int.emod_lt_of_pos _ h⟩
    case g =>
      simp [f27, b27, q, e1, h, h', z0, z1]
      rfl
theorem getAt_int {xs : List D} {r : Int} (h : 0 ≤ r) (h' : r < xs.length) : ∃ x, getAt xs r = some x ∧ x ∈ xs := by
  have : r.toNat < xs.length := by omega
  exact ⟨xs[r.toNat], by simp [getAt, ixAt, h, h', this], List.getElem_mem _⟩
theorem pick {n : Nat} {xs : List D} (h : xs ≠ []) (h' : xs.length < 1073741824) : Dr (RX.run (tbl pg.T) pg.gl (n + 2) 28 [.c 0, .d (.lst xs)]) (· ∈ xs) := by
  intro c hc
  have hp : 0 < xs.length := by
    cases xs with
    | nil => exact absurd rfl h
    | cons _ _ => simp
  obtain ⟨d, c', e, hc', r, rfl, h1, h2⟩ := draw (n := n) (m := (xs.length : Int)) (by omega) (by omega) c hc
  obtain ⟨x, e2, hx⟩ := getAt_int h1 h2
  refine ⟨x, c', ?_, hc', hx⟩
  rw [run_eq (fn := f28.fn) rfl rfl]
  simp [f28, b28, e, D.idx, e2]
/-- a draw below a written number -/
theorem IntIn.cases {m : Nat} {d : D} (h : IntIn m d) : ∃ k : Nat, k < m ∧ d = .int k := by
  obtain ⟨r, rfl, h1, h2⟩ := h
  exact ⟨r.toNat, by omega, by congr; omega⟩
theorem drawK {n : Nat} (m : Nat) (h : 0 < m) (h' : m < 1073741824) : ∀ c, PotOk c → ∃ (k : Nat) (c' : Cells), k < m ∧ PotOk c' ∧ RX.run (tbl pg.T) pg.gl (n + 1) 27 [.c 0, .d (.int (m : Int))] c = .ok (.d (.int (k : Int))) c' := fun c hc => by
  obtain ⟨d, c', e, hc', hi⟩ := draw (n := n) (m := (m : Int)) (by omega) (by omega) c hc
  obtain ⟨k, hk, rfl⟩ := hi.cases
  exact ⟨k, c', hk, hc', e⟩
theorem leaf {n : Nat} : Dr (RX.run (tbl pg.T) pg.gl (n + 3) 29 [.c 0]) Lf := by
  intro c hc
  obtain ⟨k, c1, hk, hc1, e1⟩ := drawK (n := n + 1) 6 (by decide) (by decide) c hc
  have e1 : RX.run (tbl pg.T) pg.gl (n + 2) 27 [.c 0, .d (.int 6)] c = .ok (.d (.int (k : Int))) c1 := e1
  rw [run_eq (fn := f29.fn) rfl rfl]
  by_cases q1 : (k : Int) < 2
  · exact ⟨lvCount, c1, by simp [f29, b29, e1, q1, lvCount, wCount], hc1, by simp [Lf, leaves]⟩
  by_cases q2 : (k : Int) = 2
  · obtain ⟨j, c2, hj, hc2, e2⟩ := drawK (n := n + 1) 2 (by decide) (by decide) c1 hc1
    have e2 : RX.run (tbl pg.T) pg.gl (n + 2) 27 [.c 0, .d (.int 2)] c1 = .ok (.d (.int (j : Int))) c2 := e2
    refine ⟨.tup [.str wRow, .int (2 + j)], c2, by simp [f29, b29, e1, q2, e2, wRow], hc2, ?_⟩
    match j, hj with
    | 0, _ => simp [Lf, leaves]
    | 1, _ => simp [Lf, leaves]
  by_cases q3 : (k : Int) = 3
  · obtain ⟨t, c2, e2, hc2, ht⟩ := pick (n := n) (xs := tiesL) (by simp [tiesL]) (by simp [tiesL]) c1 hc1
    have e2 : RX.run (tbl pg.T) pg.gl (n + 2) 28 [.c 0, .d (.lst [.lst [], .lst [.tup [.int 0, .int 1]], .lst [.tup [.int 0, .int 2], .tup [.int 1, .int 2]], .lst [.tup [.int 0, .int 1], .tup [.int 1, .int 2]]])] c1 = .ok (.d t) c2 := e2
    refine ⟨.tup [.str wTops, .int 3, t], c2, by simp [f29, b29, e1, q3, e2, wTops], hc2, ?_⟩
    simp [tiesL] at ht
    rcases ht with rfl | rfl | rfl | rfl <;> simp [Lf, leaves, tiesL]
  · exact ⟨lvTable, c1, by simp [f29, b29, e1, q1, q2, q3, lvTable, wTable, ii], hc1, by simp [Lf, leaves]⟩
end K62
end
section -- K12
namespace K62
open RX
theorem leaf_facts {d : D} (h : Lf d) : ∃ w r, d = .tup (.str w :: r) ∧ sideB w = false ∧ d.depth ≤ 4 ∧ d.sz ≤ 300 ∧ d.okC = true := by
  have := List.all_eq_true.mp leaf_kinds d h
  split at this
  · simp only [Bool.and_eq_true, decide_eq_true_eq, Bool.not_eq_true'] at this
    exact ⟨_, _, rfl, this.1.1.1, this.1.1.2, this.1.2, this.2⟩
  · cases this
theorem leaf_kind {d : D} (h : Lf d) : KOk Lf d ∧ deepF d = 1 ∧ manyF d = 1 := by
  obtain ⟨w, r, rfl, h1, _⟩ := leaf_facts h
  exact ⟨.leaf h h1, deep_leaf h1, many_leaf h1⟩
/-- a drawn kind: how deep, how many at most -/
def KD (d m : Nat) (k : D) : Prop := KOk Lf k ∧ deepF k ≤ d ∧ manyF k ≤ m
theorem pickK {n : Nat} (xs : List D) (h : xs ≠ []) (h' : xs.length < 1073741824) {c : Cells} (hc : PotOk c) : ∃ x c', RX.run (tbl pg.T) pg.gl (n + 2) 28 [.c 0, .d (.lst xs)] c = .ok (.d x) c' ∧ PotOk c' ∧ x ∈ xs := pick h h' c hc
theorem around {n : Nat} {k : D} {d m : Nat} (hk : KD d m k) (hd : 1 ≤ d) : Dr (RX.run (tbl pg.T) pg.gl (n + 4) 30 [.c 0, .d k]) (KD (d + 1) (m + 3)) := by
  intro c hc
  obtain ⟨w, c1, hw, hc1, e1⟩ := drawK (n := n + 2) 7 (by decide) (by decide) c hc
  have e1 : RX.run (tbl pg.T) pg.gl (n + 3) 27 [.c 0, .d (.int 7)] c = .ok (.d (.int (w : Int))) c1 := e1
  obtain ⟨h1, h2, h3⟩ := hk
  rw [run_eq (fn := f30.fn) rfl rfl]
  by_cases q1 : (w : Int) < 3
  · refine ⟨mapD k, c1, by simp [f30, b30, e1, q1], hc1, .map h1, by rw [deep_map]; omega, by rw [many_map]; omega⟩
  by_cases q2 : (w : Int) = 3
  · obtain ⟨l, c2, e2, hc2, hl⟩ := leaf (n := n) c1 hc1
    have fl := leaf_kind hl
    refine ⟨pairD2 k l, c2, by simp [f30, b30, e1, q2, e2], hc2, .two (.inl rfl) h1 fl.1, by rw [deep_two (.inl rfl)]; omega, by rw [many_two (.inl rfl)]; omega⟩
  by_cases q3 : (w : Int) = 4
  · obtain ⟨l, c2, e2, hc2, hl⟩ := leaf (n := n) c1 hc1
    have fl := leaf_kind hl
    obtain ⟨kw, kr, rfl, _⟩ := h1.shape
    cases s : sideB kw with
    | true =>
      have s' := s
      unfold sideB at s'
      have hd2 : 2 ≤ deepF (.tup (.str kw :: kr)) := by
        have : deepF (.tup (.str kw :: kr)) = deepFs kr + 1 := by
          show (if sideB kw then deepFs kr + 1 else 1) = _
          rw [s, if_pos rfl]
        have := h1.shape
        obtain ⟨w', r', e, hs⟩ := this
        injection e with e
        injection e with e4 e5
        injection e4 with e4
        subst e4 e5
        obtain ⟨q, _, _⟩ := hs s
        cases kr with
        | nil => exact absurd rfl q
        | cons x xs =>
          have := deepF_pos x
          have : deepFs (x :: xs) = max (deepF x) (deepFs xs) := rfl
          omega
      refine ⟨pairD2 (mapD l) (.tup (.str kw :: kr)), c2, by simp [f30, b30, e1, q3, e2, s'], hc2, .two (.inl rfl) (.map fl.1) h1, by rw [deep_two (.inl rfl), deep_map]; omega, by rw [many_two (.inl rfl), many_map]; omega⟩
    | false =>
      have s' := s
      unfold sideB at s'
      refine ⟨pairD2 l (.tup (.str kw :: kr)), c2, by simp [f30, b30, e1, q3, e2, s'], hc2, .two (.inl rfl) fl.1 h1, by rw [deep_two (.inl rfl)]; omega, by rw [many_two (.inl rfl)]; omega⟩
  by_cases q4 : (w : Int) = 5
  · obtain ⟨l, c2, e2, hc2, hl⟩ := pickK (n := n + 1) [.tup [.str [99, 111, 117, 110, 116]], .tup [.str [114, 111, 119], .int 3]] (by simp) (by simp) hc1
    have hl : Lf l := by
      simp at hl
      rcases hl with rfl | rfl <;> simp [Lf, leaves, lvCount, wCount, wRow]
    have fl := leaf_kind hl
    have e2 : RX.run (tbl pg.T) pg.gl (n + 3) 28 [.c 0, .d (.lst [.tup [.str [99, 111, 117, 110, 116]], .tup [.str [114, 111, 119], .int 3]])] c1 = .ok (.d l) c2 := e2
    refine ⟨.tup [.str wLater, l, k], c2, by simp [f30, b30, e1, q4, e2], hc2, .two (.inr (.inl rfl)) fl.1 h1, by rw [deep_two (.inr (.inl rfl))]; omega, by rw [many_two (.inr (.inl rfl))]; omega⟩
  · obtain ⟨l, c2, e2, hc2, hl⟩ := leaf (n := n) c1 hc1
    have fl := leaf_kind hl
    refine ⟨.tup [.str wAbove, k, l], c2, by simp [f30, b30, e1, q1, q2, q3, q4, e2], hc2, .two (.inr (.inr rfl)) h1 fl.1, by rw [deep_two (.inr (.inr rfl))]; omega, by rw [many_two (.inr (.inr rfl))]; omega⟩
theorem rng_ok {j : Nat} (h : j < 1073741824) : rngOk (j : Int) = true := by
  unfold rngOk
  rw [decide_eq_true_eq]
  omega
theorem rangeI_len (n : Nat) : (rangeI 0 n).length = n := by simp [rangeI]
theorem evR_rng {call : Nat → List Vl → M Vl} {gl : Nat → Option GV} {a : E} {b : Bool} {env : EnvD} {c c' : Cells} {j : Nat} (h : ev call gl a true env c = .ok (.d (.int (j : Int))) c') (hr : j < 1073741824) : evR call gl (.rng1 a) b env c = .ok (rangeI 0 j) c' := by
  simp [h, rng_ok hr]
theorem kind {n : Nat} (md : Nat) (h : 0 < md) (h' : md < 1073741824) : Dr (RX.run (tbl pg.T) pg.gl (n + 5) 31 [.c 0, .d (.int (md : Int))]) (KD md (3 * md)) := by
  intro c hc
  obtain ⟨l, c1, e1, hc1, hl⟩ := leaf (n := n + 1) c hc
  have fl := leaf_kind hl
  obtain ⟨j, c2, hj, hc2, e2⟩ := drawK (n := n + 3) md h h' c1 hc1
  rw [run_eq (fn := f31.fn) rfl rfl]
  obtain ⟨env', c3, st, e3⟩ := for_st (call := RX.run (tbl pg.T) pg.gl (n + 4)) (gl := pg.gl) (t := .nm 3) (s := .rng1 (.call 27 (.cons (.var 0) (.cons (.var 1) .nil)))) (b := b31_1) (c0 := c1) (c := c2) (xs := rangeI 0 j)
    (env := [.v (.c 0), .v (.d (.int (md : Int))), .v (.d l), .no]) (St := fun ds env c => PotOk c ∧ ∃ k u, env = [.v (.c 0), .v (.d (.int (md : Int))), .v (.d k), u] ∧ KD (1 + ds.length) (1 + 3 * ds.length) k)
    (evR_rng (by simp [e2]) (by omega)) (fun ds x rest env c hx st => by
      obtain ⟨hc, k, u, rfl, hk⟩ := st
      refine ⟨_, rfl, ?_⟩
      obtain ⟨k', c', e, hc', hk'⟩ := around (n := n) hk (by omega) c hc
      refine ⟨_, c', ⟨hc', k', .v (.d x), rfl, ?_⟩, by simp [b31_1, e]⟩
      obtain ⟨g1, g2, g3⟩ := hk'
      exact ⟨g1, by rw [List.length_append]; simp; omega, by rw [List.length_append]; simp; omega⟩) ⟨hc2, l, .no, rfl, fl.1, by simp [fl.2.1], by simp [fl.2.2]⟩
  obtain ⟨hc3, k, u, rfl, g1, g2, g3⟩ := st
  rw [rangeI_len] at g2 g3
  exact ⟨k, c3, by simp [f31, b31, e1, e3], hc3, g1, by omega, by omega⟩
/-- views with their kinds -/
inductive VK : D → D → D → Prop
  | k1 {k k' : D} {w : List Nat} : KF k → eye1 k w = some k' → VK k (.tup [.str w]) k'
  | k2 {k t : D} {w : List Nat} : KF (mapD k) → (w = wSome ∨ w = wRenamed) → VK (mapD k) (.tup [.str w, t]) (mapD k)
  | k3 {k t : D} : KF (mapD k) → VK (mapD k) (.tup [.str wAt, t]) k
  | values {a v a' : D} : KF (mapD a) → KF (mapD a') → VK a v a' → VK (mapD a) (.tup [.str wValues, v]) (mapD a')
  | both {k v w a b : D} : VK k v a → VK k w b → KF (pairD2 a b) → VK k (.tup [.str wBoth, v, w]) (pairD2 a b)
  | thn {k v w a b : D} : VK k v a → VK a w b → VK k (.tup [.str wThen, v, w]) b
theorem VK.kf {k v k' : D} (h : VK k v k') : KF k ∧ KF k' := by
  induction h with
  | k1 h e => exact ⟨h, eye1_ok h e⟩
  | k2 h _ => exact ⟨h, h⟩
  | k3 h => exact ⟨h, h.map⟩
  | values h1 h2 _ _ => exact ⟨h1, h2⟩
  | both _ _ h i1 _ => exact ⟨i1.1, h⟩
  | thn _ _ i1 i2 => exact ⟨i1.1, i2.2⟩
theorem law_view_kind {c : Cells} {k v k' : D} (h : VK k v k') : ∀ m, v.depth ≤ m → RX.run (tbl pg.T) pg.gl m 32 [.d k, .d v] c = .ok (.d k') c := by
  induction h with
  | @k1 k k' w h e =>
    intro m hm
    have : (D.tup [.str w]).depth = max 0 0 + 1 := rfl
    obtain ⟨m, rfl⟩ : ∃ j, m = j + 1 := ⟨m - 1, by omega⟩
    rw [run_eq (fn := f32.fn) rfl rfl]
    obtain ⟨kw, kr, rfl, hh, hm, h2⟩ := h.shape
    unfold eye1 at e
    rw [hh] at e
    split at e
    · rename_i q; subst q; cases e; simp [f32, b32]
    split at e
    · rename_i q
      obtain ⟨q1, q2⟩ := q
      obtain ⟨a, rfl, ha⟩ := hm q2
      subst q1
      cases e
      simp [f32, b32]
    split at e
    · rename_i q
      obtain ⟨q1, q2⟩ := q
      obtain ⟨a, b, rfl, ha, hb⟩ := h2 (q2.elim .inl fun z => .inr (.inl z))
      subst q1
      cases e
      simp [f32, b32]
    split at e
    · rename_i q
      obtain ⟨q1, q2⟩ := q
      obtain ⟨a, b, rfl, ha, hb⟩ := h2 (.inl q2)
      subst q1
      cases e
      simp [f32, b32]
    split at e
    · rename_i q
      obtain ⟨q1, q2⟩ := q
      obtain ⟨a, b, rfl, ha, hb⟩ := h2 (.inr (.inr q2))
      subst q1
      cases e
      simp [f32, b32]
    cases e
  | @k2 k t w h e =>
    intro m hm
    have : (D.tup [.str w, t]).depth = max 0 (max t.depth 0) + 1 := rfl
    obtain ⟨m, rfl⟩ : ∃ j, m = j + 1 := ⟨m - 1, by omega⟩
    rw [run_eq (fn := f32.fn) rfl rfl]
    rcases e with rfl | rfl <;> simp [f32, b32]
  | @k3 k t h =>
    intro m hm
    have : (D.tup [.str wAt, t]).depth = max 0 (max t.depth 0) + 1 := rfl
    obtain ⟨m, rfl⟩ : ∃ j, m = j + 1 := ⟨m - 1, by omega⟩
    rw [run_eq (fn := f32.fn) rfl rfl]
    simp [f32, b32]
  | @values a v a' h1 h2 h ih =>
    intro m hm
    have : (D.tup [.str wValues, v]).depth = max 0 (max v.depth 0) + 1 := rfl
    obtain ⟨m, rfl⟩ : ∃ j, m = j + 1 := ⟨m - 1, by omega⟩
    rw [run_eq (fn := f32.fn) rfl rfl]
    simp [f32, b32, ih m (by omega)]
  | @both k v w a b h1 h2 h3 i1 i2 =>
    intro m hm
    have : (D.tup [.str wBoth, v, w]).depth = max 0 (max v.depth (max w.depth 0)) + 1 := rfl
    obtain ⟨m, rfl⟩ : ∃ j, m = j + 1 := ⟨m - 1, by omega⟩
    rw [run_eq (fn := f32.fn) rfl rfl]
    simp [f32, b32, i1 m (by omega), i2 m (by omega)]
  | @thn k v w a b h1 h2 i1 i2 =>
    intro m hm
    have : (D.tup [.str wThen, v, w]).depth = max 0 (max v.depth (max w.depth 0)) + 1 := rfl
    obtain ⟨m, rfl⟩ : ∃ j, m = j + 1 := ⟨m - 1, by omega⟩
    rw [run_eq (fn := f32.fn) rfl rfl]
    simp [f32, b32, i1 m (by omega), i2 m (by omega)]
end K62
end
section -- K13
namespace K62
open RX
/-- shown: short, not deep -/
def Vw (s d : Nat) (v : D) : Prop := v.okC = true ∧ v.sz ≤ s ∧ v.depth ≤ d
theorem Vw.up {s s' d d' : Nat} {v : D} (h : Vw s d v) (h1 : s ≤ s') (h2 : d ≤ d') : Vw s' d' v := ⟨h.1, Nat.le_trans h.2.1 h1, Nat.le_trans h.2.2 h2⟩
def wordOk (w : List Nat) : Bool := w.all (fun c => decide (c < 16 ^ 8)) && decide (w.length ≤ 8)
theorem Vw.t1 (w : List Nat) (h : wordOk w = true) : Vw 90 1 (.tup [.str w]) := by
  unfold wordOk at h
  rw [Bool.and_eq_true, decide_eq_true_eq] at h
  refine ⟨?_, ?_, Nat.le_refl _⟩
  · show (D.okC (.str w) && true) = true
    rw [Bool.and_true]; exact h.1
  · show (10 * w.length + 2) + 2 + 0 + 3 ≤ 90
    omega
theorem Vw.t2 {s d : Nat} {v : D} (w : List Nat) (h : wordOk w = true) (hv : Vw s d v) : Vw (s + 90) (d + 1) (.tup [.str w, v]) := by
  unfold wordOk at h
  rw [Bool.and_eq_true, decide_eq_true_eq] at h
  obtain ⟨h1, h2, h3⟩ := hv
  refine ⟨?_, ?_, ?_⟩
  · show (D.okC (.str w) && (v.okC && true)) = true
    rw [Bool.and_true, h1, Bool.and_true]; exact h.1
  · show (10 * w.length + 2) + 2 + (v.sz + 2 + 0) + 3 ≤ s + 90
    omega
  · show max 0 (max v.depth 0) + 1 ≤ d + 1
    omega
theorem Vw.t3 {s d s' d' : Nat} {v u : D} (w : List Nat) (h : wordOk w = true) (hv : Vw s d v) (hu : Vw s' d' u) : Vw (s + s' + 93) (max d d' + 1) (.tup [.str w, v, u]) := by
  unfold wordOk at h
  rw [Bool.and_eq_true, decide_eq_true_eq] at h
  obtain ⟨h1, h2, h3⟩ := hv
  obtain ⟨g1, g2, g3⟩ := hu
  refine ⟨?_, ?_, ?_⟩
  · show (D.okC (.str w) && (v.okC && (u.okC && true))) = true
    rw [Bool.and_true, h1, g1, Bool.and_true, Bool.and_true]; exact h.1
  · show (10 * w.length + 2) + 2 + (v.sz + 2 + (u.sz + 2 + 0)) + 3 ≤ s + s' + 93
    omega
  · show max 0 (max v.depth (max u.depth 0)) + 1 ≤ max d d' + 1
    omega
def smallB (s d : Nat) (v : D) : Bool := v.okC && decide (v.sz ≤ s) && decide (v.depth ≤ d)
theorem Vw.of {s d : Nat} {v : D} (h : smallB s d v = true) : Vw s d v := by
  unfold smallB at h
  simp only [Bool.and_eq_true, decide_eq_true_eq] at h
  exact ⟨h.1.1, h.1.2, h.2⟩
theorem Vw.all {s d : Nat} {xs : List D} (h : xs.all (smallB s d) = true) {v : D} (hv : v ∈ xs) : Vw s d v := .of (List.all_eq_true.mp h v hv)
/-- a drawn step -/
def StepOk (k : D) (v : D) : Prop := ∃ k', VK k v k' ∧ deepF k' ≤ deepF k ∧ manyF k' ≤ manyF k ∧ Vw (150 + 90 * deepF k) (3 + deepF k) v
abbrev nm4 : List D := [.str [97], .str [98], .str [99], .str [100]]
abbrev someL : List D := [.lst [.str [97]], .lst [.str [98], .str [97]], .lst [], .lst [.str [99], .str [100]]]
abbrev renL : List D := [.lst [.tup [.str [97], .str [98]]], .lst [.tup [.str [97], .str [98]], .tup [.str [98], .str [97]]], .lst [.tup [.str [99], .str [97]], .tup [.str [97], .str [100]]], .lst []]
theorem sizes_l : (nm4 ++ someL ++ renL).all (smallB 70 2) = true := by decide +kernel
theorem step1 {n : Nat} {k : D} {w : List Nat} (hk : KF k) (h : deepF k ≤ 4) (e : eye1 k w = some k) (hw : wordOk w = true) : StepOk k (.tup [.str w]) := ⟨k, .k1 hk e, Nat.le_refl _, Nat.le_refl _, (Vw.t1 w hw).up (by omega) (by omega)⟩
theorem step {c0 : Cells} : ∀ (d : Nat) (k : D), KF k → deepF k ≤ d → ∀ m, d + 4 ≤ m → Dr (RX.run (tbl pg.T) pg.gl m 36 [.c 0, .d k]) (StepOk k)
  | 0, k, hk, hd, m, hm => by have := deepF_pos k; omega
  | d + 1, k, hk, hd, m, hm => by
    intro c hc
    obtain ⟨m, rfl⟩ : ∃ j, m = j + 4 := ⟨m - 4, by omega⟩
    rw [run_eq (fn := f36.fn) rfl rfl]
    have hk0 := hk
    obtain ⟨kw, kr, rfl, hh, hm', h2⟩ := hk.shape
    by_cases q : kw = wMap
    · obtain ⟨a, rfl, ha⟩ := hm' q
      subst q
      have da := deep_map a
      have ma := many_map a
      obtain ⟨w, c1, hw, hc1, e1⟩ := drawK (n := m + 2) 6 (by decide) (by decide) c hc
      have e1 : RX.run (tbl pg.T) pg.gl (m + 3) 27 [.c 0, .d (.int 6)] c = .ok (.d (.int (w : Int))) c1 := e1
      by_cases q0 : (w : Int) = 0
      · obtain ⟨x, c2, e2, hc2, hx⟩ := pickK (n := m + 1) nm4 (by simp) (by simp) hc1
        have e2 : RX.run (tbl pg.T) pg.gl (m + 3) 28 [.c 0, .d (.lst nm4)] c1 = .ok (.d x) c2 := e2
        refine ⟨.tup [.str wAt, x], c2, by simp [f36, b36, setsE, slN, e1, q0, e2], hc2, a, .k3 hk0, by omega, by omega, ?_⟩
        exact (Vw.t2 wAt (by decide) (Vw.all sizes_l (List.mem_append_left _ (List.mem_append_left _ hx)))).up (by omega) (by omega)
      by_cases q1 : (w : Int) = 1
      · obtain ⟨x, c2, e2, hc2, hx⟩ := pickK (n := m + 1) someL (by simp) (by simp) hc1
        have e2 : RX.run (tbl pg.T) pg.gl (m + 3) 28 [.c 0, .d (.lst someL)] c1 = .ok (.d x) c2 := e2
        refine ⟨.tup [.str wSome, x], c2, by simp [f36, b36, setsE, slN, e1, q1, e2], hc2, _, .k2 hk0 (.inl rfl), Nat.le_refl _, Nat.le_refl _, ?_⟩
        exact (Vw.t2 wSome (by decide) (Vw.all sizes_l (List.mem_append_left _ (List.mem_append_right _ hx)))).up (by omega) (by omega)
      by_cases q2 : (w : Int) = 2
      · obtain ⟨x, c2, e2, hc2, hx⟩ := pickK (n := m + 1) renL (by simp) (by simp) hc1
        have e2 : RX.run (tbl pg.T) pg.gl (m + 3) 28 [.c 0, .d (.lst renL)] c1 = .ok (.d x) c2 := e2
        refine ⟨.tup [.str wRenamed, x], c2, by simp [f36, b36, setsE, slN, e1, q2, e2], hc2, _, .k2 hk0 (.inr rfl), Nat.le_refl _, Nat.le_refl _, ?_⟩
        exact (Vw.t2 wRenamed (by decide) (Vw.all sizes_l (List.mem_append_right _ hx))).up (by omega) (by omega)
      by_cases q3 : (w : Int) = 3
      · obtain ⟨v, c2, e2, hc2, k', hv, g1, g2, g3⟩ := step (c0 := c0) d a ha (by omega) (m + 3) (by omega) c1 hc1
        have sz := hk0.sz
        have dk : deepF (mapD k') = _ := deep_map k'
        have mk : manyF (mapD k') = _ := many_map k'
        refine ⟨.tup [.str wValues, v], c2, by simp [f36, b36, setsE, slN, e1, q3, e2], hc2, mapD k', .values hk0 (kf_map hv.kf.2 (fit_iff.mpr ⟨by omega, by omega⟩)) hv, by omega, by omega, ?_⟩
        exact (Vw.t2 wValues (by decide) g3).up (by omega) (by omega)
      · have q0n : ¬ w = 0 := by omega
        refine ⟨.tup [.str wJoined], c1, by simp [f36, b36, setsE, slN, e1, q0, q0n, q1, q2, q3], hc1, a, .k1 hk0 (by simp [eye1]), by omega, by omega, (Vw.t1 _ (by decide)).up (by omega) (by omega)⟩
    · by_cases q1 : kw = wPair
      · obtain ⟨a, b, rfl, ha, hb⟩ := h2 (.inl q1)
        subst q1
        have e3 := deep_two (w := wPair) (.inl rfl) a b
        have e4 := many_two (w := wPair) (.inl rfl) a b
        obtain ⟨x, c2, e2, hc2, hx⟩ := pickK (n := m + 1) [.tup [.str wFirst], .tup [.str wSecond]] (by simp) (by simp) hc
        have e2 : RX.run (tbl pg.T) pg.gl (m + 3) 28 [.c 0, .d (.lst [.tup [.str wFirst], .tup [.str wSecond]])] c = .ok (.d x) c2 := e2
        refine ⟨x, c2, by simp [f36, b36, setsE, slN, e2], hc2, ?_⟩
        simp at hx
        rcases hx with rfl | rfl
        · exact ⟨a, .k1 hk0 (by simp [eye1]), by omega, by omega, (Vw.t1 _ (by decide)).up (by omega) (by omega)⟩
        · exact ⟨b, .k1 hk0 (by simp [eye1]), by omega, by omega, (Vw.t1 _ (by decide)).up (by omega) (by omega)⟩
      by_cases q2 : kw = wLater
      · obtain ⟨a, b, rfl, ha, hb⟩ := h2 (.inr (.inl q2))
        subst q2
        have e3 := deep_two (w := wLater) (.inr (.inl rfl)) a b
        have e4 := many_two (w := wLater) (.inr (.inl rfl)) a b
        obtain ⟨x, c2, e2, hc2, hx⟩ := pickK (n := m + 1) [.tup [.str wFirst], .tup [.str wSame]] (by simp) (by simp) hc
        have e2 : RX.run (tbl pg.T) pg.gl (m + 3) 28 [.c 0, .d (.lst [.tup [.str wFirst], .tup [.str wSame]])] c = .ok (.d x) c2 := e2
        refine ⟨x, c2, by simp [f36, b36, setsE, slN, e2], hc2, ?_⟩
        simp at hx
        rcases hx with rfl | rfl
        · exact ⟨a, .k1 hk0 (by simp [eye1]), by omega, by omega, (Vw.t1 _ (by decide)).up (by omega) (by omega)⟩
        · exact ⟨_, .k1 hk0 (by simp [eye1]), Nat.le_refl _, Nat.le_refl _, (Vw.t1 _ (by decide)).up (by omega) (by omega)⟩
      by_cases q3 : kw = wAbove
      · obtain ⟨a, b, rfl, ha, hb⟩ := h2 (.inr (.inr q3))
        subst q3
        have e3 := deep_two (w := wAbove) (.inr (.inr rfl)) a b
        have e4 := many_two (w := wAbove) (.inr (.inr rfl)) a b
        refine ⟨.tup [.str wUpper], c, by simp [f36, b36, setsE, slN], hc, b, .k1 hk0 (by simp [eye1]), by omega, by omega, (Vw.t1 _ (by decide)).up (by omega) (by omega)⟩
      · refine ⟨.tup [.str wSame], c, by simp [f36, b36, setsE, slN, q, q1, q2, q3], hc, _, .k1 hk0 (by simp [eye1]), Nat.le_refl _, Nat.le_refl _, (Vw.t1 _ (by decide)).up (by omega) (by omega)⟩
def szV : Nat → Nat
  | 0 => 600
  | l + 1 => 2 * szV l + 93
/-- a drawn view -/
def ViewOk (l : Nat) (k v : D) : Prop := ∃ k', VK k v k' ∧ Vw (szV l) (8 + l) v
theorem szV_up (l : Nat) : szV l ≤ szV (l + 1) := by show _ ≤ 2 * szV l + 93; omega
theorem view : ∀ (l : Nat) (k : D), KF k → ∀ m, l + 20 ≤ m → Dr (RX.run (tbl pg.T) pg.gl m 37 [.c 0, .d k, .d (.int (l : Int))]) (ViewOk l k)
  | l, k, hk, m, hm => by
    intro c hc
    obtain ⟨m, rfl⟩ : ∃ j, m = j + 10 := ⟨m - 10, by omega⟩
    rw [run_eq (fn := f37.fn) rfl rfl]
    obtain ⟨w, c1, hw, hc1, e1⟩ := drawK (n := m + 8) 5 (by decide) (by decide) c hc
    have e1 : RX.run (tbl pg.T) pg.gl (m + 9) 27 [.c 0, .d (.int 5)] c = .ok (.d (.int (w : Int))) c1 := e1
    have sz := hk.sz
    obtain ⟨s, c2, e2, hc2, k2, hs, g1, g2, g3⟩ := step (c0 := c) 4 k hk (by omega) (m + 9) (by omega) c1 hc1
    by_cases q0 : l = 0
    · subst q0
      refine ⟨s, c2, by simp [f37, b37, e1, e2], hc2, k2, hs, g3.up (by show _ ≤ 600; omega) (by omega)⟩
    by_cases q1 : (w : Int) < 2
    · refine ⟨s, c2, ?_, hc2, k2, hs, g3.up ?_ (by omega)⟩
      · simp [f37, b37, e1, e2, q1, q0]
      · clear e1 e2 hm
        have : 600 ≤ szV l := by
          clear hk q0
          induction l with
          | zero => exact Nat.le_refl _
          | succ l ih => have := szV_up l; omega
        omega
    clear e2 hs g1 g2 g3 hc2
    obtain ⟨l, rfl⟩ : ∃ j, l = j + 1 := ⟨l - 1, by omega⟩
    have z0 : ¬ ((l : Int) + 1 = 0) := by omega
    obtain ⟨v1, c2, e2, hc2, a, hv1, b1⟩ := view l k hk (m + 9) (by omega) c1 hc1
    have k1 := law_view_kind hv1 (c := c2) (m + 9)
    by_cases q2 : (w : Int) = 2
    · obtain ⟨v2, c3, e3, hc3, b, hv2, b2⟩ := view l k hk (m + 9) (by omega) c2 hc2
      have l1 := law_view_kind hv1 (c := c3) (m + 9) (by have := b1.2.2; omega)
      have l2 := law_view_kind hv2 (c := c3) (m + 9) (by have := b2.2.2; omega)
      have lf := law_fits_pair (c := c3) hv1.kf.2 hv2.kf.2 (m := m + 9) (by omega)
      cases fit : fitB (pairD2 a b) with
      | true =>
        rw [fit] at lf
        refine ⟨.tup [.str wBoth, v1, v2], c3, by simp [f37, b37, e1, q2, z0, e2, e3, l1, l2, lf], hc3, pairD2 a b, .both hv1 hv2 (kf_pair hv1.kf.2 hv2.kf.2 fit), (Vw.t3 wBoth (by decide) b1 b2).up (by show _ ≤ 2 * szV l + 93; omega) (by omega)⟩
      | false =>
        rw [fit] at lf
        refine ⟨v1, c3, by simp [f37, b37, e1, q2, z0, e2, e3, l1, l2, lf], hc3, a, hv1, b1.up (szV_up l) (by omega)⟩
    · obtain ⟨v2, c3, e3, hc3, b, hv2, b2⟩ := view l a hv1.kf.2 (m + 9) (by omega) c2 hc2
      have l1 := law_view_kind hv1 (c := c2) (m + 9) (by have := b1.2.2; omega)
      refine ⟨.tup [.str wThen, v1, v2], c3, by simp [f37, b37, e1, q1, q2, z0, e2, e3, l1], hc3, b, .thn hv1 hv2, (Vw.t3 wThen (by decide) b1 b2).up (by show _ ≤ 2 * szV l + 93; omega) (by omega)⟩
end K62
end
section -- K14
namespace K62
open RX
theorem szs_app : ∀ xs ys : List D, D.szs (xs ++ ys) = D.szs xs + D.szs ys
  | [], ys => by simp [D.szs]
  | x :: xs, ys => by
    show D.sz x + 2 + D.szs (xs ++ ys) = D.sz x + 2 + D.szs xs + D.szs ys
    rw [szs_app xs ys]
    omega
theorem depths_app : ∀ xs ys : List D, D.depths (xs ++ ys) = max (D.depths xs) (D.depths ys)
  | [], ys => by
    show _ = max 0 _
    simp
  | x :: xs, ys => by
    show max (D.depth x) (D.depths (xs ++ ys)) = max (max (D.depth x) (D.depths xs)) (D.depths ys)
    rw [depths_app xs ys]
    omega
theorem okCs_app : ∀ xs ys : List D, D.okCs (xs ++ ys) = (D.okCs xs && D.okCs ys)
  | [], ys => by
    show _ = (true && _)
    simp
  | x :: xs, ys => by
    show (D.okC x && D.okCs (xs ++ ys)) = ((D.okC x && D.okCs xs) && D.okCs ys)
    rw [okCs_app xs ys, Bool.and_assoc]
/-- a list's three sizes -/
def Vs (s d : Nat) (xs : List D) : Prop := D.okCs xs = true ∧ D.szs xs ≤ s ∧ D.depths xs ≤ d
theorem Vs.app {s s' d : Nat} {xs ys : List D} (h : Vs s d xs) (h' : Vs s' d ys) : Vs (s + s') d (xs ++ ys) := by
  obtain ⟨a1, a2, a3⟩ := h
  obtain ⟨b1, b2, b3⟩ := h'
  exact ⟨by rw [okCs_app, a1, b1]; rfl, by rw [szs_app]; omega, by rw [depths_app]; omega⟩
theorem split_at {xs : List D} {k : Nat} (h : k < xs.length) : ∃ x, xs[k]? = some x ∧ x ∈ xs ∧ xs = xs.take k ++ x :: xs.drop (k + 1) := by
  refine ⟨xs[k], by simp [h], List.getElem_mem _, ?_⟩
  rw [← List.drop_eq_getElem_cons h, List.take_append_drop]
/-- what may come of a bent one -/
def BentOk (v u : D) : Prop := u.okC = true ∧ u.sz ≤ 2 * v.sz + 300 ∧ u.depth ≤ v.depth + 2
abbrev bentL : List D := [.str [115, 97, 109, 101], .str [97, 116], .str [115, 111, 109, 101], .str [114, 101, 110, 97, 109, 101, 100], .str [106, 111, 105, 110, 101, 100], .str [102, 105, 114, 115, 116], .str [115, 101, 99, 111, 110, 100], .str [117, 112, 112, 101, 114], .str [118, 97, 108, 117, 101, 115],
  .str [98, 111, 116, 104], .str [116, 104, 101, 110], .str [97], .str [98], .str [122], .str [65], .str [], .non, .bl true, .int 0, .int 1, .tup [], .tup [.str [115, 97, 109, 101]], .tup [.str [97], .str [98]], .lst [], .lst [.str [97]], .lst [.str [97], .str [97]], .lst [.tup [.str [97], .str [99]]], .tup [.str [106, 111, 105, 110, 101, 100]]]
theorem sizes_b : bentL.all (smallB 100 2) = true := by decide +kernel
theorem mem_bent {n : Nat} {v : D} {c : Cells} (hc : PotOk c) (hv : v.okC = true) : ∃ x c', RX.run (tbl pg.T) pg.gl (n + 2) 28 [.c 0, .d (.lst bentL)] c = .ok (.d x) c' ∧ PotOk c' ∧ BentOk v x := by
  obtain ⟨x, c', e, hc', hx⟩ := pickK (n := n) bentL (by simp) (by simp) hc
  obtain ⟨h1, h2, h3⟩ := Vw.all sizes_b hx
  exact ⟨x, c', e, hc', h1, by omega, by omega⟩
theorem seq_parts {xs : List D} {k : Nat} (h : k < xs.length) (hok : D.okCs xs = true) : ∃ x, xs[k]? = some x ∧ x.okC = true ∧ D.szs (xs.take k) + (x.sz + 2) + D.szs (xs.drop (k + 1)) = D.szs xs ∧ max (D.depths (xs.take k)) (max x.depth (D.depths (xs.drop (k + 1)))) = D.depths xs ∧
    D.okCs (xs.take k) = true ∧ D.okCs (xs.drop (k + 1)) = true ∧ D.szs (xs.take k) + D.szs (xs.drop k) = D.szs xs ∧ D.depths (xs.drop k) ≤ D.depths xs ∧ D.okCs (xs.drop k) = true ∧ (xs.drop k).take 1 = [x] := by
  obtain ⟨x, h1, h2, h3⟩ := split_at h
  have e1 := congrArg D.szs h3
  have e2 := congrArg D.depths h3
  have e3 := congrArg D.okCs h3
  rw [szs_app] at e1
  rw [depths_app] at e2
  rw [okCs_app, hok] at e3
  have f1 : D.szs (x :: xs.drop (k + 1)) = x.sz + 2 + D.szs (xs.drop (k + 1)) := rfl
  have f2 : D.depths (x :: xs.drop (k + 1)) = max x.depth (D.depths (xs.drop (k + 1))) := rfl
  have f3 : D.okCs (x :: xs.drop (k + 1)) = (x.okC && D.okCs (xs.drop (k + 1))) := rfl
  rw [f3] at e3
  have e3 := e3.symm
  simp only [Bool.and_eq_true] at e3
  have hd : xs.drop k = x :: xs.drop (k + 1) := by
    have hk : xs[k]? = some x := h1
    rw [List.drop_eq_getElem_cons h]
    congr 1
    rw [List.getElem?_eq_getElem h] at hk
    exact Option.some.inj hk
  have g1 : D.szs (xs.drop k) = x.sz + 2 + D.szs (xs.drop (k + 1)) := by rw [hd, f1]
  have g2 : D.depths (xs.drop k) = max x.depth (D.depths (xs.drop (k + 1))) := by rw [hd, f2]
  have g3 : D.okCs (xs.drop k) = true := by rw [hd, f3, e3.2.1, e3.2.2]; rfl
  refine ⟨x, h1, e3.2.1, by omega, by omega, e3.1, e3.2.2, by omega, by omega, g3, by rw [hd]; rfl⟩
theorem cut_mid {α : Type} (xs : List α) (k : Nat) : cut xs (some (k : Int)) (some ((k : Int) + 1)) = (xs.drop k).take 1 := by
  unfold cut cutIx
  have h : ¬ ((k : Int) < 0) := by omega
  have h2 : ¬ ((k : Int) + 1 < 0) := by omega
  have e : ((k : Int) + 1).toNat = k + 1 := by omega
  simp only [h, h2, if_false, Int.toNat_natCast, e]
  rcases Nat.lt_or_ge k xs.length with q | q
  · rw [Nat.min_eq_left (by omega), Nat.min_eq_left (by omega)]
    congr 1
    omega
  · rw [Nat.min_eq_right q, List.drop_of_length_le q, List.drop_of_length_le (Nat.le_refl _)]
    simp
theorem cut_after {α : Type} (xs : List α) (k : Nat) : cut xs (some ((k : Int) + 1)) none = xs.drop (k + 1) := cut_from xs (k + 1)
theorem getAt_k {xs : List D} {k : Nat} {x : D} (h : xs[k]? = some x) : getAt xs (k : Int) = some x := by
  have : k < xs.length := (List.getElem?_eq_some_iff.mp h).1
  have z : (k : Int) < xs.length := by omega
  simp [getAt, ixAt, z, h]
theorem bent_seq {n : Nat} {xs : List D} {v : D} (hx : v = .lst xs ∨ v = .tup xs) (hne : 0 < xs.length) (hok : D.okCs xs = true) (hz : D.szs xs ≤ 1000000) {c : Cells} (hc : PotOk c)
    (ih : ∀ x c, x ∈ xs → PotOk c → ∃ u c', RX.run (tbl pg.T) pg.gl (n + 3) 43 [.c 0, .d x] c = .ok (.d u) c' ∧ PotOk c' ∧ BentOk x u) :
    ∃ u c', RX.run (tbl pg.T) pg.gl (n + 4) 43 [.c 0, .d v] c = .ok (.d u) c' ∧ PotOk c' ∧ BentOk v u := by
  have big : 3000000 ≤ szLine := by decide
  have hlen := szs_len xs
  obtain ⟨k, c1, hk, hc1, e1⟩ := drawK (n := n + 2) xs.length hne (by omega) c hc
  obtain ⟨w, c2, hw, hc2, e2⟩ := drawK (n := n + 2) 8 (by decide) (by decide) c1 hc1
  have e2 : RX.run (tbl pg.T) pg.gl (n + 3) 27 [.c 0, .d (.int 8)] c1 = .ok (.d (.int (w : Int))) c2 := e2
  obtain ⟨x, hx1, p1, p2, p3, p4, p5, p6, p7, p8, p9⟩ := seq_parts hk hok
  have l1 : (xs.take k).length ≤ k := by rw [List.length_take]; omega
  have l2 : (xs.drop k).length ≤ xs.length := by rw [List.length_drop]; omega
  have l3 : (xs.drop (k + 1)).length ≤ xs.length := by rw [List.length_drop]; omega
  have s1 : (xs.take k).length + (xs.drop (k + 1)).length ≤ szLine := by omega
  have s2 : (xs.take k).length + [x].length ≤ szLine := by simp; omega
  have s3 : (xs.take k ++ [x]).length + (xs.drop k).length ≤ szLine := by rw [List.length_append]; simp; omega
  have vl : v = .lst xs → v.sz = D.szs xs + 2 ∧ v.depth = D.depths xs + 1 := fun e => by subst e; exact ⟨rfl, rfl⟩
  have vt : v = .tup xs → v.sz = D.szs xs + 3 ∧ v.depth = D.depths xs + 1 := fun e => by subst e; exact ⟨rfl, rfl⟩
  have ls : ∀ ys : List D, (D.lst ys).okC = D.okCs ys ∧ (D.lst ys).sz = D.szs ys + 2 ∧ (D.lst ys).depth = D.depths ys + 1 := fun ys => ⟨rfl, rfl, rfl⟩
  have ts : ∀ ys : List D, (D.tup ys).okC = D.okCs ys ∧ (D.tup ys).sz = D.szs ys + 3 ∧ (D.tup ys).depth = D.depths ys + 1 := fun ys => ⟨rfl, rfl, rfl⟩
  have pos : ¬ xs = [] := fun e => by subst e; simp at hne
  rw [run_eq (fn := f43.fn) rfl rfl]
  by_cases q0 : w = 0
  · have q : D.okCs (xs.take k ++ xs.drop (k + 1)) = true ∧ D.szs (xs.take k ++ xs.drop (k + 1)) ≤ D.szs xs ∧ D.depths (xs.take k ++ xs.drop (k + 1)) ≤ D.depths xs := ⟨by rw [okCs_app, p4, p5]; rfl, by rw [szs_app]; omega, by rw [depths_app]; omega⟩
    rcases hx with rfl | rfl
    · refine ⟨.lst (xs.take k ++ xs.drop (k + 1)), c2, by simp [f43, b43, setsE, slN, e1, e2, q0, D.slc, cut_after, r_add_l _ _ s1, hne, pos], hc2, q.1, ?_, ?_⟩
      · rw [(ls _).2.1, (ls _).2.1]; omega
      · rw [(ls _).2.2, (ls _).2.2]; omega
    · refine ⟨.tup (xs.take k ++ xs.drop (k + 1)), c2, by simp [f43, b43, setsE, slN, e1, e2, q0, D.slc, cut_after, r_add_t _ _ s1, hne, pos], hc2, q.1, ?_, ?_⟩
      · rw [(ts _).2.1, (ts _).2.1]; omega
      · rw [(ts _).2.2, (ts _).2.2]; omega
  by_cases q1 : (w : Int) = 1
  · have q : D.okCs (xs.take k ++ [x] ++ xs.drop k) = true ∧ D.szs (xs.take k ++ [x] ++ xs.drop k) ≤ 2 * D.szs xs ∧ D.depths (xs.take k ++ [x] ++ xs.drop k) ≤ D.depths xs := by
      refine ⟨by rw [okCs_app, okCs_app, p4, p8]; show (true && (x.okC && true) && true) = true; rw [p1]; rfl, ?_, ?_⟩
      · rw [szs_app, szs_app]
        have : D.szs [x] = x.sz + 2 + 0 := rfl
        omega
      · rw [depths_app, depths_app]
        have : D.depths [x] = max x.depth 0 := rfl
        omega
    rcases hx with rfl | rfl
    · refine ⟨.lst (xs.take k ++ [x] ++ xs.drop k), c2, by simp [f43, b43, setsE, slN, e1, e2, q0, q1, D.slc, cut_mid, p9, r_add_l _ _ s2, r_add_l _ _ s3, hne, pos], hc2, q.1, ?_, ?_⟩
      · rw [(ls _).2.1, (ls _).2.1]; omega
      · rw [(ls _).2.2, (ls _).2.2]; omega
    · refine ⟨.tup (xs.take k ++ [x] ++ xs.drop k), c2, by simp [f43, b43, setsE, slN, e1, e2, q0, q1, D.slc, cut_mid, p9, r_add_t _ _ s2, r_add_t _ _ s3, hne, pos], hc2, q.1, ?_, ?_⟩
      · rw [(ts _).2.1, (ts _).2.1]; omega
      · rw [(ts _).2.2, (ts _).2.2]; omega
  by_cases q2 : (w : Int) = 2
  · rcases hx with rfl | rfl
    · refine ⟨.tup xs, c2, by simp [f43, b43, setsE, slN, e1, e2, q0, q1, q2, hne, pos], hc2, hok, ?_, ?_⟩
      · rw [(ls _).2.1, (ts _).2.1]; omega
      · rw [(ls _).2.2, (ts _).2.2]; omega
    · refine ⟨.lst xs, c2, by simp [f43, b43, setsE, slN, e1, e2, q0, q1, q2, hne, pos], hc2, hok, ?_, ?_⟩
      · rw [(ls _).2.1, (ts _).2.1]; omega
      · rw [(ls _).2.2, (ts _).2.2]; omega
  · obtain ⟨u, c3, e3, hc3, b1, b2, b3⟩ := ih x c2 (List.mem_of_getElem? hx1) hc2
    have g := getAt_k hx1
    have s4 : ∀ u : D, (xs.take k).length + [u].length ≤ szLine := fun u => by simp; omega
    have s5 : ∀ u : D, (xs.take k ++ [u]).length + (xs.drop (k + 1)).length ≤ szLine := fun u => by rw [List.length_append]; simp; omega
    have q : D.okCs (xs.take k ++ [u] ++ xs.drop (k + 1)) = true ∧ D.szs (xs.take k ++ [u] ++ xs.drop (k + 1)) ≤ 2 * D.szs xs + 300 ∧ D.depths (xs.take k ++ [u] ++ xs.drop (k + 1)) ≤ D.depths xs + 2 := by
      refine ⟨by rw [okCs_app, okCs_app, p4, p5]; show (true && (u.okC && true) && true) = true; rw [b1]; rfl, ?_, ?_⟩
      · rw [szs_app, szs_app]
        have : D.szs [u] = u.sz + 2 + 0 := rfl
        omega
      · rw [depths_app, depths_app]
        have : D.depths [u] = max u.depth 0 := rfl
        omega
    rcases hx with rfl | rfl
    · refine ⟨.lst (xs.take k ++ [u] ++ xs.drop (k + 1)), c3, by simp [f43, b43, setsE, slN, e1, e2, q0, q1, q2, D.idx, g, e3, D.slc, cut_after, r_add_l _ _ (s4 u), r_add_l _ _ (s5 u), hne, pos], hc3, q.1, ?_, ?_⟩
      · rw [(ls _).2.1, (ls _).2.1]; omega
      · rw [(ls _).2.2, (ls _).2.2]; omega
    · refine ⟨.tup (xs.take k ++ [u] ++ xs.drop (k + 1)), c3, by simp [f43, b43, setsE, slN, e1, e2, q0, q1, q2, D.idx, g, e3, D.slc, cut_after, r_add_t _ _ (s4 u), r_add_t _ _ (s5 u), hne, pos], hc3, q.1, ?_, ?_⟩
      · rw [(ts _).2.1, (ts _).2.1]; omega
      · rw [(ts _).2.2, (ts _).2.2]; omega
theorem okCs_mem : ∀ {xs : List D} {x : D}, D.okCs xs = true → x ∈ xs → x.okC = true
  | y :: xs, x, h, hx => by
    have h : (y.okC && D.okCs xs) = true := h
    rw [Bool.and_eq_true] at h
    rcases List.mem_cons.mp hx with e | hx
    · subst e; exact h.1
    · exact okCs_mem h.2 hx
theorem bent_flat {n : Nat} {v : D} (h : v.isTy .list = false ∧ v.isTy .tuple = false ∨ v = .lst [] ∨ v = .tup []) (hv : v.okC = true) : Dr (RX.run (tbl pg.T) pg.gl (n + 4) 43 [.c 0, .d v]) (BentOk v) := by
  intro c hc
  obtain ⟨x, c', e, hc', hx⟩ := mem_bent (n := n + 1) (v := v) hc hv
  have e : RX.run (tbl pg.T) pg.gl (n + 3) 28 [.c 0, .d (.lst bentL)] c = .ok (.d x) c' := e
  have add1 : ∀ a b : List D, a.length + b.length ≤ 1000 → Bop.run .add (.lst a) (.lst b) = some (.lst (a ++ b)) := fun a b h => r_add_l _ _ (Nat.le_trans h (by decide))
  refine ⟨x, c', ?_, hc', hx⟩
  rw [run_eq (fn := f43.fn) rfl rfl]
  rcases h with ⟨h1, h2⟩ | rfl | rfl <;> simp [f43, b43, add1, e, *]
theorem bent : ∀ (d : Nat) (v : D), v.depth ≤ d → v.okC = true → v.sz ≤ 1000000 → ∀ m, d + 4 ≤ m → Dr (RX.run (tbl pg.T) pg.gl m 43 [.c 0, .d v]) (BentOk v)
  | d, .non, _, hv, _, m, hm => by obtain ⟨m, rfl⟩ : ∃ j, m = j + 4 := ⟨m - 4, by omega⟩; exact bent_flat (.inl ⟨rfl, rfl⟩) hv
  | d, .bl _, _, hv, _, m, hm => by obtain ⟨m, rfl⟩ : ∃ j, m = j + 4 := ⟨m - 4, by omega⟩; exact bent_flat (.inl ⟨rfl, rfl⟩) hv
  | d, .int _, _, hv, _, m, hm => by obtain ⟨m, rfl⟩ : ∃ j, m = j + 4 := ⟨m - 4, by omega⟩; exact bent_flat (.inl ⟨rfl, rfl⟩) hv
  | d, .str _, _, hv, _, m, hm => by obtain ⟨m, rfl⟩ : ∃ j, m = j + 4 := ⟨m - 4, by omega⟩; exact bent_flat (.inl ⟨rfl, rfl⟩) hv
  | d, .lst [], _, hv, _, m, hm => by obtain ⟨m, rfl⟩ : ∃ j, m = j + 4 := ⟨m - 4, by omega⟩; exact bent_flat (.inr (.inl rfl)) hv
  | d, .tup [], _, hv, _, m, hm => by obtain ⟨m, rfl⟩ : ∃ j, m = j + 4 := ⟨m - 4, by omega⟩; exact bent_flat (.inr (.inr rfl)) hv
  | 0, .lst (x :: xs), hd, hv, hz, m, hm => by
    have : (D.lst (x :: xs)).depth = D.depths (x :: xs) + 1 := rfl
    omega
  | 0, .tup (x :: xs), hd, hv, hz, m, hm => by
    have : (D.tup (x :: xs)).depth = D.depths (x :: xs) + 1 := rfl
    omega
  | d + 1, .lst (x :: xs), hd, hv, hz, m, hm => by
    have e1 : (D.lst (x :: xs)).depth = D.depths (x :: xs) + 1 := rfl
    have e2 : (D.lst (x :: xs)).sz = D.szs (x :: xs) + 2 := rfl
    obtain ⟨m, rfl⟩ : ∃ j, m = j + 4 := ⟨m - 4, by omega⟩
    exact fun c hc => bent_seq (.inl rfl) (by simp) hv (by omega) hc fun y c hy hc => bent d y (by have := depth_mem hy; omega) (okCs_mem hv hy) (by have := sz_mem hy; omega) (m + 3) (by omega) c hc
  | d + 1, .tup (x :: xs), hd, hv, hz, m, hm => by
    have e1 : (D.tup (x :: xs)).depth = D.depths (x :: xs) + 1 := rfl
    have e2 : (D.tup (x :: xs)).sz = D.szs (x :: xs) + 3 := rfl
    obtain ⟨m, rfl⟩ : ∃ j, m = j + 4 := ⟨m - 4, by omega⟩
    exact fun c hc => bent_seq (.inr rfl) (by simp) hv (by omega) hc fun y c hy hc => bent d y (by have := depth_mem hy; omega) (okCs_mem hv hy) (by have := sz_mem hy; omega) (m + 3) (by omega) c hc
theorem wide {n : Nat} {k v : D} {s d : Nat} (hv : Vw s d v) : Dr (RX.run (tbl pg.T) pg.gl (n + 3) 44 [.c 0, .d k, .d v]) (Vw (2 * s + 600) (d + 5)) := by
  intro c hc
  obtain ⟨w, c1, hw, hc1, e1⟩ := drawK (n := n + 1) 4 (by decide) (by decide) c hc
  have e1 : RX.run (tbl pg.T) pg.gl (n + 2) 27 [.c 0, .d (.int 4)] c = .ok (.d (.int (w : Int))) c1 := e1
  have sm := Vw.t1 wSame (by decide)
  have a1 := Vw.t3 wThen (by decide) sm hv
  rw [run_eq (fn := f44.fn) rfl rfl]
  by_cases q0 : w = 0
  · exact ⟨.tup [.str wThen, .tup [.str wSame], v], c1, by simp [f44, b44, e1, q0], hc1, a1.up (by omega) (by omega)⟩
  by_cases q1 : (w : Int) = 1
  · exact ⟨.tup [.str wBoth, v, v], c1, by simp [f44, b44, e1, q0, q1], hc1, (Vw.t3 wBoth (by decide) hv hv).up (by omega) (by omega)⟩
  by_cases q2 : (w : Int) = 2
  · exact ⟨.tup [.str wThen, v, .tup [.str wSame]], c1, by simp [f44, b44, e1, q0, q1, q2], hc1, (Vw.t3 wThen (by decide) hv sm).up (by omega) (by omega)⟩
  · exact ⟨.tup [.str wThen, .tup [.str wSame], .tup [.str wThen, .tup [.str wSame], .tup [.str wThen, .tup [.str wSame], v]]], c1, by simp [f44, b44, e1, q0, q1, q2], hc1, (Vw.t3 wThen (by decide) sm (Vw.t3 wThen (by decide) sm a1)).up (by omega) (by omega)⟩
end K62
end
section -- K15
namespace K62
open RX
theorem exS_tri {call : Nat → List Vl → M Vl} {gl : Nat → Option GV} {b h : Ss} {k i : Nat} {env : EnvD} {c : Cells} : exS call gl (.tri b k i h) env c = match exs call gl b env c with
    | .exc k' ds env' c' => if k' = k then (match exs call gl h (env'.set i (.exn k ds)) c' with
        | .nx env2 c2 => .nx ((env2.map Sl.noX).set i .no) c2
        | .rt v c2 => .rt v c2
        | _ => .stuck) else .exc k' ds env' c'
    | r => r := rfl
theorem b_repr {d : D} (h : showOk d = true) : Bi.run .repr [d] = some (.str d.shown) := by simp [Bi.run, h]
theorem kind_shown {k : D} (h : KOk Lf k) : k.okC = true ∧ k.sz ≤ 400 * manyF k ∧ k.depth ≤ 4 + deepF k := by
  induction h with
  | leaf h1 h2 =>
    obtain ⟨w, r, e, q1, q2, q3, q4⟩ := leaf_facts h1
    rw [deep_leaf h2, many_leaf h2]
    exact ⟨q4, by omega, by omega⟩
  | @map k h ih =>
    obtain ⟨a1, a2, a3⟩ := ih
    have v := Vw.t2 wMap (by decide) ⟨a1, a2, a3⟩
    rw [deep_map, many_map]
    exact ⟨v.1, by have := v.2.1; omega, by have := v.2.2; omega⟩
  | @two w a b hw h1 h2 i1 i2 =>
    obtain ⟨a1, a2, a3⟩ := i1
    obtain ⟨b1, b2, b3⟩ := i2
    have v := Vw.t3 w (by rcases hw with rfl | rfl | rfl <;> decide) ⟨a1, a2, a3⟩ ⟨b1, b2, b3⟩
    rw [deep_two hw, many_two hw]
    exact ⟨v.1, by have := v.2.1; omega, by have := v.2.2; omega⟩
theorem KF.vw {k : D} (h : KF k) : Vw 4800 8 k := by
  have a := kind_shown h.1
  have b := h.sz
  exact ⟨a.1, by omega, by omega⟩
theorem Vw.show {s d : Nat} {v : D} (h : Vw s d v) (hs : s ≤ 1000000) (hd : d ≤ 60) : showOk v = true := showOk_of h.1 (Nat.le_trans h.2.1 (Nat.le_trans hs (by decide))) (by have := h.2.2; omega)
theorem bl_show (b : Bool) : showOk (.bl b) = true := by cases b <;> exact showOk_of rfl (by decide) (by decide)
theorem pair_show {a b : D} {s d s' d' : Nat} (h : Vw s d a) (h' : Vw s' d' b) (hs : s + s' ≤ 1000000) (hd : max d d' ≤ 50) : showOk (.lst [a, b]) = true := by
  obtain ⟨a1, a2, a3⟩ := h
  obtain ⟨b1, b2, b3⟩ := h'
  refine showOk_of ?_ ?_ ?_
  · show (a.okC && (b.okC && true)) = true
    rw [a1, b1]; rfl
  · have : 1000006 ≤ szLine := by decide
    show (a.sz + 2 + (b.sz + 2 + 0)) + 2 ≤ _
    omega
  · show max a.depth (max b.depth 0) + 1 ≤ 64
    omega
theorem value_right {k v : D} {c : Cells} (hk : KF k) (hv : Vw 100000 40 v) {m : Nat} (hm : 130 ≤ m) : RX.run (tbl pg.T) pg.gl m 45 [.d k, .d v] c = .ok (.d (.bl true)) c := by
  obtain ⟨m, rfl⟩ : ∃ j, m = j + 1 := ⟨m - 1, by omega⟩
  have z1 : v.sz ≤ 1000000 := by have := hv.2.1; omega
  have z2 : v.depth ≤ 40 := hv.2.2
  have s1 := b_repr (pair_show hk.vw hv (by omega) (by omega))
  have s2 := fun b => b_repr (bl_show b)
  have s3 := b_repr (hv.show (by omega) (by omega))
  have big : 1000000 ≤ szLine := by decide
  have e1 := law_eye (c := c) 40 k v hk (by omega) z2 m (by omega)
  have e2 := is_view (c := c) (f := 40) (m := m) hk z1 z2 (by omega)
  have e3 := view_kind (c := c) (f := 40) (m := m) hk z1 z2 (by omega)
  rw [run_eq (fn := f45.fn) rfl rfl]
  cases e : eyeF 40 k v with
  | none =>
    rw [e] at e1 e2 e3
    simp [dueF, eyeD] at e1 e2 e3
    simp [f45, b45, setsE, slN, s1, s2, s3, e1, e2, e3, ev_callk, ev_exf, exS_tri, Sl.noX]
  | some p =>
    obtain ⟨k', d, n⟩ := p
    have o := eyeF_ok 40 hk e
    have s4 := b_repr (o.1.vw.show (by omega) (by omega))
    rw [e] at e1 e2 e3
    by_cases q1 : d ≤ 5
    · have q1' : (d : Int) ≤ 5 := by omega
      by_cases q2 : n ≤ 12
      · have q2' : (n : Int) ≤ 12 := by omega
        simp [dueF, eyeD, kindF, q1, q2] at e1 e2 e3
        simp [f45, b45, setsE, slN, s1, s2, s3, s4, e1, e2, e3, ev_callk, ev_exf, exS_tri, Sl.noX, q1', q2']
      · have q2' : ¬ (n : Int) ≤ 12 := by omega
        simp [dueF, eyeD, kindF, q1, q2] at e1 e2 e3
        simp [f45, b45, setsE, slN, s1, s2, s3, s4, e1, e2, e3, ev_callk, ev_exf, exS_tri, Sl.noX, q1', q2']
    · have q1' : ¬ (d : Int) ≤ 5 := by omega
      simp [dueF, eyeD, kindF, q1] at e1 e2 e3
      simp [f45, b45, setsE, slN, s1, s2, s3, s4, e1, e2, e3, ev_callk, ev_exf, exS_tri, Sl.noX, q1']
theorem bent_vw {s d : Nat} {v : D} (hv : Vw s d v) (hs : s ≤ 45000) (hd : d ≤ 30) {m : Nat} (hm : 40 ≤ m) : Dr (RX.run (tbl pg.T) pg.gl m 43 [.c 0, .d v]) (Vw 100000 40) := fun c hc => by
  obtain ⟨h1, h2, h3⟩ := hv
  obtain ⟨u, c', e, hc', b1, b2, b3⟩ := bent v.depth v (Nat.le_refl _) h1 (by omega) m (by omega) c hc
  exact ⟨u, c', e, hc', b1, by omega, by omega⟩
theorem right {m : Nat} (hm : 150 ≤ m) {c : Cells} (hc : PotOk c) : ∃ c', RX.run (tbl pg.T) pg.gl m 46 [.c 0] c = .ok (.d (.bl true)) c' := by
  obtain ⟨m, rfl⟩ : ∃ j, m = j + 10 := ⟨m - 10, by omega⟩
  obtain ⟨k, c1, e1, hc1, g1, g2, g3⟩ := kind (n := m + 4) 3 (by decide) (by decide) c hc
  have hk : KF k := ⟨g1, fit_iff.mpr ⟨by omega, by omega⟩⟩
  have e1 : RX.run (tbl pg.T) pg.gl (m + 9) 31 [.c 0, .d (.int 3)] c = .ok (.d k) c1 := e1
  obtain ⟨v, c2, e2, hc2, k', _, hv⟩ := view 2 k hk (m + 9) (by omega) c1 hc1
  have e2 : RX.run (tbl pg.T) pg.gl (m + 9) 37 [.c 0, .d k, .d (.int 2)] c1 = .ok (.d v) c2 := e2
  have hv : Vw 3000 10 v := hv.up (by decide) (by decide)
  have e3 := value_right (c := c2) (m := m + 9) hk (hv.up (by omega) (by omega)) (by omega)
  obtain ⟨env1, c3, st1, e4⟩ := for_st (call := RX.run (tbl pg.T) pg.gl (m + 9)) (gl := pg.gl) (t := .nm 3) (s := .rng1 (.cst (.int 5))) (b := b46_1) (c0 := c2) (c := c2) (xs := rangeI 0 5)
    (env := [.v (.c 0), .v (.d k), .v (.d v), .no]) (St := fun ds env c => PotOk c ∧ ∃ u, env = [.v (.c 0), .v (.d k), .v (.d v), u])
    (evR_rng (by simp) (by decide)) (fun ds x rest env c hx st => by
      obtain ⟨hc, u, rfl⟩ := st
      refine ⟨_, rfl, ?_⟩
      obtain ⟨b, c', eb, hc', hb⟩ := bent_vw hv (by omega) (by omega) (m := m + 9) (by omega) c hc
      have er := value_right (c := c') (m := m + 9) hk hb (by omega)
      exact ⟨_, c', ⟨hc', .v (.d x), rfl⟩, by simp [b46_1, eb, er]⟩) ⟨hc2, _, rfl⟩
  obtain ⟨hc3, u1, rfl⟩ := st1
  obtain ⟨env2, c4, st2, e5⟩ := for_st (call := RX.run (tbl pg.T) pg.gl (m + 9)) (gl := pg.gl) (t := .nm 3) (s := .rng1 (.cst (.int 2))) (b := b46_2) (c0 := c3) (c := c3) (xs := rangeI 0 2)
    (env := [.v (.c 0), .v (.d k), .v (.d v), u1]) (St := fun ds env c => PotOk c ∧ ∃ v u, env = [.v (.c 0), .v (.d k), .v (.d v), u] ∧ Vw (match ds.length with | 0 => 3000 | 1 => 7000 | _ => 20000) (10 + 5 * ds.length) v)
    (evR_rng (by simp) (by decide)) (fun ds x rest env c hx st => by
      obtain ⟨hc, v, u, rfl, hv⟩ := st
      refine ⟨_, rfl, ?_⟩
      have hl : ds.length < 2 := by
        have := congrArg List.length hx
        rw [rangeI_len, List.length_append, List.length_cons] at this
        omega
      obtain ⟨w, c5, ew, hc5, hw⟩ := wide (n := m + 6) (k := k) hv c hc
      have ew : RX.run (tbl pg.T) pg.gl (m + 9) 44 [.c 0, .d k, .d v] c = .ok (.d w) c5 := ew
      have hw2 : Vw (match ds.length + 1 with | 0 => 3000 | 1 => 7000 | _ => 20000) (10 + 5 * (ds.length + 1)) w := by
        match hd : ds.length, hl with
        | 0, _ => rw [hd] at hw; exact hw.up (by decide) (by omega)
        | 1, _ => rw [hd] at hw; exact hw.up (by decide) (by omega)
      have hw3 : Vw 20000 20 w := by
        match hd : ds.length, hl with
        | 0, _ => rw [hd] at hw; exact hw.up (by decide) (by omega)
        | 1, _ => rw [hd] at hw; exact hw.up (by decide) (by omega)
      have er1 := value_right (c := c5) (m := m + 9) hk (hw3.up (by omega) (by omega)) (by omega)
      obtain ⟨b, c6, eb, hc6, hb⟩ := bent_vw hw3 (by omega) (by omega) (m := m + 9) (by omega) c5 hc5
      have er2 := value_right (c := c6) (m := m + 9) hk hb (by omega)
      exact ⟨_, c6, ⟨hc6, w, .v (.d x), rfl, by rw [List.length_append]; exact hw2⟩, by simp [b46_2, ew, er1, eb, er2]⟩) ⟨hc3, v, u1, rfl, hv⟩
  obtain ⟨hc4, w, u2, rfl, _⟩ := st2
  refine ⟨c4, ?_⟩
  rw [run_eq (fn := f46.fn) rfl rfl]
  simp [f46, b46, e1, e2, e3, e4, e5]
theorem pot {n : Nat} (ns : List Int) : ∃ p0 p1 : Int, RX.run (tbl pg.T) pg.gl (n + 1) 26 [.d (.lst (ns.map .int)), .d (.int 0)] [] = .ok (.c 0) [[.int p0, .int p1]] ∧ 0 ≤ p0 ∧ 0 ≤ p1 ∧ p1 < 18446744073709551616 := by
  rw [run_eq (fn := f26.fn) rfl rfl]
  have pw : Bop.run .pow (.int 10) (.int 18) = some (.int 1000000000000000000) := by simp [Bop.run]
  have fin : ∀ x y : Int, 0 < y → y < 2147483648 → 0 ≤ (if x > 0 then x else 0) ∧ ∀ z : Int, 0 ≤ z % y + 1 ∧ z % y + 1 < 18446744073709551616 := fun x y hy hy2 => by
    refine ⟨by split <;> omega, fun z => ?_⟩
    have := Int.emod_nonneg z (show y ≠ 0 by omega)
    have := Int.emod_lt_of_pos z hy
    omega
  cases ns with
  | nil =>
    refine ⟨_, _, by simp [f26, b26, pw]; exact ⟨rfl, rfl⟩, by decide, by decide, by decide⟩
  | cons x r =>
    have z : (0 : Int) < (r.length : Int) + 1 := by omega
    have ix : D.idx (.lst (.int x :: List.map D.int r)) (.int 0) = some (.int x) := by simp [D.idx, getAt, ixAt, z]
    refine ⟨_, _, by simp [f26, b26, pw, z, ix]; exact ⟨rfl, rfl⟩, ?_, ?_, ?_⟩
    · split <;> omega
    · exact ((fin 0 2147483563 (by decide) (by decide)).2 _).1
    · exact ((fin 0 2147483563 (by decide) (by decide)).2 _).2
theorem math : ∀ ns : List Int, ns.length ≤ 63 → ∃ c, RX.run (tbl pg.T) pg.gl 200 47 [.d (.lst (ns.map .int))] [] = .ok (.d (.bl true)) c := fun ns _ => by
  obtain ⟨p0, p1, e, h0, h1, h2⟩ := pot (n := 198) ns
  obtain ⟨c', e2⟩ := right (m := 199) (by decide) (c := [[.int p0, .int p1]]) ⟨p0, p1, rfl, h0, h1, h2⟩
  refine ⟨c', ?_⟩
  rw [run_eq (fn := f47.fn) rfl rfl]
  simp [f47, b47, e, e2]
end K62
end
section -- Hx_k62
namespace K62
open PySem RX
theorem tx : pg.tx = true := by decide +kernel
def nm0 : List Str := (["PartError", "InvalidKind", "InvalidView", "is_integer", "is_count", "is_list", "MOST_TABLE_STATES", "are_table_rows", "table_is_join", "MOST_ROW", "MOST_POINTS", "MOST_TIES", "MOST_DEEP", "MOST_KINDS", "MOST_NAME", "LETTERS", "SIDES", "is_name_word", "highs_of_points", "is_tie", "are_ties", "has_right_sides", "is_kind_value", "kind_as_told", "want_kind", "MOST_VIEW_DEEP", "MOST_VIEWS", "MOST_TOLD_NAMES", "are_unlike_names", "are_name_pairs", "is_within_bounds", "plain_view_looked", "map_view_looked", "twofold_view_looked", "view_looked", "views_within", "view_in", "want_view_of", "kind_of_view", "is_view"] : List String).map PySem.Str.ofString
def nm1 : List Str := (["view_kind", "_law_pot", "_law_draw", "_law_pick", "_law_leaf", "_law_around", "_law_kind", "_law_view_kind", "_law_kinds_within", "_law_deep", "_law_fits", "_law_step", "_law_view", "_law_is_name", "_law_are_names", "_law_are_renamed", "_law_eye_step", "_law_eye", "_law_bent", "_law_wide", "_law_value_right", "_law_right"] : List String).map PySem.Str.ofString
def nms : List Str := nm0 ++ nm1
abbrev R : PySem.W.OpenRow := PySem.W.OpenLaw.row PySem.Challenge.rw_partsmet_k62_any_value_as_a_view
abbrev hk : PySem.W.Hook := He.hookX 4 [] pg.defs pg.tabs pg.ck
def ob (s : PySem.W.SharedT) : He.AlT := He.obsXG 4 [] pg.defs pg.tabs pg.ck (HandSHeadRun.getT s)
theorem ob_eq (s : PySem.W.SharedT) : ob s = hk.obs s.abs := He.obsXG_eq (HandSHeadRun.getT_eq s)
theorem hrun0 (w : World) : HandSHeadRun.RunEq R (PySem.W.view R.prog [68]) hk ob 100000 nms (w.withFollow "special-get-raises" false) := by
  intro os
  kernel_rfl
theorem hrun1 (w : World) : HandSHeadRun.RunEq R (PySem.W.view R.prog [68]) hk ob 100000 nms (w.withFollow "special-get-raises" true) := by
  intro os
  kernel_rfl
theorem hrun (w : World) : HandSHeadRun.RunEq R (PySem.W.view R.prog [68]) hk ob 100000 nms w :=
  PySem.W.byRow2 "special-get-raises" hrun0 hrun1 w
end K62
end
section -- Fin62
open PySem PySem.W PySem.Calls PyProof.Rows
theorem PySem.Challenge.cw_partsmet_k62_any_value_as_a_view_holds : PySem.Challenge.rw_partsmet_k62_any_value_as_a_view.Holds := by
  w_on; o_law
  refine HandSHeadRun.head_any (r := OpenLaw.row PySem.Challenge.rw_partsmet_k62_any_value_as_a_view) (q := view (OpenLaw.row PySem.Challenge.rw_partsmet_k62_any_value_as_a_view).prog [68]) (H := K62.hk) (ob := K62.ob) (M := 100000) (loose := K62.nms) (d := HandSHeadRun.topDef (OpenLaw.row PySem.Challenge.rw_partsmet_k62_any_value_as_a_view).prog 68) (kwd := []) K62.ob_eq
    (by kernel_rfl) (fun s => by kernel_rfl) K62.hrun (by kernel_rfl) (by kernel_rfl) (by kernel_rfl) (by rfl) (by first | assumption | decide +kernel) (by decide +kernel) ⟨rfl, rfl, rfl, rfl, rfl, by decide +kernel⟩ ?hw ?hc
  case hw => w_witness2
  case hc => exact RX.walkP (d := K62.pg) (li := 47) (N := 200) (I := K62.f47) (x := "_law_script") (l := PySem.Challenge.rw_partsmet_k62_any_value_as_a_view) rfl (by decide) (by kernel_rfl) ⟨rfl, by decide, by decide⟩ K62.tx rfl (by decide +kernel) (by kernel_rfl) K62.math
end
