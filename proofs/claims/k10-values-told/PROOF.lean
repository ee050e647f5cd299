import PyProof.Rows.All
import Wide.All
import OpenK.AllK
import Wide.FinOn
import HandS.ForMost
import HandS.Flow
import HandS.Style
import HandS.IsInst
import HandS.Conv
import HandS.FStr
import HandS.TupAny
import HandS.RaiseMore
import HandS.Exc
import HandS.ExcOwn
import HandS.HeadWalk
import PyProof.ReprRoads
import HandS.Text
import HandS.List
import HandS.Iter
import HandS.Comp
import HandS.TryMany
import HandS.ExcField
import HandS.TryOnly
import HandS.Ends
import HandS.Defaults
import HandS.HeadHook2
import HandS.Codes
import HandS.Head0
import HandS.Head1
import HandS.Head2
import HandS.HeadEnd
import KE.KExcSuper
import HandS.ExcInit
import PySem.Challenge.RW_fewslots_k10_values_told_as_texts
section
set_option Elab.async false
set_option linter.all false
/-! Fs0: a small language of our own (E, S), tree values T, a heap of numbered objects, and what programs of it do. -/
namespace Fs
open PySem

/-- values: tuples and lists that nobody changes are trees; what changes is an object with a number -/
inductive T where
  | non | bl (b : Bool) | int (i : Int) | str (s : Str)
  | tup (ts : List T) | lst (ts : List T) | scr (ns : List Int)
  | ref (k : Nat) | fn (f : Nat)
instance : Inhabited T := ⟨.non⟩

inductive Ob where
  | gone | lst (ts : List T) | dct (kvs : List (L2.Key × T)) | ins (c : Nat) (fs : List (Str × T))
abbrev Hs := List Ob
abbrev En := List (Option T)

inductive R (α : Type) where
  | ok (a : α) (h : Hs) | exc (c : Nat) (xs : List T) (h : Hs) | bad
namespace R
def bind {α β : Type} (r : R α) (k : α → Hs → R β) : R β := match r with
  | ok a h => k a h
  | exc c xs h => exc c xs h
  | bad => bad
/-- no exception may leave -/
def nox {α : Type} (r : R α) : R α := match r with
  | ok a h => ok a h
  | _ => bad
def ofO {α : Type} (o : Option α) (h : Hs) : R α := match o with
  | some a => ok a h
  | none => bad
@[simp] theorem bind_ok {α β : Type} (a : α) (h : Hs) (k : α → Hs → R β) : (ok a h).bind k = k a h := rfl
@[simp] theorem bind_exc {α β : Type} (c : Nat) (xs : List T) (h : Hs) (k : α → Hs → R β) : (exc c xs h : R α).bind k = exc c xs h := rfl
@[simp] theorem bind_bad {α β : Type} (k : α → Hs → R β) : (bad : R α).bind k = bad := rfl
theorem bind_assoc {α β γ : Type} (r : R α) (f : α → Hs → R β) (g : β → Hs → R γ) : (r.bind f).bind g = r.bind fun a h => (f a h).bind g := by
  cases r <;> rfl
theorem ofO_map {α β : Type} (o : Option α) (f : α → β) (h : Hs) : (ofO o h).bind (fun a h1 => .ok (f a) h1) = ofO (o.map f) h := by
  cases o <;> rfl
@[simp] theorem nox_ok {α : Type} (a : α) (h : Hs) : (ok a h).nox = ok a h := rfl
@[simp] theorem ofO_some {α : Type} (a : α) (h : Hs) : ofO (some a) h = ok a h := rfl
@[simp] theorem ofO_none {α : Type} (h : Hs) : (ofO none h : R α) = bad := rfl
end R

inductive Bk where | add | sub | mul | fdiv | mod | pow
inductive Ck where | eq | ne | lt | le | gt | ge | is | nis | inn | nin
inductive Kd where | non | bl | int | str | tup | lst | dct
/-- built-in functions, types called -/
inductive Bi where | abs | all | any | int | len | list | max1 | max2 | min1 | min2 | repr | str | sum | tuple | isinst (k : Kd)
/-- built-in methods -/
inductive Bm where | append | join | pop | extend | index | split

mutual
inductive E where
  | non | bl (b : Bool) | int (i : Int) | str (s : Str)
  | var (i : Nat) | glob (g : Nat) | fnv (f : Nat)
  | bin (o : Bk) (a b : E) | neg (a : E)
  | nott (a : E) | andv (xs : Es) | orv (xs : Es)
  | cmp (o : Ck) (a b : E) | cmp2 (o o2 : Ck) (a b c : E)
  | ite (c a b : E)
  | tup (xs : Es) | lstI (xs : Es) | lstM (xs : Es)
  | ix (a i : E) | sl (a lo hi : E) | absent
  | call (f : Nat) (xs : Es) | meth (f : Nat) (o : E) (xs : Es) | new (c : Nat) (xs : Es)
  | bi (b : Bi) (xs : Es) | bm (m : Bm) (o : E) (xs : Es)
  | attr (o : E) (f : Str)
  /-- a field of the exception at hand -/
  | exf (f : Str)
  | comp (m : Bool) (t : Tg) (it : It) (c : E) (e : E) (vs : List Nat)
  | fstr (xs : Es)
  /-- a list that is changed no more: its items as a tree -/
  | frz (e : E)
inductive Es where | nil | cons (a : E) (r : Es)
inductive It where | seq (e : E) | rng (e : E) | rng2 (a b : E) | enum (e : E) | zip (a b : E)
inductive Tg where | nm (i : Nat) | tp (ns : List Nat)
end

mutual
inductive S where
  | set (i : Nat) (e : E) | setT (ns : List Nat) (e : E) | par (ns : List Nat) (xs : Es)
  | setIx (o i e : E) | setAt (o : E) (f : Str) (e : E) | aug (i : Nat) (b : Bk) (e : E) | augIx (o i : E) (b : Bk) (e : E)
  | ex (e : E) | ret (e : E) | retN
  | ifs (c : E) (a b : Ss) | for_ (t : Tg) (it : It) (b : Ss) | whil (c : E) (b : Ss)
  | rais (c : Nat) (xs : Es) | tryy (b : Ss) (hs : Hd)
  | brk | cont | pass
inductive Ss where | nil | cons (s : S) (r : Ss)
/-- except clauses: the classes, the name's place, the suite -/
inductive Hd where | nil | cons (cs : List Nat) (i : Option Nat) (b : Ss) (r : Hd)
end

structure Fn where
  cls : Option Nat
  nm : Str
  ps : Nat
  nN : Nat
  body : Ss
inductive Cl where
  | plain (nm : Str) (init : Nat) (fl : List Str)
  /-- an exception: its fields, as its arguments stand; the classes that it is, itself too -/
  | exc (nm : Str) (fl : List Str) (up : List Nat)
structure Tb where
  fns : List Fn
  cls : List Cl
  cns : List (Str × T)

/-! ### values -/
mutual
def toD : T → Option PyData
  | .non => some .none
  | .bl b => some (.bool b)
  | .int i => some (.int i)
  | .str s => some (.str s)
  | .tup ts => (toDs ts).map PyData.tuple
  | .lst ts => (toDs ts).map PyData.list
  | _ => none
def toDs : List T → Option (List PyData)
  | [] => some []
  | t :: r => (toD t).bind fun d => (toDs r).map fun ds => d :: ds
end
def toDh (h : Hs) : T → Option PyData
  | .ref k => match h[k]? with
    | some (.lst ts) => (toDs ts).map PyData.list
    | _ => none
  | t => toD t
def eqT (h : Hs) (x y : T) : Option Bool := (toDh h x).bind fun d => (toDh h y).bind fun e =>
  if SeqAt.shaped d && SeqAt.shaped e then some (PyData.eqv d e) else none
def truT (h : Hs) : T → Option Bool
  | .non => some false
  | .bl b => some b
  | .int i => some (i != 0)
  | .str s => if s.length ≤ 1000000 then some (s.length != 0) else none
  | .tup ts => some (!ts.isEmpty)
  | .lst ts => some (!ts.isEmpty)
  | .ref k => match h[k]? with
    | some (.lst ts) => some (!ts.isEmpty)
    | _ => none
  | _ => none
def lim : Nat := 1000000
def addT : T → T → Option T
  | .int i, .int j => some (.int (i + j))
  | .str x, .str y => if x.length + y.length ≤ lim then some (.str (x ++ y)) else none
  | .tup x, .tup y => if x.length + y.length ≤ lim then some (.tup (x ++ y)) else none
  | .lst x, .lst y => if x.length + y.length ≤ lim then some (.lst (x ++ y)) else none
  | _, _ => none
def mulOk (i j : Int) : Bool := (decide (-(2 ^ 64) < i) && decide (i < 2 ^ 64)) || (decide (-(2 ^ 64) < j) && decide (j < 2 ^ 64))
def binT (b : Bk) (x y : T) : Option T := match b with
  | .add => addT x y
  | .sub => match x, y with
    | .int i, .int j => some (.int (i - j))
    | _, _ => none
  | .mul => match x, y with
    | .int i, .int j => if mulOk i j then some (.int (i * j)) else none
    | .str x, .int n => if decide (0 ≤ n) && (decide (n ≤ 1000) && decide (x.length ≤ 1000)) then some (.str (Txt.mul x n)) else none
    | _, _ => none
  | .fdiv => match x, y with
    | .int i, .int j => if decide (0 < j) && decide (j < 1073741824) then some (.int (i / j)) else none
    | _, _ => none
  | .mod => match x, y with
    | .int i, .int j => if decide (0 < j) then some (.int (i % j)) else none
    | _, _ => none
  | .pow => match x, y with
    | .int i, .int j => if decide (0 ≤ j) && (decide (j ≤ 1000000) && decide (i.natAbs < 2 ^ 64)) then some (.int (i ^ j.toNat)) else none
    | _, _ => none
def flatT : T → Bool
  | .non | .bl _ | .int _ | .str _ => true
  | _ => false
def eqF : T → T → Bool
  | .non, .non => true
  | .bl a, .bl b => a == b
  | .bl a, .int j => (if a then 1 else 0) == j
  | .int i, .bl b => i == (if b then 1 else 0)
  | .int i, .int j => i == j
  | .str x, .str y => decide (x = y)
  | _, _ => false
/-- x in y -/
def inT (h : Hs) (x y : T) : Option Bool := match y with
  | .str z => match x with
    | .str s => match s.cps.toList with
      | [c] => some (decide (c ∈ z.cps.toList))
      | _ => none
    | _ => none
  | .tup ts => if flatT x && ts.all flatT then some (ts.any fun y => eqF y x) else none
  | .lst ts => if flatT x && ts.all flatT then some (ts.any fun y => eqF y x) else none
  | .ref k => match h[k]? with
    | some (.lst ts) => if flatT x && ts.all flatT then some (ts.any fun y => eqF y x) else none
    | _ => none
  | _ => none
def isLive (h : Hs) (k : Nat) : Bool := match h[k]? with
  | some .gone => false
  | some _ => true
  | none => false
def isT (h : Hs) : T → T → Option Bool
  | x, .non => match x with
    | .non => some true
    | .ref k => if isLive h k then some false else none
    | _ => some false
  | .bl a, .bl b => some (decide (a = b))
  | _, _ => none
def cmpT (c : Ck) (h : Hs) (x y : T) : Option Bool := match c with
  | .eq => eqT h x y
  | .ne => (eqT h x y).map (!·)
  | .lt => match x, y with
    | .int i, .int j => some (decide (i < j))
    | _, _ => none
  | .le => match x, y with
    | .int i, .int j => some (decide (i ≤ j))
    | _, _ => none
  | .gt => match x, y with
    | .int i, .int j => some (decide (j < i))
    | _, _ => none
  | .ge => match x, y with
    | .int i, .int j => some (decide (j ≤ i))
    | _, _ => none
  | .is => isT h x y
  | .nis => (isT h x y).map (!·)
  | .inn => inT h x y
  | .nin => (inT h x y).map (!·)
def sgn (c : Nat) : T := .str ⟨#[c]⟩
def ixT (h : Hs) (x i : T) : Option T := match i with
  | .int i => match x with
    | .tup ts => L2.atI ts i
    | .lst ts => L2.atI ts i
    | .str z => if z.length ≤ lim then (L2.atI z.cps.toList i).map sgn else none
    | .ref k => match h[k]? with
      | some (.lst ts) => L2.atI ts i
      | _ => none
    | _ => none
  | _ => none
def cutL {α : Type} (xs : List α) (lo hi : Option Int) : List α := (xs.drop (HT.sIx xs.length 0 lo)).take (HT.sIx xs.length xs.length hi - HT.sIx xs.length 0 lo)
def slT (x : T) (lo hi : Option Int) : Option T := match x with
  | .tup ts => some (.tup (cutL ts lo hi))
  | .lst ts => some (.lst (cutL ts lo hi))
  | .scr ns => some (.lst ((cutL ns lo hi).map T.int))
  | .str z => if z.length ≤ lim then some (.str (L2.cutS z lo hi)) else none
  | _ => none
def items : T → Option (List T)
  | .tup ts => some ts
  | .lst ts => some ts
  | .str z => some (z.cps.toList.map sgn)
  | _ => none
def intsT : List T → Option (List Int)
  | [] => some []
  | .int i :: r => (intsT r).map (i :: ·)
  | _ :: _ => none
def bools : List T → Option (List Bool)
  | [] => some []
  | .bl i :: r => (bools r).map (i :: ·)
  | _ :: _ => none
def texts : List T → Option (List Str)
  | [] => some []
  | .str i :: r => (texts r).map (i :: ·)
  | _ :: _ => none
/-- a value of the first kind is one of the second -/
def Kd.is : Kd → Kd → Bool
  | .non, .non | .bl, .bl | .bl, .int | .int, .int | .str, .str | .tup, .tup | .lst, .lst | .dct, .dct => true
  | _, _ => false
def kind (h : Hs) : T → Option Kd
  | .non => some .non
  | .bl _ => some .bl
  | .int _ => some .int
  | .str _ => some .str
  | .tup _ => some .tup
  | .lst _ => some .lst
  | .ref k => match h[k]? with
    | some (.lst _) => some .lst
    | some (.dct _) => some .dct
    | _ => none
  | _ => none
def maxL : List Int → Option Int
  | [] => none
  | a :: r => some (r.foldl (fun m x => if x > m then x else m) a)
def minL : List Int → Option Int
  | [] => none
  | a :: r => some (r.foldl (fun m x => if x < m then x else m) a)
def lenT (h : Hs) : T → Option Nat
  | .tup ts => some ts.length
  | .lst ts => some ts.length
  | .str s => if s.length ≤ lim then some s.length else none
  | .ref k => match h[k]? with
    | some (.lst ts) => some ts.length
    | _ => none
  | _ => none
def reprT (h : Hs) (x : T) : Option T := (toDh h x).bind fun d => if SeqAt.shaped d && (d.showable && decide (d.shown.length ≤ lim)) then some (.str d.shown) else none
def toInt : T → Option T
  | .int i => some (.int i)
  | .bl b => some (.int (if b then 1 else 0))
  | .str s => if s.length ≤ 640 then (intText? s).map T.int else none
  | _ => none
def toStr : T → Option T
  | .str s => some (.str s)
  | .int i => if i.natAbs.log2 < 1920 then some (.str (toString i)) else none
  | _ => none
def toLst : T → Option T
  | .tup ts => some (.lst ts)
  | .lst ts => some (.lst ts)
  | _ => none
def toTup (h : Hs) : T → Option T
  | .tup ts => some (.tup ts)
  | .lst ts => some (.tup ts)
  | .ref k => match h[k]? with
    | some (.lst ts) => some (.tup ts)
    | _ => none
  | _ => none
def one : List T → Option T
  | [x] => some x
  | _ => none
def intT : T → Option Int
  | .int i => some i
  | _ => none
def two : List T → Option (Int × Int)
  | [x, y] => match x, y with
    | .int i, .int j => some (i, j)
    | _, _ => none
  | _ => none
def lstOf : List T → Option (List T)
  | [x] => match x with
    | .lst ts => some ts
    | _ => none
  | _ => none
def biT (b : Bi) (h : Hs) (xs : List T) : Option T := match b with
  | .abs => (one xs).bind fun x => (intT x).map fun i => .int (if i < 0 then -i else i)
  | .all => (lstOf xs).bind fun ts => (bools ts).map fun bs => .bl (bs.all id)
  | .any => (lstOf xs).bind fun ts => (bools ts).map fun bs => .bl (bs.any id)
  | .int => (one xs).bind toInt
  | .len => (one xs).bind fun x => (lenT h x).map fun (n : Nat) => T.int (n : Int)
  | .list => (one xs).bind toLst
  | .max2 => (two xs).map fun p => .int (if p.2 > p.1 then p.2 else p.1)
  | .min2 => (two xs).map fun p => .int (if p.2 < p.1 then p.2 else p.1)
  | .max1 => (lstOf xs).bind fun ts => (intsT ts).bind fun ns => (maxL ns).map T.int
  | .min1 => (lstOf xs).bind fun ts => (intsT ts).bind fun ns => (minL ns).map T.int
  | .repr => (one xs).bind (reprT h)
  | .str => (one xs).bind toStr
  | .sum => (lstOf xs).bind fun ts => (intsT ts).map fun ns => .int ns.sum
  | .tuple => (one xs).bind (toTup h)
  | .isinst n => (one xs).bind fun x => (kind h x).map fun k => .bl (k.is n)
def glueOk (a : Str) (ys : List Str) : Bool := decide ((ys.map (·.length)).sum + ys.length * a.length ≤ lim)
/-- a method of a value; the object may change -/
def bmT (m : Bm) (h : Hs) (o : T) (xs : List T) : Option (T × Hs) := match m, o, xs with
  | .append, .ref k, [x] => match h[k]? with
    | some (.lst ts) => if ts.length < lim then some (.non, h.set k (.lst (ts ++ [x]))) else none
    | _ => none
  | .join, .str a, [.lst ts] => (texts ts).bind fun ys => if glueOk a ys then some (.str (Str.join a ys), h) else none
  | _, _, _ => none
/-- what has such a method -/
def bmOk (m : Bm) (h : Hs) (o : T) : Bool := match m, o with
  | .append, .ref k => match h[k]? with
    | some (.lst _) => true
    | _ => false
  | .join, .str _ => true
  | _, _ => false
def fmtT : T → Option Str
  | .str s => if s.length ≤ lim then some s else none
  | .int i => if i.natAbs.log2 < 1920 then some (toString i : String) else none
  | _ => none
def wipeT (env : En) : List Nat → En
  | [] => env
  | v :: vs => (wipeT env vs).set v none
def bindTs : List Nat → List T → En → Option En
  | [], [], env => some env
  | i :: is, x :: xs, env => bindTs is xs (env.set i (some x))
  | _, _, _ => none
def bindG (t : Tg) (x : T) (env : En) : Option En := match t with
  | .nm i => some (env.set i (some x))
  | .tp is => match x with
    | .tup ts => bindTs is ts env
    | _ => none
def rangeT (lo hi : Int) : Option (List T) :=
  if decide (-(2 ^ 62) ≤ lo) && (decide (lo < 2 ^ 62) && (decide (-(2 ^ 62) ≤ hi) && decide (hi < 2 ^ 62))) then some ((List.range (hi - lo).toNat).map fun i : Nat => T.int (lo + (i : Int))) else none
def enumT (n : Nat) : List T → List T
  | [] => []
  | x :: r => .tup [.int n, x] :: enumT (n + 1) r
def zipT : List T → List T → List T
  | x :: xs, y :: ys => .tup [x, y] :: zipT xs ys
  | _, _ => []
def putFs (f : Str) (v : T) : List (Str × T) → List (Str × T)
  | [] => [(f, v)]
  | (g, w) :: r => if g = f then (g, v) :: r else (g, w) :: putFs f v r
/-- the class c has the field f -/
def hasF (D : Tb) (c : Nat) (f : Str) : Bool := match D.cls[c]? with
  | some (.plain _ _ fl) => fl.contains f
  | _ => false
def fieldOf (D : Tb) (h : Hs) (x : T) (f : Str) : Option T := match x with
  | .ref k => match h[k]? with
    | some (.ins c fs) => if hasF D c f then fs.lookup f else none
    | _ => none
  | _ => none

/-! ### what expressions do -/
def E.isAbs : E → Bool
  | .absent => true
  | _ => false
/-- as a value, as a test -/
structure RV where
  v : R T
  t : R Bool
def mkV (v : R T) : RV := ⟨v, v.bind fun x h => R.ofO (truT h x) h⟩
def mkB (b : R Bool) : RV := ⟨b.bind fun x h => .ok (.bl x) h, b⟩
abbrev Cal := Nat → List T → Hs → R T
/-- a comprehension's loop -/
def compL (f : T → Hs → R (Option T)) : List T → Hs → R (List T)
  | [], h => .ok [] h
  | x :: r, h => (f x h).bind fun o h1 => (compL f r h1).bind fun ys h2 => match o with
    | some y => .ok (y :: ys) h2
    | none => .ok ys h2
def listT : T → Option (List T)
  | .lst ts => some ts
  | _ => none
def frzT (h : Hs) (x : T) : R T := match x with
  | .ref k => match h[k]? with
    | some (.lst ts) => .ok (.lst ts) (h.set k .gone)
    | _ => .bad
  | .lst ts => .ok (.lst ts) h
  | _ => .bad
section
variable (D : Tb)
/-- o stands at k, an instance of the class of the method f, which has no field of the method's name -/
def methOk (h : Hs) (f : Nat) (x : T) : Bool := match x with
  | .ref k => match h[k]?, D.fns[f]? with
    | some (.ins c fs), some fn => match fn.cls with
      | some c' => decide (c = c') && (fs.lookup fn.nm).isNone
      | none => false
    | _, _ => false
  | _ => false
def initOf (c : Nat) : Option Nat := match D.cls[c]? with
  | some (.plain _ i _) => some i
  | _ => none
mutual
def ev (cl : Cal) : E → En → Hs → RV
  | .non, _, h => mkV (.ok .non h)
  | .bl b, _, h => mkV (.ok (.bl b) h)
  | .int i, _, h => mkV (.ok (.int i) h)
  | .str s, _, h => mkV (.ok (.str s) h)
  | .var i, env, h => mkV (match env[i]? with
    | some (some t) => .ok t h
    | _ => .bad)
  | .glob g, _, h => mkV (R.ofO (D.cns[g]?.map (·.2)) h)
  | .fnv f, _, h => mkV (.ok (.fn f) h)
  | .bin o a b, env, h => mkV ((ev cl a env h).v.bind fun x h1 => (ev cl b env h1).v.bind fun y h2 => R.ofO (binT o x y) h2)
  | .neg a, env, h => mkV ((ev cl a env h).v.bind fun x h1 => R.ofO ((intT x).map fun i => .int (-i)) h1)
  | .nott a, env, h => ⟨(ev cl a env h).v.bind fun x h1 => R.ofO ((truT h1 x).map fun b => .bl (!b)) h1, (ev cl a env h).t.bind fun b h1 => .ok (!b) h1⟩
  | .andv xs, env, h => evA cl xs env h
  | .orv xs, env, h => evO cl xs env h
  | .cmp o a b, env, h => mkB ((ev cl a env h).v.bind fun x h1 => (ev cl b env h1).v.bind fun y h2 => R.ofO (cmpT o h2 x y) h2)
  | .cmp2 o o2 a b c, env, h => mkB ((ev cl a env h).v.bind fun x h1 => (ev cl b env h1).v.bind fun y h2 => (R.ofO (cmpT o h2 x y) h2).bind fun k h3 =>
      if k = true then (ev cl c env h3).v.bind fun z h4 => R.ofO (cmpT o2 h4 y z) h4 else .ok false h3)
  | .ite c a b, env, h => ⟨(ev cl c env h).t.bind fun k h1 => if k = true then (ev cl a env h1).v else (ev cl b env h1).v,
      (ev cl c env h).t.bind fun k h1 => if k = true then (ev cl a env h1).t else (ev cl b env h1).t⟩
  | .tup xs, env, h => mkV ((evL cl xs env h).bind fun ts h1 => if ts.length ≤ lim then .ok (.tup ts) h1 else .bad)
  | .lstI xs, env, h => mkV ((evL cl xs env h).bind fun ts h1 => if ts.length ≤ lim then .ok (.lst ts) h1 else .bad)
  | .lstM xs, env, h => mkV ((evL cl xs env h).bind fun ts h1 => if ts.length ≤ lim then .ok (.ref h1.length) (h1 ++ [.lst ts]) else .bad)
  | .ix a i, env, h => mkV ((ev cl a env h).v.bind fun x h1 => (ev cl i env h1).v.bind fun y h2 => R.ofO (ixT h2 x y) h2)
  | .sl a lo hi, env, h => mkV ((ev cl a env h).v.bind fun x h1 =>
      (if lo.isAbs then .ok none h1 else (ev cl lo env h1).v.bind fun y h2 => R.ofO ((intT y).map some) h2).bind fun l h2 =>
      (if hi.isAbs then .ok none h2 else (ev cl hi env h2).v.bind fun y h3 => R.ofO ((intT y).map some) h3).bind fun u h3 => R.ofO (slT x l u) h3)
  | .absent, _, _ => mkV .bad
  | .call f xs, env, h => mkV ((evL cl xs env h).bind fun ts h1 => cl f ts h1)
  | .meth f o xs, env, h => mkV ((ev cl o env h).v.bind fun x h1 => if methOk D h1 f x = true then (evL cl xs env h1).bind fun ts h2 => cl f (x :: ts) h2 else .bad)
  | .new c xs, env, h => mkV ((evL cl xs env h).bind fun ts h1 => match initOf D c with
    | some i => (cl i (.ref h1.length :: ts) (h1 ++ [.ins c []])).bind fun r h2 => match r with
      | .non => .ok (.ref h1.length) h2
      | _ => .bad
    | none => .bad)
  | .bi b xs, env, h => mkV ((evL cl xs env h).bind fun ts h1 => R.ofO (biT b h1 ts) h1)
  | .bm m o xs, env, h => mkV ((ev cl o env h).v.bind fun x h1 => if bmOk m h1 x = true then (evL cl xs env h1).bind fun ts h2 => match bmT m h2 x ts with
    | some (y, h3) => .ok y h3
    | none => .bad
    else .bad)
  | .attr o f, env, h => mkV ((ev cl o env h).v.bind fun x h1 => R.ofO (fieldOf D h1 x f) h1)
  | .exf f, _, h => mkV (cl 0 [.str f] h)
  | .comp m t it c e vs, env, h => mkV (((evI cl it env h).bind fun xs h1 => (compL (fun x h2 => match bindG t x (wipeT env vs) with
      | none => .bad
      | some env1 => (if c.isAbs then .ok true h2 else (ev cl c env1 h2).t).bind fun k h3 =>
        if k = true then (ev cl e env1 h3).v.bind fun y h4 => .ok (some y) h4 else .ok none h3) xs h1).nox).bind fun ys h5 =>
      if ys.length ≤ lim then (if m = true then .ok (.ref h5.length) (h5 ++ [.lst ys]) else .ok (.lst ys) h5) else .bad)
  | .fstr xs, env, h => mkV ((evF cl xs Str.empty env h).bind fun s h1 => .ok (.str s) h1)
  | .frz e, env, h => ⟨(ev cl e env h).v.bind fun x h1 => frzT h1 x, .bad⟩
def evL (cl : Cal) : Es → En → Hs → R (List T)
  | .nil, _, h => .ok [] h
  | .cons a r, env, h => (ev cl a env h).v.bind fun x h1 => (evL cl r env h1).bind fun xs h2 => .ok (x :: xs) h2
def evF (cl : Cal) : Es → Str → En → Hs → R Str
  | .nil, acc, _, h => .ok acc h
  | .cons a r, acc, env, h => (ev cl a env h).v.bind fun x h1 => match fmtT x with
    | some s => if (acc ++ s).length ≤ lim then evF cl r (acc ++ s) env h1 else .bad
    | none => .bad
def evA (cl : Cal) : Es → En → Hs → RV
  | .nil, _, _ => mkV .bad
  | .cons a .nil, env, h => ⟨(ev cl a env h).v, (ev cl a env h).t⟩
  | .cons a r, env, h => ⟨(ev cl a env h).v.bind fun x h1 => (R.ofO (truT h1 x) h1).bind fun k h2 => if k = true then (evA cl r env h2).v else .ok x h2,
      (ev cl a env h).t.bind fun k h1 => if k = true then (evA cl r env h1).t else .ok false h1⟩
def evO (cl : Cal) : Es → En → Hs → RV
  | .nil, _, _ => mkV .bad
  | .cons a .nil, env, h => ⟨(ev cl a env h).v, (ev cl a env h).t⟩
  | .cons a r, env, h => ⟨(ev cl a env h).v.bind fun x h1 => (R.ofO (truT h1 x) h1).bind fun k h2 => if k = true then .ok x h2 else (evO cl r env h2).v,
      (ev cl a env h).t.bind fun k h1 => if k = true then .ok true h1 else (evO cl r env h1).t⟩
def evI (cl : Cal) : It → En → Hs → R (List T)
  | .seq e, env, h => (ev cl e env h).v.bind fun x h1 => R.ofO (items x) h1
  | .rng e, env, h => (ev cl e env h).v.bind fun x h1 => R.ofO ((intT x).bind fun n => rangeT 0 n) h1
  | .rng2 a b, env, h => (ev cl a env h).v.bind fun x h1 => (ev cl b env h1).v.bind fun y h2 => R.ofO ((intT x).bind fun i => (intT y).bind fun j => rangeT i j) h2
  | .enum e, env, h => (ev cl e env h).v.bind fun x h1 => R.ofO ((listT x).map (enumT 0)) h1
  | .zip a b, env, h => (ev cl a env h).v.bind fun x h1 => (ev cl b env h1).v.bind fun y h2 => R.ofO ((listT x).bind fun xs => (listT y).map fun ys => zipT xs ys) h2
end
end

/-! ### what statements do -/
inductive SR where
  | nx (env : En) (h : Hs) | ret (v : T) (h : Hs) | brk (env : En) (h : Hs) | cont (env : En) (h : Hs) | exc (c : Nat) (xs : List T) (env : En) (h : Hs) | bad
def R.toS {α : Type} (r : R α) (env : En) (k : α → Hs → SR) : SR := match r with
  | .ok a h => k a h
  | .exc c xs h => .exc c xs env h
  | .bad => .bad
@[simp] theorem R.toS_ok {α : Type} (a : α) (h : Hs) (env : En) (k : α → Hs → SR) : (R.ok a h).toS env k = k a h := rfl
@[simp] theorem R.toS_bad {α : Type} (env : En) (k : α → Hs → SR) : (R.bad : R α).toS env k = .bad := rfl
@[simp] theorem R.toS_exc {α : Type} (c : Nat) (xs : List T) (h : Hs) (env : En) (k : α → Hs → SR) : (R.exc c xs h : R α).toS env k = .exc c xs env h := rfl
def SR.andThen (r : SR) (k : En → Hs → SR) : SR := match r with
  | .nx env h => k env h
  | r => r
def forL (t : Tg) (body : En → Hs → SR) : List T → En → Hs → SR
  | [], env, h => .nx env h
  | x :: r, env, h => match bindG t x env with
    | none => .bad
    | some env1 => match body env1 h with
      | .nx env2 h2 => forL t body r env2 h2
      | .cont env2 h2 => forL t body r env2 h2
      | .brk env2 h2 => .nx env2 h2
      | q => q
def whileL (c : En → Hs → R Bool) (body : En → Hs → SR) : Nat → En → Hs → SR
  | 0, _, _ => .bad
  | n + 1, env, h => (c env h).toS env fun k h1 => if k = true then (match body env h1 with
      | .nx env2 h2 => whileL c body n env2 h2
      | .cont env2 h2 => whileL c body n env2 h2
      | .brk env2 h2 => .nx env2 h2
      | q => q) else .nx env h1
/-- behind an except suite: the name goes, no exception leaves -/
def SR.offName (i : Option Nat) (r : SR) : SR :=
  let off : En → En := fun env => match i with
    | some j => env.set j none
    | none => env
  match r with
  | .nx env h => .nx (off env) h
  | .ret v h => .ret v h
  | .brk env h => .brk (off env) h
  | .cont env h => .cont (off env) h
  | _ => .bad
def augT (b : Bk) (x y : T) : Option T := match b, x, y with
  | .add, .int i, .int j => some (.int (i + j))
  | .sub, .int i, .int j => some (.int (i - j))
  | _, _, _ => none
def refIx (h : Hs) (y z : T) : Option T := match y with
  | .ref _ => ixT h y z
  | _ => none
def setIxT (h : Hs) (o i v : T) : Option Hs := match o, i with
  | .ref k, .int j => match h[k]? with
    | some (.lst ts) => (L2.ixN ts.length j).map fun m => h.set k (.lst (ts.set m v))
    | _ => none
  | _, _ => none
def setAtT (D : Tb) (h : Hs) (o : T) (f : Str) (v : T) : Option Hs := match o with
  | .ref k => match h[k]? with
    | some (.ins c fs) => if hasF D c f && decide (fs.length < 900) then some (h.set k (.ins c (putFs f v fs))) else none
    | _ => none
  | _ => none
section
variable (D : Tb) (W : Nat)
def excOk (c : Nat) (ts : List T) : Bool := match D.cls[c]? with
  | some (.exc _ fl _) => decide (fl.length = ts.length)
  | _ => false
def isExc (c : Nat) (cs : List Nat) : Bool := match D.cls[c]? with
  | some (.exc _ _ up) => cs.any fun d => up.contains d
  | _ => false
/-- in an except suite nothing is called: the exception's fields stand there -/
def xCal (D : Tb) (c : Nat) (xs : List T) : Cal := fun _ ts h => match ts with
  | [.str f] => match D.cls[c]? with
    | some (.exc _ fl _) => R.ofO ((fl.zip xs).lookup f) h
    | _ => .bad
  | _ => .bad
mutual
def evS (cl : Cal) : S → En → Hs → SR
  | .set i e, env, h => (ev D cl e env h).v.toS env fun x h1 => .nx (env.set i (some x)) h1
  | .setT ns e, env, h => (ev D cl e env h).v.toS env fun x h1 => match bindG (.tp ns) x env with
    | some env1 => .nx env1 h1
    | none => .bad
  | .par ns xs, env, h => (evL D cl xs env h).toS env fun ts h1 => match bindTs ns ts env with
    | some env1 => .nx env1 h1
    | none => .bad
  | .setIx o i e, env, h => (ev D cl e env h).v.toS env fun x h1 => (ev D cl o env h1).v.toS env fun y h2 => (ev D cl i env h2).v.toS env fun z h3 => match setIxT h3 y z x with
    | some h4 => .nx env h4
    | none => .bad
  | .setAt o f e, env, h => (ev D cl e env h).v.toS env fun x h1 => (ev D cl o env h1).v.toS env fun y h2 => match setAtT D h2 y f x with
    | some h3 => .nx env h3
    | none => .bad
  | .aug i b e, env, h => match env[i]? with
    | some (some x) => (ev D cl e env h).v.toS env fun y h1 => match augT b x y with
      | some z => .nx (env.set i (some z)) h1
      | none => .bad
    | _ => .bad
  | .augIx o i b e, env, h => (ev D cl o env h).v.toS env fun y h1 => (ev D cl i env h1).v.toS env fun z h2 => match refIx h2 y z with
    | some x => (ev D cl e env h2).v.toS env fun u h3 => match augT b x u with
      | some q => match setIxT h3 y z q with
        | some h4 => .nx env h4
        | none => .bad
      | none => .bad
    | none => .bad
  | .ex e, env, h => (ev D cl e env h).v.toS env fun _ h1 => .nx env h1
  | .ret e, env, h => (ev D cl e env h).v.toS env fun x h1 => .ret x h1
  | .retN, _, h => .ret .non h
  | .ifs c a b, env, h => (ev D cl c env h).t.toS env fun k h1 => if k = true then evSs cl a env h1 else evSs cl b env h1
  | .for_ t it b, env, h => (evI D cl it env h).toS env fun xs h1 => forL t (fun env2 h2 => evSs cl b env2 h2) xs env h1
  | .whil c b, env, h => whileL (fun env2 h2 => (ev D cl c env2 h2).t) (fun env2 h2 => evSs cl b env2 h2) W env h
  | .rais c xs, env, h => (evL D cl xs env h).toS env fun ts h1 => if excOk D c ts = true then .exc c ts env h1 else .bad
  | .tryy b hs, env, h => match evSs cl b env h with
    | .exc c xs env1 h1 => evH hs c xs env1 h1
    | q => q
  | .brk, env, h => .brk env h
  | .cont, env, h => .cont env h
  | .pass, env, h => .nx env h
def evSs (cl : Cal) : Ss → En → Hs → SR
  | .nil, env, h => .nx env h
  | .cons s r, env, h => (evS cl s env h).andThen fun env1 h1 => evSs cl r env1 h1
def evH : Hd → Nat → List T → En → Hs → SR
  | .nil, c, xs, env, h => .exc c xs env h
  | .cons cs i b r, c, xs, env, h => if isExc D c cs = true then (evSs (xCal D c xs) b (match i with
      | some j => env.set j none
      | none => env) h).offName i else evH r c xs env h
end
def SR.fin : SR → R T
  | .nx _ h => .ok .non h
  | .ret v h => .ok v h
  | .exc c xs _ h => .exc c xs h
  | _ => .bad
/-- the def number f, called: n bounds how deep calls go -/
def callN : Nat → Cal
  | 0, _, _, _ => .bad
  | n + 1, f, ts, h => match D.fns[f]? with
    | some fn => if ts.length = fn.ps ∧ fn.ps ≤ fn.nN then (evSs D W (callN n) fn.body (ts.map some ++ List.replicate (fn.nN - ts.length) none) h).fin else .bad
    | none => .bad
end
end Fs
end

section
set_option Elab.async false
set_option linter.all false
set_option maxRecDepth 100000
/-! Fs1: how trees and numbered objects lie in the layer's abstract heap; what may change. -/
namespace Fs
open PySem L2

/-- where the numbered objects stand; lists that are being made (nobody sees them) -/
structure Rho where
  l : List (Option Addr)
  rs : List Addr
def Rho.push (ρ : Rho) (p : Addr) : Rho := ⟨ρ.l ++ [some p], ρ.rs⟩
def Rho.off (ρ : Rho) (k : Nat) : Rho := ⟨ρ.l.set k none, ρ.rs⟩
/-- what is fixed: the written part, where defs and classes stand, the table; the exception at hand in an except suite -/
structure Gx where
  K : PySem.W.Frag
  fa : Nat → Addr
  ca : Nat → Addr
  D : Tb
def Gx.fl (G : Gx) (c : Nat) : List Str := match G.D.cls[c]? with
  | some (.exc _ fl _) => fl
  | _ => []

mutual
def Rv (G : Gx) (ρ : Rho) (H : Hp) : T → V → Prop
  | .non, v => v = .non
  | .bl b, v => v = .bl b
  | .int i, v => v = .int i
  | .str s, v => v = .str s
  | .tup ts, v => ∃ a xs, v = .ref a ∧ SqT G.K H a xs ∧ RvL G ρ H ts xs
  | .lst ts, v => ∃ a xs, v = .ref a ∧ H a = some (.lst xs) ∧ RvL G ρ H ts xs ∧ (some a ∉ ρ.l ∧ a ∉ ρ.rs)
  | .scr ns, v => ∃ a, v = .ref a ∧ ((∃ o, H a = some (.frz o (.lst (ns.map V.int)))) ∨ (∀ H', SqL G.K H' a (ns.map V.int)))
  | .ref k, v => ∃ o, ρ.l[k]? = some o ∧ ∀ a, o = some a → v = .ref a
  | .fn f, v => v = .ref (G.fa f)
def RvL (G : Gx) (ρ : Rho) (H : Hp) : List T → List V → Prop
  | [], xs => xs = []
  | t :: ts, xs => ∃ v vs, xs = v :: vs ∧ Rv G ρ H t v ∧ RvL G ρ H ts vs
end
/-- the fields fl with the values ts, as they stand in fs -/
def RvF (G : Gx) (ρ : Rho) (H : Hp) : List Str → List T → List (Str × V) → Prop
  | f :: fl, t :: ts, fs => (∃ v, fs.lookup f = some v ∧ Rv G ρ H t v) ∧ RvF G ρ H fl ts fs
  | _, _, _ => True
def isMut : HO → Bool
  | .lst _ => true
  | .dK _ => true
  | .ins _ _ _ => true
  | _ => false
structure Stp (ρ : Rho) (H : Hp) (ρ' : Rho) (H' : Hp) : Prop where
  keep : ∀ a o, H a = some o → some a ∉ ρ.l → H' a = some o
  len : ρ.l.length ≤ ρ'.l.length
  at_ : ∀ (k : Nat) (o : Option Addr), ρ.l[k]? = some o → ρ'.l[k]? = some o ∨ ρ'.l[k]? = some none
  new : ∀ a, some a ∈ ρ'.l → some a ∈ ρ.l ∨ H a = none
  rse : ρ'.rs = ρ.rs
/-- the live ones stand, and can change -/
def Live (ρ : Rho) (H : Hp) : Prop := ∀ a, some a ∈ ρ.l → ∃ o, H a = some o ∧ isMut o = true
abbrev Ext (H H' : Hp) : Prop := ∀ a o, H a = some o → H' a = some o

theorem Stp.refl {ρ : Rho} {H : Hp} : Stp ρ H ρ H := ⟨fun _ _ h _ => h, Nat.le_refl _, fun _ _ h => .inl h, fun _ h => .inl h, rfl⟩
theorem Stp.ext {ρ : Rho} {H H' : Hp} (e : Ext H H') : Stp ρ H ρ H' := ⟨fun a o h _ => e a o h, Nat.le_refl _, fun _ _ h => .inl h, fun _ h => .inl h, rfl⟩
theorem Stp.trans {ρ ρ1 ρ2 : Rho} {H H1 H2 : Hp} (a : Stp ρ H ρ1 H1) (b : Stp ρ1 H1 ρ2 H2) : Stp ρ H ρ2 H2 where
  rse := b.rse.trans a.rse
  keep := fun x o h n => b.keep x o (a.keep x o h n) fun z => by
    rcases a.new x z with q | q
    · exact n q
    · rw [h] at q; cases q
  len := Nat.le_trans a.len b.len
  at_ := fun k o h => by
    rcases a.at_ k o h with q | q
    · exact b.at_ k o q
    · rcases b.at_ k none q with z | z <;> exact .inr z
  new := fun x h => by
    rcases b.new x h with q | q
    · exact a.new x q
    · by_cases z : some x ∈ ρ.l
      · exact .inl z
      · refine .inr ?_
        cases e : H x with
        | none => rfl
        | some o =>
          rw [a.keep x o e z] at q
          cases q
theorem ext_upd {H : Hp} {p : Addr} {o : HO} (h : H p = none) : Ext H (upd H p o) := fun a u e => by
  rw [upd_ne (ne_of_none e h)]
  exact e
theorem Ext.trans {H H1 H2 : Hp} (a : Ext H H1) (b : Ext H1 H2) : Ext H H2 := fun x o h => b x o (a x o h)
theorem rd_mut {ρ : Rho} {H : Hp} {a : Addr} {o : HO} (L : Live ρ H) (h : H a = some o) (m : isMut o = false) : some a ∉ ρ.l := fun z => by
  obtain ⟨u, e, q⟩ := L a z
  rw [h] at e
  cases e
  rw [m] at q
  cases q

/-- a step that may also change the lists that are being made -/
structure StpR (ρ : Rho) (H : Hp) (ρ' : Rho) (H' : Hp) : Prop where
  keep : ∀ a o, H a = some o → some a ∉ ρ.l → a ∉ ρ.rs → H' a = some o
  keepR : ∀ a o, H a = some o → isMut o = false → H' a = some o
  at_ : ∀ (k : Nat) (o : Option Addr), ρ.l[k]? = some o → ρ'.l[k]? = some o ∨ ρ'.l[k]? = some none
  out : ∀ a, (some a ∈ ρ'.l ∨ a ∈ ρ'.rs) → (some a ∈ ρ.l ∨ a ∈ ρ.rs) ∨ H a = none
theorem Stp.toR {ρ ρ' : Rho} {H H' : Hp} (S : Stp ρ H ρ' H') (L : Live ρ H) : StpR ρ H ρ' H' :=
  ⟨fun a o h n _ => S.keep a o h n, fun a o h m => S.keep a o h (rd_mut L h m), S.at_, fun a h => by
    rcases h with h | h
    · rcases S.new a h with q | q
      · exact .inl (.inl q)
      · exact .inr q
    · exact .inl (.inr (by rw [← S.rse]; exact h))⟩

theorem StpR.trans {ρ ρ1 ρ2 : Rho} {H H1 H2 : Hp} (a : StpR ρ H ρ1 H1) (b : StpR ρ1 H1 ρ2 H2) : StpR ρ H ρ2 H2 where
  keep := fun x o h n n' => by
    have no : ¬ (some x ∈ ρ1.l ∨ x ∈ ρ1.rs) := fun z => by
      rcases a.out x z with (q | q) | q
      · exact n q
      · exact n' q
      · rw [h] at q; cases q
    exact b.keep x o (a.keep x o h n n') (fun z => no (.inl z)) (fun z => no (.inr z))
  keepR := fun x o h m => b.keepR x o (a.keepR x o h m) m
  at_ := fun k o h => by
    rcases a.at_ k o h with q | q
    · exact b.at_ k o q
    · rcases b.at_ k none q with z | z <;> exact .inr z
  out := fun x h => by
    rcases b.out x h with q | q
    · exact a.out x q
    · by_cases z : some x ∈ ρ.l ∨ x ∈ ρ.rs
      · exact .inl z
      · refine .inr ?_
        cases e : H x with
        | none => rfl
        | some o =>
          rw [a.keep x o e (fun y => z (.inl y)) (fun y => z (.inr y))] at q
          cases q
section
variable {G : Gx} {ρ ρ' : Rho} {H H' : Hp}
theorem sqT_step (S : StpR ρ H ρ' H') {a : Addr} {xs : List V} (h : SqT G.K H a xs) : SqT G.K H' a xs := by
  rcases h with (h | ⟨o, h⟩) | h
  · exact .inl (.inl (S.keepR _ _ h rfl))
  · exact .inl (.inr ⟨o, S.keepR _ _ h rfl⟩)
  · exact .inr h
mutual
theorem Rv.stepR (S : StpR ρ H ρ' H') : ∀ (t : T) (v : V), Rv G ρ H t v → Rv G ρ' H' t v
  | .non, v, h => by unfold Rv at h ⊢; exact h
  | .bl b, v, h => by unfold Rv at h ⊢; exact h
  | .int i, v, h => by unfold Rv at h ⊢; exact h
  | .str s, v, h => by unfold Rv at h ⊢; exact h
  | .fn f, v, h => by unfold Rv at h ⊢; exact h
  | .tup ts, v, h => by
    unfold Rv at h ⊢
    obtain ⟨a, xs, e, q, r⟩ := h
    exact ⟨a, xs, e, sqT_step S q, RvL.stepR S ts xs r⟩
  | .lst ts, v, h => by
    unfold Rv at h ⊢
    obtain ⟨a, xs, e, q, r, n⟩ := h
    have no : ¬ (some a ∈ ρ'.l ∨ a ∈ ρ'.rs) := fun z => by
      rcases S.out a z with (y | y) | y
      · exact n.1 y
      · exact n.2 y
      · rw [q] at y; cases y
    exact ⟨a, xs, e, S.keep _ _ q n.1 n.2, RvL.stepR S ts xs r, fun z => no (.inl z), fun z => no (.inr z)⟩
  | .scr ns, v, h => by
    unfold Rv at h ⊢
    obtain ⟨a, e, q⟩ := h
    refine ⟨a, e, ?_⟩
    rcases q with ⟨o, q⟩ | q
    · exact .inl ⟨o, S.keepR _ _ q rfl⟩
    · exact .inr q
  | .ref k, v, h => by
    unfold Rv at h ⊢
    obtain ⟨o, e, q⟩ := h
    rcases S.at_ k o e with z | z
    · exact ⟨o, z, q⟩
    · exact ⟨none, z, fun a y => nomatch y⟩
theorem RvL.stepR (S : StpR ρ H ρ' H') : ∀ (ts : List T) (vs : List V), RvL G ρ H ts vs → RvL G ρ' H' ts vs
  | [], vs, h => by unfold RvL at h ⊢; exact h
  | t :: ts, vs, h => by
    unfold RvL at h ⊢
    obtain ⟨v, ws, e, q, r⟩ := h
    exact ⟨v, ws, e, Rv.stepR S t v q, RvL.stepR S ts ws r⟩
end
theorem RvF.stepR (S : StpR ρ H ρ' H') : ∀ (fl : List Str) (ts : List T) (fs : List (Str × V)), RvF G ρ H fl ts fs → RvF G ρ' H' fl ts fs
  | [], _, _, _ => by simp [RvF]
  | _ :: _, [], _, _ => by simp [RvF]
  | f :: fl, t :: ts, fs, h => by
    simp only [RvF] at h ⊢
    obtain ⟨⟨v, e, q⟩, r⟩ := h
    exact ⟨⟨v, e, Rv.stepR S t v q⟩, RvF.stepR S fl ts fs r⟩
theorem Rv.step (L : Live ρ H) (S : Stp ρ H ρ' H') (t : T) (v : V) (h : Rv G ρ H t v) : Rv G ρ' H' t v := Rv.stepR (S.toR L) t v h
theorem RvL.step (L : Live ρ H) (S : Stp ρ H ρ' H') (ts : List T) (vs : List V) (h : RvL G ρ H ts vs) : RvL G ρ' H' ts vs := RvL.stepR (S.toR L) ts vs h
theorem RvF.step (L : Live ρ H) (S : Stp ρ H ρ' H') (fl : List Str) (ts : List T) (fs : List (Str × V)) (h : RvF G ρ H fl ts fs) : RvF G ρ' H' fl ts fs := RvF.stepR (S.toR L) fl ts fs h
end

/-! ### lists of values -/
section
variable {G : Gx} {ρ : Rho} {H : Hp}
theorem RvL.len : ∀ {ts : List T} {vs : List V}, RvL G ρ H ts vs → vs.length = ts.length
  | [], vs, h => by simp only [RvL] at h; subst h; rfl
  | t :: ts, vs, h => by
    simp only [RvL] at h
    obtain ⟨v, ws, rfl, _, r⟩ := h
    simp [r.len]
theorem RvL.get : ∀ {ts : List T} {vs : List V} {i : Nat} {t : T}, RvL G ρ H ts vs → ts[i]? = some t → ∃ v, vs[i]? = some v ∧ Rv G ρ H t v
  | t :: ts, vs, 0, u, h, e => by
    simp only [RvL] at h
    obtain ⟨v, ws, rfl, q, r⟩ := h
    simp at e
    subst e
    exact ⟨v, rfl, q⟩
  | t :: ts, vs, i + 1, u, h, e => by
    simp only [RvL] at h
    obtain ⟨v, ws, rfl, q, r⟩ := h
    obtain ⟨w, e1, e2⟩ := RvL.get (i := i) r (by simpa using e)
    exact ⟨w, by simpa using e1, e2⟩
theorem RvL.app : ∀ {ts us : List T} {vs ws : List V}, RvL G ρ H ts vs → RvL G ρ H us ws → RvL G ρ H (ts ++ us) (vs ++ ws)
  | [], us, vs, ws, h, h' => by simp only [RvL] at h; subst h; exact h'
  | t :: ts, us, vs, ws, h, h' => by
    simp only [RvL] at h
    obtain ⟨v, w, rfl, q, r⟩ := h
    show RvL G ρ H (t :: (ts ++ us)) (v :: (w ++ ws))
    simp only [RvL]
    exact ⟨v, _, rfl, q, r.app h'⟩
theorem RvL.drop : ∀ {ts : List T} {vs : List V} (n : Nat), RvL G ρ H ts vs → RvL G ρ H (ts.drop n) (vs.drop n)
  | ts, vs, 0, h => h
  | [], vs, n + 1, h => by simp only [RvL] at h; subst h; simp [RvL]
  | t :: ts, vs, n + 1, h => by
    simp only [RvL] at h
    obtain ⟨v, w, rfl, q, r⟩ := h
    exact RvL.drop n r
theorem RvL.take : ∀ {ts : List T} {vs : List V} (n : Nat), RvL G ρ H ts vs → RvL G ρ H (ts.take n) (vs.take n)
  | ts, vs, 0, h => by simp [RvL]
  | [], vs, n + 1, h => by simp only [RvL] at h; subst h; simp [RvL]
  | t :: ts, vs, n + 1, h => by
    simp only [RvL] at h
    obtain ⟨v, w, rfl, q, r⟩ := h
    show RvL G ρ H (t :: ts.take n) (v :: w.take n)
    simp only [RvL]
    exact ⟨v, _, rfl, q, RvL.take n r⟩
theorem RvL.set : ∀ {ts : List T} {vs : List V} {t : T} {v : V} (n : Nat), RvL G ρ H ts vs → Rv G ρ H t v → RvL G ρ H (ts.set n t) (vs.set n v)
  | [], vs, t, v, n, h, q => by simp only [RvL] at h; subst h; simp [RvL]
  | u :: ts, vs, t, v, 0, h, q => by
    simp only [RvL] at h
    obtain ⟨w, ws, rfl, _, r⟩ := h
    show RvL G ρ H (t :: ts) (v :: ws)
    simp only [RvL]
    exact ⟨v, ws, rfl, q, r⟩
  | u :: ts, vs, t, v, n + 1, h, q => by
    simp only [RvL] at h
    obtain ⟨w, ws, rfl, q0, r⟩ := h
    show RvL G ρ H (u :: ts.set n t) (w :: ws.set n v)
    simp only [RvL]
    exact ⟨w, _, rfl, q0, RvL.set n r q⟩
theorem RvL.of_map {α : Type} {f : α → T} {g : α → V} (h : ∀ a, Rv G ρ H (f a) (g a)) : ∀ l : List α, RvL G ρ H (l.map f) (l.map g)
  | [] => by simp [RvL]
  | a :: r => by
    show RvL G ρ H (f a :: r.map f) (g a :: r.map g)
    simp only [RvL]
    exact ⟨_, _, rfl, h a, RvL.of_map h r⟩
theorem RvL.one {t : T} {v : V} (h : Rv G ρ H t v) : RvL G ρ H [t] [v] := by
  simp only [RvL]
  exact ⟨v, [], rfl, h, rfl⟩
theorem RvL.nil_iff {ts : List T} {vs : List V} (r : RvL G ρ H ts vs) : vs = [] ↔ ts = [] := by
  have e := r.len
  constructor
  · intro z; subst z; exact List.length_eq_zero_iff.mp e.symm
  · intro z; subst z; exact List.length_eq_zero_iff.mp e
theorem RvL.intsT : ∀ {ts : List T} {vs : List V} {ns : List Int}, RvL G ρ H ts vs → intsT ts = some ns → vs = ns.map V.int
  | [], vs, ns, h, e => by simp only [RvL] at h; simp only [Fs.intsT] at e; cases e; exact h
  | t :: ts, vs, ns, h, e => by
    simp only [RvL] at h
    obtain ⟨v, w, rfl, q, r⟩ := h
    cases t with
    | int i =>
      simp only [Fs.intsT, Option.map_eq_some_iff] at e
      obtain ⟨ms, e1, rfl⟩ := e
      simp only [Rv] at q
      rw [q, r.intsT e1]
      rfl
    | _ => simp [Fs.intsT] at e
theorem RvL.bools : ∀ {ts : List T} {vs : List V} {ns : List Bool}, RvL G ρ H ts vs → bools ts = some ns → vs = ns.map V.bl
  | [], vs, ns, h, e => by simp only [RvL] at h; simp only [Fs.bools] at e; cases e; exact h
  | t :: ts, vs, ns, h, e => by
    simp only [RvL] at h
    obtain ⟨v, w, rfl, q, r⟩ := h
    cases t with
    | bl i =>
      simp only [Fs.bools, Option.map_eq_some_iff] at e
      obtain ⟨ms, e1, rfl⟩ := e
      simp only [Rv] at q
      rw [q, r.bools e1]
      rfl
    | _ => simp [Fs.bools] at e
theorem RvL.texts : ∀ {ts : List T} {vs : List V} {ns : List Str}, RvL G ρ H ts vs → texts ts = some ns → vs = ns.map V.str
  | [], vs, ns, h, e => by simp only [RvL] at h; simp only [Fs.texts] at e; cases e; exact h
  | t :: ts, vs, ns, h, e => by
    simp only [RvL] at h
    obtain ⟨v, w, rfl, q, r⟩ := h
    cases t with
    | str i =>
      simp only [Fs.texts, Option.map_eq_some_iff] at e
      obtain ⟨ms, e1, rfl⟩ := e
      simp only [Rv] at q
      rw [q, r.texts e1]
      rfl
    | _ => simp [Fs.texts] at e
theorem RvL.flat : ∀ {ts : List T} {vs : List V}, RvL G ρ H ts vs → ts.all flatT = true → vs.all flatV = true
  | [], vs, h, _ => by simp only [RvL] at h; subst h; rfl
  | t :: ts, vs, h, e => by
    simp only [RvL] at h
    obtain ⟨v, w, rfl, q, r⟩ := h
    simp only [List.all_cons, Bool.and_eq_true] at e ⊢
    refine ⟨?_, r.flat e.2⟩
    cases t <;> simp only [flatT] at e <;> first | (simp only [Rv] at q; subst q; rfl) | (exact absurd e.1 (by simp))
theorem flat_one {t : T} {v : V} (q : Rv G ρ H t v) (e : flatT t = true) : flatV v = true := by
  cases t <;> simp only [flatT] at e <;> first | (simp only [Rv] at q; subst q; rfl) | (exact absurd e (by simp))
theorem eqF_one {t u : T} {v w : V} (q : Rv G ρ H t v) (r : Rv G ρ H u w) (e : flatT t = true) (e' : flatT u = true) : eqV v w = eqF t u := by
  cases t <;> first | (cases e; done) | skip
  all_goals cases u <;> first | (cases e'; done) | (simp only [Rv] at q r; subst q r; first | rfl | (simp [eqV, eqF]; done))
theorem RvL.eqF : ∀ {ts : List T} {vs : List V} {x : T} {y : V}, RvL G ρ H ts vs → Rv G ρ H x y → flatT x = true → ts.all flatT = true → (vs.any fun z => eqV z y) = ts.any fun z => Fs.eqF z x
  | [], vs, x, y, h, _, _, _ => by simp only [RvL] at h; subst h; rfl
  | t :: ts, vs, x, y, h, hx, e, e' => by
    simp only [RvL] at h
    obtain ⟨v, w, rfl, q, r⟩ := h
    simp only [List.all_cons, Bool.and_eq_true] at e'
    simp only [List.any_cons]
    rw [eqF_one q hx e'.1 e, r.eqF hx e e'.2]
end

/-! ### the numbered objects -/
def FsR (G : Gx) (ρ : Rho) (H : Hp) : List (Str × T) → List (Str × V) → Prop
  | [], ys => ys = []
  | p :: r, ys => ∃ v ws, ys = (p.1, v) :: ws ∧ Rv G ρ H p.2 v ∧ FsR G ρ H r ws
def KsR (G : Gx) (ρ : Rho) (H : Hp) : List (Key × T) → List (Key × V) → Prop
  | [], ys => ys = []
  | p :: r, ys => ∃ v ws, ys = (p.1, v) :: ws ∧ Rv G ρ H p.2 v ∧ KsR G ρ H r ws
def ObR (G : Gx) (ρ : Rho) (H : Hp) (a : Addr) : Ob → Prop
  | .gone => False
  | .lst ts => ∃ xs, H a = some (.lst xs) ∧ RvL G ρ H ts xs
  | .dct kvs => ∃ ys, H a = some (.dK ys) ∧ KsR G ρ H kvs ys
  | .ins c fs => ∃ dx ys, H a = some (.ins (G.ca c) dx ys) ∧ FsR G ρ H fs ys
structure HR (G : Gx) (ρ : Rho) (hs : Hs) (H : Hp) : Prop where
  len : ρ.l.length = hs.length
  rsv : ∀ a, a ∈ ρ.rs → some a ∉ ρ.l ∧ ∃ xs, H a = some (.lst xs)
  inj : ∀ (i j : Nat) (a : Addr), ρ.l[i]? = some (some a) → ρ.l[j]? = some (some a) → i = j
  ob : ∀ (k : Nat) (a : Addr) (o : Ob), ρ.l[k]? = some (some a) → hs[k]? = some o → ObR G ρ H a o
  live : ∀ (k : Nat) (o : Ob), hs[k]? = some o → o ≠ .gone → ∃ a, ρ.l[k]? = some (some a)
section
variable {G : Gx} {ρ ρ' : Rho} {H H' : Hp} {hs : Hs}
theorem FsR.stepR (S : StpR ρ H ρ' H') : ∀ {fs : List (Str × T)} {ys : List (Str × V)}, FsR G ρ H fs ys → FsR G ρ' H' fs ys
  | [], _, h => h
  | p :: r, _, h => by
    obtain ⟨v, ws, e, q, z⟩ := h
    exact ⟨v, ws, e, Rv.stepR S _ _ q, FsR.stepR S z⟩
theorem KsR.stepR (S : StpR ρ H ρ' H') : ∀ {fs : List (Key × T)} {ys : List (Key × V)}, KsR G ρ H fs ys → KsR G ρ' H' fs ys
  | [], _, h => h
  | p :: r, _, h => by
    obtain ⟨v, ws, e, q, z⟩ := h
    exact ⟨v, ws, e, Rv.stepR S _ _ q, KsR.stepR S z⟩
theorem FsR.step (L : Live ρ H) (S : Stp ρ H ρ' H') {fs : List (Str × T)} {ys : List (Str × V)} (h : FsR G ρ H fs ys) : FsR G ρ' H' fs ys := h.stepR (S.toR L)
theorem KsR.step (L : Live ρ H) (S : Stp ρ H ρ' H') {fs : List (Key × T)} {ys : List (Key × V)} (h : KsR G ρ H fs ys) : KsR G ρ' H' fs ys := h.stepR (S.toR L)
/-- an object, behind a step that leaves it as it is -/
theorem ObR.stepR (S : StpR ρ H ρ' H') {a : Addr} {o : Ob} (h : ObR G ρ H a o) (k : H' a = H a) : ObR G ρ' H' a o := by
  cases o with
  | gone => exact h
  | lst ts => obtain ⟨xs, z, r⟩ := h; exact ⟨xs, k.trans z, RvL.stepR S _ _ r⟩
  | dct kvs => obtain ⟨xs, z, r⟩ := h; exact ⟨xs, k.trans z, r.stepR S⟩
  | ins c fs => obtain ⟨dx, ys, z, r⟩ := h; exact ⟨dx, ys, k.trans z, r.stepR S⟩
theorem ObR.mut {a : Addr} {o : Ob} (h : ObR G ρ H a o) : ∃ u, H a = some u ∧ isMut u = true := by
  cases o with
  | gone => exact h.elim
  | lst ts => obtain ⟨xs, e, _⟩ := h; exact ⟨_, e, rfl⟩
  | dct kvs => obtain ⟨xs, e, _⟩ := h; exact ⟨_, e, rfl⟩
  | ins c fs => obtain ⟨dx, ys, e, _⟩ := h; exact ⟨_, e, rfl⟩
theorem HR.Live (R : HR G ρ hs H) : Live ρ H := fun a ha => by
  obtain ⟨k, hk, e⟩ := List.mem_iff_getElem.mp ha
  have e1 : ρ.l[k]? = some (some a) := by rw [List.getElem?_eq_getElem hk, e]
  have hk2 : k < hs.length := by rw [← R.len]; exact hk
  exact (R.ob k a hs[k] e1 (List.getElem?_eq_getElem hk2)).mut
/-- the abstract heap has grown -/
theorem HR.ext (R : HR G ρ hs H) (e : Ext H H') : HR G ρ hs H' where
  rsv := fun a h => by
    obtain ⟨h1, xs, h2⟩ := R.rsv a h
    exact ⟨h1, xs, e _ _ h2⟩
  len := R.len
  inj := R.inj
  live := R.live
  ob := fun k a o h1 h2 => by
    have L := R.Live
    have S : Stp ρ H ρ H' := .ext e
    have q := R.ob k a o h1 h2
    cases o with
    | gone => exact q
    | lst ts => obtain ⟨xs, z, r⟩ := q; exact ⟨xs, e _ _ z, RvL.step L S _ _ r⟩
    | dct kvs => obtain ⟨xs, z, r⟩ := q; exact ⟨xs, e _ _ z, r.step L S⟩
    | ins c fs => obtain ⟨dx, ys, z, r⟩ := q; exact ⟨dx, ys, e _ _ z, r.step L S⟩
theorem mem_rho {k : Nat} {a : Addr} (h : ρ.l[k]? = some (some a)) : some a ∈ ρ.l := List.mem_of_getElem? h
/-- the object at a is changed -/
theorem Stp.mut {a : Addr} {o : HO} (h : some a ∈ ρ.l) : Stp ρ H ρ (upd H a o) := ⟨fun b u e n => by
  rw [upd_ne (fun z => n (by rw [z]; exact h))]
  exact e, Nat.le_refl _, fun _ _ h => .inl h, fun _ h => .inl h, rfl⟩
theorem HR.mut {k : Nat} {a : Addr} {o : HO} {u : Ob} (R : HR G ρ hs H) (hk : ρ.l[k]? = some (some a)) (n : u ≠ .gone) (new : ObR G ρ (upd H a o) a u) : HR G ρ (hs.set k u) (upd H a o) where
  rsv := fun b h => by
    obtain ⟨h1, xs, h2⟩ := R.rsv b h
    refine ⟨h1, xs, ?_⟩
    rw [upd_ne fun z => h1 (by rw [z]; exact mem_rho hk)]
    exact h2
  len := by rw [List.length_set]; exact R.len
  inj := R.inj
  live := fun j w h1 h2 => by
    by_cases e : k = j
    · subst e; exact ⟨a, hk⟩
    · rw [List.getElem?_set_ne e] at h1
      exact R.live j w h1 h2
  ob := fun j b w h1 h2 => by
    by_cases e : k = j
    · subst e
      rw [hk] at h1
      cases h1
      have hlt : k < hs.length := by rw [← R.len]; exact (List.getElem?_eq_some_iff.mp hk).1
      rw [List.getElem?_set_self hlt] at h2
      cases h2
      exact new
    · rw [List.getElem?_set_ne e] at h2
      have ne : b ≠ a := fun z => by subst z; exact e (R.inj _ _ _ hk h1)
      have L := R.Live
      have S : Stp ρ H ρ (upd H a o) := .mut (mem_rho hk)
      have q := R.ob j b w h1 h2
      cases w with
      | gone => exact q
      | lst ts => obtain ⟨xs, z, r⟩ := q; exact ⟨xs, by rw [upd_ne ne]; exact z, RvL.step L S _ _ r⟩
      | dct kvs => obtain ⟨xs, z, r⟩ := q; exact ⟨xs, by rw [upd_ne ne]; exact z, r.step L S⟩
      | ins c fs => obtain ⟨dx, ys, z, r⟩ := q; exact ⟨dx, ys, by rw [upd_ne ne]; exact z, r.step L S⟩
/-- the lists that are being made change, come or go -/
theorem HR.stepR (R : HR G ρ hs H) (S : StpR ρ H ρ' H') (hl : ρ'.l = ρ.l) (k : ∀ a, some a ∈ ρ.l → H' a = H a) (rs : ∀ a, a ∈ ρ'.rs → some a ∉ ρ.l ∧ ∃ xs, H' a = some (.lst xs)) : HR G ρ' hs H' where
  len := by rw [hl]; exact R.len
  inj := by rw [hl]; exact R.inj
  live := by rw [hl]; exact R.live
  rsv := by rw [hl]; exact rs
  ob := fun j a o h1 h2 => by
    rw [hl] at h1
    exact (R.ob j a o h1 h2).stepR S (k a (mem_rho h1))
/-- a list that was being made gets a number -/
theorem HR.take {l : List (Option Addr)} {rs : List Addr} {D : Addr} {acc : List V} {Y : List T} (R : HR G ⟨l, D :: rs⟩ hs H) (nD : D ∉ rs) (hD : H D = some (.lst acc)) (rl : RvL G ⟨l, D :: rs⟩ H Y acc) :
    HR G ⟨l ++ [some D], rs⟩ (hs ++ [.lst Y]) H ∧ Rv G ⟨l ++ [some D], rs⟩ H (.ref hs.length) (.ref D) := by
  have hl : l.length = hs.length := R.len
  have S : StpR ⟨l, D :: rs⟩ H ⟨l ++ [some D], rs⟩ H := ⟨fun _ _ h _ _ => h, fun _ _ h _ => h, fun k o h => .inl (by
    change l[k]? = some o at h
    show (l ++ [some D])[k]? = some o
    rw [List.getElem?_append_left (List.getElem?_eq_some_iff.mp h).1]
    exact h), fun a h => by
    rcases h with h | h
    · rcases List.mem_append.mp h with q | q
      · exact .inl (.inl q)
      · have : a = D := by simpa using q
        exact .inl (.inr (by rw [this]; exact List.mem_cons_self))
    · exact .inl (.inr (List.mem_cons_of_mem _ h))⟩
  have nl : some D ∉ l := (R.rsv D List.mem_cons_self).1
  refine ⟨⟨?_, fun a h => ?_, fun i j a h1 h2 => ?_, fun k a o h1 h2 => ?_, fun k o h1 h2 => ?_⟩, ?_⟩
  · show (l ++ [some D]).length = _
    simp [hl]
  · obtain ⟨h1, xs, h2⟩ := R.rsv a (List.mem_cons_of_mem _ h)
    refine ⟨fun z => ?_, xs, h2⟩
    rcases List.mem_append.mp z with q | q
    · exact h1 q
    · have : a = D := by simpa using q
      exact nD (by rw [← this]; exact h)
  · have key : ∀ {i : Nat}, (l ++ [some D])[i]? = some (some a) → (i < l.length ∧ l[i]? = some (some a)) ∨ (i = l.length ∧ a = D) := fun {i} h => by
      by_cases z : i < l.length
      · rw [List.getElem?_append_left z] at h; exact .inl ⟨z, h⟩
      · rw [List.getElem?_append_right (Nat.le_of_not_lt z)] at h
        have hz : i - l.length = 0 := by
          rcases Nat.eq_zero_or_pos (i - l.length) with y | y
          · exact y
          · rw [List.getElem?_eq_none (by simp; omega)] at h; cases h
        rw [hz] at h
        have : D = a := by simpa using h
        exact .inr ⟨by omega, this.symm⟩
    rcases key h1 with ⟨_, q1⟩ | ⟨e1, a1⟩
    · rcases key h2 with ⟨_, q2⟩ | ⟨e2, a2⟩
      · exact R.inj _ _ _ q1 q2
      · subst a2; exact (nl (List.mem_of_getElem? q1)).elim
    · rcases key h2 with ⟨_, q2⟩ | ⟨e2, a2⟩
      · subst a1; exact (nl (List.mem_of_getElem? q2)).elim
      · omega
  · change (l ++ [some D])[k]? = _ at h1
    by_cases z : k < hs.length
    · rw [List.getElem?_append_left z] at h2
      rw [List.getElem?_append_left (by omega)] at h1
      exact (R.ob k a o h1 h2).stepR S rfl
    · have hk : k = hs.length := by
        have := (List.getElem?_eq_some_iff.mp h2).1
        simp at this
        omega
      subst hk
      rw [← hl] at h1
      have e1 : D = a := by simpa using h1
      have e2 : Ob.lst Y = o := by simpa using h2
      subst e1 e2
      exact ⟨acc, hD, RvL.stepR S _ _ rl⟩
  · by_cases z : k < hs.length
    · rw [List.getElem?_append_left z] at h1
      obtain ⟨a, q⟩ := R.live k o h1 h2
      change l[k]? = _ at q
      exact ⟨a, by show (l ++ [some D])[k]? = _; rw [List.getElem?_append_left (by omega)]; exact q⟩
    · have hk : k = hs.length := by
        have := (List.getElem?_eq_some_iff.mp h1).1
        simp at this
        omega
      subst hk
      exact ⟨D, by show (l ++ [some D])[hs.length]? = _; rw [← hl]; simp⟩
  · simp only [Rv]
    refine ⟨some D, ?_, fun a e => by cases e; rfl⟩
    show (l ++ [some D])[hs.length]? = _
    rw [← hl]
    simp
/-- a new one -/
theorem Stp.push {p : Addr} (h : H p = none) (e : Ext H H') : Stp ρ H (ρ.push p) H' := ⟨fun a o z _ => e a o z, by simp [Rho.push], fun k o z => by
    refine .inl ?_
    show (ρ.l ++ [some p])[k]? = some o
    rw [List.getElem?_append_left (List.getElem?_eq_some_iff.mp z).1]
    exact z, fun a z => by
    rcases List.mem_append.mp z with q | q
    · exact .inl q
    · have : a = p := by simpa using q
      rw [this]
      exact .inr h, rfl⟩
theorem HR.push {p : Addr} {u : Ob} (R : HR G ρ hs H) (hp : H p = none) (e : Ext H H') (n : u ≠ .gone) (new : ObR G (ρ.push p) H' p u) : HR G (ρ.push p) (hs ++ [u]) H' where
  len := by
    show (ρ.l ++ [some p]).length = _
    simp [R.len]
  rsv := fun b h => by
    obtain ⟨h1, xs, h2⟩ := R.rsv b h
    refine ⟨fun z => ?_, xs, e _ _ h2⟩
    rcases List.mem_append.mp z with q | q
    · exact h1 q
    · have : b = p := by simpa using q
      rw [this, hp] at h2
      cases h2
  inj := fun i j a h1 h2 => by
    have key : ∀ {i : Nat}, (ρ.l ++ [some p])[i]? = some (some a) → (i < ρ.l.length ∧ ρ.l[i]? = some (some a)) ∨ (i = ρ.l.length ∧ a = p) := fun {i} h => by
      by_cases z : i < ρ.l.length
      · rw [List.getElem?_append_left z] at h; exact .inl ⟨z, h⟩
      · rw [List.getElem?_append_right (Nat.le_of_not_lt z)] at h
        have hz : i - ρ.l.length = 0 := by
          rcases Nat.eq_zero_or_pos (i - ρ.l.length) with y | y
          · exact y
          · rw [List.getElem?_eq_none (by simp; omega)] at h; cases h
        rw [hz] at h
        have : p = a := by simpa using h
        exact .inr ⟨by omega, this.symm⟩
    have np : ∀ {i : Nat}, ρ.l[i]? = some (some p) → False := fun {i} h => by
      obtain ⟨o, q, _⟩ := R.Live p (mem_rho h)
      rw [hp] at q; cases q
    rcases key h1 with ⟨_, q1⟩ | ⟨e1, a1⟩
    · rcases key h2 with ⟨_, q2⟩ | ⟨e2, a2⟩
      · exact R.inj _ _ _ q1 q2
      · subst a2; exact (np q1).elim
    · rcases key h2 with ⟨_, q2⟩ | ⟨e2, a2⟩
      · subst a1; exact (np q2).elim
      · omega
  live := fun k o h1 h2 => by
    by_cases z : k < hs.length
    · rw [List.getElem?_append_left z] at h1
      obtain ⟨a, q⟩ := R.live k o h1 h2
      exact ⟨a, by show (ρ.l ++ [some p])[k]? = _; rw [List.getElem?_append_left (by rw [R.len]; exact z)]; exact q⟩
    · have hk : k = hs.length := by
        have := (List.getElem?_eq_some_iff.mp h1).1
        simp at this
        omega
      subst hk
      exact ⟨p, by show (ρ.l ++ [some p])[hs.length]? = _; rw [← R.len]; simp⟩
  ob := fun k a o h1 h2 => by
    change (ρ.l ++ [some p])[k]? = _ at h1
    by_cases z : k < hs.length
    · rw [List.getElem?_append_left z] at h2
      rw [List.getElem?_append_left (by rw [R.len]; exact z)] at h1
      have L := R.Live
      have S : Stp ρ H (ρ.push p) H' := .push hp e
      have q := R.ob k a o h1 h2
      cases o with
      | gone => exact q
      | lst ts => obtain ⟨xs, y, r⟩ := q; exact ⟨xs, e _ _ y, RvL.step L S _ _ r⟩
      | dct kvs => obtain ⟨xs, y, r⟩ := q; exact ⟨xs, e _ _ y, r.step L S⟩
      | ins c fs => obtain ⟨dx, ys, y, r⟩ := q; exact ⟨dx, ys, e _ _ y, r.step L S⟩
    · have hk : k = hs.length := by
        have := (List.getElem?_eq_some_iff.mp h2).1
        simp at this
        omega
      subst hk
      rw [← R.len] at h1
      have e1 : p = a := by simpa using h1
      have e2 : u = o := by simpa using h2
      subst e1 e2
      exact new
/-- the number k is let go: what stands there changes no more -/
theorem Stp.off {k : Nat} : Stp ρ H (ρ.off k) H := ⟨fun _ _ h _ => h, by simp [Rho.off], fun j o h => by
    show (ρ.l.set k none)[j]? = _ ∨ (ρ.l.set k none)[j]? = _
    by_cases e : k = j
    · subst e
      exact .inr (List.getElem?_set_self (List.getElem?_eq_some_iff.mp h).1)
    · exact .inl (by rw [List.getElem?_set_ne e]; exact h), fun a h => by
    rcases List.mem_or_eq_of_mem_set h with q | q
    · exact .inl q
    · (cases q), rfl⟩
theorem HR.off {k : Nat} (R : HR G ρ hs H) : HR G (ρ.off k) (hs.set k .gone) H where
  len := by
    show (ρ.l.set k none).length = _
    simp [R.len]
  rsv := fun b h => by
    obtain ⟨h1, xs, h2⟩ := R.rsv b h
    refine ⟨fun z => ?_, xs, h2⟩
    rcases List.mem_or_eq_of_mem_set z with q | q
    · exact h1 q
    · cases q
  inj := fun i j a h1 h2 => by
    have key : ∀ {i : Nat}, (ρ.l.set k none)[i]? = some (some a) → ρ.l[i]? = some (some a) := fun {i} h => by
      by_cases e : k = i
      · subst e
        by_cases z : k < ρ.l.length
        · rw [List.getElem?_set_self z] at h; cases h
        · rw [List.getElem?_eq_none (by simp; omega)] at h; cases h
      · rw [List.getElem?_set_ne e] at h; exact h
    exact R.inj i j a (key h1) (key h2)
  live := fun j o h1 h2 => by
    by_cases e : k = j
    · subst e
      by_cases z : k < hs.length
      · rw [List.getElem?_set_self z] at h1; cases h1; exact (h2 rfl).elim
      · rw [List.getElem?_eq_none (by simp; omega)] at h1; cases h1
    · rw [List.getElem?_set_ne e] at h1
      obtain ⟨a, q⟩ := R.live j o h1 h2
      exact ⟨a, by show (ρ.l.set k none)[j]? = _; rw [List.getElem?_set_ne e]; exact q⟩
  ob := fun j a o h1 h2 => by
    change (ρ.l.set k none)[j]? = _ at h1
    by_cases e : k = j
    · subst e
      by_cases z : k < ρ.l.length
      · rw [List.getElem?_set_self z] at h1; cases h1
      · rw [List.getElem?_eq_none (by simp; omega)] at h1; cases h1
    · rw [List.getElem?_set_ne e] at h1 h2
      have L := R.Live
      have S : Stp ρ H (ρ.off k) H := .off
      have q := R.ob j a o h1 h2
      cases o with
      | gone => exact q
      | lst ts => obtain ⟨xs, y, r⟩ := q; exact ⟨xs, y, RvL.step L S _ _ r⟩
      | dct kvs => obtain ⟨xs, y, r⟩ := q; exact ⟨xs, y, r.step L S⟩
      | ins c fs => obtain ⟨dx, ys, y, r⟩ := q; exact ⟨dx, ys, y, r.step L S⟩
/-- what stands at a number -/
theorem HR.at_ {k : Nat} {o : Ob} {v : V} (R : HR G ρ hs H) (h : hs[k]? = some o) (n : o ≠ .gone) (r : Rv G ρ H (.ref k) v) : ∃ a, v = .ref a ∧ ρ.l[k]? = some (some a) ∧ ObR G ρ H a o := by
  obtain ⟨a, e⟩ := R.live k o h n
  simp only [Rv] at r
  obtain ⟨u, e2, q⟩ := r
  rw [e] at e2
  cases e2
  exact ⟨a, q a rfl, e, R.ob k a o e h⟩
end

/-! ### the names -/
/-- the exception at hand: where it stands, its dict, its class, its name's place, its fields' values -/
structure Xa where
  a : Addr
  d : Option Addr
  c : Nat
  i : Option Nat
  xs : List T
def XaOk (G : Gx) (ρ : Rho) (H : Hp) (q : Xa) (σ : St) : Prop := (∀ i, q.i = some i → i < σ.length → σ[i]? = some (some (.ref q.a))) ∧ (G.fl q.c = [] ∨ ∃ dd fs, q.d = some dd ∧ H dd = some (.xd fs) ∧ RvF G ρ H (G.fl q.c) q.xs fs)
structure EnR (G : Gx) (xa : Option Xa) (ρ : Rho) (H : Hp) (env : En) (σ : St) : Prop where
  len : env.length = σ.length
  xao : ∀ q, xa = some q → XaOk G ρ H q σ
  at_ : ∀ (i : Nat) (t : T), env[i]? = some (some t) → ∃ v, σ[i]? = some (some v) ∧ Rv G ρ H t v
section
variable {G : Gx} {xa : Option Xa} {ρ ρ' : Rho} {H H' : Hp} {env : En} {σ : St}
/-- the exception's name is not there -/
def notXi (xa : Option Xa) (i : Nat) : Prop := ∀ q, xa = some q → q.i ≠ some i
theorem XaOk.set {q : Xa} {i : Nat} {o : Option V} (h : XaOk G ρ H q σ) (n : q.i ≠ some i) : XaOk G ρ H q (σ.set i o) := ⟨fun j e hl => by
  have hj : i ≠ j := fun z => n (by rw [z]; exact e)
  rw [List.getElem?_set_ne hj]
  exact h.1 j e (by rw [List.length_set] at hl; exact hl), h.2⟩
theorem EnR.step (e : EnR G xa ρ H env σ) (L : Live ρ H) (S : Stp ρ H ρ' H') : EnR G xa ρ' H' env σ := ⟨e.len, fun q hq => by
  obtain ⟨h1, h2⟩ := e.xao q hq
  refine ⟨h1, ?_⟩
  rcases h2 with h2 | ⟨dd, fs, e1, e2, r⟩
  · exact .inl h2
  · exact .inr ⟨dd, fs, e1, S.keep _ _ e2 (rd_mut L e2 rfl), RvF.step L S _ _ _ r⟩, fun i t h => by
  obtain ⟨v, h1, h2⟩ := e.at_ i t h
  exact ⟨v, h1, Rv.step L S t v h2⟩⟩
theorem EnR.stepR (e : EnR G xa ρ H env σ) (S : StpR ρ H ρ' H') : EnR G xa ρ' H' env σ := ⟨e.len, fun q hq => by
  obtain ⟨h1, h2⟩ := e.xao q hq
  refine ⟨h1, ?_⟩
  rcases h2 with h2 | ⟨dd, fs, e1, e2, r⟩
  · exact .inl h2
  · exact .inr ⟨dd, fs, e1, S.keepR _ _ e2 rfl, RvF.stepR S _ _ _ r⟩, fun i t h => by
  obtain ⟨v, h1, h2⟩ := e.at_ i t h
  exact ⟨v, h1, Rv.stepR S t v h2⟩⟩
theorem EnR.set {t : T} {v : V} (e : EnR G xa ρ H env σ) (i : Nat) (n : notXi xa i) (r : Rv G ρ H t v) : EnR G xa ρ H (env.set i (some t)) (σ.set i (some v)) := ⟨by simp [e.len], fun q hq => (e.xao q hq).set (n q hq), fun j u h => by
  by_cases z : i = j
  · subst z
    by_cases y : i < env.length
    · rw [List.getElem?_set_self y] at h
      cases h
      exact ⟨v, List.getElem?_set_self (by rw [← e.len]; exact y), r⟩
    · rw [List.getElem?_eq_none (by simp; omega)] at h; cases h
  · rw [List.getElem?_set_ne z] at h ⊢
    exact e.at_ j u h⟩
theorem EnR.unset (e : EnR G xa ρ H env σ) (i : Nat) (n : notXi xa i) : EnR G xa ρ H (env.set i none) (σ.set i none) := ⟨by simp [e.len], fun q hq => (e.xao q hq).set (n q hq), fun j u h => by
  by_cases z : i = j
  · subst z
    by_cases y : i < env.length
    · rw [List.getElem?_set_self y] at h; cases h
    · rw [List.getElem?_eq_none (by simp; omega)] at h; cases h
  · rw [List.getElem?_set_ne z] at h ⊢
    exact e.at_ j u h⟩
theorem EnR.wipe (e : EnR G xa ρ H env σ) : ∀ vs : List Nat, (∀ i ∈ vs, notXi xa i) → EnR G xa ρ H (wipeT env vs) (wipe σ vs)
  | [], _ => e
  | v :: vs, n => (e.wipe vs fun i h => n i (List.mem_cons_of_mem _ h)).unset v (n v List.mem_cons_self)
/-- an exception is at hand: its name's place is hidden -/
theorem EnR.open_ (e : EnR G none ρ H env σ) (q : Xa) (i : Nat) (hi : q.i = some i) (x : G.fl q.c = [] ∨ ∃ dd fs, q.d = some dd ∧ H dd = some (.xd fs) ∧ RvF G ρ H (G.fl q.c) q.xs fs) : EnR G (some q) ρ H (env.set i none) (σ.set i (some (.ref q.a))) := ⟨by simp [e.len], fun q' hq => by
  cases hq
  refine ⟨fun j hj hl => ?_, x⟩
  rw [hi] at hj
  cases hj
  rw [List.length_set] at hl
  exact List.getElem?_set_self hl, fun j u h => by
  by_cases z : i = j
  · subst z
    by_cases y : i < env.length
    · rw [List.getElem?_set_self y] at h; cases h
    · rw [List.getElem?_eq_none (by simp; omega)] at h; cases h
  · rw [List.getElem?_set_ne z] at h ⊢
    exact e.at_ j u h⟩
theorem EnR.openN (e : EnR G none ρ H env σ) (q : Xa) (hi : q.i = none) (x : G.fl q.c = [] ∨ ∃ dd fs, q.d = some dd ∧ H dd = some (.xd fs) ∧ RvF G ρ H (G.fl q.c) q.xs fs) : EnR G (some q) ρ H env σ := ⟨e.len, fun q' hq => by
  cases hq
  exact ⟨fun j hj => (by rw [hi] at hj; cases hj), x⟩, e.at_⟩
theorem EnR.close (e : EnR G xa ρ H env σ) : EnR G none ρ H env σ := ⟨e.len, (fun q hq => by cases hq), e.at_⟩
/-- what stood at i is hidden, the state's own place may be anything -/
theorem EnR.hide (e : EnR G none ρ H env σ) (i : Nat) (o : Option V) : EnR G none ρ H (env.set i none) (σ.set i o) := ⟨by simp [e.len], (fun q hq => by cases hq), fun j u h => by
  by_cases z : i = j
  · subst z
    by_cases y : i < env.length
    · rw [List.getElem?_set_self y] at h; cases h
    · rw [List.getElem?_eq_none (by simp; omega)] at h; cases h
  · rw [List.getElem?_set_ne z] at h ⊢
    exact e.at_ j u h⟩
end

/-! ### ends -/
/-- what is wanted of an exception at a heap -/
abbrev XW := Value → Option Addr → Hp → Prop
def ExR (G : Gx) (ρ : Rho) (H : Hp) (c : Nat) (xs : List T) (cls : Value) (d : Option Addr) : Prop :=
  (∃ nm up, G.D.cls[c]? = some (.exc nm (G.fl c) up)) ∧ cls = .ref (G.ca c) ∧ (G.fl c).length = xs.length ∧ (G.fl c = [] ∨ ∃ dd fs, d = some dd ∧ H dd = some (.xd fs) ∧ RvF G ρ H (G.fl c) xs fs)
def Post {α β : Type} (G : Gx) (RA : Rho → Hp → α → β → Prop) (ρ : Rho) (H : Hp) (W : XW) (r : R α) (Q : β → Hp → Prop) : Prop := match r with
  | .ok a hs => ∀ ρ' H' b, Stp ρ H ρ' H' → HR G ρ' hs H' → RA ρ' H' a b → Q b H'
  | .exc c xs hs => ∀ ρ' H' cls d, Stp ρ H ρ' H' → HR G ρ' hs H' → ExR G ρ' H' c xs cls d → W cls d H'
  | .bad => False
section
variable {α β γ δ : Type} {G : Gx} {RA : Rho → Hp → α → β → Prop} {RB : Rho → Hp → γ → δ → Prop} {ρ ρ' : Rho} {H H' : Hp} {W W' : XW} {r : R α} {k : α → Hs → R γ}
theorem Post.base {Q : β → Hp → Prop} (S : Stp ρ H ρ' H') (h : Post G RA ρ H W r Q) : Post G RA ρ' H' W r Q := by
  cases r with
  | ok a hs => exact fun ρ2 H2 b s1 hr ra => h ρ2 H2 b (S.trans s1) hr ra
  | exc c xs hs => exact fun ρ2 H2 cls d s1 hr ra => h ρ2 H2 cls d (S.trans s1) hr ra
  | bad => exact h
theorem Post.mono {Q Q' : β → Hp → Prop} (f : ∀ b H', Q b H' → Q' b H') (h : Post G RA ρ H W r Q) : Post G RA ρ H W r Q' := by
  cases r with
  | ok a hs => exact fun ρ2 H2 b s1 hr ra => f _ _ (h ρ2 H2 b s1 hr ra)
  | exc c xs hs => exact h
  | bad => exact h
theorem Post.bind {Q : δ → Hp → Prop} (h : Post G RB ρ H W (r.bind k) Q) :
    Post G RA ρ H W r (fun b H' => ∃ ρ' hs a, Stp ρ H ρ' H' ∧ HR G ρ' hs H' ∧ RA ρ' H' a b ∧ Post G RB ρ' H' W (k a hs) Q) := by
  cases r with
  | ok a hs => exact fun ρ2 H2 b s1 hr ra => ⟨ρ2, hs, a, s1, hr, ra, Post.base s1 h⟩
  | exc c xs hs => exact h
  | bad => exact h
theorem Post.ofO {o : Option α} {hs : Hs} {Q : β → Hp → Prop} (h : Post G RA ρ H W (R.ofO o hs) Q) : ∃ a, o = some a ∧ ∀ ρ' H' b, Stp ρ H ρ' H' → HR G ρ' hs H' → RA ρ' H' a b → Q b H' := by
  cases o with
  | none => exact h.elim
  | some a => exact ⟨a, rfl, h⟩
end
end Fs
end

section
set_option Elab.async false
set_option linter.all false
set_option maxRecDepth 100000
/-! Fs2: when a term of ours is the text's; the small rules. -/
namespace Fs
open PySem L2

/-! ### when a term is the text's -/
/-- what is known of a def's body, of a comprehension's block (og: its scope as written), of an except suite (hot) -/
structure Cs where
  N : List Str
  sc : Scope
  og : Option Scope
  hot : Bool
  /-- the exception's name -/
  xi : Option Nat := none
  D : Tb
def visK (k : Option NameKind) : Bool := match k with
  | some .local => true
  | some .cell => true
  | some .free => true
  | _ => false
def Cs.isVar (Γ : Cs) (i : Nat) (y : Str) : Bool := decide (Γ.N[i]? = some y) && (visK (Γ.sc.names.lookup y) && (!(y == ("__debug__" : Str)) && !(y == ("__classdict__" : Str))))
def Cs.isGlob (Γ : Cs) (y : Str) : Bool := decide (Γ.sc.names.lookup y = some .globalImplicit) && (!(y == ("__debug__" : Str)) && !(y == ("__name__" : Str)))
def Cs.isTgt (Γ : Cs) (i : Nat) (y : Str) : Bool := (decide (Γ.N[i]? = some y) && !(decide (Γ.xi = some i))) && (match Γ.sc.names.lookup y with
  | some .local => true
  | some .cell => (match Γ.og with
    | none => true
    | some s => s.names.lookup y == some .cell)
  | _ => false)
def okB : Bk → Operator → Bool
  | .add, .Add => true
  | .sub, .Sub => true
  | .mul, .Mult => true
  | .fdiv, .FloorDiv => true
  | .mod, .Mod => true
  | .pow, .Pow => true
  | _, _ => false
def okC : Ck → CmpOp → Bool
  | .eq, .Eq => true
  | .ne, .NotEq => true
  | .lt, .Lt => true
  | .le, .LtE => true
  | .gt, .Gt => true
  | .ge, .GtE => true
  | .is, .Is => true
  | .nis, .IsNot => true
  | .inn, .In => true
  | .nin, .NotIn => true
  | _, _ => false
/-- no zero-argument call of a name (super ..) -/
def notSup : Expr → Bool
  | .Call (.Name _ _) [] [] _ => false
  | _ => true
def biNm : Bi → Str
  | .abs => "abs"
  | .all => "all"
  | .any => "any"
  | .int => "int"
  | .len => "len"
  | .list => "list"
  | .max1 => "max"
  | .max2 => "max"
  | .min1 => "min"
  | .min2 => "min"
  | .repr => "repr"
  | .str => "str"
  | .sum => "sum"
  | .tuple => "tuple"
  | .isinst _ => "isinstance"
/-- what may be called in an except suite -/
def biHot : Bi → Bool
  | .len => true
  | .abs => true
  | _ => false
def kdNm : Kd → Str
  | .non => "NoneType"
  | .bl => "bool"
  | .int => "int"
  | .str => "str"
  | .tup => "tuple"
  | .lst => "list"
  | .dct => "dict"
def kdOk : Kd → Bool
  | .non => false
  | _ => true
def bmNm : Bm → Str
  | .append => "append"
  | .join => "join"
  | .pop => "pop"
  | .extend => "extend"
  | .index => "index"
  | .split => "split"
def okM : Bm → Bool
  | .append => true
  | .join => true
  | _ => false
def Tg.slots : Tg → List Nat
  | .nm i => [i]
  | .tp is => is
def chkTn (Γ : Cs) : List Nat → List Expr → Bool
  | [], [] => true
  | i :: is, x :: xs => (match x with
    | .Name y _ => Γ.isTgt i y
    | _ => false) && chkTn Γ is xs
  | _, _ => false
def chkT (Γ : Cs) : Tg → Expr → Bool
  | .nm i, x => match x with
    | .Name y _ => Γ.isTgt i y
    | _ => false
  | .tp is, x => match x with
    | .Tuple xs _ _ => chkTn Γ is xs && (!Γ.hot)
    | _ => false
def ownOf (N : List Str) (vs : List Nat) : List (Str × Nat) := vs.filterMap fun i => (N[i]?).map fun y => (y, i)
def Cs.blk (Γ : Cs) (scope : Scope) : Cs := { Γ with sc := relS scope Γ.sc, og := some scope }
mutual
def chkE (Γ : Cs) : E → Expr → Bool
  | .non, x => match x with
    | .Constant .none _ _ => true
    | _ => false
  | .bl b, x => match x with
    | .Constant (.bool c) _ _ => decide (b = c)
    | _ => false
  | .int i, x => match x with
    | .Constant (.int j) _ _ => decide (i = j)
    | _ => false
  | .str s, x => match x with
    | .Constant (.str z) _ _ => decide (s = z)
    | _ => false
  | .var i, x => match x with
    | .Name y _ => Γ.isVar i y
    | _ => false
  | .glob g, x => match x with
    | .Name y _ => Γ.isGlob y && (match Γ.D.cns[g]? with
      | some p => decide (p.1 = y)
      | none => false)
    | _ => false
  | .fnv f, x => match x with
    | .Name y _ => Γ.isGlob y && (match Γ.D.fns[f]? with
      | some fn => decide (fn.nm = y) && fn.cls.isNone
      | none => false)
    | _ => false
  | .bin o a b, x => match x with
    | .BinOp l op r _ => okB o op && (chkE Γ a l && chkE Γ b r)
    | _ => false
  | .neg a, x => match x with
    | .UnaryOp .USub y _ => chkE Γ a y
    | _ => false
  | .nott a, x => match x with
    | .UnaryOp .Not y _ => chkE Γ a y
    | _ => false
  | .andv xs, x => match x with
    | .BoolOp .And ys _ => chkL Γ xs ys
    | _ => false
  | .orv xs, x => match x with
    | .BoolOp .Or ys _ => chkL Γ xs ys
    | _ => false
  | .cmp o a b, x => match x with
    | .Compare l [op] [r] _ => okC o op && (chkE Γ a l && chkE Γ b r)
    | _ => false
  | .cmp2 o o2 a b c, x => match x with
    | .Compare l [op, op2] [r, q] _ => (okC o op && okC o2 op2) && (chkE Γ a l && (chkE Γ b r && chkE Γ c q))
    | _ => false
  | .ite c a b, x => match x with
    | .IfExp t p q _ => chkE Γ c t && (chkE Γ a p && chkE Γ b q)
    | _ => false
  | .tup xs, x => match x with
    | .Tuple ys _ _ => chkL Γ xs ys
    | _ => false
  | .lstI xs, x => match x with
    | .List ys _ => chkL Γ xs ys
    | _ => false
  | .lstM xs, x => match x with
    | .List ys _ => chkL Γ xs ys
    | _ => false
  | .ix a i, x => match x with
    | .Subscript l r _ => chkE Γ a l && chkE Γ i r
    | _ => false
  | .sl a lo hi, x => match x with
    | .Subscript l (.Slice p q none _) _ => chkE Γ a l && ((match p with
      | none => lo.isAbs
      | some y => !lo.isAbs && chkE Γ lo y) && (match q with
      | none => hi.isAbs
      | some y => !hi.isAbs && chkE Γ hi y))
    | _ => false
  | .absent, _ => false
  | .call f xs, x => match x with
    | .Call (.Name y _) ys [] _ => (!Γ.hot && Γ.isGlob y) && ((match Γ.D.fns[f]? with
      | some fn => decide (fn.nm = y) && fn.cls.isNone
      | none => false) && chkL Γ xs ys)
    | _ => false
  | .meth f o xs, x => match x with
    | .Call (.Attribute ob m apos) ys [] pos => (!Γ.hot && (notSup ob && ((apos.endLine == pos.line) && decide (ys.length < 20)))) && ((match Γ.D.fns[f]? with
      | some fn => decide (fn.nm = m) && fn.cls.isSome
      | none => false) && (chkE Γ o ob && chkL Γ xs ys))
    | _ => false
  | .new c xs, x => match x with
    | .Call (.Name y _) ys [] _ => (!Γ.hot && Γ.isGlob y) && ((match Γ.D.cls[c]? with
      | some (.plain nm _ _) => decide (nm = y)
      | _ => false) && chkL Γ xs ys)
    | _ => false
  | .bi b xs, x => match x with
    | .Call (.Name y _) ys [] _ => ((biHot b || !Γ.hot) && (Γ.isGlob y && decide (y = biNm b))) && (match b with
      | .isinst k => (match xs, ys with
        | .cons a .nil, [p, .Name z _] => chkE Γ a p && (Γ.isGlob z && (decide (z = kdNm k) && kdOk k))
        | _, _ => false)
      | _ => !ys.isEmpty && chkL Γ xs ys)
    | _ => false
  | .bm m o xs, x => match x with
    | .Call (.Attribute ob y apos) ys [] pos => ((okM m && !Γ.hot) && (decide (y = bmNm m) && (notSup ob && ((apos.endLine == pos.line) && decide (ys.length < 20))))) && ((!ys.isEmpty) && (chkE Γ o ob && chkL Γ xs ys))
    | _ => false
  | .attr o f, x => match x with
    | .Attribute ob y _ => (decide (f = y) && notSup ob) && chkE Γ o ob
    | _ => false
  | .exf f, x => match x with
    | .Attribute (.Name y p) g _ => (Γ.hot && decide (f = g)) && (match Γ.xi with
      | some i => Γ.isVar i y && notSup (.Name y p)
      | none => false)
    | _ => false
  | .comp m t it c e vs, x => match x with
    | .ListComp elt [⟨tg, iter, ifs, 0⟩] scope _ => (!Γ.hot && (decide ((ownOf Γ.N vs).map (·.2) = vs) && (blkC Γ.N Γ.sc scope (ownOf Γ.N vs) && t.slots.all fun i => decide (i ∈ vs)))) &&
        (chkI Γ it iter && (chkT (Γ.blk scope) t tg && ((match ifs with
          | [] => c.isAbs
          | [y] => !c.isAbs && chkE (Γ.blk scope) c y
          | _ => false) && chkE (Γ.blk scope) e elt)))
    | _ => false
  | .fstr xs, x => match x with
    | .JoinedStr ys _ => chkF Γ xs ys && !ys.isEmpty
    | _ => false
  | .frz e, x => chkE Γ e x
def chkL (Γ : Cs) : Es → List Expr → Bool
  | .nil, xs => xs.isEmpty
  | .cons a r, xs => match xs with
    | x :: ys => chkE Γ a x && chkL Γ r ys
    | [] => false
def chkF (Γ : Cs) : Es → List Expr → Bool
  | .nil, xs => xs.isEmpty
  | .cons a r, xs => match xs with
    | x :: ys => (match x with
      | .Constant (.str z) _ _ => (match a with
        | .str s => decide (s = z)
        | _ => false)
      | .FormattedValue y i none _ => decide (i = -1) && chkE Γ a y
      | _ => false) && chkF Γ r ys
    | [] => false
def chkI (Γ : Cs) : It → Expr → Bool
  | .seq e, x => chkE Γ e x
  | .rng e, x => match x with
    | .Call (.Name y _) [p] [] _ => (Γ.isGlob y && decide (y = ("range" : Str))) && chkE Γ e p
    | _ => false
  | .rng2 a b, x => match x with
    | .Call (.Name y _) [p, q] [] _ => (Γ.isGlob y && decide (y = ("range" : Str))) && (chkE Γ a p && chkE Γ b q)
    | _ => false
  | .enum _, _ => false
  | .zip _ _, _ => false
end

/-! ### shapes of the text -/
/-- no star, no set, no slice, no comprehension of sets or dicts: what chkE takes -/
def plainX : Expr → Bool
  | .Starred _ _ => false
  | .Set _ _ _ => false
  | .Slice _ _ _ _ => false
  | .SetComp _ _ _ _ => false
  | .DictComp _ _ _ _ _ => false
  | _ => true
theorem chkE_plain {Γ : Cs} : ∀ {e : E} {x : Expr}, chkE Γ e x = true → plainX x = true := by
  intro e
  induction e using E.rec (motive_2 := fun _ => True) (motive_3 := fun _ => True) (motive_4 := fun _ => True) with
  | frz e ih => intro x h; simp only [chkE] at h; exact ih h
  | _ =>
    first
    | trivial
    | (intro x h; cases x <;> first | rfl | (simp [chkE] at h))
theorem star_cons {x : Expr} {xs : List Expr} {env : Env} (h : plainX x = true) : starEach (x :: xs) env = (false, eval x env) :: starEach xs env := by
  cases x <;> first | rfl | cases h
theorem star_all {env : Env} : ∀ {xs : List Expr}, xs.all plainX = true → starEach xs env = xs.map fun x => (false, eval x env)
  | [], _ => rfl
  | x :: xs, h => by
    simp only [List.all_cons, Bool.and_eq_true] at h
    rw [star_cons h.1, star_all h.2]
    rfl
theorem back_any {env : Env} {pos : Pos} {xs : List Expr} (h : xs.all plainX = true) : (backTo pos (starEach xs env)).any (·.1) = false := by
  rw [star_all h]
  unfold backTo
  simp [List.any_eq_false]
theorem back_all {env : Env} {pos : Pos} {xs : List Expr} (h : xs.all plainX = true) : (backTo pos (starEach xs env)).all (fun x => !x.1) = true := by
  rw [star_all h]
  unfold backTo
  simp
theorem chkL_plain {Γ : Cs} : ∀ {xs : Es} {ys : List Expr}, chkL Γ xs ys = true → ys.all plainX = true
  | .nil, ys, h => by
    simp only [chkL] at h
    cases ys with
    | nil => rfl
    | cons _ _ => cases h
  | .cons a r, ys, h => by
    simp only [chkL] at h
    cases ys with
    | nil => cases h
    | cons x ys =>
      simp only [Bool.and_eq_true] at h
      simp only [List.all_cons, Bool.and_eq_true]
      exact ⟨chkE_plain h.1, chkL_plain h.2⟩
theorem base_of {x : Expr} {f : Str} {env : Env} (h : notSup x = true) : attributeBase x f env (eval x env) = eval x env := by
  unfold attributeBase
  split
  · cases h
  · rfl
theorem marks_of {x : Expr} (op : CmpOp) (h : plainX x = true) : behindInMarks op x = false := by
  cases x <;> first | rfl | cases h
theorem plainIx_of {x : Expr} (h : plainX x = true) : PlainIx x := fun o i => by
  cases x <;> first | rfl | cases h
theorem folded_of {x : Expr} {env : Env} (h : plainX x = true) (v : Value) : foldedSetIterable x env v = pure v := by
  cases x <;> first | rfl | cases h
end Fs
end

section
set_option Elab.async false
set_option linter.all false
set_option maxRecDepth 100000
/-! Fs3: readings by what our terms do; operations on values. -/
namespace Fs
open PySem L2

/-! ### readings -/
section
variable (G : Gx) (xa : Option Xa) (W : WX)
def tV (f : En → Hs → R T) : TE := fun σ H Q => ∃ ρ env hs, EnR G xa ρ H env σ ∧ HR G ρ hs H ∧ Post G (Rv G) ρ H (fun c d H' => W c d σ H') (f env hs) Q
def RBo : Rho → Hp → Bool → Bool → Prop := fun _ _ a b => a = b
def tK (f : En → Hs → R Bool) : TT := fun σ H Q => ∃ ρ env hs, EnR G xa ρ H env σ ∧ HR G ρ hs H ∧ Post G RBo ρ H (fun c d H' => W c d σ H') (f env hs) Q
def tL (f : En → Hs → R (List T)) : TA := fun σ H Q => ∃ ρ env hs, EnR G xa ρ H env σ ∧ HR G ρ hs H ∧ Post G (RvL G) ρ H (fun c d H' => W c d σ H') (f env hs) Q
end
section
variable {X : Cx} {x : Expr} {xs : List Expr}
theorem pe_imp {t t' : TE} (h : PE X x t) (i : ∀ σ H Q, t' σ H Q → t σ H Q) : PE X x t' := ⟨fun pins s σ H Q I q => h.run pins s σ H Q I (i σ H Q q)⟩
theorem pt_imp {t t' : TT} (h : PT X x t) (i : ∀ σ H Q, t' σ H Q → t σ H Q) : PT X x t' := ⟨fun pins s σ H Q I q => h.run pins s σ H Q I (i σ H Q q)⟩
theorem pw_imp {t t' : TT} (h : PW X x t) (i : ∀ σ H Q, t' σ H Q → t σ H Q) : PW X x t' := ⟨fun w pins s σ H Q I q => h.run w pins s σ H Q I (i σ H Q q)⟩
theorem pa_imp {t t' : TA} (h : PA X xs t) (i : ∀ σ H Q, t' σ H Q → t σ H Q) : PA X xs t' := ⟨fun pos pins s σ H Q I q => h.run pos pins s σ H Q I (i σ H Q q)⟩
theorem ps_imp {st : Stmt} {t t' : TS} (h : PS X st t) (i : ∀ D σ H, t' D σ H → t D σ H) : PS X st t' := ⟨fun pins s σ H D I q => h.run pins s σ H D I (i D σ H q)⟩
end
section
variable {G : Gx} {xa : Option Xa} {W : WX} {ρ ρ' : Rho} {H H' : Hp} {hs : Hs} {env : En} {σ : St}
/-- what a value is, behind other things -/
theorem tV_of {f : En → Hs → R T} {Q : VK} (er : EnR G xa ρ H env σ) (hr : HR G ρ hs H) (h : Post G (Rv G) ρ H (fun c d H' => W c d σ H') (f env hs) Q) : tV G xa W f σ H Q := ⟨ρ, env, hs, er, hr, h⟩
/-- one thing, then another -/
theorem tV_bind {α δ : Type} {RB : Rho → Hp → α → δ → Prop} {f : En → Hs → R T} {k : T → Hs → R α} {Q : δ → Hp → Prop} {R : VK} (er : EnR G xa ρ H env σ) (hr : HR G ρ hs H)
    (h : Post G RB ρ H (fun c d H' => W c d σ H') ((f env hs).bind k) Q)
    (g : ∀ ρ' hs' H' t v, EnR G xa ρ' H' env σ → HR G ρ' hs' H' → Rv G ρ' H' t v → Stp ρ H ρ' H' → Post G RB ρ' H' (fun c d H2 => W c d σ H2) (k t hs') Q → R v H') : tV G xa W f σ H R :=
  tV_of er hr (Post.mono (fun v H' ⟨ρ', hs', t, st, hr', rv, p⟩ => g ρ' hs' H' t v (er.step hr.Live st) hr' rv st p) (Post.bind (RA := Rv G) h))
theorem tK_bind {α δ : Type} {RB : Rho → Hp → α → δ → Prop} {f : En → Hs → R Bool} {k : Bool → Hs → R α} {Q : δ → Hp → Prop} {R : Bool → Hp → Prop} (er : EnR G xa ρ H env σ) (hr : HR G ρ hs H)
    (h : Post G RB ρ H (fun c d H' => W c d σ H') ((f env hs).bind k) Q)
    (g : ∀ ρ' hs' H' b, EnR G xa ρ' H' env σ → HR G ρ' hs' H' → Stp ρ H ρ' H' → Post G RB ρ' H' (fun c d H2 => W c d σ H2) (k b hs') Q → R b H') : tK G xa W f σ H R :=
  ⟨ρ, env, hs, er, hr, Post.mono (fun v H' ⟨ρ', hs', t, st, hr', rv, p⟩ => by
    have e : t = v := rv
    subst e
    exact g ρ' hs' H' t (er.step hr.Live st) hr' st p) (Post.bind (RA := RBo) h)⟩
theorem tL_bind {α δ : Type} {RB : Rho → Hp → α → δ → Prop} {f : En → Hs → R (List T)} {k : List T → Hs → R α} {Q : δ → Hp → Prop} {R : List V → Hp → Prop} (er : EnR G xa ρ H env σ) (hr : HR G ρ hs H)
    (h : Post G RB ρ H (fun c d H' => W c d σ H') ((f env hs).bind k) Q)
    (g : ∀ ρ' hs' H' t v, EnR G xa ρ' H' env σ → HR G ρ' hs' H' → RvL G ρ' H' t v → Stp ρ H ρ' H' → Post G RB ρ' H' (fun c d H2 => W c d σ H2) (k t hs') Q → R v H') : tL G xa W f σ H R :=
  ⟨ρ, env, hs, er, hr, Post.mono (fun v H' ⟨ρ', hs', t, st, hr', rv, p⟩ => g ρ' hs' H' t v (er.step hr.Live st) hr' rv st p) (Post.bind (RA := RvL G) h)⟩
/-- an end without an exception, at the heap as it is -/
theorem Post.here {α β : Type} {RA : Rho → Hp → α → β → Prop} {XW : XW} {a : α} {b : β} {Q : β → Hp → Prop} (hr : HR G ρ hs H) (h : Post G RA ρ H XW (.ok a hs) Q) (r : RA ρ H a b) : Q b H := h ρ H b .refl hr r
/-- .. at a grown heap -/
theorem Post.grown {α β : Type} {RA : Rho → Hp → α → β → Prop} {XW : XW} {a : α} {b : β} {Q : β → Hp → Prop} (hr : HR G ρ hs H) (h : Post G RA ρ H XW (.ok a hs) Q) (e : Ext H H') (r : RA ρ H' a b) : Q b H' := h ρ H' b (.ext e) (hr.ext e) r
theorem new_out {p : Addr} (hr : HR G ρ hs H) (h : H p = none) : some p ∉ ρ.l ∧ p ∉ ρ.rs := ⟨fun z => by
  obtain ⟨o, e, _⟩ := hr.Live p z
  rw [h] at e
  (cases e), fun z => by
  obtain ⟨_, xs, e⟩ := hr.rsv p z
  rw [h] at e
  cases e⟩
theorem rv_newT {p : Addr} {ts : List T} {xs : List V} (hr : HR G ρ hs H) (h : H p = none) (r : RvL G ρ H ts xs) : Rv G ρ (upd H p (.tup xs)) (.tup ts) (.ref p) := by
  simp only [Rv]
  exact ⟨p, xs, rfl, .inl (.inl upd_same), RvL.step hr.Live (.ext (ext_upd h)) _ _ r⟩
theorem rv_newL {p : Addr} {ts : List T} {xs : List V} (hr : HR G ρ hs H) (h : H p = none) (r : RvL G ρ H ts xs) : Rv G ρ (upd H p (.lst xs)) (.lst ts) (.ref p) := by
  simp only [Rv]
  exact ⟨p, xs, rfl, upd_same, RvL.step hr.Live (.ext (ext_upd h)) _ _ r, new_out hr h⟩
end

/-! ### truth, data -/
section
variable {G : Gx} {ρ : Rho} {H : Hp} {hs : Hs}
theorem empty_of {ts : List T} {xs : List V} (r : RvL G ρ H ts xs) : (!ts.isEmpty) = !xs.isEmpty := by
  cases ts with
  | nil => simp only [RvL] at r; subst r; rfl
  | cons t r' => simp only [RvL] at r; obtain ⟨v, ws, rfl, _⟩ := r; rfl
theorem lim_line {n : Nat} (h : n ≤ 1000000) : n ≤ sizeLine := Nat.le_trans h (by rw [sizeLine_eq]; decide)
theorem truV_of {t : T} {v : V} {k : Bool} (hr : HR G ρ hs H) (r : Rv G ρ H t v) (h : truT hs t = some k) : TruV G.K v H k := by
  cases t with
  | non => simp only [truT] at h; cases h; simp only [Rv] at r; subst r; rfl
  | bl b => simp only [truT] at h; cases h; simp only [Rv] at r; subst r; rfl
  | int i => simp only [truT] at h; cases h; simp only [Rv] at r; subst r; rfl
  | str s =>
    simp only [truT] at h
    split at h
    · rename_i hl
      cases h
      simp only [Rv] at r
      subst r
      refine ⟨lim_line hl, ?_⟩
      cases e : s.length with
      | zero => simp
      | succ n =>
        have : ((n + 1 : Nat) : Int) ≠ 0 := by omega
        simp
        omega
    · cases h
  | tup ts =>
    simp only [truT] at h; cases h; simp only [Rv] at r
    obtain ⟨a, xs, rfl, q, z⟩ := r
    exact .inr (.inl ⟨xs, q, empty_of z⟩)
  | lst ts =>
    simp only [truT] at h; cases h; simp only [Rv] at r
    obtain ⟨a, xs, rfl, q, z, _⟩ := r
    exact .inl ⟨xs, SqL.of q, empty_of z⟩
  | ref n =>
    simp only [truT] at h
    split at h
    · rename_i ts e
      cases h
      obtain ⟨a, rfl, _, xs, q, z⟩ := hr.at_ e (by simp) r
      exact .inl ⟨xs, SqL.of q, empty_of z⟩
    · cases h
  | scr ns => simp [truT] at h
  | fn f => simp [truT] at h
mutual
theorem toD_dp : ∀ (t : T) (v : V) (d : PyData), Rv G ρ H t v → toD t = some d → Dp G.K H v d
  | .non, v, d, r, h => by simp only [toD] at h; cases h; simp only [Rv] at r; subst r; exact .non
  | .bl b, v, d, r, h => by simp only [toD] at h; cases h; simp only [Rv] at r; subst r; exact .bl _
  | .int i, v, d, r, h => by simp only [toD] at h; cases h; simp only [Rv] at r; subst r; exact .int _
  | .str s, v, d, r, h => by simp only [toD] at h; cases h; simp only [Rv] at r; subst r; exact .str _
  | .tup ts, v, d, r, h => by
    simp only [toD, Option.map_eq_some_iff] at h
    obtain ⟨ds, e, rfl⟩ := h
    simp only [Rv] at r
    obtain ⟨a, xs, rfl, q, z⟩ := r
    exact .tup q (toDs_dp ts xs ds z e)
  | .lst ts, v, d, r, h => by
    simp only [toD, Option.map_eq_some_iff] at h
    obtain ⟨ds, e, rfl⟩ := h
    simp only [Rv] at r
    obtain ⟨a, xs, rfl, q, z, _⟩ := r
    exact .lst (SqL.of q) (toDs_dp ts xs ds z e)
  | .scr _, _, _, _, h => by simp [toD] at h
  | .ref _, _, _, _, h => by simp [toD] at h
  | .fn _, _, _, _, h => by simp [toD] at h
theorem toDs_dp : ∀ (ts : List T) (vs : List V) (ds : List PyData), RvL G ρ H ts vs → toDs ts = some ds → DpAll G.K H vs ds
  | [], vs, ds, r, h => by simp only [toDs] at h; cases h; simp only [RvL] at r; subst r; exact .nil
  | t :: ts, vs, ds, r, h => by
    simp only [toDs, Option.bind_eq_some_iff, Option.map_eq_some_iff] at h
    obtain ⟨d, e1, es, e2, rfl⟩ := h
    simp only [RvL] at r
    obtain ⟨v, ws, rfl, q, z⟩ := r
    exact .cons (toD_dp t v d q e1) (toDs_dp ts ws es z e2)
end
theorem toDh_dp {t : T} {v : V} {d : PyData} (hr : HR G ρ hs H) (r : Rv G ρ H t v) (h : toDh hs t = some d) : Dp G.K H v d := by
  cases t with
  | ref n =>
    simp only [toDh] at h
    split at h
    · rename_i ts e
      simp only [Option.map_eq_some_iff] at h
      obtain ⟨ds, e2, rfl⟩ := h
      obtain ⟨a, rfl, _, xs, q, z⟩ := hr.at_ e (by simp) r
      exact .lst (SqL.of q) (toDs_dp ts xs ds z e2)
    · cases h
  | _ => exact toD_dp _ _ _ r h
end

/-! ### operations -/
/-- an operation on two values that gives a value or nothing, and changes nothing that stands -/
def rG2 (G : Gx) (g : Hs → T → T → Option T) : R2 := fun x y H Q => ∃ ρ hs t u z, HR G ρ hs H ∧ Rv G ρ H t x ∧ Rv G ρ H u y ∧ g hs t u = some z ∧ ∀ ρ' H' v, Stp ρ H ρ' H' → HR G ρ' hs H' → Rv G ρ' H' z v → Q v H'
def rG1 (G : Gx) (g : Hs → T → Option T) : V → Hp → VK → Prop := fun x H Q => ∃ ρ hs t z, HR G ρ hs H ∧ Rv G ρ H t x ∧ g hs t = some z ∧ ∀ ρ' H' v, Stp ρ H ρ' H' → HR G ρ' hs H' → Rv G ρ' H' z v → Q v H'
def rGL (G : Gx) (g : Hs → List T → Option T) : List V → Hp → VK → Prop := fun xs H Q => ∃ ρ hs ts z, HR G ρ hs H ∧ RvL G ρ H ts xs ∧ g hs ts = some z ∧ ∀ ρ' H' v, Stp ρ H ρ' H' → HR G ρ' hs H' → Rv G ρ' H' z v → Q v H'
section
variable {G : Gx} {xa : Option Xa} {X : Cx} {W : WX}
theorem tOp_of {g : Hs → T → T → Option T} {fa fb : En → Hs → R T} {σ : St} {H : Hp} {Q : VK} (h : tV G xa W (fun env h => (fa env h).bind fun x h1 => (fb env h1).bind fun y h2 => R.ofO (g h2 x y) h2) σ H Q) :
    tOp (rG2 G g) (tV G xa W fa) (tV G xa W fb) σ H Q := by
  obtain ⟨ρ, env, hs, er, hr, p⟩ := h
  refine tV_bind er hr p fun ρ1 hs1 H1 t x er1 hr1 rx _ p1 => ?_
  refine tV_bind er1 hr1 p1 fun ρ2 hs2 H2 u y er2 hr2 ry st p2 => ?_
  obtain ⟨z, e, k⟩ := Post.ofO p2
  exact ⟨ρ2, hs2, t, u, z, hr2, Rv.step hr1.Live st _ _ rx, ry, e, k⟩
theorem tUn_of {g : Hs → T → Option T} {fa : En → Hs → R T} {σ : St} {H : Hp} {Q : VK} (h : tV G xa W (fun env h => (fa env h).bind fun x h1 => R.ofO (g h1 x) h1) σ H Q) : tUn (rG1 G g) (tV G xa W fa) σ H Q := by
  obtain ⟨ρ, env, hs, er, hr, p⟩ := h
  refine tV_bind er hr p fun ρ1 hs1 H1 t x er1 hr1 rx _ p1 => ?_
  obtain ⟨z, e, k⟩ := Post.ofO p1
  exact ⟨ρ1, hs1, t, z, hr1, rx, e, k⟩
theorem tCB_of {g : Hs → List T → Option T} {fa : En → Hs → R (List T)} {σ : St} {H : Hp} {Q : VK} (h : tV G xa W (fun env h => (fa env h).bind fun x h1 => R.ofO (g h1 x) h1) σ H Q) : tCB (rGL G g) (tL G xa W fa) σ H Q := by
  obtain ⟨ρ, env, hs, er, hr, p⟩ := h
  refine tL_bind er hr p fun ρ1 hs1 H1 t x er1 hr1 rx _ p1 => ?_
  obtain ⟨z, e, k⟩ := Post.ofO p1
  exact ⟨ρ1, hs1, t, z, hr1, rx, e, k⟩
/-- a test that gives its answer as a value -/
theorem tK_val {f : En → Hs → R Bool} {σ : St} {H : Hp} {Q : Bool → Hp → Prop} (h : tK G xa W f σ H Q) : tV G xa W (fun env h => (f env h).bind fun b h1 => .ok (.bl b) h1) σ H (fun x H' => ∃ k, x = .bl k ∧ Q k H') := by
  obtain ⟨ρ, env, hs, er, hr, p⟩ := h
  refine ⟨ρ, env, hs, er, hr, ?_⟩
  show Post G (Rv G) ρ H (fun c d H' => W c d σ H') ((f env hs).bind fun b h1 => .ok (.bl b) h1) _
  cases e : f env hs with
  | ok b h1 =>
    rw [e] at p
    intro ρ' H' v st hr' rv
    have rv' : v = .bl b := by simpa only [Rv] using rv
    exact ⟨b, rv', p ρ' H' b st hr' rfl⟩
  | exc c xs h1 => rw [e] at p; exact p
  | bad => rw [e] at p; exact p

/-! ### + - * // % ** -/
theorem int_of {ρ : Rho} {H : Hp} {i : Int} {v : V} (r : Rv G ρ H (.int i) v) : v = .int i := by simpa only [Rv] using r
theorem str_of {ρ : Rho} {H : Hp} {i : Str} {v : V} (r : Rv G ρ H (.str i) v) : v = .str i := by simpa only [Rv] using r
theorem rv_int {ρ : Rho} {H : Hp} {i : Int} : Rv G ρ H (.int i) (.int i) := by simp only [Rv]
theorem rv_str {ρ : Rho} {H : Hp} {i : Str} : Rv G ρ H (.str i) (.str i) := by simp only [Rv]
theorem rv_bl {ρ : Rho} {H : Hp} {i : Bool} : Rv G ρ H (.bl i) (.bl i) := by simp only [Rv]
theorem rv_non {ρ : Rho} {H : Hp} : Rv G ρ H .non .non := by simp only [Rv]
theorem opr_bin (eK : X.K = G.K) {o : Bk} {op : Operator} (h : okB o op = true) : OpR X (binaryOp op) (rG2 G fun _ x y => binT o x y) := by
  intro pins s σ H x y v u Q I rx ry hh
  obtain ⟨ρ, hs, t, w, z, hr, r1, r2, e, k⟩ := hh
  cases o <;> cases op <;> first | (cases h; done) | skip
  · -- add
    cases t <;> cases w <;> simp only [binT, addT] at e <;> first | (cases e; done) | skip
    · cases e
      cases int_of r1; cases int_of r2
      exact op_add pins s σ H _ _ v u Q I rx ry ⟨_, _, rfl, rfl, k ρ H _ .refl hr rv_int⟩
    · split at e
      · rename_i hl
        cases e
        cases str_of r1; cases str_of r2
        exact op_add_str pins s σ H _ _ v u Q I rx ry ⟨_, _, rfl, rfl, lim_line hl, k ρ H _ .refl hr rv_str⟩
      · cases e
    · split at e
      · rename_i hl
        cases e
        simp only [Rv] at r1 r2
        obtain ⟨a, xs, rfl, qa, ra⟩ := r1
        obtain ⟨b, ys, rfl, qb, rb⟩ := r2
        rw [← eK] at qa qb
        refine op_catA pins s σ H _ _ v u Q I rx ry ⟨a, b, xs, ys, rfl, rfl, qa, qb, ?_, ?_, ?_, ?_⟩
        · rw [ra.len, rb.len]; exact lim_line hl
        · intro z
          have e1 := ra.nil_iff.mp z
          subst e1
          refine k ρ H _ .refl hr ?_
          simp only [Rv]
          rw [eK] at qb
          exact ⟨b, ys, rfl, qb, rb⟩
        · intro _ z
          have e1 := rb.nil_iff.mp z
          subst e1
          refine k ρ H _ .refl hr ?_
          rw [List.append_nil]
          simp only [Rv]
          rw [eK] at qa
          exact ⟨a, xs, rfl, qa, ra⟩
        · intro _ _ p hp
          exact k ρ _ _ (.ext (ext_upd hp)) (hr.ext (ext_upd hp)) (rv_newT hr hp (ra.app rb))
      · cases e
    · split at e
      · rename_i hl
        cases e
        simp only [Rv] at r1 r2
        obtain ⟨a, xs, rfl, qa, ra, na⟩ := r1
        obtain ⟨b, ys, rfl, qb, rb, nb⟩ := r2
        refine op_cat pins s σ H _ _ v u Q I rx ry ⟨a, b, xs, ys, rfl, rfl, qa, qb, ?_, ?_⟩
        · rw [ra.len, rb.len]; exact lim_line hl
        · intro p hp
          exact k ρ _ _ (.ext (ext_upd hp)) (hr.ext (ext_upd hp)) (rv_newL hr hp (ra.app rb))
      · cases e
  · cases t <;> cases w <;> simp only [binT] at e <;> first | (cases e; done) | skip
    cases e
    cases int_of r1; cases int_of r2
    exact op_sub pins s σ H _ _ v u Q I rx ry ⟨_, _, rfl, rfl, k ρ H _ .refl hr rv_int⟩
  · cases t <;> cases w <;> simp only [binT] at e <;> first | (cases e; done) | skip
    split at e
    · rename_i hl
      cases e
      cases int_of r1; cases int_of r2
      refine op_mul pins s σ H _ _ v u Q I rx ry ⟨_, _, rfl, rfl, ?_, k ρ H _ .refl hr rv_int⟩
      simp only [mulOk, Bool.or_eq_true, Bool.and_eq_true, decide_eq_true_eq] at hl
      exact hl
    · cases e
    · split at e
      · rename_i x n hl
        cases e
        cases str_of r1; cases int_of r2
        simp only [Bool.and_eq_true, decide_eq_true_eq] at hl
        obtain ⟨l1, l2, l3⟩ := hl
        obtain ⟨t1, rfl⟩ := rx
        obtain ⟨t2, rfl⟩ := ry
        have fin := k ρ H _ .refl hr (rv_str (i := Txt.mul x n))
        refine PySem.SB.mul ⟨?_, fun h1 _ => ?_, fun h1 _ => ?_⟩ fun t' kk => ⟨.str _, H, I.tok _, ⟨_, rfl⟩, fin⟩
        · rw [decide_eq_false (by omega), decide_eq_false (by omega)]
          rfl
        · have e1 : (2 ^ 63 - 1 : Int) / n ≥ 1000000 := by
            have : (2 ^ 63 - 1 : Int) / n ≥ (2 ^ 63 - 1 : Int) / 1000 := by
              apply Int.le_ediv_of_mul_le (by omega)
              have h3 : (2 ^ 63 - 1 : Int) / 1000 * n ≤ (2 ^ 63 - 1 : Int) / 1000 * 1000 := Int.mul_le_mul_of_nonneg_left (by omega) (by decide)
              exact Int.le_trans h3 (by decide)
            have h4 : (2 ^ 63 - 1 : Int) / 1000 ≥ 1000000 := by decide
            omega
          omega
        · have e1 : x.length * n.toNat ≤ 1000 * 1000 := Nat.mul_le_mul l3 (by omega)
          have e2 : ¬ x.length * n.toNat > 2 ^ 24 := by omega
          simpa [Builtin.Str.tooLong, sizeLine] using e2
      · cases e
  · cases t <;> cases w <;> simp only [binT] at e <;> first | (cases e; done) | skip
    split at e
    · rename_i hl
      cases e
      cases int_of r1; cases int_of r2
      simp only [Bool.and_eq_true, decide_eq_true_eq] at hl
      exact op_fdiv pins s σ H _ _ v u Q I rx ry ⟨_, _, rfl, rfl, hl, k ρ H _ .refl hr rv_int⟩
    · cases e
  · cases t <;> cases w <;> simp only [binT] at e <;> first | (cases e; done) | skip
    split at e
    · rename_i hl
      cases e
      cases int_of r1; cases int_of r2
      simp only [decide_eq_true_eq] at hl
      exact op_mod pins s σ H _ _ v u Q I rx ry ⟨_, _, rfl, rfl, hl, k ρ H _ .refl hr rv_int⟩
    · cases e
  · cases t <;> cases w <;> simp only [binT] at e <;> first | (cases e; done) | skip
    split at e
    · rename_i hl
      cases e
      cases int_of r1; cases int_of r2
      simp only [Bool.and_eq_true, decide_eq_true_eq] at hl
      exact op_pow pins s σ H _ _ v u Q I rx ry ⟨_, _, rfl, rfl, hl, k ρ H _ .refl hr rv_int⟩
    · cases e
theorem un_negT : UnR X (unaryOp .USub) (rG1 G fun _ x => (intT x).map fun i => .int (-i)) := by
  intro pins s σ H x v Q I rx hh
  obtain ⟨ρ, hs, t, z, hr, r1, e, k⟩ := hh
  cases t <;> simp [intT] at e
  cases e
  cases int_of r1
  exact un_neg pins s σ H _ v Q I rx ⟨_, rfl, k ρ H _ .refl hr rv_int⟩

/-! ### comparisons -/
theorem in_seq {ρ : Rho} {H : Hp} {ts : List T} {xs : List V} {t : T} {x : V} (r : RvL G ρ H ts xs) (q : Rv G ρ H t x) (h : (flatT t && ts.all flatT) = true) : flatV x = true ∧ xs.all flatV = true ∧ inV x xs = ts.any fun y => eqF y t := by
  simp only [Bool.and_eq_true] at h
  exact ⟨flat_one q h.1, r.flat h.2, r.eqF q h.1 h.2⟩
theorem none_dec {ρ : Rho} {H : Hp} {hs : Hs} {t : T} {v : V} {b : Bool} (r : Rv G ρ H t v) (h : isT hs t .non = some b) (hr : HR G ρ hs H) : decide (v = V.non) = b := by
  cases t
  case ref k =>
    simp only [isT] at h
    split at h
    · rename_i hl
      cases h
      unfold isLive at hl
      split at hl
      · cases hl
      · rename_i o hn e
        obtain ⟨a, rfl, _⟩ := hr.at_ e (fun z => hn z) r
        simp
      · cases hl
    · cases h
  all_goals (simp only [isT] at h)
  all_goals first | (cases h; done) | skip
  all_goals cases h
  all_goals first
    | (simp only [Rv] at r; subst r; rfl)
    | (simp only [Rv] at r; obtain ⟨a, xs, rfl, _⟩ := r; simp; done)
    | (simp only [Rv] at r; obtain ⟨a, rfl, _⟩ := r; simp; done)
end
end Fs
end

section
set_option Elab.async false
set_option linter.all false
set_option maxRecDepth 100000
/-! Fs4: comparisons, subscripts, slices, built-in functions and methods by trees. -/
namespace Fs
open PySem L2

section
variable {G : Gx} {X : Cx}
theorem opt_map {α β : Type} {o : Option α} {f : α → β} {b : β} (h : o.map f = some b) : ∃ a, o = some a ∧ f a = b := Option.map_eq_some_iff.mp h
theorem opt_bind {α β : Type} {o : Option α} {f : α → Option β} {b : β} (h : o.bind f = some b) : ∃ a, o = some a ∧ f a = some b := Option.bind_eq_some_iff.mp h
theorem opr_cmp (eK : X.K = G.K) (hu : X.A.units + 64 < cLine) {o : Ck} {op : CmpOp} (h : okC o op = true) : OpR X (compareOp op) (rG2 G fun hs x y => (cmpT o hs x y).map T.bl) := by
  intro pins s σ H x y v u Q I rx ry hh
  obtain ⟨ρ, hs, t, w, z, hr, r1, r2, e, k⟩ := hh
  obtain ⟨b, e1, rfl⟩ := opt_map e
  clear e
  have fin : Q (.bl b) H := k ρ H _ .refl hr rv_bl
  have eqs : ∀ {c : Bool}, eqT hs t w = some c → ∃ d d2, Dp X.K H x d ∧ Dp X.K H y d2 ∧ SeqAt.shaped d = true ∧ SeqAt.shaped d2 = true ∧ PyData.eqv d d2 = c := fun {c} e => by
    unfold eqT at e
    obtain ⟨d, e1, e⟩ := opt_bind e
    obtain ⟨d2, e2, e⟩ := opt_bind e
    split at e
    · rename_i sh
      rw [Bool.and_eq_true] at sh
      cases e
      exact ⟨d, d2, by rw [eK]; exact toDh_dp hr r1 e1, by rw [eK]; exact toDh_dp hr r2 e2, sh.1, sh.2, rfl⟩
    · cases e
  have iss : ∀ {c : Bool}, isT hs t w = some c → (y = .non ∧ decide (x = .non) = c) ∨ ∃ a a2 : Bool, x = .bl a ∧ y = .bl a2 ∧ decide (a = a2) = c := fun {c} e => by
    cases w
    case non =>
      refine .inl ⟨by simpa only [Rv] using r2, none_dec r1 e hr⟩
    case bl a2 =>
      cases t <;> simp only [isT] at e <;> first | (cases e; done) | skip
      rename_i a
      cases e
      exact .inr ⟨a, a2, by simpa only [Rv] using r1, by simpa only [Rv] using r2, rfl⟩
    all_goals (cases t <;> simp only [isT] at e <;> cases e)
  have ins : ∀ {c : Bool}, inT hs t w = some c → (∃ (a : Nat) (z : Str), x = .str ⟨#[a]⟩ ∧ y = .str z ∧ decide (a ∈ z.cps.toList) = c) ∨
      ∃ p xs, y = .ref p ∧ (SqL X.K H p xs ∨ SqT X.K H p xs) ∧ flatV x = true ∧ xs.all flatV = true ∧ inV x xs = c := fun {c} e => by
    cases w <;> simp only [inT] at e <;> first | (cases e; done) | skip
    · -- str
      rename_i z
      cases t <;> simp only at e <;> first | (cases e; done) | skip
      rename_i st
      split at e
      · rename_i a hl
        cases e
        refine .inl ⟨a, z, ?_, by simpa only [Rv] using r2, rfl⟩
        have e1 : st = ⟨#[a]⟩ := by
          have : st.cps = #[a] := by
            apply Array.toList_inj.mp
            rw [hl]
          cases st
          simp at this
          rw [this]
        subst e1
        simpa only [Rv] using r1
      · cases e
    · rename_i ts
      split at e
      · rename_i hf
        cases e
        simp only [Rv] at r2
        obtain ⟨a, xs, rfl, q, rl⟩ := r2
        obtain ⟨f1, f2, f3⟩ := in_seq rl r1 hf
        exact .inr ⟨a, xs, rfl, .inr (by rw [eK]; exact q), f1, f2, f3⟩
      · cases e
    · rename_i ts
      split at e
      · rename_i hf
        cases e
        simp only [Rv] at r2
        obtain ⟨a, xs, rfl, q, rl, _⟩ := r2
        obtain ⟨f1, f2, f3⟩ := in_seq rl r1 hf
        exact .inr ⟨a, xs, rfl, .inl (SqL.of q), f1, f2, f3⟩
      · cases e
    · rename_i n
      split at e
      · rename_i ts en
        split at e
        · rename_i hf
          cases e
          obtain ⟨a, rfl, _, xs, q, rl⟩ := hr.at_ en (by simp) r2
          obtain ⟨f1, f2, f3⟩ := in_seq rl r1 hf
          exact .inr ⟨a, xs, rfl, .inl (SqL.of q), f1, f2, f3⟩
        · cases e
      · cases e
  revert e1
  intro e
  cases o <;> cases op <;> first | (cases h; done) | skip
  · obtain ⟨d, d2, h1, h2, h3, h4, rfl⟩ := eqs e
    exact op_eqD hu pins s σ H x y v u Q I rx ry ⟨d, d2, h1, h2, h3, h4, fin⟩
  · obtain ⟨c, e', rfl⟩ := opt_map e
    clear e
    revert e'
    intro e
    obtain ⟨d, d2, h1, h2, h3, h4, rfl⟩ := eqs e
    exact op_neD hu pins s σ H x y v u Q I rx ry ⟨d, d2, h1, h2, h3, h4, fin⟩
  · cases t <;> cases w <;> simp only [cmpT] at e <;> first | (cases e; done) | skip
    cases e
    cases int_of r1; cases int_of r2
    exact op_lt pins s σ H _ _ v u Q I rx ry ⟨_, _, rfl, rfl, fin⟩
  · cases t <;> cases w <;> simp only [cmpT] at e <;> first | (cases e; done) | skip
    cases e
    cases int_of r1; cases int_of r2
    exact op_le pins s σ H _ _ v u Q I rx ry ⟨_, _, rfl, rfl, fin⟩
  · cases t <;> cases w <;> simp only [cmpT] at e <;> first | (cases e; done) | skip
    cases e
    cases int_of r1; cases int_of r2
    exact op_gt pins s σ H _ _ v u Q I rx ry ⟨_, _, rfl, rfl, fin⟩
  · cases t <;> cases w <;> simp only [cmpT] at e <;> first | (cases e; done) | skip
    cases e
    cases int_of r1; cases int_of r2
    exact op_ge pins s σ H _ _ v u Q I rx ry ⟨_, _, rfl, rfl, fin⟩
  · rcases iss e with ⟨rfl, rfl⟩ | ⟨a, a2, rfl, rfl, rfl⟩
    · exact op_isN pins s σ H _ _ v u Q I rx ry ⟨rfl, fin⟩
    · exact op_isBl pins s σ H _ _ v u Q I rx ry ⟨_, _, rfl, rfl, fin⟩
  · obtain ⟨c, e', rfl⟩ := opt_map e
    clear e
    revert e'
    intro e
    rcases iss e with ⟨rfl, rfl⟩ | ⟨a, a2, rfl, rfl, rfl⟩
    · exact op_notN pins s σ H _ _ v u Q I rx ry ⟨rfl, fin⟩
    · exact op_notBl pins s σ H _ _ v u Q I rx ry ⟨_, _, rfl, rfl, fin⟩
  · rcases ins e with ⟨a, z, rfl, rfl, rfl⟩ | ⟨p, xs, rfl, q, f1, f2, rfl⟩
    · exact op_in_sign pins s σ H _ _ v u Q I rx ry ⟨_, _, rfl, rfl, fin⟩
    · exact op_in_seq pins s σ H _ _ v u Q I rx ry ⟨_, _, rfl, q, f1, f2, fin⟩
  · obtain ⟨c, e', rfl⟩ := opt_map e
    clear e
    revert e'
    intro e
    rcases ins e with ⟨a, z, rfl, rfl, rfl⟩ | ⟨p, xs, rfl, q, f1, f2, rfl⟩
    · exact op_notIn_sign pins s σ H _ _ v u Q I rx ry ⟨_, _, rfl, rfl, fin⟩
    · exact op_notIn_seq pins s σ H _ _ v u Q I rx ry ⟨_, _, rfl, q, f1, f2, fin⟩

/-! ### subscripts -/
theorem RvL.atI {ρ : Rho} {H : Hp} {ts : List T} {vs : List V} {i : Int} {t : T} (r : RvL G ρ H ts vs) (h : L2.atI ts i = some t) : ∃ v, L2.atI vs i = some v ∧ Rv G ρ H t v := by
  unfold L2.atI at h ⊢
  rw [r.len]
  cases e : ixN ts.length i with
  | none => rw [e] at h; cases h
  | some j =>
    rw [e] at h
    obtain ⟨v, h1, h2⟩ := r.get h
    exact ⟨v, h1, h2⟩
theorem ixr (eK : X.K = G.K) : IxR X (rG2 G ixT) := by
  intro value slice pins s σ H x y v u Q I rx ry hh hs'
  obtain ⟨ρ, hs, t, w, z, hr, r1, r2, e, k⟩ := hh
  cases w <;> simp only [ixT] at e <;> first | (cases e; done) | skip
  rename_i i
  cases int_of r2
  cases t <;> simp only at e <;> first | (cases e; done) | skip
  · rename_i st
    split at e
    · rename_i hl
      obtain ⟨c, e', rfl⟩ := opt_map e
      clear e
      revert e'
      intro e
      cases str_of r1
      exact ix_str value slice pins s σ H _ _ v u Q I rx ry ⟨_, _, c, rfl, rfl, lim_line hl, e, k ρ H _ .refl hr rv_str⟩ hs'
    · cases e
  · simp only [Rv] at r1
    obtain ⟨a, xs, rfl, q, rl⟩ := r1
    obtain ⟨q1, q2, q3⟩ := rl.atI e
    exact ix_tup value slice pins s σ H _ _ v u Q I rx ry ⟨_, _, _, q1, rfl, rfl, by rw [eK]; exact q, q2, k ρ H _ .refl hr q3⟩ hs'
  · simp only [Rv] at r1
    obtain ⟨a, xs, rfl, q, rl, _⟩ := r1
    obtain ⟨q1, q2, q3⟩ := rl.atI e
    exact ix_list value slice pins s σ H _ _ v u Q I rx ry ⟨_, _, _, q1, rfl, rfl, SqL.of q, q2, k ρ H _ .refl hr q3⟩ hs'
  · split at e
    · rename_i ts en
      obtain ⟨a, rfl, _, xs, q, rl⟩ := hr.at_ en (by simp) r1
      obtain ⟨q1, q2, q3⟩ := rl.atI e
      exact ix_list value slice pins s σ H _ _ v u Q I rx ry ⟨_, _, _, q1, rfl, rfl, SqL.of q, q2, k ρ H _ .refl hr q3⟩ hs'
    · cases e

/-! ### slices -/
def rGS (G : Gx) : V → Option Int → Option Int → Hp → VK → Prop := fun x lo hi H Q => ∃ ρ hs t z, HR G ρ hs H ∧ Rv G ρ H t x ∧ slT t lo hi = some z ∧ ∀ ρ' H' v, Stp ρ H ρ' H' → HR G ρ' hs H' → Rv G ρ' H' z v → Q v H'
theorem RvL.cut {ρ : Rho} {H : Hp} {ts : List T} {vs : List V} (r : RvL G ρ H ts vs) (lo hi : Option Int) : RvL G ρ H (cutL ts lo hi) (cutV vs lo hi) := by
  unfold cutL cutV
  rw [r.len]
  exact (r.drop _).take _
theorem slr (eK : X.K = G.K) : SlR X (rGS G) := by
  intro pins s σ H x v vl vu lo hi sl Q I rx hs' pl pu hh
  obtain ⟨ρ, hs, t, z, hr, r1, e, k⟩ := hh
  cases t <;> simp only [slT] at e <;> first | (cases e; done) | skip
  · split at e
    · rename_i hl
      cases e
      cases str_of r1
      exact sl_str pins s σ H _ v vl vu lo hi sl Q I rx hs' pl pu ⟨_, rfl, lim_line hl, k ρ H _ .refl hr rv_str⟩
    · cases e
  · rename_i ts
    cases e
    simp only [Rv] at r1
    obtain ⟨a, xs, rfl, q, rl⟩ := r1
    refine sl_tupA pins s σ H _ v vl vu lo hi sl Q I rx hs' pl pu ⟨a, xs, rfl, by rw [eK]; exact q, fun ⟨h1, h2⟩ => ?_, fun _ p hp => ?_⟩
    · refine k ρ H _ .refl hr ?_
      have ec : cutL ts lo hi = ts := by
        unfold cutL
        rw [← rl.len, h1, h2, List.drop_zero]
        exact List.take_of_length_le (by rw [rl.len]; omega)
      rw [ec]
      simp only [Rv]
      exact ⟨a, xs, rfl, q, rl⟩
    · exact k ρ _ _ (.ext (ext_upd hp)) (hr.ext (ext_upd hp)) (rv_newT hr hp (rl.cut lo hi))
  · cases e
    simp only [Rv] at r1
    obtain ⟨a, xs, rfl, q, rl, _⟩ := r1
    exact sl_list pins s σ H _ v vl vu lo hi sl Q I rx hs' pl pu ⟨a, xs, rfl, SqL.of q, fun p hp => k ρ _ _ (.ext (ext_upd hp)) (hr.ext (ext_upd hp)) (rv_newL hr hp (rl.cut lo hi))⟩
  · rename_i ns
    cases e
    simp only [Rv] at r1
    obtain ⟨a, rfl, q⟩ := r1
    have ql : SqL X.K H a (ns.map V.int) := by
      rcases q with ⟨o, q⟩ | q
      · exact .inl (.inr ⟨o, q⟩)
      · rw [eK]; exact q H
    refine sl_list pins s σ H _ v vl vu lo hi sl Q I rx hs' pl pu ⟨a, _, rfl, ql, fun p hp => k ρ _ _ (.ext (ext_upd hp)) (hr.ext (ext_upd hp)) (rv_newL hr hp ?_)⟩
    have : cutV (ns.map V.int) lo hi = (cutL ns lo hi).map V.int := by
      unfold cutL cutV
      simp [List.map_drop, List.map_take]
    rw [this]
    exact RvL.of_map (fun i => rv_int) _

/-! ### built-in functions -/
theorem RvL.one_inv {ρ : Rho} {H : Hp} {xs : List T} {t : T} {vs : List V} (r : RvL G ρ H xs vs) (h : Fs.one xs = some t) : ∃ v, vs = [v] ∧ Rv G ρ H t v := by
  cases xs with
  | nil => cases h
  | cons x r' =>
    cases r' with
    | nil =>
      cases h
      simp only [RvL] at r
      obtain ⟨v, ws, rfl, q, rfl⟩ := r
      exact ⟨v, rfl, q⟩
    | cons _ _ => cases h
theorem RvL.two_inv {ρ : Rho} {H : Hp} {xs : List T} {p : Int × Int} {vs : List V} (r : RvL G ρ H xs vs) (h : two xs = some p) : vs = [.int p.1, .int p.2] := by
  unfold two at h
  split at h
  · split at h
    · cases h
      simp only [RvL] at r
      obtain ⟨v, ws, rfl, q, v2, w2, rfl, q2, rfl⟩ := r
      rw [int_of q, int_of q2]
    · cases h
  · cases h
theorem RvL.lst_inv {ρ : Rho} {H : Hp} {xs ts : List T} {vs : List V} (r : RvL G ρ H xs vs) (h : lstOf xs = some ts) : ∃ a ws, vs = [.ref a] ∧ H a = some (.lst ws) ∧ RvL G ρ H ts ws := by
  unfold lstOf at h
  split at h
  · split at h
    · cases h
      simp only [RvL] at r
      obtain ⟨v, ws, rfl, q, rfl⟩ := r
      simp only [Rv] at q
      obtain ⟨a, xs, rfl, q, rl, _⟩ := q
      exact ⟨a, xs, rfl, q, rl⟩
    · cases h
  · cases h
/-- what the built-in's name is bound to -/
def biV : Bi → Value
  | .abs => .builtin "abs"
  | .all => .builtin "all"
  | .any => .builtin "any"
  | .int => .type "int"
  | .len => .builtin "len"
  | .list => .type "list"
  | .max1 => .builtin "max"
  | .max2 => .builtin "max"
  | .min1 => .builtin "min"
  | .min2 => .builtin "min"
  | .repr => .builtin "repr"
  | .str => .type "str"
  | .sum => .builtin "sum"
  | .tuple => .type "tuple"
  | .isinst _ => .builtin "isinstance"
theorem maxL_ok {ns : List Int} {m : Int} (h : maxL ns = some m) : 0 < ns.length ∧ m ∈ ns ∧ ∀ y ∈ ns, y ≤ m := by
  cases ns with
  | nil => cases h
  | cons a r =>
    simp only [maxL] at h
    cases h
    refine ⟨by simp, ?_⟩
    have key : ∀ (l : List Int) (a : Int), (l.foldl (fun m x => if x > m then x else m) a = a ∨ l.foldl (fun m x => if x > m then x else m) a ∈ l) ∧ a ≤ l.foldl (fun m x => if x > m then x else m) a ∧ ∀ y ∈ l, y ≤ l.foldl (fun m x => if x > m then x else m) a := by
      intro l
      induction l with
      | nil => intro a; exact ⟨.inl rfl, Int.le_refl _, by simp⟩
      | cons b l ih =>
        intro a
        simp only [List.foldl_cons]
        obtain ⟨h1, h2, h3⟩ := ih (if b > a then b else a)
        refine ⟨?_, ?_, ?_⟩
        · rcases h1 with h1 | h1
          · rw [h1]
            by_cases hb : b > a
            · rw [if_pos hb]; exact .inr List.mem_cons_self
            · rw [if_neg hb]; exact .inl rfl
          · exact .inr (List.mem_cons_of_mem _ h1)
        · refine Int.le_trans ?_ h2
          by_cases hb : b > a
          · rw [if_pos hb]; omega
          · rw [if_neg hb]; omega
        · intro y hy
          rcases List.mem_cons.mp hy with rfl | hy
          · refine Int.le_trans ?_ h2
            by_cases hb : y > a
            · rw [if_pos hb]; omega
            · rw [if_neg hb]; omega
          · exact h3 y hy
    obtain ⟨h1, h2, h3⟩ := key r a
    refine ⟨?_, fun y hy => ?_⟩
    · rcases h1 with h1 | h1
      · rw [h1]; exact List.mem_cons_self
      · exact List.mem_cons_of_mem _ h1
    · rcases List.mem_cons.mp hy with rfl | hy
      · exact h2
      · exact h3 y hy
theorem minL_ok {ns : List Int} {m : Int} (h : minL ns = some m) : 0 < ns.length ∧ m ∈ ns ∧ ∀ y ∈ ns, m ≤ y := by
  cases ns with
  | nil => cases h
  | cons a r =>
    simp only [minL] at h
    cases h
    refine ⟨by simp, ?_⟩
    have key : ∀ (l : List Int) (a : Int), (l.foldl (fun m x => if x < m then x else m) a = a ∨ l.foldl (fun m x => if x < m then x else m) a ∈ l) ∧ l.foldl (fun m x => if x < m then x else m) a ≤ a ∧ ∀ y ∈ l, l.foldl (fun m x => if x < m then x else m) a ≤ y := by
      intro l
      induction l with
      | nil => intro a; exact ⟨.inl rfl, Int.le_refl _, by simp⟩
      | cons b l ih =>
        intro a
        simp only [List.foldl_cons]
        obtain ⟨h1, h2, h3⟩ := ih (if b < a then b else a)
        refine ⟨?_, ?_, ?_⟩
        · rcases h1 with h1 | h1
          · rw [h1]
            by_cases hb : b < a
            · rw [if_pos hb]; exact .inr List.mem_cons_self
            · rw [if_neg hb]; exact .inl rfl
          · exact .inr (List.mem_cons_of_mem _ h1)
        · refine Int.le_trans h2 ?_
          by_cases hb : b < a
          · rw [if_pos hb]; omega
          · rw [if_neg hb]; omega
        · intro y hy
          rcases List.mem_cons.mp hy with rfl | hy
          · refine Int.le_trans h2 ?_
            by_cases hb : y < a
            · rw [if_pos hb]; omega
            · rw [if_neg hb]; omega
          · exact h3 y hy
    obtain ⟨h1, h2, h3⟩ := key r a
    refine ⟨?_, fun y hy => ?_⟩
    · rcases h1 with h1 | h1
      · rw [h1]; exact List.mem_cons_self
      · exact List.mem_cons_of_mem _ h1
    · rcases List.mem_cons.mp hy with rfl | hy
      · exact h2
      · exact h3 y hy
end
end Fs
end

section
set_option Elab.async false
set_option linter.all false
set_option maxRecDepth 100000
/-! Fs5: built-in functions and methods by trees. -/
namespace Fs
open PySem L2
section
variable {G : Gx} {X : Cx}
theorem intT_of {ρ : Rho} {H : Hp} {t : T} {v : V} {i : Int} (h : intT t = some i) (r : Rv G ρ H t v) : v = .int i := by
  cases t <;> simp only [intT] at h <;> cases h
  exact int_of r
theorem lenT_of {ρ : Rho} {H : Hp} {hs : Hs} {t : T} {v : V} {n : Nat} (hr : HR G ρ hs H) (h : lenT hs t = some n) (r : Rv G ρ H t v) : LenV G.K v H n := by
  cases t <;> simp only [lenT] at h <;> first | (cases h; done) | skip
  · split at h
    · rename_i hl
      cases h
      cases str_of r
      exact ⟨lim_line hl, rfl⟩
    · cases h
  · cases h
    simp only [Rv] at r
    obtain ⟨a, xs, rfl, q, rl⟩ := r
    exact .inr ⟨xs, q, rl.len.symm⟩
  · cases h
    simp only [Rv] at r
    obtain ⟨a, xs, rfl, q, rl, _⟩ := r
    exact .inl ⟨xs, SqL.of q, rl.len.symm⟩
  · split at h
    · rename_i ts en
      cases h
      obtain ⟨a, rfl, _, xs, q, rl⟩ := hr.at_ en (by simp) r
      exact .inl ⟨xs, SqL.of q, rl.len.symm⟩
    · cases h
/-- a type's name -/
def tyNm : Kd → String
  | .non => "NoneType"
  | .bl => "bool"
  | .int => "int"
  | .str => "str"
  | .tup => "tuple"
  | .lst => "list"
  | .dct => "dict"
theorem kit_kd {K : PySem.W.Frag} (k n : Kd) : PySem.W.kitOne K (.type (tyNm k)) (.type (tyNm n)) = some (k.is n) := by
  apply kit_ty
  cases k <;> cases n <;> decide +kernel
theorem kind_of {ρ : Rho} {H : Hp} {hs : Hs} {t : T} {v : V} {k : Kd} (hr : HR G ρ hs H) (h : kind hs t = some k) (r : Rv G ρ H t v) : TyX G.K H v (.type (tyNm k)) := by
  cases t <;> simp only [kind] at h <;> first | (cases h; done) | skip
  · cases h; simp only [Rv] at r; subst r; exact .base .non
  · cases h; simp only [Rv] at r; subst r; exact .base (.bl _)
  · cases h; cases int_of r; exact .base (.int _)
  · cases h; cases str_of r; exact .base (.str _)
  · cases h
    simp only [Rv] at r
    obtain ⟨a, xs, rfl, q, rl⟩ := r
    rcases q with (q | ⟨o, q⟩) | ⟨o, its, n, q1, q2, _⟩
    · exact .base (.tup q)
    · exact .fTuple q
    · exact .kTuple q1 q2
  · cases h
    simp only [Rv] at r
    obtain ⟨a, xs, rfl, q, rl, _⟩ := r
    exact .base (.lst q)
  · split at h
    · rename_i ts en
      cases h
      obtain ⟨a, rfl, _, xs, q, rl⟩ := hr.at_ en (by simp) r
      exact .base (.lst q)
    · rename_i ts en
      cases h
      obtain ⟨a, rfl, _, xs, q, rl⟩ := hr.at_ en (by simp) r
      exact .base (.dK q)
    · cases h
theorem repr_ok (eK : X.K = G.K) (hg : X.A.guards = some []) (hu : X.A.units + 66 < cLine) : CallR X (.builtin "repr") (rGL G fun hs ts => (one ts).bind (reprT hs)) := by
  intro pins s σ H xs us Q I r hh
  obtain ⟨ρ, hs, ts, z, hr, r1, e, k⟩ := hh
  obtain ⟨t, e1, e2⟩ := opt_bind e
  obtain ⟨v, rfl, rv⟩ := r1.one_inv e1
  obtain ⟨u, rfl, ru⟩ := vals1 r
  unfold reprT at e2
  obtain ⟨d, e3, e4⟩ := opt_bind e2
  split at e4
  · rename_i hc
    simp only [Bool.and_eq_true, decide_eq_true_eq] at hc
    obtain ⟨c1, c2, c3⟩ := hc
    cases e4
    have fin : Q (.str d.shown) H := k ρ H _ .refl hr rv_str
    have dp : Dp X.K H v d := by rw [eK]; exact toDh_dp hr rv e3
    have hsz := lim_line c3
    have hd := SeqAt.depth_of_shaped c1
    cases dp with
    | non => cases (show u = Value.none from ru); exact PySem.P.repr_of_none ⟨.str _, H, I.tok _, ⟨_, rfl⟩, fin⟩
    | bl b => cases (show u = Value.bool b from ru); exact PySem.P.repr_of_bool ⟨.str _, H, I.tok _, ⟨_, rfl⟩, fin⟩
    | int i =>
      obtain ⟨tk, rfl⟩ := (show ∃ t, u = Value.int i t from ru)
      exact PySem.P.repr_of_int (by simpa [PyData.showable] using c2) ⟨.str _, H, I.tok _, ⟨_, rfl⟩, fin⟩
    | str y =>
      obtain ⟨tk, rfl⟩ := (show ∃ t, u = Value.str y t from ru)
      exact PySem.P.repr_of_str ⟨.str _, H, I.tok _, ⟨_, rfl⟩, fin⟩ hsz
    | @lst a ws ds q ql =>
      cases (show u = Value.ref a from ru)
      obtain ⟨as, rd⟩ := Dp.reads I _ _ _ (Dp.lst q ql) (show RelV (.ref a) (.ref a) from rfl)
      exact repr_of_reads' rd c2 (PyData.noDict_hsm (PyData.hasDict_of_canLay _ (SeqAt.canLay_of_shaped c1))) hg (by omega) (fun _ _ e => e) (fun h' u' tk hk => ⟨.str _, H, I.kept hk, ⟨_, rfl⟩, fin⟩) hsz
    | @tup a ws ds q ql =>
      cases (show u = Value.ref a from ru)
      obtain ⟨as, rd⟩ := Dp.reads I _ _ _ (Dp.tup q ql) (show RelV (.ref a) (.ref a) from rfl)
      exact repr_of_reads' rd c2 (PyData.noDict_hsm (PyData.hasDict_of_canLay _ (SeqAt.canLay_of_shaped c1))) hg (by omega) (fun _ _ e => e) (fun h' u' tk hk => ⟨.str _, H, I.kept hk, ⟨_, rfl⟩, fin⟩) hsz
  · cases e4
def notIsi : Bi → Bool
  | .isinst _ => false
  | _ => true
theorem crB (eK : X.K = G.K) {b : Bi} (hn : notIsi b = true) (hc : biHot b = true ∨ X.calm = true) (hg : biHot b = true ∨ X.A.guards = some []) (hu : X.A.units + 66 < cLine) : CallR X (biV b) (rGL G fun hs ts => biT b hs ts) := by
  cases b with
  | abs =>
    intro pins s σ H xs us Q I r hh
    obtain ⟨ρ, hs, ts, z, hr, r1, e, k⟩ := hh
    simp only [biT] at e
    obtain ⟨t, e1, e2⟩ := opt_bind e
    obtain ⟨v, rfl, rv⟩ := r1.one_inv e1
    obtain ⟨i, e3, rfl⟩ := opt_map e2
    cases intT_of e3 rv
    exact call_abs pins s σ H _ us Q I r ⟨_, rfl, k ρ H _ .refl hr rv_int⟩
  | all =>
    intro pins s σ H xs us Q I r hh
    obtain ⟨ρ, hs, ts, z, hr, r1, e, k⟩ := hh
    simp only [biT] at e
    obtain ⟨t, e1, e2⟩ := opt_bind e
    obtain ⟨a, ws, rfl, q, rl⟩ := r1.lst_inv e1
    obtain ⟨bs, e3, rfl⟩ := opt_map e2
    have e4 := rl.bools e3
    subst e4
    exact cr_all (hc.resolve_left (by decide)) pins s σ H _ us Q I r ⟨a, bs, rfl, SqL.of q, k ρ H _ .refl hr rv_bl⟩
  | any =>
    intro pins s σ H xs us Q I r hh
    obtain ⟨ρ, hs, ts, z, hr, r1, e, k⟩ := hh
    simp only [biT] at e
    obtain ⟨t, e1, e2⟩ := opt_bind e
    obtain ⟨a, ws, rfl, q, rl⟩ := r1.lst_inv e1
    obtain ⟨bs, e3, rfl⟩ := opt_map e2
    have e4 := rl.bools e3
    subst e4
    exact cr_any (hc.resolve_left (by decide)) pins s σ H _ us Q I r ⟨a, bs, rfl, SqL.of q, k ρ H _ .refl hr rv_bl⟩
  | int =>
    intro pins s σ H xs us Q I r hh
    obtain ⟨ρ, hs, ts, z, hr, r1, e, k⟩ := hh
    simp only [biT] at e
    obtain ⟨t, e1, e2⟩ := opt_bind e
    obtain ⟨v, rfl, rv⟩ := r1.one_inv e1
    cases t <;> simp only [toInt] at e2 <;> first | (cases e2; done) | skip
    · rename_i b
      cases e2
      have ev : v = .bl b := by simpa only [Rv] using rv
      subst ev
      exact call_int1 pins s σ H _ us Q I r (.inr ⟨_, rfl, k ρ H _ .refl hr rv_int⟩)
    · cases e2
      cases int_of rv
      exact call_int1 pins s σ H _ us Q I r (.inl ⟨_, rfl, k ρ H _ .refl hr rv_int⟩)
    · split at e2
      · rename_i hl
        obtain ⟨n, e3, rfl⟩ := opt_map e2
        cases str_of rv
        exact call_int_str pins s σ H _ us Q I r ⟨_, _, rfl, e3, hl, k ρ H _ .refl hr rv_int⟩
      · cases e2
  | len =>
    intro pins s σ H xs us Q I r hh
    obtain ⟨ρ, hs, ts, z, hr, r1, e, k⟩ := hh
    simp only [biT] at e
    obtain ⟨t, e1, e2⟩ := opt_bind e
    obtain ⟨v, rfl, rv⟩ := r1.one_inv e1
    obtain ⟨n, e3, rfl⟩ := opt_map e2
    exact call_len pins s σ H _ us Q I r ⟨_, n, rfl, by rw [eK]; exact lenT_of hr e3 rv, k ρ H _ .refl hr rv_int⟩
  | list =>
    intro pins s σ H xs us Q I r hh
    obtain ⟨ρ, hs, ts, z, hr, r1, e, k⟩ := hh
    simp only [biT] at e
    obtain ⟨t, e1, e2⟩ := opt_bind e
    obtain ⟨v, rfl, rv⟩ := r1.one_inv e1
    cases t <;> simp only [toLst] at e2 <;> first | (cases e2; done) | skip
    · cases e2
      simp only [Rv] at rv
      obtain ⟨a, ws, rfl, q, rl⟩ := rv
      exact call_list_of pins s σ H _ us Q I r ⟨a, ws, rfl, .inr (by rw [eK]; exact q), fun p hp => k ρ _ _ (.ext (ext_upd hp)) (hr.ext (ext_upd hp)) (rv_newL hr hp rl)⟩
    · cases e2
      simp only [Rv] at rv
      obtain ⟨a, ws, rfl, q, rl, _⟩ := rv
      exact call_list_of pins s σ H _ us Q I r ⟨a, ws, rfl, .inl (SqL.of q), fun p hp => k ρ _ _ (.ext (ext_upd hp)) (hr.ext (ext_upd hp)) (rv_newL hr hp rl)⟩
  | max1 =>
    intro pins s σ H xs us Q I r hh
    obtain ⟨ρ, hs, ts, z, hr, r1, e, k⟩ := hh
    simp only [biT] at e
    obtain ⟨t, e1, e2⟩ := opt_bind e
    obtain ⟨a, ws, rfl, q, rl⟩ := r1.lst_inv e1
    obtain ⟨ns, e3, e4⟩ := opt_bind e2
    obtain ⟨m, e5, rfl⟩ := opt_map e4
    have e6 := rl.intsT e3
    subst e6
    obtain ⟨m1, m2, m3⟩ := maxL_ok e5
    refine cr_max (hc.resolve_left (by decide)) pins s σ H _ us Q I r ⟨a, ns, rfl, SqL.of q, m1, fun m' h1 h2 => ?_⟩
    have : m' = m := Int.le_antisymm (m3 _ h1) (h2 _ m2)
    subst this
    exact k ρ H _ .refl hr rv_int
  | min1 =>
    intro pins s σ H xs us Q I r hh
    obtain ⟨ρ, hs, ts, z, hr, r1, e, k⟩ := hh
    simp only [biT] at e
    obtain ⟨t, e1, e2⟩ := opt_bind e
    obtain ⟨a, ws, rfl, q, rl⟩ := r1.lst_inv e1
    obtain ⟨ns, e3, e4⟩ := opt_bind e2
    obtain ⟨m, e5, rfl⟩ := opt_map e4
    have e6 := rl.intsT e3
    subst e6
    obtain ⟨m1, m2, m3⟩ := minL_ok e5
    refine cr_min (hc.resolve_left (by decide)) pins s σ H _ us Q I r ⟨a, ns, rfl, SqL.of q, m1, fun m' h1 h2 => ?_⟩
    have : m' = m := Int.le_antisymm (h2 _ m2) (m3 _ h1)
    subst this
    exact k ρ H _ .refl hr rv_int
  | max2 =>
    intro pins s σ H xs us Q I r hh
    obtain ⟨ρ, hs, ts, z, hr, r1, e, k⟩ := hh
    simp only [biT] at e
    obtain ⟨p, e1, rfl⟩ := opt_map e
    have e2 := r1.two_inv e1
    subst e2
    exact call_max2 (hc.resolve_left (by decide)) pins s σ H _ us Q I r ⟨_, _, rfl, k ρ H _ .refl hr rv_int⟩
  | min2 =>
    intro pins s σ H xs us Q I r hh
    obtain ⟨ρ, hs, ts, z, hr, r1, e, k⟩ := hh
    simp only [biT] at e
    obtain ⟨p, e1, rfl⟩ := opt_map e
    have e2 := r1.two_inv e1
    subst e2
    exact call_min2 (hc.resolve_left (by decide)) pins s σ H _ us Q I r ⟨_, _, rfl, k ρ H _ .refl hr rv_int⟩
  | repr =>
    intro pins s σ H xs us Q I r hh
    exact repr_ok eK (hg.resolve_left (by decide)) hu pins s σ H xs us Q I r hh
  | str =>
    intro pins s σ H xs us Q I r hh
    obtain ⟨ρ, hs, ts, z, hr, r1, e, k⟩ := hh
    simp only [biT] at e
    obtain ⟨t, e1, e2⟩ := opt_bind e
    obtain ⟨v, rfl, rv⟩ := r1.one_inv e1
    cases t <;> simp only [toStr] at e2 <;> first | (cases e2; done) | skip
    · split at e2
      · rename_i hl
        cases e2
        cases int_of rv
        exact call_str_int pins s σ H _ us Q I r ⟨_, rfl, hl, k ρ H _ .refl hr rv_str⟩
      · cases e2
    · cases e2
      cases str_of rv
      exact SkE.call_str_str pins s σ H _ us Q I r ⟨_, rfl, k ρ H _ .refl hr rv_str⟩
  | sum =>
    intro pins s σ H xs us Q I r hh
    obtain ⟨ρ, hs, ts, z, hr, r1, e, k⟩ := hh
    simp only [biT] at e
    obtain ⟨t, e1, e2⟩ := opt_bind e
    obtain ⟨a, ws, rfl, q, rl⟩ := r1.lst_inv e1
    obtain ⟨ns, e3, rfl⟩ := opt_map e2
    have e6 := rl.intsT e3
    subst e6
    exact cr_sum (hc.resolve_left (by decide)) pins s σ H _ us Q I r ⟨a, ns, rfl, SqL.of q, k ρ H _ .refl hr rv_int⟩
  | tuple =>
    intro pins s σ H xs us Q I r hh
    obtain ⟨ρ, hs, ts, z, hr, r1, e, k⟩ := hh
    simp only [biT] at e
    obtain ⟨t, e1, e2⟩ := opt_bind e
    obtain ⟨v, rfl, rv⟩ := r1.one_inv e1
    cases t <;> simp only [toTup] at e2 <;> first | (cases e2; done) | skip
    · cases e2
      have rv0 := rv
      simp only [Rv] at rv
      obtain ⟨a, ws, rfl, q, rl⟩ := rv
      exact call_tuple_of pins s σ H _ us Q I r ⟨a, ws, rfl, .inr ⟨by rw [eK]; exact q, k ρ H _ .refl hr rv0⟩⟩
    · cases e2
      simp only [Rv] at rv
      obtain ⟨a, ws, rfl, q, rl, _⟩ := rv
      exact call_tuple_of pins s σ H _ us Q I r ⟨a, ws, rfl, .inl ⟨SqL.of q, fun p hp => k ρ _ _ (.ext (ext_upd hp)) (hr.ext (ext_upd hp)) (rv_newT hr hp rl)⟩⟩
    · split at e2
      · rename_i ts' en
        cases e2
        obtain ⟨a, rfl, _, ws, q, rl⟩ := hr.at_ en (by simp) rv
        exact call_tuple_of pins s σ H _ us Q I r ⟨a, ws, rfl, .inl ⟨SqL.of q, fun p hp => k ρ _ _ (.ext (ext_upd hp)) (hr.ext (ext_upd hp)) (rv_newT hr hp rl)⟩⟩
      · cases e2
  | isinst n => cases hn

/-! ### methods of built-in types -/
def bmTy : Bm → String
  | .append => "list"
  | .join => "str"
  | .pop => "list"
  | .extend => "list"
  | .index => "list"
  | .split => "str"
def bmId : Bm → String
  | .append => "list.append"
  | .join => "str.join"
  | .pop => "list.pop"
  | .extend => "list.extend"
  | .index => "list.index"
  | .split => "str.split"
def rGM (G : Gx) (m : Bm) : V → List V → Hp → VK → Prop := fun x xs H Q => ∃ ρ hs t ts y hs', HR G ρ hs H ∧ Rv G ρ H t x ∧ RvL G ρ H ts xs ∧ bmT m hs t ts = some (y, hs') ∧ ∀ ρ' H' v, Stp ρ H ρ' H' → HR G ρ' hs' H' → Rv G ρ' H' y v → Q v H'
theorem bmOk_ty (eK : X.K = G.K) {m : Bm} {ρ : Rho} {H : Hp} {hs : Hs} {t : T} {v : V} (hr : HR G ρ hs H) (r : Rv G ρ H t v) (h : bmOk m hs t = true) : tyV X.K (bmTy m) v H := by
  unfold bmOk at h
  split at h
  · split at h
    · rename_i ts en
      obtain ⟨a, rfl, _, ws, q, rl⟩ := hr.at_ en (by simp) r
      exact .inl ⟨rfl, ws, SqL.of q⟩
    · cases h
  · cases str_of r
    rfl
  · cases h
theorem mtr_append : MtR X "list.append" (rGM G .append) := by
  intro pins s σ H x xs v us Q I rx rxs hh
  obtain ⟨ρ, hs, t, ts, y, hs', hr, r1, r2, e, k⟩ := hh
  unfold bmT at e
  split at e <;> first | (cases e; done) | skip
  · split at e
    · rename_i k' x' hm _ _ ls en
      split at e
      · rename_i hl
        cases e
        obtain ⟨a, rfl, hk, ws, q, rl⟩ := hr.at_ en (by simp) r1
        simp only [RvL] at r2
        obtain ⟨v', w', rfl, q2, rfl⟩ := r2
        refine mt_append pins s σ H _ _ v us Q I rx rxs ⟨a, ws, v', rfl, rfl, q, ?_, ?_⟩
        · rw [rl.len]
          have := lim_line (Nat.le_of_lt hl)
          have h1 : sizeLine = 16777216 := sizeLine_eq
          have h2 : ls.length < 1000000 := hl
          omega
        · have st : Stp ρ H ρ (upd H a (.lst (ws ++ [v']))) := .mut (mem_rho hk)
          refine k ρ _ _ st (hr.mut hk (by simp) ⟨_, upd_same, (RvL.step hr.Live st _ _ rl).app (.one (Rv.step hr.Live st _ _ q2))⟩) rv_non
      · cases e
    · cases e
  · exact nomatch (show Bm.append = Bm.join from ‹_›)
theorem mtr_join (eK : X.K = G.K) : MtR X "str.join" (rGM G .join) := by
  intro pins s σ H x xs v us Q I rx rxs hh
  obtain ⟨ρ, hs, t, ts, y, hs', hr, r1, r2, e, k⟩ := hh
  unfold bmT at e
  split at e <;> first | (cases e; done) | skip
  · exact nomatch (show Bm.join = Bm.append from ‹_›)
  · rename_i a ls _
    obtain ⟨ys, e1, e2⟩ := opt_bind e
    split at e2
    · rename_i hg
      cases e2
      cases str_of r1
      simp only [RvL] at r2
      obtain ⟨v', w', rfl, q2, rfl⟩ := r2
      simp only [Rv] at q2
      obtain ⟨p, ws, rfl, q, rl, _⟩ := q2
      have e4 := rl.texts e1
      subst e4
      unfold glueOk at hg
      simp only [decide_eq_true_eq] at hg
      exact mt_join pins s σ H _ _ v us Q I rx rxs ⟨a, p, ys, rfl, rfl, .inl (SqL.of q), Nat.le_trans hg (by decide), by rw [show Txt.join a ys = Str.join a ys from StrLaws.glued_eq_join a ys]; exact k ρ H _ .refl hr rv_str⟩
    · cases e2
end
end Fs
end

section
set_option Elab.async false
set_option linter.all false
set_option maxRecDepth 100000
/-! Fs6: what is known of a body's surroundings; calls, methods, new instances; iteration. -/
namespace Fs
open PySem L2

/-- what the calls answer at this depth -/
structure CalOk (G : Gx) (cl : Cal) (k : Nat) (P : Program) (w : World) (mg : Str → Option Value) (base : Heap) : Prop where
  run : ∀ (f : Nat) (A : Around) (outer : List Env) (s : Shared) (H : Hp) (us : List Value) (vs : List V) (ts : List T) (hs : Hs) (ρ : Rho) (Q : VK) (E : XK), f < G.D.fns.length → Room k A → A.guards = some [] →
    Env0 P w G.K mg base A outer s H → Vals vs us → HR G ρ hs H → RvL G ρ H ts vs → Post G (Rv G) ρ H E (cl f ts hs) Q → codeAny (model P w) A (.call (.ref (G.fa f)) ⟨us, []⟩) (CR (L2.CX P w) outer P w H s Q E) s
/-- what the written part holds -/
structure Pr (G : Gx) (mg : Str → Option Value) : Prop where
  bn : ∀ b, mg (biNm b) = none
  kn : ∀ k, mg (kdNm k) = none
  rn : mg "range" = none
  cns : ∀ (g : Nat) (p : Str × T), G.D.cns[g]? = some p → ∃ v u, mg p.1 = some u ∧ RelV v u ∧ ∀ ρ hs H, HR G ρ hs H → Rv G ρ H p.2 v
  fnv : ∀ (f : Nat) (fn : Fn), G.D.fns[f]? = some fn → fn.cls = none → mg fn.nm = some (.ref (G.fa f))
  keep : ∀ (f : Nat) (fn : Fn), G.D.fns[f]? = some fn → PySem.W.keepIn G.K (.ref (G.fa f)) = true
  meth : ∀ (f : Nat) (fn : Fn) (c : Nat), G.D.fns[f]? = some fn → fn.cls = some c → Cls G.K (G.ca c) ∧ Meth G.K (G.ca c) fn.nm (G.fa f)
  new : ∀ (c : Nat) (nm : Str) (i : Nat) (fl : List Str), G.D.cls[c]? = some (.plain nm i fl) → mg nm = some (.ref (G.ca c)) ∧ Mk G.K (G.ca c) (G.fa i) ∧ i < G.D.fns.length
  flds : ∀ (c : Nat) (f : Str), hasF G.D c f = true → Cls G.K (G.ca c) ∧ NoAttr G.K (G.ca c) f
  exc : ∀ (c : Nat) (nm : Str) (fl : List Str) (up : List Nat), G.D.cls[c]? = some (.exc nm fl up) → XfC G.K (G.ca c) ∧ ∀ f ∈ fl, PySem.W.findIn G.K (.ref (G.ca c)) f = some none
/-- the exception at hand is pinned -/
def HotOk (G : Gx) (X : Cx) (q : Xa) : Prop := ∃ oe vs, (q.a, oe) ∈ X.pn ∧ Zc (.ref (G.ca q.c)) q.d oe ∧ oe.data = .fields vs
structure Ok (G : Gx) (Γ : Cs) (cl : Cal) (W : WX) (xa : Option Xa) (X : Cx) : Prop where
  pr : Pr G X.mg
  K : X.K = G.K
  N : X.N = Γ.N
  sc : X.env.scope = Γ.sc
  D : Γ.D = G.D
  nod : X.N.Nodup
  fnc : ∀ y, X.fn y = (match Γ.og with | none => true | some s => s.names.lookup y == some .cell)
  units : X.A.units + 200 < cLine
  cool : Γ.hot = false → X.calm = true ∧ X.A.guards = some [] ∧ xa = none ∧ ∃ k, Room (k + 1) X.A ∧ CalOk G cl k X.prog X.w X.mg X.base
  hotx : Γ.hot = true → ∃ q, xa = some q ∧ Γ.xi = q.i ∧ cl = xCal G.D q.c q.xs ∧ HotOk G X q
  tk : Takes X W

section
variable {G : Gx} {Γ : Cs} {cl : Cal} {W : WX} {xa : Option Xa} {X : Cx}
theorem Ok.noXi (ok : Ok G Γ cl W xa X) {i : Nat} (h : Γ.xi ≠ some i) : notXi xa i := fun q hq => by
  cases hh : Γ.hot with
  | false =>
    obtain ⟨_, _, e, _⟩ := ok.cool hh
    rw [e] at hq
    cases hq
  | true =>
    obtain ⟨q', e, e2, _⟩ := ok.hotx hh
    rw [e] at hq
    cases hq
    rw [← e2]
    exact h
theorem Ok.vis (ok : Ok G Γ cl W xa X) {i : Nat} {y : Str} (h : Γ.isVar i y = true) : X.N[i]? = some y ∧ Vis X.env.scope y ∧ (y == ("__debug__" : Str)) = false ∧ (y == ("__classdict__" : Str)) = false := by
  unfold Cs.isVar at h
  simp only [Bool.and_eq_true, decide_eq_true_eq, Bool.not_eq_true'] at h
  obtain ⟨h1, h2, h3, h4⟩ := h
  refine ⟨by rw [ok.N]; exact h1, ?_, h3, h4⟩
  rw [ok.sc]
  unfold visK at h2
  unfold Vis
  split at h2
  · rename_i e; exact .inl e
  · rename_i e; exact .inr (.inl e)
  · rename_i e; exact .inr (.inr e)
  · cases h2
theorem Ok.glob (ok : Ok G Γ cl W xa X) {y : Str} (h : Γ.isGlob y = true) : Gl X y ∧ (y == ("__debug__" : Str)) = false ∧ y ≠ "__name__" := by
  unfold Cs.isGlob at h
  simp only [Bool.and_eq_true, decide_eq_true_eq, Bool.not_eq_true'] at h
  obtain ⟨h1, h2, h3⟩ := h
  refine ⟨?_, h2, ?_⟩
  · show X.env.scope.names.lookup y = _
    rw [ok.sc]
    exact h1
  · intro z
    rw [z] at h3
    simp at h3
theorem Ok.tgt (ok : Ok G Γ cl W xa X) {i : Nat} {y : Str} (h : Γ.isTgt i y = true) : X.N[i]? = some y ∧ Loc X.env.scope y ∧ (X.fn y = true ∨ X.env.scope.names.lookup y = some .local) ∧ notXi xa i := by
  unfold Cs.isTgt at h
  simp only [Bool.and_eq_true, decide_eq_true_eq, Bool.not_eq_true', decide_eq_false_iff_not] at h
  obtain ⟨⟨h1, h2⟩, h3⟩ := h
  refine ⟨by rw [ok.N]; exact h1, ?_, ?_, ok.noXi h2⟩
  · rw [ok.sc]
    unfold L2.Loc
    split at h3
    · rename_i e; exact .inl e
    · rename_i e; exact .inr e
    · cases h3
  · rw [ok.sc]
    split at h3
    · rename_i e; exact .inr e
    · refine .inl ?_
      rw [ok.fnc y]
      split at h3
      · rename_i e; first | exact h3 | rw [e]
      · rename_i e; first | exact h3 | (rw [e]; exact h3)
    · cases h3

/-! ### calls -/
theorem pushG {A : Around} {C : Addr} {us : List Value} {kw : List (Str × Value)} (h : A.guards = some []) : (A.under (.builtin "type.__call__" ⟨.ref C :: us, kw⟩)).guards = some [] := by
  simp [Around.under, Code.guards, Code.isGuard, guardIds, pushGuards, h]
theorem call_run {pins : List (Addr × Obj)} {s : Shared} {σ : St} {H : Hp} {us : List Value} {vs : List V} {ts : List T} {hs : Hs} {ρ : Rho} {Q : VK} {f : Nat} (ok : Ok G Γ cl W xa X) (hh : Γ.hot = false) (hf : f < G.D.fns.length)
    (I : Inv X pins σ H s) (r : Vals vs us) (hr : HR G ρ hs H) (rl : RvL G ρ H ts vs) (p : Post G (Rv G) ρ H (fun c d H' => W c d σ H') (cl f ts hs) Q) : wpAny (model X.prog X.w) X.A (call (.ref (G.fa f)) us) (EP X pins σ Q) X.xe s := by
  obtain ⟨hc, hg, _, k, hk, ck⟩ := ok.cool hh
  have e0 := I.env0
  rw [ok.K] at e0
  refine wpAny_call (codeAny_mono (ck.run f X.A X.stack s H us vs ts hs ρ Q _ hf (hk.mono (Nat.le_succ _)) hg e0 r hr rl p) fun res s' hq => ?_)
  cases res with
  | error e => exact ok.tk _ _ (XE.of_call I (fun _ _ _ h => h) hq)
  | ok fl =>
    cases fl with
    | ret u => exact I.after hq
    | next => exact False.elim hq
    | brk => exact False.elim hq
    | cont => exact False.elim hq
/-- what a new instance of the class c is -/
def newR (cl : Cal) (c i : Nat) (ts : List T) (h1 : Hs) : R T := (cl i (.ref h1.length :: ts) (h1 ++ [.ins c []])).bind fun r h2 => match r with
  | .non => .ok (.ref h1.length) h2
  | _ => .bad
theorem new_run {pins : List (Addr × Obj)} {s : Shared} {σ : St} {H : Hp} {us : List Value} {vs : List V} {ts : List T} {hs : Hs} {ρ : Rho} {Q : VK} {c i : Nat} {nm : Str} {fl : List Str} (ok : Ok G Γ cl W xa X) (hh : Γ.hot = false) (hcl : G.D.cls[c]? = some (.plain nm i fl))
    (I : Inv X pins σ H s) (r : Vals vs us) (hr : HR G ρ hs H) (rl : RvL G ρ H ts vs) (p : Post G (Rv G) ρ H (fun c d H' => W c d σ H') (newR cl c i ts hs) Q) : wpAny (model X.prog X.w) X.A (call (.ref (G.ca c)) us) (EP X pins σ Q) X.xe s := by
  obtain ⟨hc, hg, _, k, hk, ck⟩ := ok.cool hh
  obtain ⟨_, M, hi⟩ := ok.pr.new c nm i fl hcl
  have I2 := Inv.made (C := G.ca c) I
  have n1 : H s.heap.objs.size = none := I.hok.fresh (Nat.le_refl _)
  have n2 : H (s.heap.objs.size + 1) = none := I.hok.fresh (Nat.le_succ _)
  have ne : s.heap.objs.size + 1 ≠ s.heap.objs.size := Nat.ne_of_gt (Nat.lt_succ_self _)
  have n3 : upd H s.heap.objs.size (.own (s.heap.objs.size + 1)) (s.heap.objs.size + 1) = none := by rw [upd_ne ne]; exact n2
  have ex : Ext H (upd (upd H s.heap.objs.size (.own (s.heap.objs.size + 1))) (s.heap.objs.size + 1) (.ins (G.ca c) s.heap.objs.size [])) := (ext_upd n1).trans (ext_upd n3)
  have st : Stp ρ H (ρ.push (s.heap.objs.size + 1)) (upd (upd H s.heap.objs.size (.own (s.heap.objs.size + 1))) (s.heap.objs.size + 1) (.ins (G.ca c) s.heap.objs.size [])) := .push n2 ex
  have hr2 := hr.push (u := .ins c []) n2 ex (by simp) ⟨s.heap.objs.size, [], upd_same, rfl⟩
  have rv2 : Rv G (ρ.push (s.heap.objs.size + 1)) (upd (upd H s.heap.objs.size (.own (s.heap.objs.size + 1))) (s.heap.objs.size + 1) (.ins (G.ca c) s.heap.objs.size [])) (.ref hs.length) (.ref (s.heap.objs.size + 1)) := by
    simp only [Rv]
    refine ⟨some (s.heap.objs.size + 1), ?_, fun a e => by cases e; rfl⟩
    show (ρ.l ++ [some (s.heap.objs.size + 1)])[hs.length]? = _
    rw [← hr.len]
    simp
  have rl2 : RvL G (ρ.push (s.heap.objs.size + 1)) (upd (upd H s.heap.objs.size (.own (s.heap.objs.size + 1))) (s.heap.objs.size + 1) (.ins (G.ca c) s.heap.objs.size [])) (.ref hs.length :: ts) (.ref (s.heap.objs.size + 1) :: vs) := by
    simp only [RvL]
    exact ⟨_, _, rfl, rv2, RvL.step hr.Live st _ _ rl⟩
  have q := Post.bind (RA := Rv G) (Post.base st p)
  have e0 := I2.env0.make (G.ca c) us []
  rw [ok.K] at e0
  have MX : Mk X.K (G.ca c) (G.fa i) := by rw [ok.K]; exact M
  refine wpAny_call (make_map (f := G.fa i) I.kIn MX.makes MX.init (beq_iff_eq.mp MX.fn) (codeAny_mono (ck.run i _ X.stack _ _ (.ref (s.heap.objs.size + 1) :: us) (.ref (s.heap.objs.size + 1) :: vs) _ _ _ _ _ hi (hk.make (G.ca c) us []) (pushG hg) e0 (.cons rfl r) hr2 rl2 q) fun res s' hq => ?_))
  cases res with
  | error e => exact ok.tk _ _ (XE.of_call I2 (fun _ _ _ h => h) hq)
  | ok fl =>
    cases fl with
    | ret u =>
      obtain ⟨v, H', I3, rv, ρ', hs', a, st', hr', ra, q3⟩ := I2.after hq
      cases a <;> first | exact q3.elim | skip
      have ev : v = .non := by simpa only [Rv] using ra
      subst ev
      refine ⟨rv, ⟨V.ref (s.heap.objs.size + 1), H', I3, rfl, ?_⟩⟩
      exact q3 ρ' H' _ .refl hr' (Rv.step hr2.Live st' _ _ rv2)
    | next => exact False.elim hq
    | brk => exact False.elim hq
    | cont => exact False.elim hq
/-! ### expressions that call -/
variable {y m : Str} {xs : List Expr} {pos p apos : Pos} {o : Expr} {fl' : En → Hs → R (List T)} {fo : En → Hs → R T}
theorem plain_star {x : Expr} {r : List Expr} {env : Env} (hp : (x :: r).all plainX = true) : starEach (x :: r) env = (false, eval x env) :: starEach r env := by
  simp only [List.all_cons, Bool.and_eq_true] at hp
  exact star_cons hp.1
theorem plain_back {x : Expr} {r : List Expr} {env : Env} {pos : Pos} (hp : (x :: r).all plainX = true) : (backTo pos (starEach r env)).any (·.1) = false := by
  simp only [List.all_cons, Bool.and_eq_true] at hp
  exact back_any hp.2
theorem rvl_nil {ρ : Rho} {H : Hp} : RvL G ρ H [] [] := by simp [RvL]
/-- f(..) -/
theorem pe_callF {f : Nat} {fn : Fn} (ok : Ok G Γ cl W xa X) (hh : Γ.hot = false) (hg : Γ.isGlob y = true) (hf : G.D.fns[f]? = some fn) (hc : fn.cls = none) (hn : fn.nm = y) (hp : xs.all plainX = true) (ha : PA X xs (tL G xa W fl')) (h0 : xs = [] → ∀ env h, fl' env h = .ok [] h) :
    PE X (.Call (.Name y p) xs [] pos) (tV G xa W fun env h => (fl' env h).bind fun ts h1 => cl f ts h1) := by
  refine ⟨fun pins s σ H Q I h => ?_⟩
  obtain ⟨g1, g2, g3⟩ := ok.glob hg
  have hm : X.mg y = some (.ref (G.fa f)) := by rw [← hn]; exact ok.pr.fnv f fn hf hc
  have hk : PySem.W.keepIn X.K (.ref (G.fa f)) = true := by rw [ok.K]; exact ok.pr.keep f fn hf
  have hl : f < G.D.fns.length := (List.getElem?_eq_some_iff.mp hf).1
  obtain ⟨ρ, env, hs, er, hr, q⟩ := h
  have q1 := Post.bind (RA := RvL G) q
  refine wpAny_Call_Name_kw (ld_glob I g1 hm ?_ g2)
  cases xs with
  | nil =>
    refine PySem.W.callWith_K0 I.kIn hk ?_
    change Post G (Rv G) ρ H _ ((fl' env hs).bind _) Q at q
    rw [h0 rfl] at q
    exact call_run (us := []) ok hh hl I .nil hr rvl_nil q
  | cons x r =>
    refine PySem.W.callWith_K (h₀ := X.base) I.ok.mod.kin hk (thn (ha.run pos pins s σ H _ I ⟨ρ, env, hs, er, hr, q1⟩) fun us s1 ⟨vs, H1, I1, r1, ρ1, hs1, ts, st, hr1, rl, q2⟩ => ⟨I1.kIn, ?_⟩) (plain_star hp) (plain_back hp)
    exact call_run ok hh hl I1 r1 hr1 rl q2
/-- C(..) -/
theorem pe_newF {c i : Nat} {fl : List Str} (ok : Ok G Γ cl W xa X) (hh : Γ.hot = false) (hg : Γ.isGlob y = true) (hcl : G.D.cls[c]? = some (.plain y i fl)) (hp : xs.all plainX = true) (ha : PA X xs (tL G xa W fl')) (h0 : xs = [] → ∀ env h, fl' env h = .ok [] h) :
    PE X (.Call (.Name y p) xs [] pos) (tV G xa W fun env h => (fl' env h).bind fun ts h1 => newR cl c i ts h1) := by
  refine ⟨fun pins s σ H Q I h => ?_⟩
  obtain ⟨g1, g2, g3⟩ := ok.glob hg
  obtain ⟨hm, M, hi⟩ := ok.pr.new c y i fl hcl
  have hk : PySem.W.keepIn X.K (.ref (G.ca c)) = true := by rw [ok.K]; exact M.kp
  obtain ⟨ρ, env, hs, er, hr, q⟩ := h
  have q1 := Post.bind (RA := RvL G) q
  refine wpAny_Call_Name_kw (ld_glob I g1 hm ?_ g2)
  cases xs with
  | nil =>
    refine PySem.W.callWith_K0 I.kIn hk ?_
    change Post G (Rv G) ρ H _ ((fl' env hs).bind _) Q at q
    rw [h0 rfl] at q
    exact new_run (us := []) ok hh hcl I .nil hr rvl_nil q
  | cons x r =>
    refine PySem.W.callWith_K (h₀ := X.base) I.ok.mod.kin hk (thn (ha.run pos pins s σ H _ I ⟨ρ, env, hs, er, hr, q1⟩) fun us s1 ⟨vs, H1, I1, r1, ρ1, hs1, ts, st, hr1, rl, q2⟩ => ⟨I1.kIn, ?_⟩) (plain_star hp) (plain_back hp)
    exact new_run ok hh hcl I1 r1 hr1 rl q2
theorem FsR.none_ {ρ : Rho} {H : Hp} {f : Str} : ∀ {fs : List (Str × T)} {ys : List (Str × V)}, FsR G ρ H fs ys → fs.lookup f = none → ys.lookup f = none
  | [], _, h, _ => by cases h; rfl
  | p :: r, _, h, e => by
    obtain ⟨v, ws, rfl, q, z⟩ := h
    rw [List.lookup_cons] at e ⊢
    cases hb : f == p.1 with
    | true => rw [hb] at e; cases e
    | false => rw [hb] at e; exact z.none_ e
theorem FsR.some_ {ρ : Rho} {H : Hp} {f : Str} {t : T} : ∀ {fs : List (Str × T)} {ys : List (Str × V)}, FsR G ρ H fs ys → fs.lookup f = some t → ∃ v, ys.lookup f = some v ∧ Rv G ρ H t v
  | [], _, h, e => by cases e
  | p :: r, _, h, e => by
    obtain ⟨v, ws, rfl, q, z⟩ := h
    rw [List.lookup_cons] at e ⊢
    cases hb : f == p.1 with
    | true =>
      rw [hb] at e
      cases e
      exact ⟨v, rfl, q⟩
    | false => rw [hb] at e; exact z.some_ e
theorem meth_at {f : Nat} {fn : Fn} {h : Hs} {x : T} (hf : G.D.fns[f]? = some fn) (e : methOk G.D h f x = true) : ∃ k c fs, x = .ref k ∧ h[k]? = some (.ins c fs) ∧ fn.cls = some c ∧ fs.lookup fn.nm = none := by
  unfold methOk at e
  split at e
  · rw [hf] at e
    split at e
    · rename_i k c fs fn' hk hfn
      cases hfn
      split at e
      · rename_i c' hc
        simp only [Bool.and_eq_true, decide_eq_true_eq, Option.isNone_iff_eq_none] at e
        obtain ⟨rfl, e2⟩ := e
        exact ⟨_, _, _, rfl, hk, hc, e2⟩
      · cases e
    · cases e
  · cases e
/-- o.m(..) -/
theorem pe_methF {f : Nat} {fn : Fn} (ok : Ok G Γ cl W xa X) (hh : Γ.hot = false) (hf : G.D.fns[f]? = some fn) (hn : fn.nm = m) (hs' : notSup o = true) (hline : (apos.endLine == pos.line) = true) (hlen : xs.length < 20)
    (hp : xs.all plainX = true) (ho : PE X o (tV G xa W fo)) (ha : PA X xs (tL G xa W fl')) (h0 : xs = [] → ∀ env h, fl' env h = .ok [] h) :
    PE X (.Call (.Attribute o m apos) xs [] pos) (tV G xa W fun env h => (fo env h).bind fun x h1 => if methOk G.D h1 f x = true then (fl' env h1).bind fun ts h2 => cl f (x :: ts) h2 else .bad) := by
  refine ⟨fun pins s σ H Q I h => ?_⟩
  have hl : f < G.D.fns.length := (List.getElem?_eq_some_iff.mp hf).1
  obtain ⟨ρ, env, hs, er, hr, q⟩ := h
  have q1 := Post.bind (RA := Rv G) q
  have form : methodCallForm (xs.length + ([] : List Keyword).length) (backTo pos (starEach xs X.env)) (backToKw pos (keywordEach [] X.env)) = true := by
    unfold methodCallForm
    rw [back_all hp]
    show (true && decide (xs.length + 0 + 0 < 30)) = true
    rw [decide_eq_true (by omega)] <;> rfl
  refine PySem.W.methodCall_KW (pl := plainOf o X.env) (thn (ho.run pins s σ H _ I ⟨ρ, env, hs, er, hr, q1⟩) fun u s1 ⟨x, H1, I1, rx, ρ1, hs1, t, st, hr1, rv, q2⟩ => ?_) ?_
  · by_cases hm : methOk G.D hs1 f t = true
    · rw [if_pos hm] at q2
      obtain ⟨k, c, fs, rfl, hk, hc, hno⟩ := meth_at hf hm
      obtain ⟨a, rfl, ha1, dx, ys, ea, fr⟩ := hr1.at_ hk (by simp) rv
      obtain rfl : u = Value.ref a := rx
      obtain ⟨cc, mm⟩ := ok.pr.meth f fn c hf hc
      rw [← ok.K] at cc mm
      rw [hn] at mm hno
      refine getmeth_ok I1 ea cc mm (fr.none_ hno) ?_
      have er1 := er.step hr.Live st
      cases xs with
      | nil =>
        refine PySem.W.callWith_K0 (first := [.ref a]) I1.kIn mm.kp ?_
        rw [h0 rfl] at q2
        exact call_run (us := [.ref a]) (vs := [.ref a]) ok hh hl I1 (.cons (show RelV (.ref a) (.ref a) from rfl) .nil) hr1 (.one rv) q2
      | cons x r =>
        have q3 := Post.bind (RA := RvL G) q2
        refine PySem.W.callWith_K (first := [.ref a]) (h₀ := X.base) I.ok.mod.kin mm.kp (thn (ha.run pos pins s1 σ H1 _ I1 ⟨ρ1, env, hs1, er1, hr1, q3⟩) fun us s2 ⟨vs, H2, I2, r2, ρ2, hs2, ts, st2, hr2, rl, q4⟩ => ⟨I2.kIn, ?_⟩) (plain_star hp) (plain_back hp)
        refine call_run (us := .ref a :: us) (vs := .ref a :: vs) ok hh hl I2 (.cons rfl r2) hr2 ?_ q4
        simp only [RvL]
        exact ⟨_, _, rfl, Rv.step hr1.Live st2 _ _ rv, rl⟩
    · rw [if_neg hm] at q2
      exact q2.elim
  · rw [arm_eval_Call, base_of hs']
    simp only [mcall_line form hline]
end
end Fs
end

section
set_option Elab.async false
set_option linter.all false
set_option maxRecDepth 100000
/-! Fs7: the rules of the other expressions. -/
namespace Fs
open PySem L2
section
variable {G : Gx} {Γ : Cs} {cl : Cal} {W : WX} {xa : Option Xa} {X : Cx} {x a b c : Expr} {xs : List Expr} {pos p : Pos} {y m f : Str} {fa fb fc : En → Hs → R T} {fk : En → Hs → R Bool} {fl' : En → Hs → R (List T)} {ga gb : En → Hs → R Bool}
/-- a value as a test -/
theorem pt_ofV (eK : X.K = G.K) (h : PE X x (tV G xa W fa)) (he : ∀ whole, isTrue x X.env whole = (do let v ← whole; standAt x.pos; holding [v] (truthy v))) : PT X x (tK G xa W fun env h => (fa env h).bind fun v h1 => R.ofO (truT h1 v) h1) := by
  refine pt_imp (pt_truth h he) fun σ H Q q => ?_
  obtain ⟨ρ, env, hs, er, hr, p⟩ := q
  refine tV_bind er hr p fun ρ1 hs1 H1 t v er1 hr1 rv st p1 => ?_
  obtain ⟨k, e, z⟩ := Post.ofO p1
  exact ⟨k, by rw [eK]; exact truV_of hr1 rv e, z ρ1 H1 k .refl hr1 rfl⟩
theorem pe_ofC {t : T} {v : V} (h : PE X x (tC v)) (hv : ∀ ρ H, Rv G ρ H t v) : PE X x (tV G xa W fun _ h => .ok t h) :=
  pe_imp h fun σ H Q q => by
    obtain ⟨ρ, env, hs, er, hr, p⟩ := q
    exact p ρ H v .refl hr (hv ρ H)
theorem pe_varF (ok : Ok G Γ cl W xa X) {i : Nat} (h : Γ.isVar i y = true) : PE X (.Name y pos) (tV G xa W fun env h => match env[i]? with
    | some (some t) => .ok t h
    | _ => .bad) := by
  obtain ⟨h1, h2, h3, h4⟩ := ok.vis h
  refine pe_imp (pe_var h1 h2 h3 h4) fun σ H Q q => ?_
  obtain ⟨ρ, env, hs, er, hr, p⟩ := q
  change Post G (Rv G) ρ H _ (match env[i]? with
    | some (some t) => .ok t hs
    | _ => .bad) Q at p
  split at p
  · rename_i t e
    obtain ⟨v, e1, rv⟩ := er.at_ i t e
    exact ⟨v, e1, p ρ H v .refl hr rv⟩
  · exact p.elim
theorem pe_globF (ok : Ok G Γ cl W xa X) {g : Nat} {q : Str × T} (hg : Γ.isGlob y = true) (hq : G.D.cns[g]? = some q) (hn : q.1 = y) : PE X (.Name y pos) (tV G xa W fun _ h => R.ofO (G.D.cns[g]?.map (·.2)) h) := by
  obtain ⟨g1, g2, g3⟩ := ok.glob hg
  obtain ⟨v, u, hm, r, k⟩ := ok.pr.cns g q hq
  rw [hn] at hm
  refine pe_imp (pe_glob g1 hm r g2) fun σ H Q q' => ?_
  obtain ⟨ρ, env, hs, er, hr, p⟩ := q'
  rw [hq] at p
  exact p ρ H v .refl hr (k ρ hs H hr)
theorem pe_fnvF (ok : Ok G Γ cl W xa X) {f : Nat} {fn : Fn} (hg : Γ.isGlob y = true) (hf : G.D.fns[f]? = some fn) (hc : fn.cls = none) (hn : fn.nm = y) : PE X (.Name y pos) (tV G xa W fun _ h => .ok (.fn f) h) := by
  obtain ⟨g1, g2, g3⟩ := ok.glob hg
  have hm : X.mg y = some (.ref (G.fa f)) := by rw [← hn]; exact ok.pr.fnv f fn hf hc
  exact pe_ofC (pe_glob (v := .ref (G.fa f)) g1 hm rfl g2) fun ρ H => by simp only [Rv]
theorem pe_binF (eK : X.K = G.K) {o : Bk} {op : Operator} (ho : okB o op = true) (ha : PE X a (tV G xa W fa)) (hb : PE X b (tV G xa W fb)) :
    PE X (.BinOp a op b pos) (tV G xa W fun env h => (fa env h).bind fun x h1 => (fb env h1).bind fun y h2 => R.ofO (binT o x y) h2) :=
  pe_imp (pe_op (opr_bin eK ho) ha hb) fun σ H Q q => tOp_of q
theorem pe_negF (ha : PE X a (tV G xa W fa)) : PE X (.UnaryOp .USub a pos) (tV G xa W fun env h => (fa env h).bind fun x h1 => R.ofO ((intT x).map fun i => .int (-i)) h1) :=
  pe_imp (pe_un un_negT ha) fun σ H Q q => tUn_of q
theorem pe_notF (eK : X.K = G.K) (ha : PE X a (tV G xa W fa)) : PE X (.UnaryOp .Not a pos) (tV G xa W fun env h => (fa env h).bind fun x h1 => R.ofO ((truT h1 x).map fun b => .bl (!b)) h1) :=
  pe_imp (pe_notT ha) fun σ H Q q => by
    obtain ⟨ρ, env, hs, er, hr, p⟩ := q
    refine tV_bind er hr p fun ρ1 hs1 H1 t v er1 hr1 rv st p1 => ?_
    obtain ⟨z, e, z2⟩ := Post.ofO p1
    obtain ⟨k, e', rfl⟩ := opt_map e
    exact ⟨k, by rw [eK]; exact truV_of hr1 rv e', z2 ρ1 H1 _ .refl hr1 rv_bl⟩
theorem pt_notF (ha : PT X a (tK G xa W fk)) : PT X (.UnaryOp .Not a pos) (tK G xa W fun env h => (fk env h).bind fun b h1 => .ok (!b) h1) :=
  pt_imp (pt_not ha) fun σ H Q q => by
    obtain ⟨ρ, env, hs, er, hr, p⟩ := q
    exact tK_bind er hr p fun ρ1 hs1 H1 k er1 hr1 st p1 => p1 ρ1 H1 _ .refl hr1 rfl
theorem cmp_eq {o : Ck} (env : En) (h : Hs) : (((fa env h).bind fun x h1 => (fb env h1).bind fun y h2 => R.ofO (cmpT o h2 x y) h2).bind fun b h1 => (.ok (.bl b) h1 : R T)) =
    (fa env h).bind fun x h1 => (fb env h1).bind fun y h2 => R.ofO ((cmpT o h2 x y).map T.bl) h2 := by
  simp only [R.bind_assoc, R.ofO_map]
theorem tV_congr {f g : En → Hs → R T} (h : ∀ env hs, f env hs = g env hs) : tV G xa W f = tV G xa W g := by
  have : f = g := funext fun _ => funext fun _ => h _ _
  rw [this]
theorem pe_cmpF (eK : X.K = G.K) (hu : X.A.units + 64 < cLine) {o : Ck} {op : CmpOp} (ho : okC o op = true) (hp : plainX b = true) (ha : PE X a (tV G xa W fa)) (hb : PE X b (tV G xa W fb)) :
    PE X (.Compare a [op] [b] pos) (tV G xa W fun env h => ((fa env h).bind fun x h1 => (fb env h1).bind fun y h2 => R.ofO (cmpT o h2 x y) h2).bind fun b h1 => .ok (.bl b) h1) := by
  rw [tV_congr fun env h => cmp_eq env h]
  exact pe_imp (pe_cmpR (opr_cmp eK hu ho) ha hb (marks_of op hp)) fun σ H Q q => tOp_of q
theorem pt_cmpF (eK : X.K = G.K) (hu : X.A.units + 64 < cLine) {o : Ck} {op : CmpOp} (ho : okC o op = true) (hp : plainX b = true) (ha : PE X a (tV G xa W fa)) (hb : PE X b (tV G xa W fb)) :
    PT X (.Compare a [op] [b] pos) (tK G xa W fun env h => (fa env h).bind fun x h1 => (fb env h1).bind fun y h2 => R.ofO (cmpT o h2 x y) h2) :=
  pt_imp (pt_cmpR (opr_cmp eK hu ho) ha hb (marks_of op hp)) fun σ H Q q => by
    have z := tK_val q
    rw [tV_congr fun env h => cmp_eq env h] at z
    exact tOp_of z
/-- a chain -/
theorem tChain_of {o o2 : Ck} {σ : St} {H : Hp} {Q : VK} (h : tV G xa W (fun env h => ((fa env h).bind fun x h1 => (fb env h1).bind fun y h2 => (R.ofO (cmpT o h2 x y) h2).bind fun k h3 =>
      if k = true then (fc env h3).bind fun z h4 => R.ofO (cmpT o2 h4 y z) h4 else .ok false h3).bind fun b h1 => .ok (.bl b) h1) σ H Q) :
    tChain (rG2 G fun hs x y => (cmpT o hs x y).map T.bl) (rG2 G fun hs x y => (cmpT o2 hs x y).map T.bl) (tV G xa W fa) (tV G xa W fb) (tV G xa W fc) σ H Q := by
  obtain ⟨ρ, env, hs, er, hr, p⟩ := h
  simp only [R.bind_assoc] at p
  refine tV_bind er hr p fun ρ1 hs1 H1 t x er1 hr1 rx _ p1 => ?_
  refine tV_bind er1 hr1 p1 fun ρ2 hs2 H2 u y er2 hr2 ry st p2 => ?_
  cases e : cmpT o hs2 t u with
  | none => rw [e] at p2; exact p2.elim
  | some k =>
    rw [e] at p2
    refine ⟨ρ2, hs2, t, u, .bl k, hr2, Rv.step hr1.Live st _ _ rx, ry, by show (cmpT o hs2 t u).map T.bl = _; rw [e]; rfl, fun ρ3 H3 v st3 hr3 rv3 => ?_⟩
    refine ⟨k, by simpa only [Rv] using rv3, ?_⟩
    have p3 := Post.base st3 p2
    cases k with
    | false =>
      rw [if_neg (by decide)]
      exact p3 ρ3 H3 _ .refl hr3 rv_bl
    | true =>
      rw [if_pos rfl]
      change Post G (Rv G) ρ3 H3 _ (((fc env hs2).bind _).bind _) Q at p3
      rw [R.bind_assoc] at p3
      refine tV_bind (er2.step hr2.Live st3) hr3 p3 fun ρ4 hs4 H4 w z er4 hr4 rz st4 p4 => ?_
      have p4' : Post G (Rv G) ρ4 H4 (fun c d H2 => W c d σ H2) (R.ofO ((cmpT o2 hs4 u w).map T.bl) hs4) Q := by
        rw [← R.ofO_map]
        exact p4
      obtain ⟨q, e2, k2⟩ := Post.ofO p4'
      exact ⟨ρ4, hs4, u, w, q, hr4, Rv.step hr3.Live st4 _ _ (Rv.step hr2.Live st3 _ _ ry), rz, e2, k2⟩
theorem last_marks {op op2 : CmpOp} (h : plainX c = true) : lastMarks [op, op2] [b, c] = false := marks_of op2 h
theorem pe_cmp2F (eK : X.K = G.K) (hu : X.A.units + 64 < cLine) {o o2 : Ck} {op op2 : CmpOp} (ho : okC o op = true) (ho2 : okC o2 op2 = true) (hp : plainX c = true) (ha : PE X a (tV G xa W fa)) (hb : PE X b (tV G xa W fb)) (hc : PE X c (tV G xa W fc)) :
    PE X (.Compare a [op, op2] [b, c] pos) (tV G xa W fun env h => ((fa env h).bind fun x h1 => (fb env h1).bind fun y h2 => (R.ofO (cmpT o h2 x y) h2).bind fun k h3 =>
      if k = true then (fc env h3).bind fun z h4 => R.ofO (cmpT o2 h4 y z) h4 else .ok false h3).bind fun b h1 => .ok (.bl b) h1) :=
  pe_imp (pe_chain (opr_cmp eK hu ho) (opr_cmp eK hu ho2) ha hb hc (last_marks hp)) fun σ H Q q => tChain_of q
theorem pt_cmp2F (eK : X.K = G.K) (hu : X.A.units + 64 < cLine) {o o2 : Ck} {op op2 : CmpOp} (ho : okC o op = true) (ho2 : okC o2 op2 = true) (hp : plainX c = true) (ha : PE X a (tV G xa W fa)) (hb : PE X b (tV G xa W fb)) (hc : PE X c (tV G xa W fc)) :
    PT X (.Compare a [op, op2] [b, c] pos) (tK G xa W fun env h => (fa env h).bind fun x h1 => (fb env h1).bind fun y h2 => (R.ofO (cmpT o h2 x y) h2).bind fun k h3 =>
      if k = true then (fc env h3).bind fun z h4 => R.ofO (cmpT o2 h4 y z) h4 else .ok false h3) :=
  pt_imp (pt_chain (opr_cmp eK hu ho) (opr_cmp eK hu ho2) ha hb hc (last_marks hp)) fun σ H Q q => tChain_of (tK_val q)
theorem pe_iteF (hc : PT X c (tK G xa W fk)) (ha : PE X a (tV G xa W fa)) (hb : PE X b (tV G xa W fb)) : PE X (.IfExp c a b pos) (tV G xa W fun env h => (fk env h).bind fun k h1 => if k = true then fa env h1 else fb env h1) :=
  pe_imp (pe_ifExp hc ha hb) fun σ H Q q => by
    obtain ⟨ρ, env, hs, er, hr, p⟩ := q
    refine tK_bind er hr p fun ρ1 hs1 H1 k er1 hr1 st p1 => ?_
    cases k with
    | true => rw [if_pos rfl] at p1 ⊢; exact tV_of er1 hr1 p1
    | false => rw [if_neg (by decide)] at p1 ⊢; exact tV_of er1 hr1 p1
theorem pt_iteF (hc : PT X c (tK G xa W fk)) (ha : PT X a (tK G xa W ga)) (hb : PT X b (tK G xa W gb)) : PT X (.IfExp c a b pos) (tK G xa W fun env h => (fk env h).bind fun k h1 => if k = true then ga env h1 else gb env h1) := by
  refine ⟨fun pins s σ H Q I q => ?_⟩
  obtain ⟨ρ, env, hs, er, hr, p⟩ := q
  rw [arm_isTrue_IfExp]
  have q1 : tK G xa W fk σ H fun k H1 => ∃ ρ1 hs1, EnR G xa ρ1 H1 env σ ∧ HR G ρ1 hs1 H1 ∧ Post G RBo ρ1 H1 (fun c d H2 => W c d σ H2) (if k = true then ga env hs1 else gb env hs1) Q :=
    tK_bind er hr p fun ρ1 hs1 H1 k er1 hr1 st p1 => ⟨ρ1, hs1, er1, hr1, p1⟩
  refine wpAny_bind (thn (hc.run pins s σ H _ I q1) fun k s1 ⟨H1, I1, ρ1, hs1, er1, hr1, p1⟩ => ?_)
  cases k with
  | true => rw [if_pos rfl] at p1 ⊢; exact ha.run pins s1 σ H1 Q I1 ⟨ρ1, env, hs1, er1, hr1, p1⟩
  | false => rw [if_neg (by decide)] at p1 ⊢; exact hb.run pins s1 σ H1 Q I1 ⟨ρ1, env, hs1, er1, hr1, p1⟩
/-! ### displays -/
theorem pa_nilF : PA X [] (tL G xa W fun _ h => .ok [] h) := pa_imp pa_nil fun σ H Q q => by
  obtain ⟨ρ, env, hs, er, hr, p⟩ := q
  exact p ρ H [] .refl hr rvl_nil
theorem pa_consF (hp : plainX x = true) (ha : PE X x (tV G xa W fa)) (hr' : PA X xs (tL G xa W fl')) : PA X (x :: xs) (tL G xa W fun env h => (fa env h).bind fun y h1 => (fl' env h1).bind fun ys h2 => .ok (y :: ys) h2) :=
  pa_imp (pa_cons ha hr' (star_cons hp)) fun σ H Q q => by
    obtain ⟨ρ, env, hs, er, hr, p⟩ := q
    refine tV_bind er hr p fun ρ1 hs1 H1 t v er1 hr1 rv _ p1 => ?_
    refine tL_bind er1 hr1 p1 fun ρ2 hs2 H2 ts vs er2 hr2 rl st p2 => ?_
    refine p2 ρ2 H2 _ .refl hr2 ?_
    simp only [RvL]
    exact ⟨_, _, rfl, Rv.step hr1.Live st _ _ rv, rl⟩
theorem pe_tupF {k : Nat} (h : PA X xs (tL G xa W fl')) : PE X (.Tuple xs k pos) (tV G xa W fun env h => (fl' env h).bind fun ts h1 => if ts.length ≤ lim then .ok (.tup ts) h1 else .bad) :=
  pe_imp (pe_tup h) fun σ H Q q => by
    obtain ⟨ρ, env, hs, er, hr, p⟩ := q
    refine tL_bind er hr p fun ρ1 hs1 H1 ts vs er1 hr1 rl _ p1 => ?_
    split at p1
    · rename_i hl
      refine ⟨by rw [rl.len]; exact lim_line hl, fun q hq => ?_⟩
      exact p1 ρ1 _ _ (.ext (ext_upd hq)) (hr1.ext (ext_upd hq)) (rv_newT hr1 hq rl)
    · exact p1.elim
theorem pe_lstIF (h : PA X xs (tL G xa W fl')) : PE X (.List xs pos) (tV G xa W fun env h => (fl' env h).bind fun ts h1 => if ts.length ≤ lim then .ok (.lst ts) h1 else .bad) :=
  pe_imp (pe_lst h) fun σ H Q q => by
    obtain ⟨ρ, env, hs, er, hr, p⟩ := q
    refine tL_bind er hr p fun ρ1 hs1 H1 ts vs er1 hr1 rl _ p1 => ?_
    split at p1
    · rename_i hl
      refine ⟨by rw [rl.len]; exact lim_line hl, fun q hq => ?_⟩
      exact p1 ρ1 _ _ (.ext (ext_upd hq)) (hr1.ext (ext_upd hq)) (rv_newL hr1 hq rl)
    · exact p1.elim
/-- a new list that may change gets a number -/
theorem push_lst {ρ : Rho} {H : Hp} {hs : Hs} {ts : List T} {vs : List V} {q : Addr} (hr : HR G ρ hs H) (hq : H q = none) (rl : RvL G ρ H ts vs) :
    Stp ρ H (ρ.push q) (upd H q (.lst vs)) ∧ HR G (ρ.push q) (hs ++ [.lst ts]) (upd H q (.lst vs)) ∧ Rv G (ρ.push q) (upd H q (.lst vs)) (.ref hs.length) (.ref q) := by
  have st : Stp ρ H (ρ.push q) (upd H q (.lst vs)) := .push hq (ext_upd hq)
  refine ⟨st, hr.push hq (ext_upd hq) (by simp) ⟨vs, upd_same, RvL.step hr.Live st _ _ rl⟩, ?_⟩
  simp only [Rv]
  refine ⟨some q, ?_, fun a e => by cases e; rfl⟩
  show (ρ.l ++ [some q])[hs.length]? = _
  rw [← hr.len]
  simp
theorem pe_lstMF (h : PA X xs (tL G xa W fl')) : PE X (.List xs pos) (tV G xa W fun env h => (fl' env h).bind fun ts h1 => if ts.length ≤ lim then .ok (.ref h1.length) (h1 ++ [.lst ts]) else .bad) :=
  pe_imp (pe_lst h) fun σ H Q q => by
    obtain ⟨ρ, env, hs, er, hr, p⟩ := q
    refine tL_bind er hr p fun ρ1 hs1 H1 ts vs er1 hr1 rl _ p1 => ?_
    split at p1
    · rename_i hl
      refine ⟨by rw [rl.len]; exact lim_line hl, fun q hq => ?_⟩
      obtain ⟨z1, z2, z3⟩ := push_lst hr1 hq rl
      exact p1 _ _ _ z1 z2 z3
    · exact p1.elim
/-! ### subscripts, fields -/
theorem pe_ixF (eK : X.K = G.K) (hp : plainX b = true) (ha : PE X a (tV G xa W fa)) (hb : PE X b (tV G xa W fb)) : PE X (.Subscript a b pos) (tV G xa W fun env h => (fa env h).bind fun x h1 => (fb env h1).bind fun y h2 => R.ofO (ixT h2 x y) h2) :=
  pe_imp (pe_ix (ixr eK) ha hb (plainIx_of hp)) fun σ H Q q => tOp_of q
def rPart (G : Gx) : Rho → Hp → Option Int → Option Int → Prop := fun _ _ a b => a = b
def tP (G : Gx) (xa : Option Xa) (W : WX) (f : En → Hs → R (Option Int)) : TO := fun σ H Q => ∃ ρ env hs, EnR G xa ρ H env σ ∧ HR G ρ hs H ∧ Post G (rPart G) ρ H (fun c d H' => W c d σ H') (f env hs) Q
theorem po_imp {o : Option Expr} {t t' : TO} (h : PO X o t) (i : ∀ σ H Q, t' σ H Q → t σ H Q) : PO X o t' := ⟨fun pins s σ H Q I q => h.run pins s σ H Q I (i σ H Q q)⟩
theorem po_noneF : PO X none (tP G xa W fun _ h => .ok none h) := po_imp po_none fun σ H Q q => by
  obtain ⟨ρ, env, hs, er, hr, p⟩ := q
  exact p ρ H none .refl hr rfl
theorem po_someF (h : PE X x (tV G xa W fa)) : PO X (some x) (tP G xa W fun env h => (fa env h).bind fun y h2 => R.ofO ((intT y).map some) h2) := po_imp (po_some h) fun σ H Q q => by
  obtain ⟨ρ, env, hs, er, hr, p⟩ := q
  refine tV_bind er hr p fun ρ1 hs1 H1 t v er1 hr1 rv _ p1 => ?_
  obtain ⟨z, e, k⟩ := Post.ofO p1
  obtain ⟨i, e', rfl⟩ := opt_map e
  exact ⟨i, intT_of e' rv, k ρ1 H1 _ .refl hr1 rfl⟩
theorem pe_slF (eK : X.K = G.K) {lo hi : Option Expr} {p2 : Pos} {fl fh : En → Hs → R (Option Int)} (ha : PE X a (tV G xa W fa)) (hl : PO X lo (tP G xa W fl)) (hh : PO X hi (tP G xa W fh)) :
    PE X (.Subscript a (.Slice lo hi none p2) pos) (tV G xa W fun env h => (fa env h).bind fun x h1 => (fl env h1).bind fun l h2 => (fh env h2).bind fun u h3 => R.ofO (slT x l u) h3) :=
  pe_imp (pe_slice (slr eK) ha hl hh) fun σ H Q q => by
    obtain ⟨ρ, env, hs, er, hr, p⟩ := q
    refine tV_bind er hr p fun ρ1 hs1 H1 t v er1 hr1 rv _ p1 => ?_
    refine ⟨ρ1, env, hs1, er1, hr1, Post.mono (fun l H2 ⟨ρ2, hs2, l', st2, hr2, el, p2⟩ => ?_) (Post.bind (RA := rPart G) p1)⟩
    have el' : l' = l := el
    subst el'
    refine ⟨ρ2, env, hs2, er1.step hr1.Live st2, hr2, Post.mono (fun u H3 ⟨ρ3, hs3, u', st3, hr3, eu, p3⟩ => ?_) (Post.bind (RA := rPart G) p2)⟩
    have eu' : u' = u := eu
    subst eu'
    obtain ⟨z, e, k⟩ := Post.ofO p3
    exact ⟨ρ3, hs3, t, z, hr3, Rv.step hr2.Live st3 _ _ (Rv.step hr1.Live st2 _ _ rv), e, k⟩
theorem pe_attrF (ok : Ok G Γ cl W xa X) (hs' : notSup a = true) (ha : PE X a (tV G xa W fa)) : PE X (.Attribute a f pos) (tV G xa W fun env h => (fa env h).bind fun x h1 => R.ofO (fieldOf G.D h1 x f) h1) :=
  pe_imp (pe_fld ha (base_of hs')) fun σ H Q q => by
    obtain ⟨ρ, env, hs, er, hr, p⟩ := q
    refine tV_bind er hr p fun ρ1 hs1 H1 t v er1 hr1 rv _ p1 => ?_
    obtain ⟨z, e, k⟩ := Post.ofO p1
    unfold fieldOf at e
    split at e
    · rename_i n
      split at e
      · rename_i c fs en
        split at e
        · rename_i hf
          obtain ⟨a, rfl, _, dx, ys, ea, fr⟩ := hr1.at_ en (by simp) rv
          obtain ⟨w, e1, rw'⟩ := fr.some_ e
          obtain ⟨c1, c2⟩ := ok.pr.flds c f hf
          rw [← ok.K] at c1 c2
          exact ⟨a, _, dx, ys, w, rfl, ea, c1, c2, e1, k ρ1 H1 w .refl hr1 rw'⟩
        · cases e
      · cases e
    · cases e
theorem RvF.get {ρ : Rho} {H : Hp} {t : T} : ∀ {fl : List Str} {ts : List T} {fs : List (Str × V)}, RvF G ρ H fl ts fs → (fl.zip ts).lookup f = some t → f ∈ fl ∧ ∃ v, fs.lookup f = some v ∧ Rv G ρ H t v
  | [], _, _, _, e => by cases e
  | _ :: _, [], _, _, e => by cases e
  | g :: fl, u :: ts, fs, h, e => by
    simp only [RvF] at h
    obtain ⟨⟨v, e1, q⟩, r⟩ := h
    rw [List.zip_cons_cons, List.lookup_cons] at e
    cases hb : f == g with
    | true =>
      rw [hb] at e
      cases e
      have eg : f = g := by simpa using hb
      subst eg
      exact ⟨List.mem_cons_self, v, e1, q⟩
    | false =>
      rw [hb] at e
      obtain ⟨h1, h2⟩ := RvF.get r e
      exact ⟨List.mem_cons_of_mem _ h1, h2⟩
/-- a field of the exception at hand -/
theorem pe_exfF (ok : Ok G Γ cl W xa X) (hh : Γ.hot = true) {i : Nat} (hx : Γ.xi = some i) (hv : Γ.isVar i y = true) (hs' : notSup (.Name y p) = true) : PE X (.Attribute (.Name y p) f pos) (tV G xa W fun _ h => cl 0 [.str f] h) := by
  refine ⟨fun pins s σ H Q I q => ?_⟩
  obtain ⟨ρ, env, hs, er, hr, z⟩ := q
  obtain ⟨q, hq, hi, hcl, oe, vs, hp, hz, hd⟩ := ok.hotx hh
  obtain ⟨h1, h2, h3, h4⟩ := ok.vis hv
  obtain ⟨x1, x2⟩ := er.xao q hq
  have x1 := x1 i (by rw [← hi]; exact hx) (by rw [I.len]; exact (List.getElem?_eq_some_iff.mp h1).1)
  rw [hcl] at z
  unfold xCal at z
  dsimp only at z
  split at z
  · rename_i nm fl up hc
    obtain ⟨t, e, k⟩ := Post.ofO z
    have efl : G.fl q.c = fl := by unfold Gx.fl; rw [hc]
    rw [efl] at x2
    rcases x2 with x2 | ⟨dd, fs, ed, ea, rf⟩
    · rw [x2] at e; cases e
    · obtain ⟨hm, v, ev, rv⟩ := rf.get e
      obtain ⟨T1, T2⟩ := ok.pr.exc q.c nm fl up hc
      rw [← ok.K] at T1
      have hno := T2 f hm
      rw [← ok.K] at hno
      refine attr_of (base_of hs') (thn ((pe_var h1 h2 h3 h4).run pins s σ H (fun v H1 => v = .ref q.a ∧ H1 = H) I ⟨_, x1, rfl, rfl⟩) fun u s1 hu => ?_)
      obtain ⟨v', H1, I1, rx, e1, e2⟩ := hu
      subst e1 e2
      obtain rfl : u = Value.ref q.a := rx
      obtain ⟨ha, _⟩ := I1.pin (q.a, oe) (List.mem_append_left _ hp)
      have hx : ObjOk X.prog X.w H1 s1.heap dd (.xd fs) := I1.hok dd _ ea
      obtain ⟨mA, hns, hrr⟩ := hx
      obtain ⟨od, ho, hl⟩ := lookIn_ns hns
      obtain ⟨u, hu, ru⟩ := RelO.some_of (v := v) (o := mA f) (by rw [← ev]; exact hrr f)
      have J : PySem.W.InstAt s1.heap q.a oe (G.ca q.c) (some od) := ⟨ha, hz.1, by unfold PySem.W.notCls; rw [hd] <;> rfl, by rw [hz.2, ed]; exact ho⟩
      exact HandSPX.exc_get I1.kIn J T1.ga T1.gg T1.exC (PySem.W.findObj_own T1.hdC hno rfl (by rw [hl, hu])) (handed_of ru) ⟨v, H1, I1.tok _, ru, k ρ H1 v .refl hr rv⟩
  · exact z.elim
end
end Fs
end

section
set_option Elab.async false
set_option linter.all false
set_option maxRecDepth 100000
/-! Fs8: built-in calls, formatted texts, and / or, iteration, comprehensions. -/
namespace Fs
open PySem L2
section
variable {G : Gx} {Γ : Cs} {cl : Cal} {W : WX} {xa : Option Xa} {X : Cx} {x a b c o : Expr} {xs r : List Expr} {pos p apos : Pos} {y m f : Str} {fa fb fc fo : En → Hs → R T} {fk : En → Hs → R Bool} {fl' : En → Hs → R (List T)} {ga gb : En → Hs → R Bool}
theorem hot_or (ok : Ok G Γ cl W xa X) {h : Bool} (hh : (h || !Γ.hot) = true) : (h = true ∨ X.calm = true) ∧ (h = true ∨ X.A.guards = some []) := by
  cases h with
  | true => exact ⟨.inl rfl, .inl rfl⟩
  | false =>
    have : Γ.hot = false := by simpa using hh
    obtain ⟨h1, h2, _⟩ := ok.cool this
    exact ⟨.inr h1, .inr h2⟩
theorem units64 (ok : Ok G Γ cl W xa X) : X.A.units + 64 < cLine := by have := ok.units; omega
/-- b(e, ..) of a built-in function or type -/
theorem pe_biF {bi : Bi} (ok : Ok G Γ cl W xa X) (hn : notIsi bi = true) (hh : (biHot bi || !Γ.hot) = true) (hg : Γ.isGlob (biNm bi) = true) (hp : (x :: r).all plainX = true) (ha : PA X (x :: r) (tL G xa W fl')) :
    PE X (.Call (.Name (biNm bi) p) (x :: r) [] pos) (tV G xa W fun env h => (fl' env h).bind fun ts h1 => R.ofO (biT bi h1 ts) h1) := by
  obtain ⟨g1, g2, g3⟩ := ok.glob hg
  obtain ⟨h1, h2⟩ := hot_or ok hh
  have hm := ok.pr.bn bi
  have cr := crB (G := G) ok.K hn h1 h2 (by have := ok.units; omega)
  have e1 := plain_star (env := X.env) hp
  have e2 := plain_back (env := X.env) (pos := pos) hp
  have key : PE X (.Call (.Name (biNm bi) p) (x :: r) [] pos) (tCB (rGL G fun hs ts => biT bi hs ts) (tL G xa W fl')) := by
    cases bi <;> first
      | exact pe_callB cr g1 hm rfl ha g3 g2 e1 e2
      | exact pe_callTy cr g1 hm rfl ha g3 g2 e1 e2
      | cases hn
  exact pe_imp key fun σ H Q q => tCB_of q
/-- isinstance(e, T) -/
theorem pe_isiF {k : Kd} (ok : Ok G Γ cl W xa X) (hn : k ≠ .non) (hg : Γ.isGlob "isinstance" = true) (hg2 : Γ.isGlob (kdNm k) = true) (hp : plainX a = true) (ha : PE X a (tV G xa W fa)) :
    PE X (.Call (.Name "isinstance" p) [a, .Name (kdNm k) apos] [] pos) (tV G xa W fun env h => (fa env h).bind fun x h1 => R.ofO (biT (.isinst k) h1 [x]) h1) := by
  obtain ⟨g1, g2, g3⟩ := ok.glob hg
  obtain ⟨k1, k2, k3⟩ := ok.glob hg2
  have hm : X.mg "isinstance" = none := ok.pr.bn (.isinst k)
  have hk := ok.pr.kn k
  have pn : PE X (.Name (kdNm k) apos) (tC (.ty (tyNm k))) := by
    cases k <;> first
      | exact pe_bltn k1 hk rfl rfl k3 k2
      | exact (hn rfl).elim
  refine pe_imp (pe_callB call_isi g1 hm rfl (pa_cons ha (pa_cons pn pa_nil rfl) (star_cons hp)) g3 g2 (star_cons hp) rfl) fun σ H Q q => ?_
  obtain ⟨ρ, env, hs, er, hr, p⟩ := q
  refine tV_bind er hr p fun ρ1 hs1 H1 t v er1 hr1 rv st p1 => ?_
  obtain ⟨z, e, z2⟩ := Post.ofO p1
  simp only [biT, one, Option.bind_some] at e
  obtain ⟨kk, e', rfl⟩ := opt_map e
  refine ⟨v, .ty (tyNm k), _, _, _, rfl, .ty _, by rw [ok.K]; exact kind_of hr1 e' rv, ?_, z2 ρ1 H1 _ .refl hr1 rv_bl⟩
  exact kit_kd kk k
/-- o.m(e, ..) of a list, a text -/
theorem pe_bmF {bm : Bm} (ok : Ok G Γ cl W xa X) (hk : okM bm = true) (hs' : notSup o = true) (hline : (apos.endLine == pos.line) = true) (hlen : (x :: r).length < 20) (hp : (x :: r).all plainX = true)
    (ho : PE X o (tV G xa W fo)) (ha : PA X (x :: r) (tL G xa W fl')) :
    PE X (.Call (.Attribute o (bmNm bm) apos) (x :: r) [] pos) (tV G xa W fun env h => (fo env h).bind fun x h1 => if bmOk bm h1 x = true then (fl' env h1).bind fun ts h2 => match bmT bm h2 x ts with
      | some (y, h3) => .ok y h3
      | none => .bad
      else .bad) := by
  have few : ((backTo pos (starEach (x :: r) X.env)).all (fun x => !x.1) && (backToKw pos (keywordEach [] X.env)).all (fun x => x.1.isSome) && decide ((x :: r).length + ([] : List Keyword).length + (if ([] : List Keyword).isEmpty then 0 else 1) < 30)) = true := by
    rw [back_all hp]
    show (true && true && decide ((x :: r).length + 0 + 0 < 30)) = true
    rw [decide_eq_true (by omega)] <;> rfl
  have key : ∀ {id : String} (pa : PlainAttrs (bmTy bm)) (slot : Slot (bmTy bm) (bmNm bm) id) (hty : typeOf (.builtin id) = pure (.type "method_descriptor")) (hm : MtR X id (rGM G bm)),
      PE X (.Call (.Attribute o (bmNm bm) apos) (x :: r) [] pos) (tBM X.K (bmTy bm) (rGM G bm) (tV G xa W fo) (tL G xa W fl')) :=
    fun pa slot hty hm => pe_bm pa slot hty hm ho ha (base_of hs') few hline (plain_star hp) (plain_back hp)
  have key2 : PE X (.Call (.Attribute o (bmNm bm) apos) (x :: r) [] pos) (tBM X.K (bmTy bm) (rGM G bm) (tV G xa W fo) (tL G xa W fl')) := by
    cases bm <;> first | (cases hk; done) | skip
    · exact key PySem.F.plainAttrs_list PySem.F.slot_list_append PySem.F.type_list_append mtr_append
    · exact key PySem.F.plainAttrs_str PySem.F.slot_str_join PySem.F.type_str_join (mtr_join ok.K)
  refine pe_imp key2 fun σ H Q q => ?_
  obtain ⟨ρ, env, hs, er, hr, p⟩ := q
  refine tV_bind er hr p fun ρ1 hs1 H1 t v er1 hr1 rv st p1 => ?_
  by_cases hb : bmOk bm hs1 t = true
  · rw [if_pos hb] at p1
    refine ⟨bmOk_ty ok.K hr1 rv hb, ?_⟩
    refine tL_bind er1 hr1 p1 fun ρ2 hs2 H2 ts vs er2 hr2 rl st2 p2 => ?_
    cases e : bmT bm hs2 t ts with
    | none => rw [e] at p2; exact p2.elim
    | some q =>
      obtain ⟨y, h3⟩ := q
      rw [e] at p2
      exact ⟨ρ2, hs2, t, ts, y, h3, hr2, Rv.step hr1.Live st2 _ _ rv, rl, e, p2⟩
  · rw [if_neg hb] at p1
    exact p1.elim
/-! ### and, or -/
theorem pe_andF (eK : X.K = G.K) (ha : PE X a (tV G xa W fa)) (hb : PE X (.BoolOp .And (b :: r) pos) (tV G xa W fb)) :
    PE X (.BoolOp .And (a :: b :: r) pos) (tV G xa W fun env h => (fa env h).bind fun x h1 => (R.ofO (truT h1 x) h1).bind fun k h2 => if k = true then fb env h2 else .ok x h2) :=
  pe_imp (pe_andT ha hb) fun σ H Q q => by
    obtain ⟨ρ, env, hs, er, hr, p⟩ := q
    refine tV_bind er hr p fun ρ1 hs1 H1 t v er1 hr1 rv st p1 => ?_
    cases e : truT hs1 t with
    | none => rw [e] at p1; exact p1.elim
    | some k =>
      rw [e] at p1
      refine ⟨k, by rw [eK]; exact truV_of hr1 rv e, ?_⟩
      change Post G (Rv G) ρ1 H1 _ (if k = true then fb env hs1 else .ok t hs1) Q at p1
      cases k with
      | true => rw [if_pos rfl] at p1 ⊢; exact tV_of er1 hr1 p1
      | false => rw [if_neg (by decide)] at p1 ⊢; exact p1 ρ1 H1 v .refl hr1 rv
theorem pe_orF (eK : X.K = G.K) (ha : PE X a (tV G xa W fa)) (hb : PE X (.BoolOp .Or (b :: r) pos) (tV G xa W fb)) :
    PE X (.BoolOp .Or (a :: b :: r) pos) (tV G xa W fun env h => (fa env h).bind fun x h1 => (R.ofO (truT h1 x) h1).bind fun k h2 => if k = true then .ok x h2 else fb env h2) :=
  pe_imp (pe_orT ha hb) fun σ H Q q => by
    obtain ⟨ρ, env, hs, er, hr, p⟩ := q
    refine tV_bind er hr p fun ρ1 hs1 H1 t v er1 hr1 rv st p1 => ?_
    cases e : truT hs1 t with
    | none => rw [e] at p1; exact p1.elim
    | some k =>
      rw [e] at p1
      refine ⟨k, by rw [eK]; exact truV_of hr1 rv e, ?_⟩
      change Post G (Rv G) ρ1 H1 _ (if k = true then .ok t hs1 else fb env hs1) Q at p1
      cases k with
      | false => rw [if_neg (by decide)] at p1 ⊢; exact tV_of er1 hr1 p1
      | true => rw [if_pos rfl] at p1 ⊢; exact p1 ρ1 H1 v .refl hr1 rv
theorem pw_andF (ha : PT X a (tK G xa W ga)) (hb : PW X (.BoolOp .And (b :: r) pos) (tK G xa W gb)) :
    PW X (.BoolOp .And (a :: b :: r) pos) (tK G xa W fun env h => (ga env h).bind fun k h1 => if k = true then gb env h1 else .ok false h1) :=
  pw_imp (pw_and ha hb) fun σ H Q q => by
    obtain ⟨ρ, env, hs, er, hr, p⟩ := q
    refine tK_bind er hr p fun ρ1 hs1 H1 k er1 hr1 st p1 => ?_
    cases k with
    | true => rw [if_pos rfl] at p1 ⊢; exact ⟨ρ1, env, hs1, er1, hr1, p1⟩
    | false => rw [if_neg (by decide)] at p1 ⊢; exact p1 ρ1 H1 _ .refl hr1 rfl
theorem pw_orF (ha : PT X a (tK G xa W ga)) (hb : PW X (.BoolOp .Or (b :: r) pos) (tK G xa W gb)) :
    PW X (.BoolOp .Or (a :: b :: r) pos) (tK G xa W fun env h => (ga env h).bind fun k h1 => if k = true then .ok true h1 else gb env h1) :=
  pw_imp (pw_or ha hb) fun σ H Q q => by
    obtain ⟨ρ, env, hs, er, hr, p⟩ := q
    refine tK_bind er hr p fun ρ1 hs1 H1 k er1 hr1 st p1 => ?_
    cases k with
    | false => rw [if_neg (by decide)] at p1 ⊢; exact ⟨ρ1, env, hs1, er1, hr1, p1⟩
    | true => rw [if_pos rfl] at p1 ⊢; exact p1 ρ1 H1 _ .refl hr1 rfl
/-! ### formatted texts -/
def rStr : Rho → Hp → Str → Str → Prop := fun _ _ a b => a = b
/-- the parts' reading -/
def JOk (G : Gx) (xa : Option Xa) (W : WX) (X : Cx) (ys : List Expr) (f : Str → En → Hs → R Str) : Prop :=
  ∃ ts, PJ X ys ts ∧ ∀ (acc : Str) (σ : St) (H : Hp) (Q : Str → Hp → Prop) (ρ : Rho) (env : En) (hs : Hs), EnR G xa ρ H env σ → HR G ρ hs H → Post G rStr ρ H (fun c d H' => W c d σ H') (f acc env hs) Q → tJs ts acc σ H Q
theorem jok_nil : JOk G xa W X [] (fun acc _ h => .ok acc h) := ⟨[], .nil, fun acc σ H Q ρ env hs er hr p => p ρ H acc .refl hr rfl⟩
theorem fmtT_of {ρ : Rho} {H : Hp} {t : T} {v : V} {s : Str} (rv : Rv G ρ H t v) (e : fmtT t = some s) {Q : VK} (q : Q (.str s) H) :
    (∃ y : Str, v = .str y ∧ y.length ≤ sizeLine ∧ Q (.str y) H) ∨ ∃ i : Int, v = .int i ∧ i.natAbs.log2 < 1920 ∧ Q (.str (toString i)) H := by
  cases t <;> simp only [fmtT] at e <;> first | (cases e; done) | skip
  · split at e
    · rename_i hl
      cases e
      cases int_of rv
      exact .inr ⟨_, rfl, hl, q⟩
    · cases e
  · split at e
    · rename_i hl
      cases e
      cases str_of rv
      exact .inl ⟨_, rfl, lim_line hl, q⟩
    · cases e
theorem tJ_step {g : Str → En → Hs → R Str} {ts : List TE} {acc : Str} {σ : St} {Q : Str → Hp → Prop} {ρ1 : Rho} {hs1 : Hs} {H1 : Hp} {env : En} {t : T}
    (h2 : ∀ (acc : Str) (σ : St) (H : Hp) (Q : Str → Hp → Prop) (ρ : Rho) (env : En) (hs : Hs), EnR G xa ρ H env σ → HR G ρ hs H → Post G rStr ρ H (fun c d H' => W c d σ H') (g acc env hs) Q → tJs ts acc σ H Q)
    (er1 : EnR G xa ρ1 H1 env σ) (hr1 : HR G ρ1 hs1 H1) (p1 : Post G rStr ρ1 H1 (fun c d H' => W c d σ H') (match fmtT t with
    | some s => if (acc ++ s).length ≤ lim then g (acc ++ s) env hs1 else .bad
    | none => .bad) Q) : ∃ s, fmtT t = some s ∧ (acc ++ s).length ≤ sizeLine ∧ tJs ts (acc ++ s) σ H1 Q := by
  split at p1
  · rename_i s e
    split at p1
    · rename_i hl
      exact ⟨s, e, lim_line hl, h2 _ _ _ _ _ _ _ er1 hr1 p1⟩
    · exact p1.elim
  · exact p1.elim
theorem jok_cons {g : Str → En → Hs → R Str} {ys : List Expr} (hx : PE X x (tV G xa W fa)) (hr' : JOk G xa W X ys g) :
    JOk G xa W X (.FormattedValue x (-1) none pos :: ys) (fun acc env h => (fa env h).bind fun y h1 => match fmtT y with
    | some s => if (acc ++ s).length ≤ lim then g (acc ++ s) env h1 else .bad
    | none => .bad) := by
  obtain ⟨ts, h1, h2⟩ := hr'
  refine ⟨tFmt (tV G xa W fa) :: ts, .cons (pe_fmt hx) h1, fun acc σ H Q ρ env hs er hr p => ?_⟩
  refine tV_bind (RB := rStr) er hr p fun ρ1 hs1 H1 t v er1 hr1 rv st p1 => ?_
  obtain ⟨s, e, hl, z⟩ := tJ_step h2 er1 hr1 p1
  exact fmtT_of (Q := fun x H1 => ∃ y : Str, x = .str y ∧ (acc ++ y).length ≤ sizeLine ∧ tJs ts (acc ++ y) σ H1 Q) rv e ⟨s, rfl, hl, z⟩
theorem jok_str {g : Str → En → Hs → R Str} {ys : List Expr} {z : Str} {k : Nat} (hr' : JOk G xa W X ys g) :
    JOk G xa W X (.Constant (.str z) k pos :: ys) (fun acc env h => (R.ok (T.str z) h).bind fun y h1 => match fmtT y with
    | some s => if (acc ++ s).length ≤ lim then g (acc ++ s) env h1 else .bad
    | none => .bad) := by
  obtain ⟨ts, h1, h2⟩ := hr'
  refine ⟨tC (.str z) :: ts, .cons pe_str h1, fun acc σ H Q ρ env hs er hr p => ?_⟩
  obtain ⟨s, e, hl, z'⟩ := tJ_step h2 er hr p
  have es : s = z := by
    simp only [fmtT] at e
    split at e <;> cases e
    rfl
  subst es
  exact ⟨s, rfl, hl, z'⟩
theorem empty_app (s : Str) : Str.empty ++ s = s := by
  cases s with
  | mk a =>
    show Str.mk (#[] ++ a) = _
    simp
theorem pe_fstrF {g : Str → En → Hs → R Str} (hne : xs ≠ []) (h : JOk G xa W X xs g) : PE X (.JoinedStr xs pos) (tV G xa W fun env h => (g Str.empty env h).bind fun s h1 => .ok (.str s) h1) := by
  obtain ⟨ts, h1, h2⟩ := h
  have go : ∀ σ H Q, tV G xa W (fun env h => (g Str.empty env h).bind fun s h1 => .ok (.str s) h1) σ H Q → tJs ts Str.empty σ H fun out H1 => Q (.str out) H1 := fun σ H Q q => by
    obtain ⟨ρ, env, hs, er, hr, p⟩ := q
    refine h2 _ _ _ _ ρ env hs er hr (Post.mono (fun s H1 ⟨ρ1, hs1, s', st, hr1, es, p1⟩ => ?_) (Post.bind (RA := rStr) p))
    have es' : s' = s := es
    subst es'
    exact p1 ρ1 H1 _ .refl hr1 rv_str
  cases h1 with
  | nil => exact (hne rfl).elim
  | @cons e t es ts' he hr' =>
    cases hr' with
    | nil =>
      refine ⟨fun pins s σ H Q I q => ?_⟩
      refine wpAny_mono ((pe_joined1 he).run pins s σ H _ I (go σ H Q q)) (fun u s1 ⟨v, H1, I1, r1, y, ev, hl, q1⟩ => ?_) (fun _ _ z => z)
      subst ev
      have q1' : Q (.str (Str.empty ++ y)) H1 := q1
      rw [empty_app] at q1'
      exact ⟨.str y, H1, I1, r1, q1'⟩
    | @cons e2 t2 es2 ts2 he2 hr2 => exact pe_imp (pe_joined (.cons he (.cons he2 hr2))) go
end
end Fs
end

section
set_option Elab.async false
set_option linter.all false
set_option maxRecDepth 100000
/-! Fs9: iteration, targets, comprehensions. -/
namespace Fs
open PySem L2
/-- the iterator J yields the trees xs, whatever else happens -/
structure JIt (G : Gx) (ρ : Rho) (H : Hp) (xs : List T) (J : L2.It) : Prop where
  stop : ∀ i ρ' H', StpR ρ H ρ' H' → xs.length ≤ i → J.stop i H'
  go : ∀ i ρ' H', StpR ρ H ρ' H' → i < xs.length → J.go i H'
  yld : ∀ (i : Nat) x ρ' H' H'' t, StpR ρ H ρ' H' → xs[i]? = some t → J.yld i H' x H'' → H'' = H' ∧ Rv G ρ' H' t x
def tI (G : Gx) (xa : Option Xa) (W : WX) (f : En → Hs → R (List T)) : TI := fun σ H Q => ∃ ρ env hs, EnR G xa ρ H env σ ∧ HR G ρ hs H ∧ Post G (JIt G) ρ H (fun c d H' => W c d σ H') (f env hs) Q
section
variable {G : Gx} {Γ : Cs} {cl : Cal} {W : WX} {xa : Option Xa} {X : Cx} {x a b c o tg : Expr} {xs r : List Expr} {pos p apos : Pos} {y m f : Str} {fa fb fc fo : En → Hs → R T} {fk : En → Hs → R Bool} {fl' : En → Hs → R (List T)} {ga gb : En → Hs → R Bool}
theorem pi_imp {wi wi' : TI} (h : PI X tg x wi) (i : ∀ σ H R, wi' σ H R → wi σ H R) : PI X tg x wi' := ⟨fun pins s σ H R I q => h.run pins s σ H R I (i σ H R q)⟩
theorem jit_list (eK : X.K = G.K) {ρ : Rho} {H : Hp} {ts : List T} {ws : List V} {a : Addr} (q : H a = some (.lst ws)) (rl : RvL G ρ H ts ws) (n : some a ∉ ρ.l ∧ a ∉ ρ.rs) : JIt G ρ H ts (Itl X.K a) where
  stop := fun i ρ' H' S h => ⟨ws, SqL.of (S.keep _ _ q n.1 n.2), by rw [rl.len]; exact h⟩
  go := fun i ρ' H' S h => by
    have hlt : i < ws.length := by rw [rl.len]; exact h
    exact ⟨ws, ws[i], SqL.of (S.keep _ _ q n.1 n.2), List.getElem?_eq_getElem hlt⟩
  yld := fun i x ρ' H' H'' t S e h => by
    obtain ⟨e1, e2⟩ := h
    refine ⟨e1, ?_⟩
    obtain ⟨v, hv, rv⟩ := rl.get e
    have := e2 ws (SqL.of (S.keep _ _ q n.1 n.2))
    rw [hv] at this
    cases this
    exact Rv.stepR S _ _ rv
theorem jit_tup (eK : X.K = G.K) {ρ : Rho} {H : Hp} {ts : List T} {ws : List V} {a : Addr} (q : SqT G.K H a ws) (rl : RvL G ρ H ts ws) : JIt G ρ H ts (Itt X.K a) where
  stop := fun i ρ' H' S h => ⟨ws, by rw [eK]; exact sqT_step S q, by rw [rl.len]; exact h⟩
  go := fun i ρ' H' S h => by
    have hlt : i < ws.length := by rw [rl.len]; exact h
    exact ⟨ws, ws[i], by rw [eK]; exact sqT_step S q, List.getElem?_eq_getElem hlt⟩
  yld := fun i x ρ' H' H'' t S e h => by
    obtain ⟨e1, e2⟩ := h
    refine ⟨e1, ?_⟩
    obtain ⟨v, hv, rv⟩ := rl.get e
    have := e2 ws (by rw [eK]; exact sqT_step S q)
    rw [hv] at this
    cases this
    exact Rv.stepR S _ _ rv
theorem jit_str {ρ : Rho} {H : Hp} {z : Str} : JIt G ρ H (z.cps.toList.map sgn) (Its z) where
  stop := fun i ρ' H' S h => by
    show z.cps.size ≤ i
    simpa using h
  go := fun i ρ' H' S h => by
    show i < z.cps.size
    simpa using h
  yld := fun i x ρ' H' H'' t S e h => by
    obtain ⟨e1, c, hc, rfl⟩ := h
    refine ⟨e1, ?_⟩
    simp only [List.getElem?_map, Array.getElem?_toList, hc, Option.map_some] at e
    cases e
    exact rv_str
theorem jit_rng {ρ : Rho} {H : Hp} {lo : Int} {n : Nat} : JIt G ρ H ((List.range n).map fun i : Nat => T.int (lo + (i : Int))) (Itr lo n) where
  stop := fun i ρ' H' S h => by
    show n ≤ i
    simpa using h
  go := fun i ρ' H' S h => by
    show i < n
    simpa using h
  yld := fun i x ρ' H' H'' t S e h => by
    obtain ⟨e1, rfl⟩ := h
    refine ⟨e1, ?_⟩
    rw [List.getElem?_map] at e
    obtain ⟨j, hj, rfl⟩ := opt_map e
    have : j = i := by
      have := (List.getElem?_eq_some_iff.mp hj).2
      simpa using this.symm
    subst this
    exact rv_int
/-- the text's iterable is a list, a tuple, a text -/
theorem pi_seqF (eK : X.K = G.K) (h : PE X x (tV G xa W fa)) : PI X tg x (tI G xa W fun env h => (fa env h).bind fun v h1 => R.ofO (items v) h1) := by
  refine ⟨fun pins s σ H Rr I q => ?_⟩
  obtain ⟨ρ, env, hs, er, hr, p⟩ := q
  change Post G (JIt G) ρ H _ ((fa env hs).bind _) Rr at p
  cases e : fa env hs with
  | bad => rw [e] at p; exact p.elim
  | exc c zs h1 =>
    rw [e] at p
    refine (pi_list h).run pins s σ H Rr I ⟨ρ, env, hs, er, hr, ?_⟩
    rw [e]
    exact p
  | ok t h1 =>
    rw [e] at p
    change Post G (JIt G) ρ H _ (R.ofO (items t) h1) Rr at p
    cases t <;> first | exact p.elim | skip
    · rename_i z
      refine (pi_str h).run pins s σ H Rr I ⟨ρ, env, hs, er, hr, ?_⟩
      rw [e]
      intro ρ' H' v st hr' rv
      cases str_of rv
      exact ⟨z, rfl, p ρ' H' _ st hr' jit_str⟩
    · rename_i ts
      refine (pi_tup h).run pins s σ H Rr I ⟨ρ, env, hs, er, hr, ?_⟩
      rw [e]
      intro ρ' H' v st hr' rv
      simp only [Rv] at rv
      obtain ⟨a, ws, rfl, q, rl⟩ := rv
      exact ⟨a, rfl, ⟨ws, by rw [eK]; exact q⟩, p ρ' H' _ st hr' (jit_tup eK q rl)⟩
    · rename_i ts
      refine (pi_list h).run pins s σ H Rr I ⟨ρ, env, hs, er, hr, ?_⟩
      rw [e]
      intro ρ' H' v st hr' rv
      simp only [Rv] at rv
      obtain ⟨a, ws, rfl, q, rl, n⟩ := rv
      exact ⟨a, rfl, ⟨ws, SqL.of q⟩, p ρ' H' _ st hr' (jit_list eK q rl n)⟩
theorem rangeT_of {lo hi : Int} {ts : List T} (h : rangeT lo hi = some ts) : (-(2 ^ 62) ≤ lo ∧ lo < 2 ^ 62 ∧ -(2 ^ 62) ≤ hi ∧ hi < 2 ^ 62) ∧ ts = (List.range (hi - lo).toNat).map fun i : Nat => T.int (lo + (i : Int)) := by
  unfold rangeT at h
  split at h
  · rename_i hc
    simp only [Bool.and_eq_true, decide_eq_true_eq] at hc
    cases h
    exact ⟨hc, rfl⟩
  · cases h
theorem pi_rng1F (ok : Ok G Γ cl W xa X) (hg : Γ.isGlob "range" = true) (hp : plainX a = true) (ha : PE X a (tV G xa W fa)) :
    PI X tg (.Call (.Name "range" p) [a] [] pos) (tI G xa W fun env h => (fa env h).bind fun x h1 => R.ofO ((intT x).bind fun n => rangeT 0 n) h1) := by
  obtain ⟨g1, g2, g3⟩ := ok.glob hg
  refine pi_imp (pi_range1 g1 ok.pr.rn (pa_cons ha pa_nil (star_cons hp)) (star_cons hp)) fun σ H Rr q => ?_
  obtain ⟨ρ, env, hs, er, hr, p⟩ := q
  refine tV_bind er hr p fun ρ1 hs1 H1 t v er1 hr1 rv st p1 => ?_
  obtain ⟨ts, e, k⟩ := Post.ofO p1
  obtain ⟨n, e1, e2⟩ := opt_bind e
  obtain ⟨⟨h1, h2, h3, h4⟩, rfl⟩ := rangeT_of e2
  refine ⟨n, by rw [intT_of e1 rv], h3, h4, ?_⟩
  have z := k ρ1 H1 (Itr 0 (n - 0).toNat) .refl hr1 jit_rng
  rw [show (n - 0) = n by omega] at z
  exact z
theorem pi_rng2F (ok : Ok G Γ cl W xa X) (hg : Γ.isGlob "range" = true) (hp : plainX a = true) (hp2 : plainX b = true) (ha : PE X a (tV G xa W fa)) (hb : PE X b (tV G xa W fb)) :
    PI X tg (.Call (.Name "range" p) [a, b] [] pos) (tI G xa W fun env h => (fa env h).bind fun x h1 => (fb env h1).bind fun y h2 => R.ofO ((intT x).bind fun i => (intT y).bind fun j => rangeT i j) h2) := by
  obtain ⟨g1, g2, g3⟩ := ok.glob hg
  refine pi_imp (pi_range2 g1 ok.pr.rn (pa_cons ha (pa_cons hb pa_nil (star_cons hp2)) (star_cons hp)) (by rw [star_cons hp, star_cons hp2]; rfl) (star_cons hp2)) fun σ H Rr q => ?_
  obtain ⟨ρ, env, hs, er, hr, p⟩ := q
  refine tV_bind er hr p fun ρ1 hs1 H1 t v er1 hr1 rv _ p1 => ?_
  refine tV_bind er1 hr1 p1 fun ρ2 hs2 H2 u w er2 hr2 rw' st p2 => ?_
  obtain ⟨ts, e, k⟩ := Post.ofO p2
  obtain ⟨i, e1, e2⟩ := opt_bind e
  obtain ⟨j, e3, e4⟩ := opt_bind e2
  obtain ⟨h4, rfl⟩ := rangeT_of e4
  exact ⟨i, j, by rw [intT_of e1 rv, intT_of e3 rw'], h4, k ρ2 H2 _ .refl hr2 jit_rng⟩

/-! ### targets -/
theorem wipe_in {σ : St} {i : Nat} {o : Option V} : ∀ {vs : List Nat}, i ∈ vs → wipe (σ.set i o) vs = wipe σ vs
  | v :: vs, h => by
    unfold wipe
    by_cases e : i ∈ vs
    · rw [wipe_in e]
    · have ei : i = v := by
        rcases List.mem_cons.mp h with q | q
        · exact q
        · exact (e q).elim
      subst ei
      have key : ∀ {us : List Nat}, i ∉ us → wipe (σ.set i o) us = (wipe σ us).set i o := fun {us} => by
        induction us with
        | nil => intro _; rfl
        | cons u us ih =>
          intro n
          simp only [List.mem_cons, not_or] at n
          unfold wipe
          rw [ih n.2, List.set_comm _ _ n.1]
      rw [key e, List.set_set]
/-- outside the target's places nothing changes -/
def Outs (ns : List Nat) (σ σ1 : St) : Prop := ∀ vs, (∀ i ∈ ns, i ∈ vs) → wipe σ1 vs = wipe σ vs
def gT (G : Gx) (xa : Option Xa) (t : Tg) : TG := fun v σ H Q => ∃ ρ env u env1, EnR G xa ρ H env σ ∧ Rv G ρ H u v ∧ bindG t u env = some env1 ∧ ∀ σ1, EnR G xa ρ H env1 σ1 → Outs t.slots σ σ1 → Q σ1 H
def gTs (G : Gx) (xa : Option Xa) (ns : List Nat) : TGs := fun vs σ H Q => ∃ ρ env us env1, EnR G xa ρ H env σ ∧ RvL G ρ H us vs ∧ bindTs ns us env = some env1 ∧ ∀ σ1, EnR G xa ρ H env1 σ1 → Outs ns σ σ1 → Q σ1 H
theorem pg_imp {g g' : TG} (h : PG X x g) (i : ∀ v σ H Q, g' v σ H Q → g v σ H Q) : PG X x g' := ⟨fun pins s σ H v u Q I r q => h.run pins s σ H v u Q I r (i v σ H Q q)⟩
theorem pgs_imp {g g' : TGs} (h : PGs X xs g) (i : ∀ v σ H Q, g' v σ H Q → g v σ H Q) : PGs X xs g' := ⟨fun pins s σ H v u Q I r q => h.run pins s σ H v u Q I r (i v σ H Q q)⟩
theorem pg_nameF (ok : Ok G Γ cl W xa X) {i : Nat} (h : Γ.isTgt i y = true) : PG X (.Name y pos) (gT G xa (.nm i)) := by
  obtain ⟨h1, h2, h3, h4⟩ := ok.tgt h
  refine pg_imp (pg_name ok.nod h1 h2 h3) fun v σ H Q q => ?_
  obtain ⟨ρ, env, u, env1, er, rv, e, k⟩ := q
  simp only [bindG] at e
  cases e
  exact k _ (er.set i h4 rv) fun vs hv => wipe_in (hv i (by simp [Tg.slots]))
theorem pgs_namesF (ok : Ok G Γ cl W xa X) : ∀ {ns : List Nat} {xs : List Expr}, chkTn Γ ns xs = true → PGs X xs (gTs G xa ns) ∧ (assignEach xs X.env).length = ns.length ∧ (assignEach xs X.env).findIdx? (·.1) = none
  | [], [], _ => ⟨pgs_imp pgs_nil fun vs σ H Q q => by
      obtain ⟨ρ, env, us, env1, er, rl, e, k⟩ := q
      cases us with
      | nil =>
        simp only [RvL] at rl
        simp only [bindTs] at e
        cases e
        exact ⟨rl, k σ er fun _ _ => rfl⟩
      | cons _ _ => simp [bindTs] at e, rfl, rfl⟩
  | [], _ :: _, h => by simp [chkTn] at h
  | _ :: _, [], h => by simp [chkTn] at h
  | i :: ns, x :: xs, h => by
    simp only [chkTn, Bool.and_eq_true] at h
    obtain ⟨h1, h2⟩ := h
    split at h1
    · rename_i y pos
      obtain ⟨r1, r2, r3⟩ := pgs_namesF ok h2
      obtain ⟨t1, t2, t3, t4⟩ := ok.tgt h1
      refine ⟨pgs_imp (pgs_cons (pg_name ok.nod t1 t2 t3) r1 rfl) fun vs σ H Q q => ?_, ?_, ?_⟩
      · obtain ⟨ρ, env, us, env1, er, rl, e, k⟩ := q
        cases us with
        | nil => simp [bindTs] at e
        | cons u us =>
          simp only [RvL] at rl
          obtain ⟨v, ws, rfl, rv, rl⟩ := rl
          simp only [bindTs] at e
          refine ⟨v, ws, rfl, ρ, _, us, env1, er.set i t4 rv, rl, e, fun σ1 er1 ho => k σ1 er1 fun vs hv => ?_⟩
          rw [ho vs fun j hj => hv j (List.mem_cons_of_mem _ hj)]
          exact wipe_in (hv i List.mem_cons_self)
      · show (assignEach xs X.env).length + 1 = ns.length + 1
        rw [r2]
      · show List.findIdx? (·.1) ((false, assign (.Name y pos) X.env) :: assignEach xs X.env) = none
        rw [List.findIdx?_cons, r3]
        rfl
    · cases h1
theorem pg_tgF (ok : Ok G Γ cl W xa X) {t : Tg} (h : chkT Γ t x = true) : PG X x (gT G xa t) := by
  cases t with
  | nm i =>
    simp only [chkT] at h
    split at h
    · exact pg_nameF ok h
    · cases h
  | tp ns =>
    simp only [chkT] at h
    split at h
    · rename_i xs k pos
      rw [Bool.and_eq_true] at h
      obtain ⟨h1, h2⟩ := h
      have hh : Γ.hot = false := by simpa using h2
      obtain ⟨hc, _⟩ := ok.cool hh
      obtain ⟨r1, r2, r3⟩ := pgs_namesF ok h1
      refine pg_imp (pg_tup hc r1 rfl r3) fun v σ H Q q => ?_
      obtain ⟨ρ, env, u, env1, er, rv, e, k⟩ := q
      simp only [bindG] at e
      split at e
      · rename_i ts
        simp only [Rv] at rv
        obtain ⟨a, ws, rfl, q, rl⟩ := rv
        refine ⟨a, ws, rfl, by rw [ok.K]; exact q, ?_, ρ, env, ts, env1, er, rl, e, k⟩
        rw [r2, rl.len]
        have key : ∀ {ns : List Nat} {ts : List T} {env env1 : En}, bindTs ns ts env = some env1 → ts.length = ns.length := by
          intro ns
          induction ns with
          | nil => intro ts env env1 e; cases ts with
            | nil => rfl
            | cons _ _ => simp [bindTs] at e
          | cons n ns ih => intro ts env env1 e; cases ts with
            | nil => simp [bindTs] at e
            | cons t ts => simp only [bindTs] at e; simp [ih e]
        exact key e
      · cases e
    · cases h
end
end Fs
end

section
set_option Elab.async false
set_option linter.all false
set_option maxRecDepth 100000
/-! Fs10: list comprehensions. -/
namespace Fs
open PySem L2
theorem wipe_get {σ : St} {i : Nat} : ∀ {vs : List Nat}, (wipe σ vs)[i]? = if i ∈ vs then (σ[i]?).map (fun _ => none) else σ[i]?
  | [] => by simp [wipe]
  | v :: vs => by
    unfold wipe
    by_cases e : v = i
    · subst e
      rw [if_pos List.mem_cons_self, List.getElem?_set]
      rw [wipe_length]
      by_cases hl : v < σ.length
      · simp [hl]
      · simp [hl]
    · rw [List.getElem?_set_ne e, wipe_get]
      have : (i ∈ v :: vs) ↔ i ∈ vs := by
        rw [List.mem_cons]
        exact ⟨fun h => h.resolve_left fun z => e z.symm, .inr⟩
      simp only [this]
theorem wipe_idem (σ : St) (vs : List Nat) : wipe (wipe σ vs) vs = wipe σ vs := by
  apply List.ext_getElem?
  intro i
  rw [wipe_get, wipe_get]
  split
  · cases σ[i]? <;> rfl
  · rfl
def W0 : WX := fun _ _ _ _ => False
theorem Stp.chain {ρ1 ρ' ρ'' : Rho} {H1 H' H'' : Hp} (a : Stp ρ1 H1 ⟨ρ'.l, ρ1.rs⟩ H') (b : Stp ρ' H' ρ'' H'') : Stp ρ1 H1 ⟨ρ''.l, ρ1.rs⟩ H'' :=
  a.trans ⟨b.keep, b.len, b.at_, b.new, rfl⟩
theorem Stp.reR {ρ1 ρ' : Rho} {H1 H' : Hp} {D : Addr} (a : Stp ρ1 H1 ⟨ρ'.l, ρ1.rs⟩ H') (L : Live ρ1 H1) (h : ρ'.rs = D :: ρ1.rs) (hD : H1 D = none) : StpR ρ1 H1 ρ' H' :=
  ⟨(a.toR L).keep, (a.toR L).keepR, a.at_, fun x hx => by
    rcases hx with hx | hx
    · exact (a.toR L).out x (.inl hx)
    · rw [h] at hx
      rcases List.mem_cons.mp hx with rfl | hx
      · exact .inr hD
      · exact .inl (.inr hx)⟩
theorem stp_fill {ρ1 : Rho} {l : List (Option Addr)} {H1 H' : Hp} {D : Addr} {o : HO} (a : Stp ρ1 H1 ⟨l, ρ1.rs⟩ H') (hD : H1 D = none) : Stp ρ1 H1 ⟨l, ρ1.rs⟩ (upd H' D o) :=
  ⟨fun x u e n => by
    rw [upd_ne fun z => by rw [z, hD] at e; cases e]
    exact a.keep x u e n, a.len, a.at_, a.new, rfl⟩
theorem stpR_fill {ρ : Rho} {H : Hp} {D : Addr} {acc acc' : List V} (h : D ∈ ρ.rs) (e : H D = some (.lst acc)) : StpR ρ H ρ (upd H D (.lst acc')) :=
  ⟨fun x u q _ n => by
    rw [upd_ne fun z => n (by rw [z]; exact h)]
    exact q, fun x u q m => by
    rw [upd_ne fun z => by
      rw [z, e] at q
      cases q
      cases m]
    exact q, fun _ _ q => .inl q, fun _ q => .inl q⟩
theorem hr_fill {G : Gx} {ρ : Rho} {H : Hp} {hs : Hs} {D : Addr} {acc acc' : List V} (R : HR G ρ hs H) (h : D ∈ ρ.rs) (e : H D = some (.lst acc)) : HR G ρ hs (upd H D (.lst acc')) := by
  refine R.stepR (stpR_fill h e) rfl (fun a ha => ?_) fun a ha => ?_
  · exact upd_ne fun z => (R.rsv D h).1 (by rw [← z]; exact ha)
  · obtain ⟨h1, xs, h2⟩ := R.rsv a ha
    refine ⟨h1, ?_⟩
    by_cases z : a = D
    · subst z; exact ⟨acc', upd_same⟩
    · exact ⟨xs, by rw [upd_ne z]; exact h2⟩
section
variable {G : Gx} {Γ : Cs} {cl : Cal} {W : WX} {xa : Option Xa} {X : Cx} {tg iter elt : Expr} {ifs : List Expr} {scope : Scope} {pos : Pos} {fi : En → Hs → R (List T)} {fc : En → Hs → R Bool} {fe : En → Hs → R T}
def bodyL (t : Tg) (vs : List Nat) (fc : En → Hs → R Bool) (fe : En → Hs → R T) (env : En) (x : T) (h2 : Hs) : R (Option T) := match bindG t x (wipeT env vs) with
  | none => .bad
  | some env1 => (fc env1 h2).bind fun k h3 => if k = true then (fe env1 h3).bind fun y h4 => .ok (some y) h4 else .ok none h3
theorem tLc_of {m : Bool} {t : Tg} {vs : List Nat} (hsl : ∀ i ∈ t.slots, i ∈ vs) {σ : St} {H : Hp} {Q : VK} (q : tV G none W (fun env h => ((fi env h).bind fun xs h1 => (compL (bodyL t vs fc fe env) xs h1).nox).bind fun ys h5 =>
      if ys.length ≤ lim then (if m = true then .ok (.ref h5.length) (h5 ++ [.lst ys]) else .ok (.lst ys) h5) else .bad) σ H Q) : tLc (tI G none W fi) (gT G none t) (tK G none W0 fc) (tV G none W0 fe) vs σ H Q := by
  obtain ⟨ρ, env, hs, er, hr, p⟩ := q
  change Post G (Rv G) ρ H _ (((fi env hs).bind _).bind _) Q at p
  rw [R.bind_assoc] at p
  refine ⟨ρ, env, hs, er, hr, Post.mono (fun J H1 ⟨ρ1, hs1, xs, st1, hr1, jit, p1⟩ D hD => ?_) (Post.bind (RA := JIt G) p)⟩
  cases e : compL (bodyL t vs fc fe env) xs hs1 with
  | exc c zs h => rw [e] at p1; exact p1.elim
  | bad => rw [e] at p1; exact p1.elim
  | ok Y h5 =>
    rw [e] at p1
    change Post G (Rv G) ρ1 H1 _ (if Y.length ≤ lim then (if m = true then .ok (.ref h5.length) (h5 ++ [.lst Y]) else .ok (.lst Y) h5) else .bad) Q at p1
    by_cases hl : Y.length ≤ lim
    · rw [if_pos hl] at p1
      have lim1 : lim < sizeLine := by rw [sizeLine_eq]; decide
      have nD : some D ∉ ρ1.l ∧ D ∉ ρ1.rs := new_out hr1 hD
      refine ⟨fun i m H' => ∃ ρ' hs' acc A, m = xs.length - i ∧ i ≤ xs.length ∧ ρ'.rs = D :: ρ1.rs ∧ Stp ρ1 H1 ⟨ρ'.l, ρ1.rs⟩ H' ∧ HR G ρ' hs' H' ∧ H' D = some (.lst acc) ∧ RvL G ρ' H' A acc ∧
        ∃ ys, compL (bodyL t vs fc fe env) (xs.drop i) hs' = .ok ys h5 ∧ A ++ ys = Y, ?_, ?_⟩
      · have sr : StpR ρ1 H1 ⟨ρ1.l, D :: ρ1.rs⟩ (upd H1 D (.lst [])) := Stp.reR (ρ' := ⟨ρ1.l, D :: ρ1.rs⟩) (.ext (ext_upd hD)) hr1.Live rfl hD
        refine ⟨xs.length, ⟨ρ1.l, D :: ρ1.rs⟩, hs1, [], [], by simp, Nat.zero_le _, rfl, .ext (ext_upd hD), ?_, upd_same, rvl_nil, Y, by simpa using e, rfl⟩
        refine hr1.stepR sr rfl (fun a ha => upd_ne fun z => nD.1 (by rw [← z]; exact ha)) fun a ha => ?_
        rcases List.mem_cons.mp ha with rfl | ha
        · exact ⟨nD.1, [], upd_same⟩
        · obtain ⟨h1, xs, h2⟩ := hr1.rsv a ha
          exact ⟨h1, xs, ext_upd hD _ _ h2⟩
      · intro i n H' ⟨ρ', hs', acc, A, hn, hle, hrs, st, hr', hacc, rl, ys, ec, eY⟩
        have sr : StpR ρ1 H1 ρ' H' := st.reR hr1.Live hrs hD
        have lenA : acc.length = A.length := rl.len
        have lenY : A.length + ys.length = Y.length := by rw [← eY, List.length_append]
        by_cases hi' : i = xs.length
        · subst hi'
          rw [List.drop_length] at ec
          cases ec
          rw [List.append_nil] at eY
          subst eY
          refine .inl ⟨jit.stop _ ρ' H' sr (Nat.le_refl _), ?_⟩
          obtain ⟨l, rs⟩ := ρ'
          change rs = D :: ρ1.rs at hrs
          subst hrs
          cases m with
          | true =>
            rw [if_pos rfl] at p1
            obtain ⟨z1, z2⟩ := hr'.take nD.2 hacc rl
            refine p1 ⟨l ++ [some D], ρ1.rs⟩ H' _ ⟨st.keep, ?_, fun k o h => ?_, fun a h => ?_, rfl⟩ z1 z2
            · show _ ≤ (l ++ [some D]).length
              rw [List.length_append]
              exact Nat.le_trans st.len (Nat.le_add_right _ _)
            · show (l ++ [some D])[k]? = _ ∨ (l ++ [some D])[k]? = _
              rcases st.at_ k o h with q | q
              all_goals
                change l[k]? = _ at q
                have hk := (List.getElem?_eq_some_iff.mp q).1
                rw [List.getElem?_append_left hk]
              · exact .inl q
              · exact .inr q
            · rcases List.mem_append.mp h with q | q
              · exact st.new a q
              · have : a = D := by simpa using q
                exact .inr (by rw [this]; exact hD)
          | false =>
            rw [if_neg (by decide)] at p1
            have dr : StpR ⟨l, D :: ρ1.rs⟩ H' ⟨l, ρ1.rs⟩ H' := ⟨fun _ _ h _ _ => h, fun _ _ h _ => h, fun _ _ h => .inl h, fun a h => .inl (by
              rcases h with h | h
              · exact .inl h
              · exact .inr (List.mem_cons_of_mem _ h))⟩
            refine p1 ⟨l, ρ1.rs⟩ H' _ st (hr'.stepR dr rfl (fun _ _ => rfl) fun a h => hr'.rsv a (List.mem_cons_of_mem _ h)) ?_
            simp only [Rv]
            exact ⟨D, acc, rfl, hacc, RvL.stepR dr _ _ rl, (hr'.rsv D List.mem_cons_self).1, nD.2⟩
        · have hlt : i < xs.length := by omega
          rw [List.drop_eq_getElem_cons hlt] at ec
          have exi : xs[i]? = some xs[i] := List.getElem?_eq_getElem hlt
          refine .inr ⟨jit.go i ρ' H' sr hlt, _, fun H2 h2 => ⟨xs.length - (i + 1), by omega, h2⟩, fun x H'' hy => ?_⟩
          obtain ⟨rfl, rv⟩ := jit.yld i x ρ' H' H'' _ sr exi hy
          generalize xs[i] = tt at ec rv
          have er' : EnR G none ρ' H'' (wipeT env vs) (wipe σ vs) := ((er.step hr.Live st1).stepR sr).wipe _ fun i _ q hq => by cases hq
          simp only [compL, bodyL] at ec
          cases eb : bindG t tt (wipeT env vs) with
          | none => rw [eb] at ec; cases ec
          | some env1 =>
            rw [eb] at ec
            dsimp only at ec
            refine ⟨ρ', _, tt, env1, er', rv, eb, fun σ1 er1 ho => ⟨by rw [ho _ hsl, wipe_idem], ?_⟩⟩
            cases ecd : fc env1 hs' with
            | exc c zs h => rw [ecd] at ec; cases ec
            | bad => rw [ecd] at ec; cases ec
            | ok k h3 =>
              rw [ecd] at ec
              refine ⟨ρ', env1, hs', er1, hr', ?_⟩
              rw [ecd]
              intro ρ3 H3 b st3 hr3 hb
              have hb' : k = b := hb
              subst hb'
              have hrs3 : ρ3.rs = D :: ρ1.rs := st3.rse.trans hrs
              have memD : D ∈ ρ'.rs := by rw [hrs]; exact List.mem_cons_self
              have hacc3 : H3 D = some (.lst acc) := st3.keep _ _ hacc (hr'.rsv D memD).1
              have stA := st.chain st3
              have rl3 := RvL.step hr'.Live st3 _ _ rl
              cases k with
              | false =>
                rw [if_neg (by decide)]
                change (compL (bodyL t vs fc fe env) (xs.drop (i + 1)) h3).bind (fun ys h2 => .ok ys h2) = .ok ys h5 at ec
                refine ⟨ρ3, h3, acc, A, rfl, by omega, hrs3, stA, hr3, hacc3, rl3, ys, ?_, eY⟩
                cases e2 : compL (bodyL t vs fc fe env) (xs.drop (i + 1)) h3 with
                | exc c zs h => rw [e2] at ec; cases ec
                | bad => rw [e2] at ec; cases ec
                | ok z1 z2 => rw [e2] at ec; exact ec
              | true =>
                rw [if_pos rfl]
                change (((fe env1 h3).bind fun y h4 => .ok (some y) h4).bind _) = .ok ys h5 at ec
                cases ee : fe env1 h3 with
                | exc c zs h => rw [ee] at ec; cases ec
                | bad => rw [ee] at ec; cases ec
                | ok y h4 =>
                  rw [ee] at ec
                  refine ⟨ρ3, env1, h3, er1.step hr'.Live st3, hr3, ?_⟩
                  rw [ee]
                  intro ρ4 H4 v st4 hr4 rv4
                  have memD3 : D ∈ ρ3.rs := by rw [hrs3]; exact List.mem_cons_self
                  have hacc4 : H4 D = some (.lst acc) := st4.keep _ _ hacc3 (hr3.rsv D memD3).1
                  have hrs4 : ρ4.rs = D :: ρ1.rs := st4.rse.trans hrs3
                  have memD4 : D ∈ ρ4.rs := by rw [hrs4]; exact List.mem_cons_self
                  change (compL (bodyL t vs fc fe env) (xs.drop (i + 1)) h4).bind (fun ys h2 => .ok (y :: ys) h2) = .ok ys h5 at ec
                  cases e2 : compL (bodyL t vs fc fe env) (xs.drop (i + 1)) h4 with
                  | exc c zs h => rw [e2] at ec; cases ec
                  | bad => rw [e2] at ec; cases ec
                  | ok z1 z2 =>
                    rw [e2] at ec
                    cases ec
                    refine ⟨acc, hacc4, ?_, ρ4, h4, acc ++ [v], A ++ [y], rfl, by omega, hrs4, stp_fill (stA.chain st4) hD, hr_fill hr4 memD4 hacc4, upd_same, ?_, z1, e2, by rw [← eY]; simp⟩
                    · rw [List.length_cons] at lenY
                      omega
                    · exact RvL.stepR (stpR_fill memD4 hacc4) _ _ ((RvL.step hr3.Live st4 _ _ rl3).app (.one rv4))
    · rw [if_neg hl] at p1
      exact p1.elim
theorem pe_compF {m : Bool} {t : Tg} {own : List (Str × Nat)} {vs : List Nat} (ok : Ok G Γ cl W xa X) (hh : Γ.hot = false) (hi : PI X tg iter (tI G xa W fi)) (bok : BlkOk X.N X.env.scope scope own) (hv : own.map (·.2) = vs) (hsl : ∀ i ∈ t.slots, i ∈ vs)
    (hg : ∀ (s : Shared) (H : Hp) (C : Addr) (cl : List (Str × Addr)) (fp : List Addr), PG (X.blk s H scope (compEnvC scope cl C X.env) fp) tg (gT G none t))
    (ht : ∀ (s : Shared) (H : Hp) (C : Addr) (cl : List (Str × Addr)) (fp : List Addr), PTs (X.blk s H scope (compEnvC scope cl C X.env) fp) ifs (tK G none W0 fc))
    (he : ∀ (s : Shared) (H : Hp) (C : Addr) (cl : List (Str × Addr)) (fp : List Addr), PE (X.blk s H scope (compEnvC scope cl C X.env) fp) elt (tV G none W0 fe)) (hs' : ∀ x, foldedSetIterable iter X.env x = pure x) :
    PE X (.ListComp elt [⟨tg, iter, ifs, 0⟩] scope pos) (tV G xa W fun env h => ((fi env h).bind fun xs h1 => (compL (bodyL t vs fc fe env) xs h1).nox).bind fun ys h5 =>
      if ys.length ≤ lim then (if m = true then .ok (.ref h5.length) (h5 ++ [.lst ys]) else .ok (.lst ys) h5) else .bad) := by
  obtain ⟨hc, _, hxa, _⟩ := ok.cool hh
  subst hxa
  subst hv
  exact pe_imp (pe_lc hc ok.nod hi bok hg ht he hs') fun σ H Q q => tLc_of hsl q
end
end Fs
end

section
set_option Elab.async false
set_option linter.all false
set_option maxRecDepth 100000
/-! Fs11: an expression of the text does what its term does. -/
namespace Fs
open PySem L2
theorem Ok.blk {G : Gx} {Γ : Cs} {cl : Cal} {W : WX} {xa : Option Xa} {X : Cx} (ok : Ok G Γ cl W xa X) (hh : Γ.hot = false) (scope : Scope) (s : Shared) (H : Hp) (C : Addr) (cl' : List (Str × Addr)) (fp : List Addr) :
    Ok G (Γ.blk scope) cl W0 none (X.blk s H scope (compEnvC scope cl' C X.env) fp) where
  pr := ok.pr
  K := ok.K
  N := ok.N
  sc := by
    show relabel scope X.env = relS scope Γ.sc
    rw [← ok.sc]
    rfl
  D := ok.D
  nod := ok.nod
  fnc := fun y => rfl
  units := ok.units
  cool := fun _ => by
    obtain ⟨h1, h2, h3, h4⟩ := ok.cool hh
    exact ⟨h1, h2, rfl, h4⟩
  hotx := fun z => by
    have : Γ.hot = true := z
    rw [hh] at this
    cases this
  tk := fun u s' ⟨_, _, _, _, _, _, _, _, _, _, _, _, _, _, _, _, w⟩ => w.elim
theorem frz_rv {G : Gx} {ρ : Rho} {H : Hp} {hs : Hs} {k : Nat} {ts : List T} {v : V} (hr : HR G ρ hs H) (e : hs[k]? = some (.lst ts)) (rv : Rv G ρ H (.ref k) v) : Rv G (ρ.off k) H (.lst ts) v := by
  obtain ⟨a, rfl, hk, xs, q, rl⟩ := hr.at_ e (by simp) rv
  simp only [Rv]
  refine ⟨a, xs, rfl, q, RvL.step hr.Live .off _ _ rl, fun z => ?_, fun z => (hr.rsv a z).1 (mem_rho hk)⟩
  obtain ⟨j, hj, ej⟩ := List.mem_iff_getElem.mp z
  have ej' : (ρ.l.set k none)[j]? = some (some a) := by
    have hj' : j < (ρ.l.set k none).length := hj
    rw [List.getElem?_eq_getElem hj']
    exact congrArg some ej
  by_cases y : k = j
  · subst y
    rw [List.getElem?_set_self (List.getElem?_eq_some_iff.mp hk).1] at ej'
    cases ej'
  · rw [List.getElem?_set_ne y] at ej'
    exact y (hr.inj _ _ _ hk ej')
theorem pt_bad {G : Gx} {xa : Option Xa} {W : WX} {X : Cx} {x : Expr} : PT X x (tK G xa W fun _ _ => .bad) := ⟨fun _ _ _ _ _ _ q => by
  obtain ⟨ρ, env, hs, er, hr, p⟩ := q
  exact p.elim⟩
theorem pts_yes {G : Gx} {xa : Option Xa} {W : WX} {X : Cx} : PTs X [] (tK G xa W fun _ h => .ok true h) := ⟨fun pins s σ H Q I q => by
  obtain ⟨ρ, env, hs, er, hr, p⟩ := q
  exact pts_nil.run pins s σ H Q I (p ρ H true .refl hr rfl)⟩
section
variable (G : Gx) (cl : Cal)
mutual
theorem soundE : ∀ (e : E) {Γ : Cs} {W : WX} {xa : Option Xa} {X : Cx} {x : Expr}, Ok G Γ cl W xa X → chkE Γ e x = true →
    PE X x (tV G xa W fun env h => (ev G.D cl e env h).v) ∧ PT X x (tK G xa W fun env h => (ev G.D cl e env h).t)
  | .non, Γ, W, xa, X, x, ok, h => by
    simp only [chkE] at h
    split at h
    · have v := pe_ofC (G := G) (xa := xa) (W := W) (t := .non) (pe_non (X := X) (j := ‹_›) (pos := ‹_›)) (fun _ _ => rv_non)
      exact ⟨v, pt_ofV ok.K v fun _ => rfl⟩
    · cases h
  | .bl b, Γ, W, xa, X, x, ok, h => by
    simp only [chkE] at h
    split at h
    · have e := of_decide_eq_true h
      subst e
      have v := pe_ofC (G := G) (xa := xa) (W := W) (t := .bl b) (pe_bl (X := X) (b := b) (j := ‹_›) (pos := ‹_›)) (fun _ _ => rv_bl)
      exact ⟨v, pt_ofV ok.K v fun _ => rfl⟩
    · cases h
  | .int i, Γ, W, xa, X, x, ok, h => by
    simp only [chkE] at h
    split at h
    · have e := of_decide_eq_true h
      subst e
      have v := pe_ofC (G := G) (xa := xa) (W := W) (t := .int i) (pe_int (X := X) (i := i) (j := ‹_›) (pos := ‹_›)) (fun _ _ => rv_int)
      exact ⟨v, pt_ofV ok.K v fun _ => rfl⟩
    · cases h
  | .str s, Γ, W, xa, X, x, ok, h => by
    simp only [chkE] at h
    split at h
    · have e := of_decide_eq_true h
      subst e
      have v := pe_ofC (G := G) (xa := xa) (W := W) (t := .str s) (pe_str (X := X) (x := s) (j := ‹_›) (pos := ‹_›)) (fun _ _ => rv_str)
      exact ⟨v, pt_ofV ok.K v fun _ => rfl⟩
    · cases h
  | .var i, Γ, W, xa, X, x, ok, h => by
    simp only [chkE] at h
    split at h
    · rename_i y pos
      have v := pe_varF (pos := pos) ok h
      exact ⟨v, pt_ofV ok.K v fun _ => rfl⟩
    · cases h
  | .glob g, Γ, W, xa, X, x, ok, h => by
    simp only [chkE] at h
    split at h
    · rename_i y pos
      rw [Bool.and_eq_true] at h
      obtain ⟨h1, h2⟩ := h
      rw [ok.D] at h2
      split at h2
      · rename_i q hq
        have v := pe_globF (pos := pos) ok h1 hq (of_decide_eq_true h2)
        exact ⟨v, pt_ofV ok.K v fun _ => rfl⟩
      · cases h2
    · cases h
  | .fnv f, Γ, W, xa, X, x, ok, h => by
    simp only [chkE] at h
    split at h
    · rename_i y pos
      rw [Bool.and_eq_true] at h
      obtain ⟨h1, h2⟩ := h
      rw [ok.D] at h2
      split at h2
      · rename_i fn hf
        rw [Bool.and_eq_true] at h2
        have v := pe_fnvF (pos := pos) ok h1 hf (Option.isNone_iff_eq_none.mp h2.2) (of_decide_eq_true h2.1)
        exact ⟨v, pt_ofV ok.K v fun _ => rfl⟩
      · cases h2
    · cases h
  | .bin o a b, Γ, W, xa, X, x, ok, h => by
    simp only [chkE] at h
    split at h
    · simp only [Bool.and_eq_true] at h
      obtain ⟨h1, h2, h3⟩ := h
      have v := pe_binF (pos := ‹_›) ok.K h1 (soundE a ok h2).1 (soundE b ok h3).1
      exact ⟨v, pt_ofV ok.K v fun _ => rfl⟩
    · cases h
  | .neg a, Γ, W, xa, X, x, ok, h => by
    simp only [chkE] at h
    split at h
    · have v := pe_negF (pos := ‹_›) (soundE a ok h).1
      exact ⟨v, pt_ofV ok.K v fun _ => rfl⟩
    · cases h
  | .nott a, Γ, W, xa, X, x, ok, h => by
    simp only [chkE] at h
    split at h
    · exact ⟨pe_notF ok.K (soundE a ok h).1, pt_notF (soundE a ok h).2⟩
    · cases h
  | .andv xs, Γ, W, xa, X, x, ok, h => by
    simp only [chkE] at h
    split at h
    · rename_i ys pos
      obtain ⟨_, k⟩ := soundL xs ok h
      by_cases hy : ys = []
      · subst hy
        cases xs with
        | nil => exact ⟨⟨fun _ _ _ _ _ _ q => by obtain ⟨ρ, env, hs, er, hr, p⟩ := q; exact p.elim⟩, pt_bad⟩
        | cons _ _ => simp [chkL] at h
      · obtain ⟨h1, h2, _⟩ := k pos hy
        exact ⟨h1, h2.pt⟩
    · cases h
  | .orv xs, Γ, W, xa, X, x, ok, h => by
    simp only [chkE] at h
    split at h
    · rename_i ys pos
      obtain ⟨_, k⟩ := soundL xs ok h
      by_cases hy : ys = []
      · subst hy
        cases xs with
        | nil => exact ⟨⟨fun _ _ _ _ _ _ q => by obtain ⟨ρ, env, hs, er, hr, p⟩ := q; exact p.elim⟩, pt_bad⟩
        | cons _ _ => simp [chkL] at h
      · obtain ⟨_, _, h1, h2⟩ := k pos hy
        exact ⟨h1, h2.pt⟩
    · cases h
  | .cmp o a b, Γ, W, xa, X, x, ok, h => by
    simp only [chkE] at h
    split at h
    · simp only [Bool.and_eq_true] at h
      obtain ⟨h1, h2, h3⟩ := h
      exact ⟨pe_cmpF ok.K (units64 ok) h1 (chkE_plain h3) (soundE a ok h2).1 (soundE b ok h3).1, pt_cmpF ok.K (units64 ok) h1 (chkE_plain h3) (soundE a ok h2).1 (soundE b ok h3).1⟩
    · cases h
  | .cmp2 o o2 a b c, Γ, W, xa, X, x, ok, h => by
    simp only [chkE] at h
    split at h
    · simp only [Bool.and_eq_true] at h
      obtain ⟨⟨h1, h2⟩, h3, h4, h5⟩ := h
      exact ⟨pe_cmp2F ok.K (units64 ok) h1 h2 (chkE_plain h5) (soundE a ok h3).1 (soundE b ok h4).1 (soundE c ok h5).1, pt_cmp2F ok.K (units64 ok) h1 h2 (chkE_plain h5) (soundE a ok h3).1 (soundE b ok h4).1 (soundE c ok h5).1⟩
    · cases h
  | .ite c a b, Γ, W, xa, X, x, ok, h => by
    simp only [chkE] at h
    split at h
    · simp only [Bool.and_eq_true] at h
      obtain ⟨h1, h2, h3⟩ := h
      exact ⟨pe_iteF (soundE c ok h1).2 (soundE a ok h2).1 (soundE b ok h3).1, pt_iteF (soundE c ok h1).2 (soundE a ok h2).2 (soundE b ok h3).2⟩
    · cases h
  | .tup xs, Γ, W, xa, X, x, ok, h => by
    simp only [chkE] at h
    split at h
    · have v := pe_tupF (k := ‹_›) (pos := ‹_›) (soundL xs ok h).1
      exact ⟨v, pt_ofV ok.K v fun _ => rfl⟩
    · cases h
  | .lstI xs, Γ, W, xa, X, x, ok, h => by
    simp only [chkE] at h
    split at h
    · have v := pe_lstIF (pos := ‹_›) (soundL xs ok h).1
      exact ⟨v, pt_ofV ok.K v fun _ => rfl⟩
    · cases h
  | .lstM xs, Γ, W, xa, X, x, ok, h => by
    simp only [chkE] at h
    split at h
    · have v := pe_lstMF (pos := ‹_›) (soundL xs ok h).1
      exact ⟨v, pt_ofV ok.K v fun _ => rfl⟩
    · cases h
  | .ix a i, Γ, W, xa, X, x, ok, h => by
    simp only [chkE] at h
    split at h
    · simp only [Bool.and_eq_true] at h
      have v := pe_ixF (pos := ‹_›) ok.K (chkE_plain h.2) (soundE a ok h.1).1 (soundE i ok h.2).1
      exact ⟨v, pt_ofV ok.K v fun _ => rfl⟩
    · cases h
  | .sl a lo hi, Γ, W, xa, X, x, ok, h => by
    simp only [chkE] at h
    split at h
    · rename_i l p q p2 pos
      simp only [Bool.and_eq_true] at h
      obtain ⟨h1, h2, h3⟩ := h
      have pl : PO X p (tP G xa W fun env h1 => if lo.isAbs = true then .ok none h1 else (ev G.D cl lo env h1).v.bind fun y h2 => R.ofO ((intT y).map some) h2) := by
        cases p with
        | none =>
          have : lo.isAbs = true := h2
          simp only [this, if_true]
          exact po_noneF
        | some y =>
          simp only [Bool.and_eq_true, Bool.not_eq_true'] at h2
          simp only [h2.1, Bool.false_eq_true, if_false]
          exact po_someF (soundE lo ok h2.2).1
      have ph : PO X q (tP G xa W fun env h1 => if hi.isAbs = true then .ok none h1 else (ev G.D cl hi env h1).v.bind fun y h2 => R.ofO ((intT y).map some) h2) := by
        cases q with
        | none =>
          have : hi.isAbs = true := h3
          simp only [this, if_true]
          exact po_noneF
        | some y =>
          simp only [Bool.and_eq_true, Bool.not_eq_true'] at h3
          simp only [h3.1, Bool.false_eq_true, if_false]
          exact po_someF (soundE hi ok h3.2).1
      have v := pe_slF (pos := pos) (p2 := p2) ok.K (soundE a ok h1).1 pl ph
      exact ⟨v, pt_ofV ok.K v fun _ => rfl⟩
    · cases h
  | .absent, Γ, W, xa, X, x, ok, h => by simp [chkE] at h
  | .call f xs, Γ, W, xa, X, x, ok, h => by
    simp only [chkE] at h
    split at h
    · rename_i y p ys pos
      simp only [Bool.and_eq_true, Bool.not_eq_true'] at h
      obtain ⟨⟨h1, h2⟩, h3, h4⟩ := h
      rw [ok.D] at h3
      split at h3
      · rename_i fn hf
        rw [Bool.and_eq_true] at h3
        have v := pe_callF (p := p) (pos := pos) ok h1 h2 hf (Option.isNone_iff_eq_none.mp h3.2) (of_decide_eq_true h3.1) (chkL_plain h4) (soundL xs ok h4).1 (fun e env hs => by
          subst e
          cases xs with
          | nil => rfl
          | cons _ _ => simp [chkL] at h4)
        exact ⟨v, pt_ofV ok.K v fun _ => rfl⟩
      · cases h3
    · cases h
  | .meth f o xs, Γ, W, xa, X, x, ok, h => by
    simp only [chkE] at h
    split at h
    · rename_i ob m apos ys pos
      simp only [Bool.and_eq_true, Bool.not_eq_true', decide_eq_true_eq] at h
      obtain ⟨⟨h1, h2, h3, h4⟩, h5, h6, h7⟩ := h
      rw [ok.D] at h5
      split at h5
      · rename_i fn hf
        rw [Bool.and_eq_true] at h5
        have v := pe_methF (apos := apos) (pos := pos) ok h1 hf (of_decide_eq_true h5.1) h2 h3 h4 (chkL_plain h7) (soundE o ok h6).1 (soundL xs ok h7).1 (fun e env hs => by
          subst e
          cases xs with
          | nil => rfl
          | cons _ _ => simp [chkL] at h7)
        exact ⟨v, pt_ofV ok.K v fun _ => rfl⟩
      · cases h5
    · cases h
  | .new c xs, Γ, W, xa, X, x, ok, h => by
    simp only [chkE] at h
    split at h
    · rename_i y p ys pos
      simp only [Bool.and_eq_true, Bool.not_eq_true'] at h
      obtain ⟨⟨h1, h2⟩, h3, h4⟩ := h
      rw [ok.D] at h3
      split at h3
      · rename_i nm i fl hc
        have en := of_decide_eq_true h3
        subst en
        have v := pe_newF (p := p) (pos := pos) ok h1 h2 hc (chkL_plain h4) (soundL xs ok h4).1 (fun e env hs => by
          subst e
          cases xs with
          | nil => rfl
          | cons _ _ => simp [chkL] at h4)
        have ei : initOf G.D c = some i := by unfold initOf; rw [hc]
        have v2 : PE X (.Call (.Name nm p) ys [] pos) (tV G xa W fun env h => (ev G.D cl (.new c xs) env h).v) := by
          rw [tV_congr (g := fun env h => (evL G.D cl xs env h).bind fun ts h1 => newR cl c i ts h1) fun env hs => by
            show ((evL G.D cl xs env hs).bind _) = _
            congr 1
            funext ts h1
            rw [ei]
            rfl]
          exact v
        exact ⟨v2, pt_ofV ok.K v2 fun _ => rfl⟩
      · cases h3
    · cases h
  | .bi b xs, Γ, W, xa, X, x, ok, h => by
    unfold chkE at h
    split at h
    · rename_i y p ys pos
      simp only [Bool.and_eq_true, decide_eq_true_eq] at h
      obtain ⟨⟨h1, h2, h3⟩, h4⟩ := h
      subst h3
      by_cases hb : notIsi b = true
      · have h5 : ys ≠ [] ∧ chkL Γ xs ys = true := by
          cases b <;> first
            | (simp only [Bool.and_eq_true, Bool.not_eq_true', List.isEmpty_eq_false_iff] at h4; exact h4)
            | cases hb
        obtain ⟨h5, h6⟩ := h5
        cases ys with
        | nil => exact (h5 rfl).elim
        | cons y r =>
          have v := pe_biF (p := p) (pos := pos) ok hb h1 h2 (chkL_plain h6) (soundL xs ok h6).1
          exact ⟨v, pt_ofV ok.K v fun _ => rfl⟩
      · cases b <;> first | exact (hb rfl).elim | skip
        rename_i k
        dsimp only at h4
        split at h4
        · rename_i a p' z apos
          simp only [Bool.and_eq_true, decide_eq_true_eq] at h4
          obtain ⟨h5, h6, h7, h8⟩ := h4
          subst h7
          have hk : k ≠ .non := fun z => by
            subst z
            cases h8
          have v := pe_isiF (p := p) (pos := pos) (apos := apos) (k := k) ok hk h2 h6 (chkE_plain h5) (soundE a ok h5).1
          have v2 : PE X (.Call (.Name "isinstance" p) [p', .Name (kdNm k) apos] [] pos) (tV G xa W fun env h => (ev G.D cl (.bi (.isinst k) (.cons a .nil)) env h).v) := by
            rw [tV_congr (g := fun env h => (ev G.D cl a env h).v.bind fun x h1 => R.ofO (biT (.isinst k) h1 [x]) h1) fun env hs => by
              show ((evL G.D cl (.cons a .nil) env hs).bind _) = _
              show (((ev G.D cl a env hs).v.bind fun x h1 => (R.ok ([] : List T) h1).bind fun xs h2 => .ok (x :: xs) h2).bind _) = _
              rw [R.bind_assoc]
              rfl]
            exact v
          exact ⟨v2, pt_ofV ok.K v2 fun _ => rfl⟩
        · cases h4
    · cases h
  | .bm m o xs, Γ, W, xa, X, x, ok, h => by
    simp only [chkE] at h
    split at h
    · rename_i ob y apos ys pos
      simp only [Bool.and_eq_true, Bool.not_eq_true', decide_eq_true_eq] at h
      obtain ⟨⟨⟨h1, h2⟩, h3, h4, h5, h6⟩, h7, h8, h9⟩ := h
      subst h3
      cases ys with
      | nil => cases h7
      | cons y r =>
        have v := pe_bmF (apos := apos) (pos := pos) ok h1 h4 h5 h6 (chkL_plain h9) (soundE o ok h8).1 (soundL xs ok h9).1
        exact ⟨v, pt_ofV ok.K v fun _ => rfl⟩
    · cases h
  | .attr o f, Γ, W, xa, X, x, ok, h => by
    simp only [chkE] at h
    split at h
    · rename_i ob y pos
      simp only [Bool.and_eq_true, decide_eq_true_eq] at h
      obtain ⟨⟨h1, h2⟩, h3⟩ := h
      subst h1
      have v := pe_attrF (pos := pos) (f := f) ok h2 (soundE o ok h3).1
      exact ⟨v, pt_ofV ok.K v fun _ => rfl⟩
    · cases h
  | .exf f, Γ, W, xa, X, x, ok, h => by
    simp only [chkE] at h
    split at h
    · rename_i y p g pos
      simp only [Bool.and_eq_true, decide_eq_true_eq] at h
      obtain ⟨⟨h1, h2⟩, h3⟩ := h
      subst h2
      split at h3
      · rename_i i hi
        rw [Bool.and_eq_true] at h3
        have v := pe_exfF (pos := pos) (f := f) ok h1 hi h3.1 h3.2
        exact ⟨v, pt_ofV ok.K v fun _ => rfl⟩
      · cases h3
    · cases h
  | .comp m t it c e vs, Γ, W, xa, X, x, ok, h => by
    simp only [chkE] at h
    split at h
    · rename_i elt tg iter ifs scope pos
      simp only [Bool.and_eq_true, Bool.not_eq_true', decide_eq_true_eq] at h
      obtain ⟨⟨h1, h2, h3, h4⟩, h5, h6, h7, h8⟩ := h
      have bok : BlkOk X.N X.env.scope scope (ownOf Γ.N vs) := by rw [ok.N, ok.sc]; exact blkOk_by h3
      have hsl : ∀ i ∈ t.slots, i ∈ vs := fun i hi => of_decide_eq_true (List.all_eq_true.mp h4 i hi)
      obtain ⟨hi, hf⟩ := soundI it ok h5
      have ht : ∀ (s : Shared) (H : Hp) (C : Addr) (cl' : List (Str × Addr)) (fp : List Addr), PTs (X.blk s H scope (compEnvC scope cl' C X.env) fp) ifs (tK G none W0 fun env h => if c.isAbs = true then .ok true h else (ev G.D cl c env h).t) := fun s H C cl' fp => by
        split at h7
        · simp only [h7, if_true]
          exact pts_yes
        · rename_i y
          simp only [Bool.and_eq_true, Bool.not_eq_true'] at h7
          simp only [h7.1, Bool.false_eq_true, if_false]
          exact pts_one (soundE c (ok.blk h1 scope s H C cl' fp) h7.2).2
        · cases h7
      have v := pe_compF (m := m) (pos := pos) ok h1 (hi tg) bok h2 hsl (fun s H C cl' fp => pg_tgF (ok.blk h1 scope s H C cl' fp) h6) ht (fun s H C cl' fp => (soundE e (ok.blk h1 scope s H C cl' fp) h8).1) hf
      exact ⟨v, pt_ofV ok.K v fun _ => rfl⟩
    · cases h
  | .fstr xs, Γ, W, xa, X, x, ok, h => by
    simp only [chkE] at h
    split at h
    · rename_i ys pos
      simp only [Bool.and_eq_true, Bool.not_eq_true', List.isEmpty_eq_false_iff] at h
      have v := pe_fstrF (pos := pos) h.2 (soundF xs ok h.1)
      exact ⟨v, pt_ofV ok.K v fun _ => rfl⟩
    · cases h
  | .frz e, Γ, W, xa, X, x, ok, h => by
    change chkE Γ e x = true at h
    refine ⟨pe_imp (soundE e ok h).1 fun σ H Q q => ?_, pt_bad⟩
    obtain ⟨ρ, env, hs, er, hr, p⟩ := q
    refine tV_bind er hr p fun ρ1 hs1 H1 t v er1 hr1 rv st p1 => ?_
    unfold frzT at p1
    split at p1
    · split at p1
      · rename_i k ts en
        exact p1 _ H1 v .off hr1.off (frz_rv hr1 en rv)
      · exact p1.elim
    · exact p1 ρ1 H1 v .refl hr1 rv
    · exact p1.elim
theorem soundL : ∀ (xs : Es) {Γ : Cs} {W : WX} {xa : Option Xa} {X : Cx} {ys : List Expr}, Ok G Γ cl W xa X → chkL Γ xs ys = true →
    PA X ys (tL G xa W fun env h => evL G.D cl xs env h) ∧ ∀ pos, ys ≠ [] →
      PE X (.BoolOp .And ys pos) (tV G xa W fun env h => (evA G.D cl xs env h).v) ∧ PW X (.BoolOp .And ys pos) (tK G xa W fun env h => (evA G.D cl xs env h).t) ∧
      PE X (.BoolOp .Or ys pos) (tV G xa W fun env h => (evO G.D cl xs env h).v) ∧ PW X (.BoolOp .Or ys pos) (tK G xa W fun env h => (evO G.D cl xs env h).t)
  | .nil, Γ, W, xa, X, ys, ok, h => by
    cases ys with
    | nil => exact ⟨pa_nilF, fun _ z => (z rfl).elim⟩
    | cons _ _ => simp [chkL] at h
  | .cons a .nil, Γ, W, xa, X, ys, ok, h => by
    cases ys with
    | nil => simp [chkL] at h
    | cons y ys =>
      simp only [chkL, Bool.and_eq_true] at h
      obtain ⟨h1, h2⟩ := h
      cases ys with
      | cons _ _ => cases h2
      | nil =>
        obtain ⟨v, t⟩ := soundE a ok h1
        exact ⟨pa_consF (chkE_plain h1) v pa_nilF, fun pos _ => ⟨pe_one v, pw_and1 t, pe_one v, pw_or1 t⟩⟩
  | .cons a (.cons b r), Γ, W, xa, X, ys, ok, h => by
    cases ys with
    | nil => simp [chkL] at h
    | cons y ys =>
      change (chkE Γ a y && chkL Γ (.cons b r) ys) = true at h
      rw [Bool.and_eq_true] at h
      obtain ⟨h1, h2⟩ := h
      obtain ⟨v, t⟩ := soundE a ok h1
      obtain ⟨k1, k2⟩ := soundL (.cons b r) ok h2
      refine ⟨pa_consF (chkE_plain h1) v k1, fun pos _ => ?_⟩
      cases ys with
      | nil => simp [chkL] at h2
      | cons z zs =>
        obtain ⟨m1, m2, m3, m4⟩ := k2 pos (by simp)
        exact ⟨pe_andF ok.K v m1, pw_andF t m2, pe_orF ok.K v m3, pw_orF t m4⟩
theorem soundF : ∀ (xs : Es) {Γ : Cs} {W : WX} {xa : Option Xa} {X : Cx} {ys : List Expr}, Ok G Γ cl W xa X → chkF Γ xs ys = true → JOk G xa W X ys (fun acc env h => evF G.D cl xs acc env h)
  | .nil, Γ, W, xa, X, ys, ok, h => by
    cases ys with
    | nil => exact jok_nil
    | cons _ _ => simp [chkF] at h
  | .cons a r, Γ, W, xa, X, ys, ok, h => by
    cases ys with
    | nil => simp [chkF] at h
    | cons y ys =>
      simp only [chkF, Bool.and_eq_true] at h
      obtain ⟨h1, h2⟩ := h
      have k := soundF r ok h2
      split at h1
      · rename_i z p q
        split at h1
        · have e := of_decide_eq_true h1
          subst e
          exact jok_str k
        · cases h1
      · rename_i y' i pos
        simp only [Bool.and_eq_true, decide_eq_true_eq] at h1
        obtain ⟨e, h1⟩ := h1
        subst e
        exact jok_cons (soundE a ok h1).1 k
      · cases h1
theorem soundI : ∀ (it : It) {Γ : Cs} {W : WX} {xa : Option Xa} {X : Cx} {x : Expr}, Ok G Γ cl W xa X → chkI Γ it x = true → (∀ tg, PI X tg x (tI G xa W fun env h => evI G.D cl it env h)) ∧ ∀ v, foldedSetIterable x X.env v = pure v
  | .seq e, Γ, W, xa, X, x, ok, h => by
    simp only [chkI] at h
    exact ⟨fun tg => pi_seqF ok.K (soundE e ok h).1, folded_of (chkE_plain h)⟩
  | .rng e, Γ, W, xa, X, x, ok, h => by
    simp only [chkI] at h
    split at h
    · rename_i y p q pos
      simp only [Bool.and_eq_true, decide_eq_true_eq] at h
      obtain ⟨⟨h1, h2⟩, h3⟩ := h
      subst h2
      exact ⟨fun tg => pi_rng1F ok h1 (chkE_plain h3) (soundE e ok h3).1, folded_of rfl⟩
    · cases h
  | .rng2 a b, Γ, W, xa, X, x, ok, h => by
    simp only [chkI] at h
    split at h
    · rename_i y p q q2 pos
      simp only [Bool.and_eq_true, decide_eq_true_eq] at h
      obtain ⟨⟨h1, h2⟩, h3, h4⟩ := h
      subst h2
      exact ⟨fun tg => pi_rng2F ok h1 (chkE_plain h3) (chkE_plain h4) (soundE a ok h3).1 (soundE b ok h4).1, folded_of rfl⟩
    · cases h
  | .enum _, Γ, W, xa, X, x, ok, h => by simp [chkI] at h
  | .zip _ _, Γ, W, xa, X, x, ok, h => by simp [chkI] at h
end
end
end Fs
end

section
set_option Elab.async false
set_option linter.all false
set_option maxRecDepth 100000
/-! Fs12: the rules of the statements. -/
namespace Fs
open PySem L2
/-- calling the exception class c makes an exception -/
def MkOk (G : Gx) (X : Cx) : Prop := ∀ (c : Nat) (nm : Str) (fl : List Str) (up : List Nat) (pins : List (Addr × Obj)) (s : Shared) (σ : St) (H : Hp) (us : List Value) (vs : List V) (ts : List T) (hs : Hs) (ρ : Rho) (Q : XK),
  G.D.cls[c]? = some (.exc nm fl up) → Inv X pins σ H s → Vals vs us → HR G ρ hs H → RvL G ρ H ts vs → fl.length = ts.length →
  (∀ H' d, Ext H H' → (fl = [] ∨ ∃ dd fs, d = some dd ∧ H' dd = some (.xd fs) ∧ RvF G ρ H' fl ts fs) → Q (.ref (G.ca c)) d H') → wpAny (model X.prog X.w) X.A (call (.ref (G.ca c)) us) (MkP X pins σ Q) X.xe s
/-- the exception classes of the written part -/
structure PrX (G : Gx) (mg : Str → Option Value) : Prop where
  nm : ∀ (c : Nat) (nm : Str) (fl : List Str) (up : List Nat), G.D.cls[c]? = some (.exc nm fl up) → mg nm = some (.ref (G.ca c)) ∧ PySem.W.keepIn G.K (.ref (G.ca c)) = true
  exm : ∀ (c j : Nat) (nm nm' : Str) (fl fl' : List Str) (up up' : List Nat), G.D.cls[c]? = some (.exc nm fl up) → G.D.cls[j]? = some (.exc nm' fl' up') → PySem.W.exmOne G.K (.ref (G.ca c)) (.ref (G.ca j)) = some (up.contains j)
structure OkS (G : Gx) (Γ : Cs) (cl : Cal) (W : WX) (xa : Option Xa) (X : Cx) : Prop where
  ok : Ok G Γ cl W xa X
  og : Γ.og = none
  prx : PrX G X.mg
  po : Γ.hot = false → PassesOwn (model X.prog X.w) X.A X.env X.xe
  stack : X.stack = X.env :: X.outer
  frame : X.env.frame = some X.env.locals
  kind : X.env.scope.kind = .function
  mkx : Γ.hot = false → ∀ (pn : List (Addr × Obj)) (xe : Value → Shared → Prop), MkOk G (X.tr pn xe)

/-! ### ends -/
def PostS (G : Gx) (xa : Option Xa) (W : WX) (D : Ends) (ρ : Rho) (H : Hp) (r : SR) : Prop := match r with
  | .nx env hs => ∀ ρ' H' σ', Stp ρ H ρ' H' → HR G ρ' hs H' → EnR G xa ρ' H' env σ' → D.nx σ' H'
  | .brk env hs => ∀ ρ' H' σ', Stp ρ H ρ' H' → HR G ρ' hs H' → EnR G xa ρ' H' env σ' → D.bk σ' H'
  | .cont env hs => ∀ ρ' H' σ', Stp ρ H ρ' H' → HR G ρ' hs H' → EnR G xa ρ' H' env σ' → D.ct σ' H'
  | .ret t hs => ∀ ρ' H' v, Stp ρ H ρ' H' → HR G ρ' hs H' → Rv G ρ' H' t v → D.rt v H'
  | .exc c xs env hs => ∀ ρ' H' σ' cls d, Stp ρ H ρ' H' → HR G ρ' hs H' → EnR G xa ρ' H' env σ' → ExR G ρ' H' c xs cls d → W cls d σ' H'
  | .bad => False
def tS (G : Gx) (xa : Option Xa) (W : WX) (f : En → Hs → SR) : TS := fun D σ H => ∃ ρ env hs, EnR G xa ρ H env σ ∧ HR G ρ hs H ∧ PostS G xa W D ρ H (f env hs)
section
variable {G : Gx} {Γ : Cs} {cl : Cal} {W : WX} {xa : Option Xa} {X : Cx} {ρ ρ' : Rho} {H H' : Hp} {hs : Hs} {env : En} {σ : St} {D : Ends}
theorem PostS.base {r : SR} (S : Stp ρ H ρ' H') (h : PostS G xa W D ρ H r) : PostS G xa W D ρ' H' r := by
  cases r with
  | nx env hs => exact fun ρ2 H2 σ2 s1 hr er => h ρ2 H2 σ2 (S.trans s1) hr er
  | brk env hs => exact fun ρ2 H2 σ2 s1 hr er => h ρ2 H2 σ2 (S.trans s1) hr er
  | cont env hs => exact fun ρ2 H2 σ2 s1 hr er => h ρ2 H2 σ2 (S.trans s1) hr er
  | ret t hs => exact fun ρ2 H2 v s1 hr rv => h ρ2 H2 v (S.trans s1) hr rv
  | exc c xs env hs => exact fun ρ2 H2 σ2 cls d s1 hr er x => h ρ2 H2 σ2 cls d (S.trans s1) hr er x
  | bad => exact h
/-- an expression first -/
theorem PostS.toS {α β : Type} {RA : Rho → Hp → α → β → Prop} {r : R α} {k : α → Hs → SR} (er : EnR G xa ρ H env σ) (hr : HR G ρ hs H) (h : PostS G xa W D ρ H (r.toS env k)) :
    Post G RA ρ H (fun c d H' => W c d σ H') r (fun b H' => ∃ ρ' hs' a, Stp ρ H ρ' H' ∧ HR G ρ' hs' H' ∧ RA ρ' H' a b ∧ EnR G xa ρ' H' env σ ∧ PostS G xa W D ρ' H' (k a hs')) := by
  cases r with
  | ok a h1 => exact fun ρ2 H2 b s1 hr2 ra => ⟨ρ2, h1, a, s1, hr2, ra, er.step hr.Live s1, PostS.base s1 h⟩
  | exc c xs h1 => exact fun ρ2 H2 cls d s1 hr2 x => h ρ2 H2 σ cls d s1 hr2 (er.step hr.Live s1) x
  | bad => exact h
theorem PostS.ends {D' : Ends} {r : SR} (h : PostS G xa W D ρ H r) (h1 : ∀ σ H, D.nx σ H → D'.nx σ H) (h2 : ∀ σ H, D.bk σ H → D'.bk σ H) (h3 : ∀ σ H, D.ct σ H → D'.ct σ H) (h4 : ∀ v H, D.rt v H → D'.rt v H) : PostS G xa W D' ρ H r := by
  cases r with
  | nx env hs => exact fun ρ2 H2 σ2 s1 hr er => h1 _ _ (h ρ2 H2 σ2 s1 hr er)
  | brk env hs => exact fun ρ2 H2 σ2 s1 hr er => h2 _ _ (h ρ2 H2 σ2 s1 hr er)
  | cont env hs => exact fun ρ2 H2 σ2 s1 hr er => h3 _ _ (h ρ2 H2 σ2 s1 hr er)
  | ret t hs => exact fun ρ2 H2 v s1 hr rv => h4 _ _ (h ρ2 H2 v s1 hr rv)
  | exc c xs env hs => exact h
  | bad => exact h
theorem pss_imp {st : List Stmt} {t t' : TS} (h : PSs X st t) (i : ∀ D σ H, t' D σ H → t D σ H) : PSs X st t' := ⟨fun pins s σ H D I q => h.run pins s σ H D I (i D σ H q)⟩
variable {x a b o ix v tg : Expr} {st : Stmt} {sts sa sb : List Stmt} {xs : List Expr} {pos p p' apos : Pos} {y m f : Str} {fa fb fc fo : En → Hs → R T} {fk : En → Hs → R Bool} {fl' : En → Hs → R (List T)} {g g1 g2 : En → Hs → SR}
theorem pss_nilF : PSs X [] (tS G xa W fun env h => .nx env h) := pss_imp pss_nil fun D σ H q => by
  obtain ⟨ρ, env, hs, er, hr, p⟩ := q
  exact p ρ H σ .refl hr er
theorem pss_consF (h1 : PS X st (tS G xa W g1)) (h2 : PSs X sts (tS G xa W g2)) : PSs X (st :: sts) (tS G xa W fun env h => (g1 env h).andThen fun env1 h1 => g2 env1 h1) :=
  pss_imp (pss_cons h1 h2) fun D σ H q => by
    obtain ⟨ρ, env, hs, er, hr, p⟩ := q
    refine ⟨ρ, env, hs, er, hr, ?_⟩
    change PostS G xa W D ρ H ((g1 env hs).andThen _) at p
    cases e : g1 env hs with
    | nx env1 h1 =>
      rw [e] at p
      intro ρ2 H2 σ2 s1 hr2 er2
      exact ⟨ρ2, env1, h1, er2, hr2, PostS.base s1 p⟩
    | brk env1 h1 => rw [e] at p; exact p
    | cont env1 h1 => rw [e] at p; exact p
    | ret t h1 => rw [e] at p; exact p
    | exc c zs env1 h1 => rw [e] at p; exact p
    | bad => rw [e] at p; exact p
theorem ps_passF : PS X (.Pass pos) (tS G xa W fun env h => .nx env h) := ps_imp ps_pass fun D σ H q => by
  obtain ⟨ρ, env, hs, er, hr, p⟩ := q
  exact p ρ H σ .refl hr er
theorem ps_docF {j : Nat} : PS X (.Expr (.Constant (.str y) j p) pos) (tS G xa W fun env h => .nx env h) := ps_imp ps_doc fun D σ H q => by
  obtain ⟨ρ, env, hs, er, hr, p⟩ := q
  exact p ρ H σ .refl hr er
theorem ps_brkF : PS X (.Break pos) (tS G xa W fun env h => .brk env h) := ps_imp ps_break fun D σ H q => by
  obtain ⟨ρ, env, hs, er, hr, p⟩ := q
  exact p ρ H σ .refl hr er
theorem ps_contF : PS X (.Continue pos) (tS G xa W fun env h => .cont env h) := ps_imp ps_continue fun D σ H q => by
  obtain ⟨ρ, env, hs, er, hr, p⟩ := q
  exact p ρ H σ .refl hr er
theorem ps_retF (h : PE X x (tV G xa W fa)) : PS X (.Return (some x) pos) (tS G xa W fun env h => (fa env h).toS env fun v h1 => .ret v h1) := ps_imp (ps_ret h) fun D σ H q => by
  obtain ⟨ρ, env, hs, er, hr, p⟩ := q
  exact ⟨ρ, env, hs, er, hr, Post.mono (fun v H1 ⟨ρ1, hs1, t, s1, hr1, rv, er1, p1⟩ => p1 ρ1 H1 v .refl hr1 rv) (PostS.toS (RA := Rv G) er hr p)⟩
theorem ps_retNF : PS X (.Return none pos) (tS G xa W fun _ h => .ret .non h) := ps_imp ps_retN fun D σ H q => by
  obtain ⟨ρ, env, hs, er, hr, p⟩ := q
  exact p ρ H .non .refl hr rv_non
theorem ps_exF (h : PE X x (tV G xa W fa)) (hs' : swapsWith x none pos.line X.env = pure false) : PS X (.Expr x pos) (tS G xa W fun env h => (fa env h).toS env fun _ h1 => .nx env h1) := ps_imp (ps_expr h hs') fun D σ H q => by
  obtain ⟨ρ, env, hs, er, hr, p⟩ := q
  exact ⟨ρ, env, hs, er, hr, Post.mono (fun v H1 ⟨ρ1, hs1, t, s1, hr1, rv, er1, p1⟩ => p1 ρ1 H1 σ .refl hr1 er1) (PostS.toS (RA := Rv G) er hr p)⟩
theorem tAsg_of {t : Tg} {D : Ends} {σ : St} {H : Hp} {Tt : TE} (hT : ∀ σ H Q, tV G xa W fa σ H Q → Tt σ H Q) (q : tS G xa W (fun env h => (fa env h).toS env fun v h1 => match bindG t v env with
    | some env1 => .nx env1 h1
    | none => .bad) D σ H) : tAsg Tt (gT G xa t) D σ H := by
  obtain ⟨ρ, env, hs, er, hr, p⟩ := q
  refine hT _ _ _ ⟨ρ, env, hs, er, hr, Post.mono (fun v H1 ⟨ρ1, hs1, u, s1, hr1, rv, er1, p1⟩ => ?_) (PostS.toS (RA := Rv G) er hr p)⟩
  cases e : bindG t u env with
  | none => rw [e] at p1; exact p1.elim
  | some env1 =>
    rw [e] at p1
    exact ⟨ρ1, env, u, env1, er1, rv, e, fun σ1 er2 _ => p1 ρ1 H1 σ1 .refl hr1 er2⟩
theorem ps_asgF {t : Tg} (h : PE X x (tV G xa W fa)) (hg : PG X tg (gT G xa t)) (hs' : swapsWithSole [tg] x pos.line X.env = pure false) (hw : swappedStores [tg] x X.env = pure none) (h1 : (assignEach [tg] X.env).map (·.2) = [assign tg X.env]) :
    PS X (.Assign [tg] x pos) (tS G xa W fun env h => (fa env h).toS env fun v h1 => match bindG t v env with
    | some env1 => .nx env1 h1
    | none => .bad) := ps_imp (ps_asg h hg hs' hw h1) fun D σ H q => tAsg_of (fun _ _ _ q => q) q
/-- several names in a row, from the left -/
def setAll : List Nat → List V → St → St
  | i :: is, v :: vs, σ => setAll is vs (σ.set i (some v))
  | _, _, σ => σ
theorem enR_setAll : ∀ {ns : List Nat} {ts : List T} {vs : List V} {env env1 : En} {σ : St}, EnR G xa ρ H env σ → (∀ i ∈ ns, notXi xa i) → RvL G ρ H ts vs → bindTs ns ts env = some env1 → EnR G xa ρ H env1 (setAll ns vs σ)
  | [], [], vs, env, env1, σ, er, _, rl, e => by
    simp only [bindTs] at e
    cases e
    simp only [RvL] at rl
    subst rl
    exact er
  | [], _ :: _, _, _, _, _, _, _, _, e => by simp [bindTs] at e
  | _ :: _, [], _, _, _, _, _, _, _, e => by simp [bindTs] at e
  | i :: ns, t :: ts, vs, env, env1, σ, er, hn, rl, e => by
    simp only [bindTs] at e
    simp only [RvL] at rl
    obtain ⟨v, ws, rfl, rv, rl⟩ := rl
    exact enR_setAll (ns := ns) (er.set i (hn i List.mem_cons_self) rv) (fun j hj => hn j (List.mem_cons_of_mem _ hj)) rl e
theorem ps_ifF (hc : PT X x (tK G xa W fk)) (ha : PSs X sa (tS G xa W g1)) (hb : PSs X sb (tS G xa W g2)) : PS X (.If x sa sb pos) (tS G xa W fun env h => (fk env h).toS env fun k h1 => if k = true then g1 env h1 else g2 env h1) :=
  ps_imp (ps_if hc ha hb) fun D σ H q => by
    obtain ⟨ρ, env, hs, er, hr, p⟩ := q
    refine ⟨ρ, env, hs, er, hr, Post.mono (fun k H1 ⟨ρ1, hs1, k', s1, hr1, ek, er1, p1⟩ => ?_) (PostS.toS (RA := RBo) er hr p)⟩
    have ek' : k' = k := ek
    subst ek'
    cases k' with
    | true => rw [if_pos rfl] at p1 ⊢; exact ⟨ρ1, env, hs1, er1, hr1, p1⟩
    | false => rw [if_neg (by decide)] at p1 ⊢; exact ⟨ρ1, env, hs1, er1, hr1, p1⟩
theorem ps_whileF {n : Nat} (hp : PassesOwn (model X.prog X.w) X.A X.env X.xe) (hc : PT X x (tK G xa W fk)) (hb : PSs X sa (tS G xa W g)) : PS X (.While x sa [] pos) (tS G xa W fun env h => whileL fk g n env h) :=
  ps_imp (ps_while hp hc hb) fun D σ H q => by
    obtain ⟨ρ, env, hs, er, hr, p⟩ := q
    refine ⟨fun m σ H => ∃ ρ env hs, EnR G xa ρ H env σ ∧ HR G ρ hs H ∧ PostS G xa W D ρ H (whileL fk g m env hs), ⟨n, ρ, env, hs, er, hr, p⟩, ?_⟩
    rintro m σ H ⟨ρ, env, hs, er, hr, p⟩
    cases m with
    | zero => exact p.elim
    | succ m =>
      refine ⟨ρ, env, hs, er, hr, Post.mono (fun k H1 ⟨ρ1, hs1, k', s1, hr1, ek, er1, p1⟩ => ?_) (PostS.toS (RA := RBo) er hr p)⟩
      have ek' : k' = k := ek
      subst ek'
      cases k' with
      | false =>
        rw [if_neg (by decide)] at p1 ⊢
        exact p1 ρ1 H1 σ .refl hr1 er1
      | true =>
        rw [if_pos rfl] at p1 ⊢
        refine ⟨fun σ H => ∃ ρ env hs, EnR G xa ρ H env σ ∧ HR G ρ hs H ∧ PostS G xa W D ρ H (whileL fk g m env hs), fun σ' H' z => ⟨m, Nat.lt_succ_self _, z⟩, ρ1, env, hs1, er1, hr1, ?_⟩
        cases e : g env hs1 with
        | nx env1 h1 => rw [e] at p1; exact fun ρ2 H2 σ2 st hr2 er2 => ⟨ρ2, env1, h1, er2, hr2, PostS.base st p1⟩
        | cont env1 h1 => rw [e] at p1; exact fun ρ2 H2 σ2 st hr2 er2 => ⟨ρ2, env1, h1, er2, hr2, PostS.base st p1⟩
        | brk env1 h1 => rw [e] at p1; exact p1
        | ret t h1 => rw [e] at p1; exact p1
        | exc c zs env1 h1 => rw [e] at p1; exact p1
        | bad => rw [e] at p1; exact p1
theorem ps_forF {t : Tg} {fi : En → Hs → R (List T)} {iter : Expr} (hp : PassesOwn (model X.prog X.w) X.A X.env X.xe) (hc : X.calm = true) (hi : PI X tg iter (tI G xa W fi)) (hg : PG X tg (gT G xa t)) (hb : PSs X sa (tS G xa W g)) (hf : ∀ v, foldedSetIterable iter X.env v = pure v) :
    PS X (.For tg iter sa [] pos) (tS G xa W fun env h => (fi env h).toS env fun xs h1 => forL t g xs env h1) :=
  ps_imp (ps_for hp hc hi hg hb hf) fun D σ H q => by
    obtain ⟨ρ, env, hs, er, hr, p⟩ := q
    refine ⟨ρ, env, hs, er, hr, Post.mono (fun J H1 ⟨ρ1, hs1, xs, s1, hr1, jit, er1, p1⟩ => ?_) (PostS.toS (RA := JIt G) er hr p)⟩
    refine ⟨fun i m σ' H' => ∃ ρ' env' hs', m = xs.length - i ∧ i ≤ xs.length ∧ Stp ρ1 H1 ρ' H' ∧ EnR G xa ρ' H' env' σ' ∧ HR G ρ' hs' H' ∧ PostS G xa W D ρ' H' (forL t g (xs.drop i) env' hs'), ⟨xs.length, ρ1, env, hs1, by simp, Nat.zero_le _, .refl, er1, hr1, by simpa using p1⟩, ?_⟩
    rintro i m σ' H' ⟨ρ', env', hs', hm, hle, st, er', hr', p'⟩
    have sr := st.toR hr1.Live
    by_cases hi' : i = xs.length
    · subst hi'
      rw [List.drop_length] at p'
      exact .inl ⟨jit.stop _ ρ' H' sr (Nat.le_refl _), p' ρ' H' σ' .refl hr' er'⟩
    · have hlt : i < xs.length := by omega
      rw [List.drop_eq_getElem_cons hlt] at p'
      have exi : xs[i]? = some xs[i] := List.getElem?_eq_getElem hlt
      refine .inr ⟨jit.go i ρ' H' sr hlt, _, fun σ2 H2 h2 => ⟨xs.length - (i + 1), by omega, h2⟩, fun x H'' hy => ?_⟩
      obtain ⟨rfl, rv⟩ := jit.yld i x ρ' H' H'' _ sr exi hy
      generalize xs[i] = tt at p' rv
      unfold forL at p'
      cases eb : bindG t tt env' with
      | none => rw [eb] at p'; exact p'.elim
      | some env1 =>
        rw [eb] at p'
        dsimp only at p'
        refine ⟨ρ', env', tt, env1, er', rv, eb, fun σ1 er2 _ => ⟨ρ', env1, hs', er2, hr', ?_⟩⟩
        cases e : g env1 hs' with
        | nx env2 h2 => rw [e] at p'; exact fun ρ2 H2 σ2 st2 hr2 er3 => ⟨ρ2, env2, h2, rfl, by omega, st.trans st2, er3, hr2, PostS.base st2 p'⟩
        | cont env2 h2 => rw [e] at p'; exact fun ρ2 H2 σ2 st2 hr2 er3 => ⟨ρ2, env2, h2, rfl, by omega, st.trans st2, er3, hr2, PostS.base st2 p'⟩
        | brk env2 h2 => rw [e] at p'; exact p'
        | ret u h2 => rw [e] at p'; exact p'
        | exc c zs env2 h2 => rw [e] at p'; exact p'
        | bad => rw [e] at p'; exact p'
end
end Fs
end

section
set_option Elab.async false
set_option linter.all false
set_option maxRecDepth 100000
/-! Fs13: stores. -/
namespace Fs
open PySem L2
/-- name = [.. for ..] on one line -/
def swapV (Γ : Cs) (y : Str) (py : Pos) : Expr → Bool
  | .ListComp _ _ s p => Γ.sc.names.lookup y == some .local && ((py.line == p.line) && !(s.names.any fun (n, k) => n == y && (k == .local || k == .cell)))
  | _ => false
/-- a tuple on the right of a tuple of names: written constants alone -/
def tupV : Expr → Bool
  | .Tuple vs _ _ => vs.all (foldedForSure 8)
  | _ => true
def notLc : Expr → Bool
  | .ListComp _ _ _ _ => false
  | _ => true
section
variable {G : Gx} {Γ : Cs} {cl : Cal} {W : WX} {xa : Option Xa} {X : Cx} {ρ ρ' : Rho} {H H' : Hp} {hs : Hs} {env : En} {σ : St} {D : Ends}
variable {x a b o ix v tg : Expr} {st : Stmt} {sts sa sb : List Stmt} {xs : List Expr} {pos p p' apos : Pos} {y m f : Str} {fa fb fc fo : En → Hs → R T} {fk : En → Hs → R Bool} {fl' : En → Hs → R (List T)} {g g1 g2 : En → Hs → SR}
theorem block_fn {env : Env} (hk : env.scope.kind = .function) : env.blockKind = .function := by
  unfold Env.blockKind
  rw [hk]
  rfl
theorem sw_false {l : Nat} {py : Pos} (hk : X.env.scope.kind = .function) (hsc : X.env.scope = Γ.sc) (hp : plainX v = true) (h : swapV Γ y py v = false) : swapsWith v (some (.Name y py)) l X.env = pure false := by
  cases v with
  | ListComp elt gs scope pos =>
    have hb := block_fn hk
    have ky : X.env.kindOf y = Γ.sc.names.lookup y := by rw [← hsc]; rfl
    unfold swapV at h
    unfold swapsWith
    show (pure (X.env.blockKind == .function && X.env.kindOf y == some .local && py.line == pos.line && !(scope.names.any fun (n, k) => n == y && (k == .local || k == .cell))) : Sem Bool) = pure false
    rw [hb, ky]
    congr 1
    rw [show ((ScopeKind.function == ScopeKind.function) = true) from rfl, Bool.true_and, Bool.and_assoc]
    exact h
  | _ => first | rfl | cases hp
theorem sw_other {l : Nat} {t : Expr} (hp : plainX v = true) (ht : ∀ y p, t ≠ .Name y p) : swapsWith v (some t) l X.env = pure false := by
  cases v <;> first | (cases hp; done) | rfl | skip
  cases t <;> first | rfl | exact (ht _ _ rfl).elim
theorem sw_drop {l : Nat} (hp : plainX v = true) (hn : notLc v = true) : swapsWith v none l X.env = pure false := by
  cases v <;> first | (cases hp; done) | (cases hn; done) | rfl
theorem swst_none {t : Expr} (ht : ∀ es k p, t ≠ .Tuple es k p) (ht2 : ∀ es p, t ≠ .List es p) : swappedStores [t] v X.env = pure none := by
  unfold swappedStores
  cases t <;> first | rfl | exact (ht _ _ _ rfl).elim | exact (ht2 _ _ rfl).elim
theorem swst_tup {ts : List Expr} {k : Nat} {pt : Pos} (hv : tupV v = true) : swappedStores [.Tuple ts k pt] v X.env = pure none := by
  unfold swappedStores
  cases v with
  | Tuple vs k2 pt2 =>
    have h : vs.all (foldedForSure 8) = true := hv
    dsimp only
    simp only [h, if_true]
    split <;> first | rfl | (split <;> first | rfl | (split <;> first | rfl | simp))
  | _ => rfl
/-- name = value -/
theorem ps_setF {i : Nat} {py : Pos} (ok : OkS G Γ cl W xa X) (ht : Γ.isTgt i y = true) (hp : plainX v = true) (hsw : swapV Γ y py v = false) (h : PE X v (tV G xa W fa)) :
    PS X (.Assign [.Name y py] v pos) (tS G xa W fun env h => (fa env h).toS env fun x h1 => .nx (env.set i (some x)) h1) :=
  ps_asgF (t := .nm i) h (pg_nameF ok.ok ht) (show swapsWithSole [.Name y py] v pos.line X.env = pure false from sw_false (l := pos.line) ok.kind ok.ok.sc hp hsw) (swst_none (fun _ _ _ z => by cases z) fun _ _ z => by cases z) rfl
/-- a, b, .. = value -/
theorem ps_setTF {ns : List Nat} {k : Nat} {pt : Pos} (ok : OkS G Γ cl W xa X) (hh : Γ.hot = false) (ht : chkTn Γ ns xs = true) (hp : plainX v = true) (hv : tupV v = true) (h : PE X v (tV G xa W fa)) :
    PS X (.Assign [.Tuple xs k pt] v pos) (tS G xa W fun env h => (fa env h).toS env fun x h1 => match bindG (.tp ns) x env with
    | some env1 => .nx env1 h1
    | none => .bad) :=
  ps_asgF (t := .tp ns) h (pg_tgF ok.ok (by simp only [chkT, Bool.and_eq_true]; exact ⟨ht, by rw [hh]; rfl⟩)) (show swapsWithSole [.Tuple xs k pt] v pos.line X.env = pure false from sw_other (X := X) (t := .Tuple xs k pt) (l := pos.line) hp fun _ _ z => by cases z) (swst_tup hv) rfl
/-- o[i] = value -/
theorem ps_setIxF (h : PE X v (tV G xa W fa)) (ho : PE X o (tV G xa W fo)) (hi : PE X ix (tV G xa W fb)) (hp : plainX v = true) (hpi : plainX ix = true) :
    PS X (.Assign [.Subscript o ix p] v pos) (tS G xa W fun env h => (fa env h).toS env fun x h1 => (fo env h1).toS env fun y h2 => (fb env h2).toS env fun z h3 => match setIxT h3 y z x with
    | some h4 => .nx env h4
    | none => .bad) :=
  ps_imp (ps_asg h (pg_sub ho hi set_list (fun v => by cases ix <;> first | rfl | cases hpi)) (show swapsWithSole [.Subscript o ix p] v pos.line X.env = pure false from sw_other (X := X) (t := .Subscript o ix p) (l := pos.line) hp fun _ _ z => by cases z) (swst_none (fun _ _ _ z => by cases z) fun _ _ z => by cases z) rfl) fun D σ H q => by
    obtain ⟨ρ, env, hs, er, hr, p⟩ := q
    refine ⟨ρ, env, hs, er, hr, Post.mono (fun v H1 ⟨ρ1, hs1, t, s1, hr1, rv, er1, p1⟩ => ?_) (PostS.toS (RA := Rv G) er hr p)⟩
    refine ⟨ρ1, env, hs1, er1, hr1, Post.mono (fun vo H2 ⟨ρ2, hs2, u, s2, hr2, ro, er2, p2⟩ => ?_) (PostS.toS (RA := Rv G) er1 hr1 p1)⟩
    refine ⟨ρ2, env, hs2, er2, hr2, Post.mono (fun vi H3 ⟨ρ3, hs3, w, s3, hr3, ri, er3, p3⟩ => ?_) (PostS.toS (RA := Rv G) er2 hr2 p2)⟩
    cases e : setIxT hs3 u w t with
    | none => rw [e] at p3; exact p3.elim
    | some h4 =>
      rw [e] at p3
      have ro3 := Rv.step hr2.Live s3 _ _ ro
      have rv3 := Rv.step hr2.Live s3 _ _ (Rv.step hr1.Live s2 _ _ rv)
      unfold setIxT at e
      split at e
      · rename_i k j _
        split at e
        · rename_i ts en
          obtain ⟨n, e1, rfl⟩ := opt_map e
          obtain ⟨a, rfl, hk, ws, q, rl⟩ := hr3.at_ en (by simp) ro3
          cases int_of ri
          have st : Stp ρ3 H3 ρ3 (upd H3 a (.lst (ws.set n v))) := .mut (mem_rho hk)
          refine ⟨a, ws, j, n, rfl, rfl, q, by rw [rl.len]; exact e1, ?_⟩
          exact p3 ρ3 _ σ st (hr3.mut hk (by simp) ⟨_, upd_same, (RvL.step hr3.Live st _ _ rl).set n (Rv.step hr3.Live st _ _ rv3)⟩) (er3.step hr3.Live st)
        · cases e
      · cases e
theorem FsR.length : ∀ {fs : List (Str × T)} {ys : List (Str × V)}, FsR G ρ H fs ys → ys.length = fs.length
  | [], _, h => by cases h; rfl
  | p :: r, _, h => by
    obtain ⟨v, ws, rfl, q, z⟩ := h
    simp [z.length]
theorem FsR.put {t : T} {v : V} (rv : Rv G ρ H t v) : ∀ {fs : List (Str × T)} {ys : List (Str × V)}, FsR G ρ H fs ys → FsR G ρ H (putFs f t fs) (putF f v ys)
  | [], _, h => by
    cases h
    exact ⟨v, [], rfl, rv, rfl⟩
  | (g, w) :: r, _, h => by
    obtain ⟨u, ws, rfl, q, z⟩ := h
    unfold putFs putF
    by_cases e : g = f
    · rw [if_pos e, if_pos e]
      exact ⟨v, ws, rfl, rv, z⟩
    · rw [if_neg e, if_neg e]
      exact ⟨u, _, rfl, q, z.put rv⟩
/-- o.f = value -/
theorem ps_setAtF (ok : OkS G Γ cl W xa X) (h : PE X v (tV G xa W fa)) (ho : PE X o (tV G xa W fo)) (hp : plainX v = true) :
    PS X (.Assign [.Attribute o f p] v pos) (tS G xa W fun env h => (fa env h).toS env fun x h1 => (fo env h1).toS env fun y h2 => match setAtT G.D h2 y f x with
    | some h3 => .nx env h3
    | none => .bad) :=
  ps_imp (ps_fld ho h (sw_other hp fun _ _ z => by cases z)) fun D σ H q => by
    obtain ⟨ρ, env, hs, er, hr, p⟩ := q
    refine ⟨ρ, env, hs, er, hr, Post.mono (fun v H1 ⟨ρ1, hs1, t, s1, hr1, rv, er1, p1⟩ => ?_) (PostS.toS (RA := Rv G) er hr p)⟩
    refine ⟨ρ1, env, hs1, er1, hr1, Post.mono (fun vo H2 ⟨ρ2, hs2, u, s2, hr2, ro, er2, p2⟩ => ?_) (PostS.toS (RA := Rv G) er1 hr1 p1)⟩
    cases e : setAtT G.D hs2 u f t with
    | none => rw [e] at p2; exact p2.elim
    | some h4 =>
      rw [e] at p2
      have rv2 := Rv.step hr1.Live s2 _ _ rv
      unfold setAtT at e
      split at e
      · rename_i k _
        split at e
        · rename_i c fs en
          split at e
          · rename_i hc
            rw [Bool.and_eq_true, decide_eq_true_eq] at hc
            cases e
            obtain ⟨a, rfl, hk, dx, ys, ea, fr⟩ := hr2.at_ en (by simp) ro
            obtain ⟨c1, c2⟩ := ok.ok.pr.flds c f hc.1
            rw [← ok.ok.K] at c1 c2
            have st : Stp ρ2 H2 ρ2 (upd H2 a (.ins (G.ca c) dx (putF f v ys))) := .mut (mem_rho hk)
            refine ⟨a, _, dx, ys, rfl, ea, c1, c2, by rw [fr.length]; omega, ?_⟩
            exact p2 ρ2 _ σ st (hr2.mut hk (by simp) ⟨dx, _, upd_same, (fr.step hr2.Live st).put (Rv.step hr2.Live st _ _ rv2)⟩) (er2.step hr2.Live st)
          · cases e
        · cases e
      · cases e
def augO : Bk → Operator → Bool
  | .add, .Add => true
  | .sub, .Sub => true
  | _, _ => false
def ipA (b : Bk) : TIp := fun x y H Q => ∃ i j, x = .int i ∧ y = .int j ∧ ∀ z, augT b (.int i) (.int j) = some (.int z) → Q (.int z) H
theorem ip_aug {bk : Bk} {op : Operator} (h : augO bk op = true) : PIp X op (ipA bk) := by
  intro pins s σ H x y v u Q I r1 r2 q
  obtain ⟨i, j, rfl, rfl, q⟩ := q
  cases bk <;> cases op <;> first | (cases h; done) | skip
  · exact ip_add pins s σ H _ _ v u Q I r1 r2 ⟨i, j, rfl, rfl, q _ rfl⟩
  · exact ip_sub pins s σ H _ _ v u Q I r1 r2 ⟨i, j, rfl, rfl, q _ rfl⟩
theorem augT_of {bk : Bk} {t u z : T} {vt vu : V} (e : augT bk t u = some z) (rt : Rv G ρ H t vt) (ru : Rv G ρ H u vu) : ∃ i j k, t = .int i ∧ u = .int j ∧ vt = .int i ∧ vu = .int j ∧ z = .int k := by
  unfold augT at e
  split at e
  · cases e; exact ⟨_, _, _, rfl, rfl, int_of rt, int_of ru, rfl⟩
  · cases e; exact ⟨_, _, _, rfl, rfl, int_of rt, int_of ru, rfl⟩
  · cases e
/-- name op= value -/
theorem ps_augF {i : Nat} {bk : Bk} {op : Operator} {py : Pos} (ok : OkS G Γ cl W xa X) (ht : Γ.isTgt i y = true) (hb : augO bk op = true) (h : PE X v (tV G xa W fa)) :
    PS X (.AugAssign (.Name y py) op v pos) (tS G xa W fun env h => match env[i]? with
    | some (some x) => (fa env h).toS env fun y h1 => match augT bk x y with
      | some z => .nx (env.set i (some z)) h1
      | none => .bad
    | _ => .bad) := by
  obtain ⟨t1, t2, t3, t4⟩ := ok.ok.tgt ht
  refine ps_imp (ps_aug ok.ok.nod t1 t2 h (ip_aug hb) t3) fun D σ H q => ?_
  obtain ⟨ρ, env, hs, er, hr, p⟩ := q
  change PostS G xa W D ρ H (match env[i]? with
    | some (some x) => (fa env hs).toS env fun y h1 => match augT bk x y with
      | some z => .nx (env.set i (some z)) h1
      | none => .bad
    | _ => .bad) at p
  split at p
  · rename_i x e
    obtain ⟨w, e1, rw'⟩ := er.at_ i x e
    refine ⟨w, e1, ρ, env, hs, er, hr, Post.mono (fun v H1 ⟨ρ1, hs1, t, s1, hr1, rv, er1, p1⟩ => ?_) (PostS.toS (RA := Rv G) er hr p)⟩
    cases ea : augT bk x t with
    | none => rw [ea] at p1; exact p1.elim
    | some z =>
      rw [ea] at p1
      obtain ⟨i', j', k', rfl, rfl, rfl, rfl, rfl⟩ := augT_of ea (Rv.step hr.Live s1 _ _ rw') rv
      refine ⟨i', j', rfl, rfl, fun z hz => ?_⟩
      rw [ea] at hz
      cases hz
      exact p1 ρ1 H1 _ .refl hr1 (er1.set i t4 rv_int)
  · exact p.elim
theorem get_list : PGet X (fun o i H Q => ∃ p xs j z, o = .ref p ∧ i = .int j ∧ H p = some (.lst xs) ∧ L2.atI xs j = some z ∧ Q z H) := by
  intro pins s σ H o i ov iv Q I ro ri h
  obtain ⟨p, xs, j, z, rfl, rfl, hp, he, q⟩ := h
  cases ro
  obtain ⟨t, rfl⟩ := ri
  obtain ⟨its, r, pl, hz⟩ := I.list (SqL.of hp)
  obtain ⟨n, h1, h2, h3, h4, h5⟩ := atI_get he
  obtain ⟨w, ew, rw'⟩ := r.get h2
  have hl := r.length
  have hn := line63
  by_cases h0 : 0 ≤ j
  · have hj : j.toNat = n := by
      rw [seqIndex_of h0 h5] at h1
      exact Option.some.inj h1
    exact wpAny_getItem_list pl.isList h0 (by omega) (by rw [hj]; simpa using ew) ⟨z, H, I, rw', q⟩
  · have hj : (j + (its.toArray.size : Int)).toNat = n := by
      rw [seqIndex_neg (by omega) h4] at h1
      rw [List.size_toArray, ← hl]
      exact Option.some.inj h1
    exact wpAny_getItem_list_neg pl.isList (by omega) (by rw [List.size_toArray] <;> omega) (by omega) (by rw [hj]; simpa using ew) ⟨z, H, I, rw', q⟩
/-- o[i] op= value -/
theorem ps_augIxF {bk : Bk} {op : Operator} (hb : augO bk op = true) (h : PE X v (tV G xa W fa)) (ho : PE X o (tV G xa W fo)) (hi : PE X ix (tV G xa W fb)) (hpi : plainX ix = true) :
    PS X (.AugAssign (.Subscript o ix p) op v pos) (tS G xa W fun env h => (fo env h).toS env fun y h1 => (fb env h1).toS env fun z h2 => match refIx h2 y z with
    | some x => (fa env h2).toS env fun u h3 => match augT bk x u with
      | some q => match setIxT h3 y z q with
        | some h4 => .nx env h4
        | none => .bad
      | none => .bad
    | none => .bad) := by
  refine ps_imp (ps_augS ho hi get_list h (ip_aug hb) set_list (fun ov iv new => by cases ix <;> first | rfl | cases hpi)) fun D σ H q => ?_
  obtain ⟨ρ, env, hs, er, hr, p⟩ := q
  refine ⟨ρ, env, hs, er, hr, Post.mono (fun vo H1 ⟨ρ1, hs1, t, s1, hr1, ro, er1, p1⟩ => ?_) (PostS.toS (RA := Rv G) er hr p)⟩
  refine ⟨ρ1, env, hs1, er1, hr1, Post.mono (fun vi H2 ⟨ρ2, hs2, w, s2, hr2, ri, er2, p2⟩ => ?_) (PostS.toS (RA := Rv G) er1 hr1 p1)⟩
  have ro2 := Rv.step hr1.Live s2 _ _ ro
  cases e : refIx hs2 t w with
  | none => rw [e] at p2; exact p2.elim
  | some x =>
    rw [e] at p2
    cases t
    case ref k _ =>
      cases w
      case int j =>
        simp only [refIx, ixT] at e
        split at e
        · rename_i ts en
          obtain ⟨a, rfl, hk, ws, q, rl⟩ := hr2.at_ en (by simp) ro2
          cases int_of ri
          obtain ⟨z, e1, rz⟩ := rl.atI e
          refine ⟨a, ws, j, z, rfl, rfl, q, e1, ρ2, env, hs2, er2, hr2, Post.mono (fun v H3 ⟨ρ3, hs3, u, s3, hr3, rv, er3, p3⟩ => ?_) (PostS.toS (RA := Rv G) er2 hr2 p2)⟩
          cases ea : augT bk x u with
          | none => rw [ea] at p3; exact p3.elim
          | some qq =>
            rw [ea] at p3
            obtain ⟨i', j', k', rfl, rfl, rfl, rfl, rfl⟩ := augT_of ea (Rv.step hr2.Live s3 _ _ rz) rv
            refine ⟨i', j', rfl, rfl, fun z hz => ?_⟩
            rw [ea] at hz
            cases hz
            dsimp only at p3
            cases es : setIxT hs3 (.ref k) (.int j) (.int k') with
            | none => rw [es] at p3; exact p3.elim
            | some h4 =>
              rw [es] at p3
              unfold setIxT at es
              dsimp only at es
              split at es
              · rename_i ts' en'
                obtain ⟨n, en2, rfl⟩ := opt_map es
                obtain ⟨a', ea', hk', ws', q', rl'⟩ := hr3.at_ en' (by simp) (Rv.step hr2.Live s3 _ _ ro2)
                cases ea'
                have st : Stp ρ3 H3 ρ3 (upd H3 a (.lst (ws'.set n (.int k')))) := .mut (mem_rho hk')
                refine ⟨a, ws', j, n, rfl, rfl, q', by rw [rl'.len]; exact en2, ?_⟩
                exact p3 ρ3 _ σ st (hr3.mut hk' (by simp) ⟨_, upd_same, (RvL.step hr3.Live st _ _ rl').set n rv_int⟩) (er3.step hr3.Live st)
              · cases es
        · cases e
      all_goals (simp only [refIx, ixT] at e; cases e)
    all_goals (simp only [refIx] at e; cases e)
end
end Fs
end

section
set_option Elab.async false
set_option linter.all false
set_option maxRecDepth 100000
/-! Fs14: raise, pairs, try; a statement of the text does what its term does. -/
namespace Fs
open PySem L2
section
variable {G : Gx} {Γ : Cs} {cl : Cal} {W : WX} {xa : Option Xa} {X : Cx} {ρ ρ' : Rho} {H H' : Hp} {hs : Hs} {env : En} {σ : St} {D : Ends}
variable {x a b c o ix v tg : Expr} {st : Stmt} {sts sa sb : List Stmt} {xs : List Expr} {pos p p' apos : Pos} {y m f : Str} {fa fb fc fo : En → Hs → R T} {fk : En → Hs → R Bool} {fl' : En → Hs → R (List T)} {g g1 g2 : En → Hs → SR}
/-- raise C(..) -/
theorem ps_raisF {c : Nat} {fl : List Str} {up : List Nat} (ok : OkS G Γ cl W xa X) (hh : Γ.hot = false) (hg : Γ.isGlob y = true) (hcl : G.D.cls[c]? = some (.exc y fl up)) (hp : xs.all plainX = true) (ha : PA X xs (tL G xa W fl')) (h0 : xs = [] → ∀ env h, fl' env h = .ok [] h) :
    PS X (.Raise (some (.Call (.Name y p) xs [] p')) none pos) (tS G xa W fun env h => (fl' env h).toS env fun ts h1 => if excOk G.D c ts = true then .exc c ts env h1 else .bad) := by
  obtain ⟨g1, g2, g3⟩ := ok.ok.glob hg
  obtain ⟨hm, hk⟩ := ok.prx.nm c y fl up hcl
  rw [← ok.ok.K] at hk
  obtain ⟨hc, _⟩ := ok.ok.cool hh
  have efl : G.fl c = fl := by unfold Gx.fl; rw [hcl]
  have mk : MkOk G X := ok.mkx hh X.pn X.xe
  have he : PMk X (.Call (.Name y p) xs [] p') (fun σ H Q => tL G xa W fl' σ H fun vs H1 => ∃ ρ1 hs1 ts, HR G ρ1 hs1 H1 ∧ RvL G ρ1 H1 ts vs ∧ fl.length = ts.length ∧
      ∀ H' d, Ext H1 H' → (fl = [] ∨ ∃ dd fs, d = some dd ∧ H' dd = some (.xd fs) ∧ RvF G ρ1 H' fl ts fs) → Q (.ref (G.ca c)) d H') := by
    intro pins s σ H Q I q
    refine wpAny_Call_Name_kw (ld_glob I g1 hm ?_ g2)
    cases xs with
    | nil =>
      refine PySem.W.callWith_K0 I.kIn hk ?_
      obtain ⟨ρ, env, hs, er, hr, z⟩ := q
      rw [h0 rfl] at z
      obtain ⟨ρ1, hs1, ts, hr1, rl, hl, k⟩ := z ρ H [] .refl hr rvl_nil
      exact mk c y fl up pins s σ H [] [] ts hs1 ρ1 Q hcl I .nil hr1 rl hl k
    | cons x r =>
      refine PySem.W.callWith_K (h₀ := X.base) I.ok.mod.kin hk (thn (ha.run p' pins s σ H _ I q) fun us s1 ⟨vs, H1, I1, r1, ρ1, hs1, ts, hr1, rl, hl, k⟩ => ⟨I1.kIn, ?_⟩) (plain_star hp) (plain_back hp)
      exact mk c y fl up pins s1 σ H1 us vs ts hs1 ρ1 Q hcl I1 r1 hr1 rl hl k
  refine ps_imp (ps_raise hc ok.ok.tk he) fun D σ H q => ?_
  obtain ⟨ρ, env, hs, er, hr, p⟩ := q
  refine ⟨ρ, env, hs, er, hr, Post.mono (fun vs H1 ⟨ρ1, hs1, ts, s1, hr1, rl, er1, p1⟩ => ?_) (PostS.toS (RA := RvL G) er hr p)⟩
  by_cases ho : excOk G.D c ts = true
  · rw [if_pos ho] at p1
    unfold excOk at ho
    rw [hcl] at ho
    have hl : fl.length = ts.length := of_decide_eq_true ho
    refine ⟨ρ1, hs1, ts, hr1, rl, hl, fun H' d ex k => ?_⟩
    refine p1 ρ1 H' σ _ d (.ext ex) (hr1.ext ex) (er1.step hr1.Live (.ext ex)) ⟨⟨y, up, by rw [efl]; exact hcl⟩, rfl, by rw [efl]; exact hl, ?_⟩
    rw [efl]
    exact k
  · rw [if_neg ho] at p1
    exact p1.elim

/-! ### a, b = x, y -/
theorem swst2 {nx ny : Str} {px py pt : Pos} {kt k2 : Nat} {pt2 : Pos} (hb : X.env.blockKind = .function) (hx : X.env.kindOf nx = some .local) (hy : X.env.kindOf ny = some .local) (hl : (py.line == px.line) = true) (hne : nx ≠ ny) (pa : plainX a = true) (pb : plainX b = true)
    (h1 : [a, b].all (foldedForSure 8) = false) (h2 : [a, b].all (constantsAlone 8) = false) : swappedStores [.Tuple [.Name nx px, .Name ny py] kt pt] (.Tuple [a, b] k2 pt2) X.env = pure (some [nx, ny]) := by
  have hl' : py.line = px.line := by simpa using hl
  have hne' : ¬ ny = nx := fun z => hne z.symm
  have e : (ny == nx) = false := by simpa using hne'
  have f1 : ¬ (foldedForSure 8 a = true ∧ foldedForSure 8 b = true) := fun z => by simp [z.1, z.2] at h1
  have f2 : ¬ (constantsAlone 8 a = true ∧ constantsAlone 8 b = true) := fun z => by simp [z.1, z.2] at h2
  unfold swappedStores
  simp only [hb, hx, hy, Expr.pos, hl', List.filterMap_cons, List.filterMap_nil, List.head?_cons, Option.map_some, Option.getD_some, List.length_cons, List.length_nil, List.any_cons, List.any_nil, List.all_cons, List.all_nil, Bool.or_false, Bool.and_true, Bool.or_eq_true, Bool.and_eq_true, f1, f2, List.eraseDups, List.eraseDupsBy, List.eraseDupsBy.loop, e, beq_self_eq_true, if_true, if_false]
  split
  · rename_i z
    simp at z
  · split
    · exfalso
      first
        | (simp [plainX] at pa; done)
        | (rename_i z; rcases z with z | z <;> (split at z <;> simp_all [plainX]))
    · split
      · exfalso
        simp [plainX] at pb
      · simp [List.eraseDupsBy.loop, e, hne, hne']
/-- a, b = x, y: the names of the text -/
def parB (Γ : Cs) (ns : List Nat) (ts vs : List Expr) : Bool := match ns, ts, vs with
  | [i, j], [.Name nx px, .Name ny py], [a, b] => (Γ.isTgt i nx && Γ.isTgt j ny) && ((decide (i ≠ j) && decide (nx ≠ ny)) && ((py.line == px.line) && ((Γ.sc.names.lookup nx == some .local && Γ.sc.names.lookup ny == some .local) &&
      (!([a, b].all (foldedForSure 8)) && !([a, b].all (constantsAlone 8))))))
  | _, _, _ => false
theorem ps_parF {ns : List Nat} {ts vs : List Expr} {kt k2 : Nat} {pt pt2 : Pos} (ok : OkS G Γ cl W xa X) (hh : Γ.hot = false) (h : parB Γ ns ts vs = true) (hp : vs.all plainX = true) (ha : PA X vs (tL G xa W fl')) :
    PS X (.Assign [.Tuple ts kt pt] (.Tuple vs k2 pt2) pos) (tS G xa W fun env h => (fl' env h).toS env fun ts h1 => match bindTs ns ts env with
    | some env1 => .nx env1 h1
    | none => .bad) := by
  obtain ⟨hc, _⟩ := ok.ok.cool hh
  unfold parB at h
  split at h
  · rename_i i j nx px ny py a b
    simp only [Bool.and_eq_true, decide_eq_true_eq, Bool.not_eq_true', beq_iff_eq] at h
    obtain ⟨⟨t1, t2⟩, ⟨n1, n2⟩, hl, ⟨l1, l2⟩, f1, f2⟩ := h
    obtain ⟨a1, a2, a3, a4⟩ := ok.ok.tgt t1
    obtain ⟨b1, b2, b3, b4⟩ := ok.ok.tgt t2
    simp only [List.all_cons, List.all_nil, Bool.and_true, Bool.and_eq_true] at hp
    have lx : X.env.scope.names.lookup nx = some .local := by rw [ok.ok.sc]; exact l1
    have ly : X.env.scope.names.lookup ny = some .local := by rw [ok.ok.sc]; exact l2
    refine ps_imp (ps_par hc ok.ok.nod a1 b1 n1 lx ly ha (swst2 (block_fn ok.kind) lx ly (by simpa using hl) n2 hp.1 hp.2 f1 f2) rfl) fun D σ H q => ?_
    obtain ⟨ρ, env, hs, er, hr, p⟩ := q
    refine ⟨ρ, env, hs, er, hr, Post.mono (fun vs H1 ⟨ρ1, hs1, us, s1, hr1, rl, er1, p1⟩ => ?_) (PostS.toS (RA := RvL G) er hr p)⟩
    cases e : bindTs [i, j] us env with
    | none => rw [e] at p1; exact p1.elim
    | some env1 =>
      rw [e] at p1
      cases us with
      | nil => simp [bindTs] at e
      | cons u us =>
        cases us with
        | nil => simp [bindTs] at e
        | cons w us =>
          cases us with
          | cons _ _ => simp [bindTs] at e
          | nil =>
            simp only [bindTs] at e
            cases e
            simp only [RvL] at rl
            obtain ⟨v1, r1, rfl, q1, v2, r2, rfl, q2, rfl⟩ := rl
            exact ⟨v1, v2, rfl, p1 ρ1 H1 _ .refl hr1 ((er1.set i a4 q1).set j b4 q2)⟩
  · cases h
/-- name = [.. for ..], on one line -/
theorem ps_setLcF {mm : Bool} {t : Tg} {it : It} {c e : E} {vs : List Nat} {i : Nat} {py : Pos} (ok : OkS G Γ cl W xa X) (ht' : Γ.isTgt i y = true) (hsw : swapV Γ y py v = true) (h : chkE Γ (.comp mm t it c e vs) v = true) :
    PS X (.Assign [.Name y py] v pos) (tS G xa W fun env h => (ev G.D cl (.comp mm t it c e vs) env h).v.toS env fun x h1 => .nx (env.set i (some x)) h1) := by
  have ok' := ok.ok
  obtain ⟨t1, t2, t3, t4⟩ := ok'.tgt ht'
  simp only [chkE] at h
  split at h
  · rename_i elt tg iter ifs scope pos'
    simp only [Bool.and_eq_true, Bool.not_eq_true', decide_eq_true_eq] at h
    obtain ⟨⟨h1, h2, h3, h4⟩, h5, h6, h7, h8⟩ := h
    have bok : BlkOk X.N X.env.scope scope (ownOf Γ.N vs) := by rw [ok'.N, ok'.sc]; exact blkOk_by h3
    have hsl : ∀ i ∈ t.slots, i ∈ vs := fun i hi => of_decide_eq_true (List.all_eq_true.mp h4 i hi)
    obtain ⟨hi, hf⟩ := soundI G cl it ok' h5
    have ht : ∀ (s : Shared) (H : Hp) (C : Addr) (cl' : List (Str × Addr)) (fp : List Addr), PTs (X.blk s H scope (compEnvC scope cl' C X.env) fp) ifs (tK G none W0 fun env h => if c.isAbs = true then .ok true h else (ev G.D cl c env h).t) := fun s H C cl' fp => by
      split at h7
      · simp only [h7, if_true]
        exact pts_yes
      · rename_i y
        simp only [Bool.and_eq_true, Bool.not_eq_true'] at h7
        simp only [h7.1, Bool.false_eq_true, if_false]
        exact pts_one (soundE G cl c (ok'.blk h1 scope s H C cl' fp) h7.2).2
      · cases h7
    obtain ⟨hc, _, hxa, _⟩ := ok'.cool h1
    subst hxa
    unfold swapV at hsw
    simp only [Bool.and_eq_true, beq_iff_eq, Bool.not_eq_true'] at hsw
    obtain ⟨w1, w2, w3⟩ := hsw
    have hyl : X.env.scope.names.lookup y = some .local := by rw [ok'.sc]; exact w1
    have sw := sw_true (elt := elt) (gs := [⟨tg, iter, ifs, 0⟩]) (scope := scope) (pos := pos') (py := py) (l := pos.line) ok.kind hyl (by simpa using w2) w3
    refine ps_imp (ps_setLc hc ok'.nod t1 hyl sw (hi tg) bok (fun s H C cl' fp => pg_tgF (ok'.blk h1 scope s H C cl' fp) h6) ht (fun s H C cl' fp => (soundE G cl e (ok'.blk h1 scope s H C cl' fp) h8).1) hf) fun D σ H q => ?_
    obtain ⟨ρ, env, hs, er, hr, p⟩ := q
    rw [h2]
    refine tLc_of (m := mm) hsl ⟨ρ, env, hs, er, hr, Post.mono (fun v H1 ⟨ρ1, hs1, u, s1, hr1, rv, er1, p1⟩ => ?_) (PostS.toS (RA := Rv G) er hr p)⟩
    exact p1 ρ1 H1 _ .refl hr1 (er1.set i t4 rv)
  · cases h

/-! ### except suites -/
/-- what a suite's ends are, where the name at i goes -/
def endsOff (D : Ends) : Option Nat → Ends
  | none => D
  | some i => { nx := fun σ' H' => D.nx (σ'.set i none) H', rt := D.rt, bk := fun σ' H' => D.bk (σ'.set i none) H', ct := fun σ' H' => D.ct (σ'.set i none) H' }
theorem PostS.hot {q : Xa} {i : Option Nat} {r : SR} (h : PostS G none W D ρ H (r.offName i)) : PostS G (some q) W0 (endsOff D i) ρ H r := by
  have n0 : ∀ j, notXi none j := fun j q hq => by cases hq
  cases i with
  | none =>
    cases r with
    | nx env hs => exact fun ρ2 H2 σ2 s1 hr er => h ρ2 H2 σ2 s1 hr er.close
    | brk env hs => exact fun ρ2 H2 σ2 s1 hr er => h ρ2 H2 σ2 s1 hr er.close
    | cont env hs => exact fun ρ2 H2 σ2 s1 hr er => h ρ2 H2 σ2 s1 hr er.close
    | ret t hs => exact fun ρ2 H2 v s1 hr rv => h ρ2 H2 v s1 hr rv
    | exc c xs env hs => exact h.elim
    | bad => exact h.elim
  | some i =>
    cases r with
    | nx env hs => exact fun ρ2 H2 σ2 s1 hr er => h ρ2 H2 _ s1 hr (er.close.unset i (n0 i))
    | brk env hs => exact fun ρ2 H2 σ2 s1 hr er => h ρ2 H2 _ s1 hr (er.close.unset i (n0 i))
    | cont env hs => exact fun ρ2 H2 σ2 s1 hr er => h ρ2 H2 _ s1 hr (er.close.unset i (n0 i))
    | ret t hs => exact fun ρ2 H2 v s1 hr rv => h ρ2 H2 v s1 hr rv
    | exc c xs env hs => exact h.elim
    | bad => exact h.elim
theorem OkS.tr {W' : WX} (ok : OkS G Γ cl W xa X) (hh : Γ.hot = false) {pn : List (Addr × Obj)} {xe : Value → Shared → Prop} (tk : Takes (X.tr pn xe) W') (po : PassesOwn (model X.prog X.w) X.A X.env xe) : OkS G Γ cl W' xa (X.tr pn xe) where
  ok := ⟨ok.ok.pr, ok.ok.K, ok.ok.N, ok.ok.sc, ok.ok.D, ok.ok.nod, ok.ok.fnc, ok.ok.units, ok.ok.cool, (fun z => by rw [hh] at z; cases z), tk⟩
  og := ok.og
  prx := ok.prx
  po := fun _ => po
  stack := ok.stack
  frame := ok.frame
  kind := ok.kind
  mkx := fun _ pn' xe' => ok.mkx hh pn' xe'
def Cs.suite (Γ : Cs) (i : Option Nat) : Cs := { Γ with hot := true, xi := i }
theorem OkS.suite {c : Nat} {zs : List T} {i : Option Nat} (ok : OkS G Γ cl W xa X) {a : Addr} {oe : Obj} {d : Option Addr} {pn : List (Addr × Obj)} (hz : Zc (.ref (G.ca c)) d oe) (hd : ∃ vs, oe.data = .fields vs) :
    OkS G (Γ.suite i) (xCal G.D c zs) W0 (some ⟨a, d, c, i, zs⟩) (X.suite a ((a, oe) :: pn)) where
  ok := ⟨ok.ok.pr, ok.ok.K, ok.ok.N, ok.ok.sc, ok.ok.D, ok.ok.nod, ok.ok.fnc, ok.ok.units, (fun z => by cases z), (fun _ => by
    obtain ⟨vs, hd⟩ := hd
    exact ⟨_, rfl, rfl, rfl, oe, vs, List.mem_cons_self, hz, hd⟩), fun u s' ⟨_, _, _, _, _, _, _, _, _, _, _, _, _, _, _, _, w⟩ => w.elim⟩
  og := ok.og
  prx := ok.prx
  po := fun z => by cases z
  stack := ok.stack
  frame := ok.frame
  kind := ok.kind
  mkx := fun z => by cases z
end
end Fs
end

section
set_option Elab.async false
set_option linter.all false
set_option maxRecDepth 100000
/-! Fs15: when a statement's term is the text's; then it does what the term does. -/
namespace Fs
open PySem L2
def isComp : E → Bool
  | .comp _ _ _ _ _ _ => true
  | _ => false
def clsNm (Γ : Cs) (cs : List Nat) (x : Str) : Bool := match cs with
  | [j] => (match Γ.D.cls[j]? with
    | some (.exc nm _ _) => decide (nm = x)
    | _ => false)
  | _ => false
mutual
def chkS (Γ : Cs) : S → Stmt → Bool
  | .set i e, st => match st with
    | .Assign [.Name y py] v _ => (Γ.isTgt i y && chkE Γ e v) && (!(swapV Γ y py v) || isComp e)
    | _ => false
  | .setT ns e, st => match st with
    | .Assign [.Tuple xs _ _] v _ => (!Γ.hot && chkTn Γ ns xs) && (tupV v && chkE Γ e v)
    | _ => false
  | .par ns xs, st => match st with
    | .Assign [.Tuple ts _ _] (.Tuple vs _ _) _ => (!Γ.hot && parB Γ ns ts vs) && chkL Γ xs vs
    | _ => false
  | .setIx o i e, st => match st with
    | .Assign [.Subscript ob ix _] v _ => chkE Γ e v && (chkE Γ o ob && chkE Γ i ix)
    | _ => false
  | .setAt o f e, st => match st with
    | .Assign [.Attribute ob g _] v _ => decide (f = g) && (chkE Γ e v && chkE Γ o ob)
    | _ => false
  | .aug i b e, st => match st with
    | .AugAssign (.Name y _) op v _ => Γ.isTgt i y && (augO b op && chkE Γ e v)
    | _ => false
  | .augIx o i b e, st => match st with
    | .AugAssign (.Subscript ob ix _) op v _ => augO b op && (chkE Γ e v && (chkE Γ o ob && chkE Γ i ix))
    | _ => false
  | .ex e, st => match st with
    | .Expr v _ => notLc v && chkE Γ e v
    | _ => false
  | .ret e, st => match st with
    | .Return (some v) _ => chkE Γ e v
    | _ => false
  | .retN, st => match st with
    | .Return none _ => true
    | _ => false
  | .ifs c a b, st => match st with
    | .If x sa sb _ => chkE Γ c x && (chkSs Γ a sa && chkSs Γ b sb)
    | _ => false
  | .for_ t it b, st => match st with
    | .For tg iter body [] _ => (!Γ.hot && chkT Γ t tg) && (chkI Γ it iter && chkSs Γ b body)
    | _ => false
  | .whil c b, st => match st with
    | .While x body [] _ => !Γ.hot && (chkE Γ c x && chkSs Γ b body)
    | _ => false
  | .rais c xs, st => match st with
    | .Raise (some (.Call (.Name y _) ys [] _)) none _ => (!Γ.hot && Γ.isGlob y) && ((match Γ.D.cls[c]? with
      | some (.exc nm _ _) => decide (nm = y)
      | _ => false) && chkL Γ xs ys)
    | _ => false
  | .tryy b hs, st => match st with
    | .Try body hds [] [] _ => (!Γ.hot && !hds.isEmpty) && (chkSs Γ b body && (chkA Γ hs hds || chkH Γ hs hds))
    | _ => false
  | .brk, st => match st with
    | .Break _ => true
    | _ => false
  | .cont, st => match st with
    | .Continue _ => true
    | _ => false
  | .pass, st => match st with
    | .Pass _ => true
    | .Expr (.Constant (.str _) _ _) _ => true
    | _ => false
def chkSs (Γ : Cs) : Ss → List Stmt → Bool
  | .nil, sts => sts.isEmpty
  | .cons s r, sts => match sts with
    | st :: rest => chkS Γ s st && chkSs Γ r rest
    | [] => false
def chkA (Γ : Cs) : Hd → List ExceptHandler → Bool
  | .nil, _ => false
  | .cons cs i b r, hds => match i, hds with
    | some i, [.ExceptHandler (some (.Name x _)) (some n) suite _] => ((Γ.isGlob x && clsNm Γ cs x) && (decide (Γ.N[i]? = some n) && Γ.sc.names.lookup n == some .local)) && ((chkSs (Γ.suite (some i)) b suite && !suite.isEmpty) && (match r with
      | .nil => true
      | _ => false))
    | _, _ => false
def chkH (Γ : Cs) : Hd → List ExceptHandler → Bool
  | .nil, hds => hds.isEmpty
  | .cons cs i b r, hds => match i, hds with
    | none, .ExceptHandler (some (.Name x _)) none suite _ :: rest => (Γ.isGlob x && clsNm Γ cs x) && ((chkSs (Γ.suite none) b suite && !suite.isEmpty) && chkH Γ r rest)
    | _, _ => false
end
section
variable (G : Gx) (wn : Nat)
theorem clsNm_of {Γ : Cs} {cs : List Nat} {x : Str} (h : clsNm Γ cs x = true) : ∃ j fl up, cs = [j] ∧ Γ.D.cls[j]? = some (.exc x fl up) := by
  unfold clsNm at h
  split at h
  · split at h
    · rename_i j _ nm fl up e
      have := of_decide_eq_true h
      subst this
      exact ⟨j, fl, up, rfl, e⟩
    · cases h
  · cases h
/-- one clause's answer -/
theorem isExc_of {c j : Nat} {nm nm' : Str} {fl fl' : List Str} {up up' : List Nat} (hc : G.D.cls[c]? = some (.exc nm fl up)) : isExc G.D c [j] = up.contains j := by
  unfold isExc
  rw [hc]
  simp
mutual
theorem soundS : ∀ (s : S) {Γ : Cs} {cl : Cal} {W : WX} {xa : Option Xa} {X : Cx} {st : Stmt}, OkS G Γ cl W xa X → chkS Γ s st = true → PS X st (tS G xa W fun env h => evS G.D wn cl s env h)
  | .set i e, Γ, cl, W, xa, X, st, ok, h => by
    simp only [chkS] at h
    split at h
    · rename_i y py v pos
      simp only [Bool.and_eq_true] at h
      obtain ⟨⟨h1, h2⟩, h3⟩ := h
      cases hs : swapV Γ y py v with
      | false => exact ps_setF ok h1 (chkE_plain h2) hs (soundE G cl e ok.ok h2).1
      | true =>
        rw [hs] at h3
        cases e <;> first | (cases h3; done) | skip
        exact ps_setLcF ok h1 hs h2
    · cases h
  | .setT ns e, Γ, cl, W, xa, X, st, ok, h => by
    simp only [chkS] at h
    split at h
    · simp only [Bool.and_eq_true, Bool.not_eq_true'] at h
      obtain ⟨⟨h1, h2⟩, h3, h4⟩ := h
      exact ps_setTF ok h1 h2 (chkE_plain h4) h3 (soundE G cl e ok.ok h4).1
    · cases h
  | .par ns xs, Γ, cl, W, xa, X, st, ok, h => by
    simp only [chkS] at h
    split at h
    · simp only [Bool.and_eq_true, Bool.not_eq_true'] at h
      obtain ⟨⟨h1, h2⟩, h3⟩ := h
      exact ps_parF ok h1 h2 (chkL_plain h3) (soundL G cl xs ok.ok h3).1
    · cases h
  | .setIx o i e, Γ, cl, W, xa, X, st, ok, h => by
    simp only [chkS] at h
    split at h
    · simp only [Bool.and_eq_true] at h
      obtain ⟨h1, h2, h3⟩ := h
      exact ps_setIxF (soundE G cl e ok.ok h1).1 (soundE G cl o ok.ok h2).1 (soundE G cl i ok.ok h3).1 (chkE_plain h1) (chkE_plain h3)
    · cases h
  | .setAt o f e, Γ, cl, W, xa, X, st, ok, h => by
    simp only [chkS] at h
    split at h
    · simp only [Bool.and_eq_true, decide_eq_true_eq] at h
      obtain ⟨h1, h2, h3⟩ := h
      subst h1
      exact ps_setAtF ok (soundE G cl e ok.ok h2).1 (soundE G cl o ok.ok h3).1 (chkE_plain h2)
    · cases h
  | .aug i b e, Γ, cl, W, xa, X, st, ok, h => by
    simp only [chkS] at h
    split at h
    · simp only [Bool.and_eq_true] at h
      obtain ⟨h1, h2, h3⟩ := h
      exact ps_augF ok h1 h2 (soundE G cl e ok.ok h3).1
    · cases h
  | .augIx o i b e, Γ, cl, W, xa, X, st, ok, h => by
    simp only [chkS] at h
    split at h
    · simp only [Bool.and_eq_true] at h
      obtain ⟨h1, h2, h3, h4⟩ := h
      exact ps_augIxF h1 (soundE G cl e ok.ok h2).1 (soundE G cl o ok.ok h3).1 (soundE G cl i ok.ok h4).1 (chkE_plain h4)
    · cases h
  | .ex e, Γ, cl, W, xa, X, st, ok, h => by
    simp only [chkS] at h
    split at h
    · rw [Bool.and_eq_true] at h
      exact ps_exF (soundE G cl e ok.ok h.2).1 (sw_drop (chkE_plain h.2) h.1)
    · cases h
  | .ret e, Γ, cl, W, xa, X, st, ok, h => by
    simp only [chkS] at h
    split at h
    · exact ps_retF (soundE G cl e ok.ok h).1
    · cases h
  | .retN, Γ, cl, W, xa, X, st, ok, h => by
    simp only [chkS] at h
    split at h
    · exact ps_retNF
    · cases h
  | .ifs c a b, Γ, cl, W, xa, X, st, ok, h => by
    simp only [chkS] at h
    split at h
    · simp only [Bool.and_eq_true] at h
      obtain ⟨h1, h2, h3⟩ := h
      exact ps_ifF (soundE G cl c ok.ok h1).2 (soundSs a ok h2) (soundSs b ok h3)
    · cases h
  | .for_ t it b, Γ, cl, W, xa, X, st, ok, h => by
    simp only [chkS] at h
    split at h
    · rename_i tg iter body pos
      simp only [Bool.and_eq_true, Bool.not_eq_true'] at h
      obtain ⟨⟨h1, h2⟩, h3, h4⟩ := h
      obtain ⟨hi, hf⟩ := soundI G cl it ok.ok h3
      exact ps_forF (ok.po h1) (ok.ok.cool h1).1 (hi tg) (pg_tgF ok.ok h2) (soundSs b ok h4) hf
    · cases h
  | .whil c b, Γ, cl, W, xa, X, st, ok, h => by
    simp only [chkS] at h
    split at h
    · simp only [Bool.and_eq_true, Bool.not_eq_true'] at h
      obtain ⟨h1, h2, h3⟩ := h
      exact ps_whileF (ok.po h1) (soundE G cl c ok.ok h2).2 (soundSs b ok h3)
    · cases h
  | .rais c xs, Γ, cl, W, xa, X, st, ok, h => by
    simp only [chkS] at h
    split at h
    · simp only [Bool.and_eq_true, Bool.not_eq_true'] at h
      obtain ⟨⟨h1, h2⟩, h3, h4⟩ := h
      rw [ok.ok.D] at h3
      split at h3
      · rename_i nm fl up hc
        have e := of_decide_eq_true h3
        subst e
        exact ps_raisF ok h1 h2 hc (chkL_plain h4) (soundL G cl xs ok.ok h4).1 (fun e env hs => by
          subst e
          cases xs with
          | nil => rfl
          | cons _ _ => simp [chkL] at h4)
      · cases h3
    · cases h
  | .tryy b hs, Γ, cl, W, xa, X, st, ok, h => by
    simp only [chkS] at h
    split at h
    · rename_i body hds pos
      simp only [Bool.and_eq_true, Bool.not_eq_true', Bool.or_eq_true] at h
      obtain ⟨⟨h1, h2⟩, h3, h4⟩ := h
      obtain ⟨_, _, hxa, _⟩ := ok.ok.cool h1
      subst hxa
      have hb : ∀ (W' : WX) (pn : List (Addr × Obj)) (xe : Value → Shared → Prop), Takes (X.tr pn xe) W' → PassesOwn (model X.prog X.w) X.A X.env xe → PSs (X.tr pn xe) body (tS G none W' fun env h => evSs G.D wn cl b env h) :=
        fun W' pn xe tk po => soundSs b (ok.tr h1 tk po) h3
      rcases h4 with h4 | h4
      · exact soundA hs ok h1 h4 hb
      · obtain ⟨l, k1, k2⟩ := soundH hs ok h1 h4
        cases hds with
        | nil => cases h2
        | cons h₀ hds =>
          refine ps_imp (ps_try_many ok.stack ok.frame ok.ok.tk hb k1) fun D σ H q => ?_
          obtain ⟨ρ, env, hs', er, hr, p⟩ := q
          refine ⟨ρ, env, hs', er, hr, ?_⟩
          change PostS G none W D ρ H (match evSs G.D wn cl b env hs' with
            | .exc c xs env1 h1 => evH G.D wn hs c xs env1 h1
            | q => q) at p
          show PostS G none (wMany X.K W D l) D ρ H (evSs G.D wn cl b env hs')
          cases e : evSs G.D wn cl b env hs' with
          | exc c zs env1 h1' =>
            rw [e] at p
            intro ρ2 H2 σ2 cls d s1 hr2 er2 x
            exact k2 c zs env1 h1' D ρ2 H2 σ2 cls d er2 hr2 x (PostS.base s1 p)
          | nx env1 h1' => rw [e] at p; exact p
          | brk env1 h1' => rw [e] at p; exact p
          | cont env1 h1' => rw [e] at p; exact p
          | ret t h1' => rw [e] at p; exact p
          | bad => rw [e] at p; exact p
    · cases h
  | .brk, Γ, cl, W, xa, X, st, ok, h => by
    simp only [chkS] at h
    split at h
    · exact ps_brkF
    · cases h
  | .cont, Γ, cl, W, xa, X, st, ok, h => by
    simp only [chkS] at h
    split at h
    · exact ps_contF
    · cases h
  | .pass, Γ, cl, W, xa, X, st, ok, h => by
    simp only [chkS] at h
    split at h
    · exact ps_passF
    · exact ps_docF
    · cases h
theorem soundSs : ∀ (ss : Ss) {Γ : Cs} {cl : Cal} {W : WX} {xa : Option Xa} {X : Cx} {sts : List Stmt}, OkS G Γ cl W xa X → chkSs Γ ss sts = true → PSs X sts (tS G xa W fun env h => evSs G.D wn cl ss env h)
  | .nil, Γ, cl, W, xa, X, sts, ok, h => by
    cases sts with
    | nil => exact pss_nilF
    | cons _ _ => simp [chkSs] at h
  | .cons s r, Γ, cl, W, xa, X, sts, ok, h => by
    cases sts with
    | nil => simp [chkSs] at h
    | cons st rest =>
      simp only [chkSs, Bool.and_eq_true] at h
      exact pss_consF (soundS s ok h.1) (soundSs r ok h.2)
theorem soundA : ∀ (hs : Hd) {Γ : Cs} {cl : Cal} {W : WX} {X : Cx} {hds : List ExceptHandler} {body : List Stmt} {pos : Pos} {g : En → Hs → SR}, OkS G Γ cl W none X → Γ.hot = false → chkA Γ hs hds = true →
    (∀ (W' : WX) (pn : List (Addr × Obj)) (xe : Value → Shared → Prop), Takes (X.tr pn xe) W' → PassesOwn (model X.prog X.w) X.A X.env xe → PSs (X.tr pn xe) body (tS G none W' g)) →
    PS X (.Try body hds [] [] pos) (tS G none W fun env h => match g env h with
      | .exc c xs env1 h1 => evH G.D wn hs c xs env1 h1
      | q => q)
  | .nil, Γ, cl, W, X, hds, body, pos, g, ok, hh, h, hb => by simp [chkA] at h
  | .cons cs i b r, Γ, cl, W, X, hds, body, pos, g, ok, hh, h, hb => by
    unfold chkA at h
    split at h
    · rename_i i x np n suite pos'
      simp only [Bool.and_eq_true, Bool.not_eq_true', decide_eq_true_eq, beq_iff_eq] at h
      obtain ⟨⟨⟨h1, h2⟩, h3, h4⟩, ⟨h5, h6⟩, h7⟩ := h
      obtain ⟨j, fl, up, rfl, hc⟩ := clsNm_of h2
      cases r with
      | cons _ _ _ _ => cases h7
      | nil =>
      cases suite with
      | nil => cases h6
      | cons b₀ suite =>
        obtain ⟨g1, g2, g3⟩ := ok.ok.glob h1
        rw [ok.ok.D] at hc
        obtain ⟨hm, hk⟩ := ok.prx.nm j x fl up hc
        have hi : X.N[i]? = some n := by rw [ok.ok.N]; exact h3
        have hln : X.env.kindOf n = some .local := by
          show X.env.scope.names.lookup n = _
          rw [ok.ok.sc]
          exact h4
        refine ps_imp (ps_try_as (ts := fun a cls d D σ H => ∃ c zs, cls = .ref (G.ca c) ∧ tS G (some ⟨a, d, c, some i, zs⟩) W0 (fun env h => evSs G.D wn (xCal G.D c zs) b env h) D σ H) ok.stack ok.frame ok.ok.nod hi hln ⟨g1, g2, .inl hm⟩ ok.ok.tk hb
          (fun a oe cls d pn hz hd => ⟨fun pins s σ H D I ⟨c, zs, ec, q⟩ => by
            subst ec
            exact (soundSs b (ok.suite (i := some i) (zs := zs) hz hd) h5).run pins s σ H D I q⟩)) fun D σ H q => ?_
        obtain ⟨ρ, env, hs', er, hr, p⟩ := q
        refine ⟨ρ, env, hs', er, hr, ?_⟩
        change PostS G none W D ρ H (match g env hs' with
          | .exc c xs env1 h1 => evH G.D wn (.cons [j] (some i) b .nil) c xs env1 h1
          | q => q) at p
        cases e : g env hs' with
        | exc c zs env1 h1' =>
          rw [e] at p
          intro ρ2 H2 σ2 cls d s1 hr2 er2 x'
          have p2 := PostS.base s1 p
          obtain ⟨⟨nm, up', hcc⟩, ecls, hlen, halt⟩ := x'
          subst ecls
          refine ⟨up'.contains j, by rw [ok.ok.K]; exact ok.prx.exm c j nm x _ fl up' up hcc hc, fun hb a na => ?_, fun hb => ?_⟩
          · refine ⟨c, zs, rfl, ρ2, env1.set i none, h1', er2.open_ ⟨a, d, c, some i, zs⟩ i rfl halt, hr2, ?_⟩
            change PostS G none W D ρ2 H2 (if isExc G.D c [j] = true then (evSs G.D wn (xCal G.D c zs) b (env1.set i none) h1').offName (some i) else evH G.D wn .nil c zs env1 h1') at p2
            rw [isExc_of G (nm' := x) (fl' := fl) (up' := up) hcc, if_pos hb] at p2
            exact PostS.hot p2
          · change PostS G none W D ρ2 H2 (if isExc G.D c [j] = true then (evSs G.D wn (xCal G.D c zs) b (env1.set i none) h1').offName (some i) else evH G.D wn .nil c zs env1 h1') at p2
            rw [isExc_of G (nm' := x) (fl' := fl) (up' := up) hcc, if_neg (by rw [hb]; decide)] at p2
            exact p2 ρ2 H2 σ2 _ d .refl hr2 er2 ⟨⟨nm, up', hcc⟩, rfl, hlen, halt⟩
        | nx env1 h1' => rw [e] at p; exact p
        | brk env1 h1' => rw [e] at p; exact p
        | cont env1 h1' => rw [e] at p; exact p
        | ret t h1' => rw [e] at p; exact p
        | bad => rw [e] at p; exact p
    · cases h
theorem soundH : ∀ (hs : Hd) {Γ : Cs} {cl : Cal} {W : WX} {X : Cx} {hds : List ExceptHandler}, OkS G Γ cl W none X → Γ.hot = false → chkH Γ hs hds = true →
    ∃ l, HdsOk X hds l ∧ ∀ c zs env h D ρ H σ cls d, EnR G none ρ H env σ → HR G ρ h H → ExR G ρ H c zs cls d → PostS G none W D ρ H (evH G.D wn hs c zs env h) → wMany X.K W D l cls d σ H
  | .nil, Γ, cl, W, X, hds, ok, hh, h => by
    cases hds with
    | nil => exact ⟨[], .nil, fun c zs env h D ρ H σ cls d er hr x p => p ρ H σ cls d .refl hr er x⟩
    | cons _ _ => simp [chkH] at h
  | .cons cs i b r, Γ, cl, W, X, hds, ok, hh, h => by
    unfold chkH at h
    split at h
    · rename_i x np suite pos' rest
      simp only [Bool.and_eq_true, Bool.not_eq_true'] at h
      obtain ⟨⟨h1, h2⟩, ⟨h5, h6⟩, h7⟩ := h
      obtain ⟨j, fl, up, rfl, hc⟩ := clsNm_of h2
      obtain ⟨l, k1, k2⟩ := soundH r ok hh h7
      cases suite with
      | nil => cases h6
      | cons b₀ suite =>
        obtain ⟨g1, g2, g3⟩ := ok.ok.glob h1
        rw [ok.ok.D] at hc
        obtain ⟨hm, hk⟩ := ok.prx.nm j x fl up hc
        refine ⟨(.ref (G.ca j), fun a cls d D σ H => ∃ c zs, cls = .ref (G.ca c) ∧ tS G (some ⟨a, d, c, none, zs⟩) W0 (fun env h => evSs G.D wn (xCal G.D c zs) b env h) D σ H) :: l, .cons ⟨g1, g2, .inl hm⟩
          (fun a oe cls d pn hz hd => ⟨fun pins s σ H D I ⟨c, zs, ec, q⟩ => by
            subst ec
            exact (soundSs b (ok.suite (i := none) (zs := zs) hz hd) h5).run pins s σ H D I q⟩) k1, fun c zs env h D ρ H σ cls d er hr x' p => ?_⟩
        obtain ⟨⟨nm, up', hcc⟩, ecls, hlen, halt⟩ := id x'
        subst ecls
        change PostS G none W D ρ H (if isExc G.D c [j] = true then (evSs G.D wn (xCal G.D c zs) b env h).offName none else evH G.D wn r c zs env h) at p
        refine ⟨up'.contains j, by rw [ok.ok.K]; exact ok.prx.exm c j nm x _ fl up' up hcc hc, fun hb a na => ?_, fun hb => ?_⟩
        · rw [isExc_of G (nm' := x) (fl' := fl) (up' := up) hcc, if_pos hb] at p
          exact ⟨c, zs, rfl, ρ, env, h, er.openN ⟨a, d, c, none, zs⟩ rfl halt, hr, PostS.hot p⟩
        · rw [isExc_of G (nm' := x) (fl' := fl) (up' := up) hcc, if_neg (by rw [hb]; decide)] at p
          exact k2 c zs env h D ρ H σ _ d er hr x' p
    · cases h
end
end
end Fs
end

section
set_option Elab.async false
set_option linter.all false
set_option maxRecDepth 100000
/-! Fs16: every def of the table does what its term does; a law's call. -/
namespace Fs
open PySem L2 PyProof.Rows
/-- the def number f stands in the written part, its body is the term's text -/
structure FnF (G : Gx) (f : Nat) (fn : Fn) : Prop where
  ex : ∃ (x qual : Str) (params : Arguments) (body : List Stmt) (scope : Scope) (fd : FuncData) (N ps : List Str), FunD G.K x qual params body scope [] [] (G.fa f) fd ∧ FnScope N ps scope ∧ N.length = fn.nN ∧ ps.length = fn.ps ∧
    (∀ (kV doc pm : Value) (an : Option Addr) (cdv ct : Value) (us : List Value), us.length = ps.length → bindArgs (PySem.W.fnOf x qual params body scope .none kV doc pm an cdv ct) ⟨us, []⟩ = pure (ps.zip us)) ∧
    chkSs { N := N, sc := scope, og := none, hot := false, D := G.D } fn.body body = true
structure PrF (G : Gx) (mg : Str → Option Value) (P : Program) : Prop where
  pr : Pr G mg
  prx : PrX G mg
  fn : ∀ (f : Nat) (fn : Fn), G.D.fns[f]? = some fn → FnF G f fn
  mkx : ∀ X : Cx, X.prog = P → X.K = G.K → X.mg = mg → X.calm = true → Room 4 X.A → MkOk G X
theorem start_get {ρ : Rho} {G : Gx} {H : Hp} {ts : List T} {vs : List V} {a b : Nat} (rl : RvL G ρ H ts vs) (e : a = b) : EnR G none ρ H (ts.map some ++ List.replicate (a - ts.length) none) (vs.map some ++ List.replicate (b - vs.length) none) := by
  subst e
  have hl := rl.len
  refine ⟨by simp [hl], (fun q hq => by cases hq), fun i t h => ?_⟩
  by_cases hi : i < ts.length
  · rw [List.getElem?_append_left (by simpa using hi), List.getElem?_map] at h
    obtain ⟨u, hu, e⟩ := opt_map h
    cases e
    obtain ⟨v, hv, rv⟩ := rl.get hu
    exact ⟨v, by rw [List.getElem?_append_left (by rw [List.length_map, hl]; exact hi), List.getElem?_map, hv]; rfl, rv⟩
  · rw [List.getElem?_append_right (by simpa using Nat.le_of_not_lt hi), List.getElem?_replicate] at h
    split at h <;> cases h
theorem post_fin {G : Gx} {ρ : Rho} {H : Hp} {E : XK} {Q : VK} {r : SR} (h : Post G (Rv G) ρ H E r.fin Q) : PostS G none (fun c d _ H' => E c d H') { nx := fun _ H' => Q .non H', rt := Q } ρ H r := by
  cases r with
  | nx env hs => exact fun ρ2 H2 σ2 s1 hr er => h ρ2 H2 .non s1 hr rv_non
  | ret t hs => exact h
  | exc c xs env hs => exact fun ρ2 H2 σ2 cls d s1 hr er x => h ρ2 H2 cls d s1 hr x
  | brk env hs => exact h.elim
  | cont env hs => exact h.elim
  | bad => exact h.elim
theorem cal_all {G : Gx} {mg : Str → Option Value} {P : Program} (F : PrF G mg P) (wn : Nat) (w : World) (base : Heap) : ∀ n, CalOk G (callN G.D wn n) (2 * n + 4) P w mg base
  | 0 => ⟨fun f A outer s H us vs ts hs ρ Q E hf hr hg e0 hv hhr rl p => p.elim⟩
  | n + 1 => by
    have ih := cal_all F wn w base n
    refine ⟨fun f A outer s H us vs ts hs ρ Q E hf hr hg e0 hv hhr rl p => ?_⟩
    have efn : G.D.fns[f]? = some G.D.fns[f] := List.getElem?_eq_getElem hf
    generalize G.D.fns[f] = fn at efn
    obtain ⟨x, qual, params, body, scope, fd, N, ps, hF, hS, hN, hps, hbind, hchk⟩ := (F.fn f fn efn).ex
    unfold callN at p
    rw [efn] at p
    dsimp only at p
    by_cases hc : ts.length = fn.ps ∧ fn.ps ≤ fn.nN
    · rw [if_pos hc] at p
      have lenV : vs.length = ps.length := by rw [rl.len, hc.1, hps]
      have lenU : us.length = ps.length := by rw [← hv.length, lenV]
      have bnd : BindsTo s fd ⟨us, []⟩ (ps.zip us) := hF.bindsA hbind s us lenU
      obtain ⟨oc, od, dV, kV, doc, pm, an, cdv, ct, osl, rfl, lk, hcd, _, _⟩ := hF.ex
      have KX : G.K.In s.heap := e0.mod.kin.keeps fun b o z => (e0.bs b o z).1
      have nolim : s.heap.NoLimit := e0.mod.nolimit.keeps fun b o z => (e0.bs b o z).1
      have kinds : ∀ q ∈ ps.zip us, scope.names.lookup q.1 = some .local ∨ (scope.names.lookup q.1 = some .cell ∧ ((cellsFrom (s.heap.objs.size + 1) scope.names []).lookup q.1).isSome = true) := by
        intro q hq
        have hm : q.1 ∈ ps := (List.of_mem_zip (a := q.1) (b := q.2) hq).1
        rcases hS.par q.1 hm with z | z
        · exact Or.inl z
        · exact Or.inr ⟨z, PySem.W.cellsFrom_some _ _ _ (Or.inl z)⟩
      refine codeAny_call_function hr.depth (KX _ _ lk) rfl hS.co hS.gen rfl (PySem.W.codeRec_of KX hcd) (bnd _ _ _ _ ?_)
      refine wpAny_newFunctionEnv_cells hS.kind kinds fun env0 he0 s1 xc => ?_
      subst he0
      refine ⟨nolim.keeps xc.toInCall.keep, codeAny_func ?_⟩
      have hr1 : Room (2 * n + 5) (A.deeper (envOfC qual scope s.heap.objs.size (G.fa f) cdv)) := Room.deeper (k := 2 * n + 5) (hr.mono (j := 2 * n + 5 + 1) (by omega)) _
      have I : Inv (cxOf (L2.CX P w) P w G.K mg base N qual scope (G.fa f) cdv A outer s H E) [] (start N vs) H s1 := inv_start hS hr.hd e0 lenV hv xc
      have ok : OkS G { N := N, sc := scope, og := none, hot := false, D := G.D } (callN G.D wn n) (fun c d _ H' => E c d H') none (cxOf (L2.CX P w) P w G.K mg base N qual scope (G.fa f) cdv A outer s H E) :=
        { ok := ⟨F.pr, rfl, rfl, rfl, rfl, hS.nd, fun _ => rfl, by have := hr1.un; show (A.deeper _).units + 200 < cLine; omega, fun _ => ⟨rfl, hg, rfl, 2 * n + 4, hr1, ih⟩, (fun z => by cases z), takes_of rfl rfl rfl rfl⟩
          og := rfl
          prx := F.prx
          po := fun _ => passes_of rfl
          stack := rfl
          frame := rfl
          kind := hS.kind
          mkx := fun _ pn xe => F.mkx _ rfl rfl rfl rfl (hr1.mono (by omega)) }
      have run := (soundSs G wn fn.body ok hchk).run [] s1 (start N vs) H { nx := fun _ H' => Q .non H', rt := Q } I ⟨ρ, _, hs, start_get rl hN.symm, hhr, post_fin p⟩
      refine wpAny_mono run (fun res s' hq => ?_) fun _ _ z => z
      cases res with
      | ret u =>
        obtain ⟨v, σ', H', J, rv, q⟩ := hq
        exact ⟨v, H', J.os, J.bare, J.base, J.hok, rv, q⟩
      | next =>
        obtain ⟨σ', H', J, q⟩ := hq
        exact ⟨V.non, H', J.os, J.bare, J.base, J.hok, rfl, q⟩
      | brk => exact hq.elim fun _ z => z.elim fun _ y => y.2.elim
      | cont => exact hq.elim fun _ z => z.elim fun _ y => y.2.elim
    · rw [if_neg hc] at p
      exact p.elim
end Fs
end

section
set_option Elab.async false
set_option linter.all false
set_option maxRecDepth 100000
/-! Fs17: the facts of the written part as one test; a law's call. -/
namespace Fs
open PySem L2 PyProof.Rows
/-- what is printed for a law: the table; for each def where it stands, its qualified name, its names, its text (parameters, body, scope) -/
structure Dd where
  at_ : Str × Option Str
  qual : Str
  N : List Str
  ps : List Str
  st : Stmt
def dArgs : Stmt → Arguments
  | .FunctionDef (args := a) .. => a
  | _ => ⟨[], [], none, [], [], none, []⟩
def dBody : Stmt → List Stmt
  | .FunctionDef (body := b) .. => b
  | _ => []
def dScope : Stmt → Scope
  | .FunctionDef (scope := s) .. => s
  | _ => ⟨.function, [], false, false, []⟩
def dName (d : Dd) : Str := match d.at_.2 with
  | some m => m
  | none => d.at_.1
def Dd.def_ (d : Dd) : He.DefD := ⟨d.at_, dName d, d.qual, dArgs d.st, dBody d.st, dScope d.st, [], []⟩
def clNm : Cl → Str
  | .plain nm _ _ => nm
  | .exc nm _ _ => nm
def gxOf (D : Tb) (dd : List Dd) (K : PySem.W.Frag) : Gx where
  K := K
  fa := fun f => match dd[f]? with
    | some d => He.fAd K d.at_
    | none => 0
  ca := fun c => match D.cls[c]? with
    | some q => He.ga K (clNm q)
    | none => 0
  D := D
/-! ### constants -/
def noMut : T → Bool
  | .lst _ => false
  | .ref _ => false
  | .scr _ => false
  | .fn _ => false
  | _ => true
mutual
def relT (K : PySem.W.Frag) : T → Value → Bool
  | .non, u => match u with
    | .none => true
    | _ => false
  | .bl b, u => match u with
    | .bool c => b == c
    | _ => false
  | .int i, u => match u with
    | .int j _ => decide (i = j)
    | _ => false
  | .str x, u => match u with
    | .str y _ => decide (x = y)
    | _ => false
  | .tup ts, u => match u with
    | .ref a => (match K.lookup a with
      | some ⟨.type c, _, .seq its _, _⟩ => decide (c = "tuple") && (decide (its.size ≤ sizeLine) && relTs K ts its.toList)
      | _ => false)
    | _ => false
  | _, _ => false
def relTs (K : PySem.W.Frag) : List T → List Value → Bool
  | [], us => us.isEmpty
  | t :: ts, us => match us with
    | u :: us => relT K t u && relTs K ts us
    | [] => false
end
mutual
theorem relT_ok {G : Gx} : ∀ (t : T) (u : Value), relT G.K t u = true → ∃ v, RelV v u ∧ ∀ ρ H, Rv G ρ H t v
  | .non, u, h => by
    simp only [relT] at h
    split at h
    · exact ⟨.non, rfl, fun _ _ => rv_non⟩
    · cases h
  | .bl b, u, h => by
    simp only [relT] at h
    split at h
    · have e := eq_of_beq h
      subst e
      exact ⟨.bl b, rfl, fun _ _ => rv_bl⟩
    · cases h
  | .int i, u, h => by
    simp only [relT] at h
    split at h
    · have e := of_decide_eq_true h
      subst e
      exact ⟨.int i, ⟨_, rfl⟩, fun _ _ => rv_int⟩
    · cases h
  | .str x, u, h => by
    simp only [relT] at h
    split at h
    · have e := of_decide_eq_true h
      subst e
      exact ⟨.str x, ⟨_, rfl⟩, fun _ _ => rv_str⟩
    · cases h
  | .tup ts, u, h => by
    simp only [relT] at h
    split at h
    · rename_i a
      split at h
      · rename_i c od its n sl e
        simp only [Bool.and_eq_true, decide_eq_true_eq] at h
        obtain ⟨h1, h2, h3⟩ := h
        subst h1
        obtain ⟨vs, r1, r2⟩ := relTs_ok ts its.toList h3
        refine ⟨.ref a, rfl, fun ρ H => ?_⟩
        simp only [Rv]
        exact ⟨a, vs, rfl, .inr ⟨_, its, n, e, rfl, rfl, h2, r1⟩, r2 ρ H⟩
      · cases h
    · cases h
  | .lst _, u, h => by simp [relT] at h
  | .scr _, u, h => by simp [relT] at h
  | .ref _, u, h => by simp [relT] at h
  | .fn _, u, h => by simp [relT] at h
theorem relTs_ok {G : Gx} : ∀ (ts : List T) (us : List Value), relTs G.K ts us = true → ∃ vs, Vals vs us ∧ ∀ ρ H, RvL G ρ H ts vs
  | [], us, h => by
    cases us with
    | nil => exact ⟨[], .nil, fun _ _ => rvl_nil⟩
    | cons _ _ => cases h
  | t :: ts, us, h => by
    cases us with
    | nil => cases h
    | cons u us =>
      simp only [relTs, Bool.and_eq_true] at h
      obtain ⟨v, r1, r2⟩ := relT_ok t u h.1
      obtain ⟨vs, r3, r4⟩ := relTs_ok ts us h.2
      refine ⟨v :: vs, .cons r1 r3, fun ρ H => ?_⟩
      simp only [RvL]
      exact ⟨v, vs, rfl, r2 ρ H, r4 ρ H⟩
end
/-! ### the test -/
def allBi : List Bi := [.abs, .all, .any, .int, .len, .list, .max1, .min1, .repr, .str, .sum, .tuple, .isinst .int]
def allKd : List Kd := [.non, .bl, .int, .str, .tup, .lst, .dct]
def freeB (K : PySem.W.Frag) (x : Str) : Bool := (He.Fa.free x).ok K
def defB (D : Tb) (K : PySem.W.Frag) (d : Dd) (fn : Fn) : Bool := PySem.W.keepIn K (.ref (He.fAd K d.at_)) && (match fn.cls with
  | none => decide (d.at_ = (fn.nm, none)) && (He.Fa.glo fn.nm).ok K
  | some c => match D.cls[c]? with
    | some q => decide (d.at_ = (clNm q, some fn.nm)) && ((He.Fa.cls (clNm q)).ok K && (He.Fa.meth (clNm q) fn.nm).ok K)
    | none => false)
def clB (D : Tb) (dd : List Dd) (K : PySem.W.Frag) : Cl → Bool
  | .plain nm i fl => ((He.Fa.glo nm).ok K && (He.Fa.mkr nm).ok K) && ((He.Fa.cls nm).ok K && ((fl.all fun f => (He.Fa.noat nm f).ok K) && (match dd[i]? with
    | some d => decide (d.at_ = (nm, some ("__init__" : Str))) && decide (i < D.fns.length)
    | none => false)))
  | .exc nm fl up => (He.Fa.glo nm).ok K && ((He.Fa.keep nm).ok K && (xfB K (He.ga K nm) && (fl.all fun f => decide (PySem.W.findIn K (.ref (He.ga K nm)) f = some none))))
def exmB (D : Tb) (K : PySem.W.Frag) : Bool := D.cls.all fun q => match q with
  | .exc nm _ up => (List.range D.cls.length).all fun j => match D.cls[j]? with
    | some (.exc nm' _ _) => decide (PySem.W.exmOne K (.ref (He.ga K nm)) (.ref (He.ga K nm')) = some (up.contains j))
    | _ => true
  | _ => true
def zipAll {α β : Type} (p : α → β → Bool) : List α → List β → Bool
  | [], [] => true
  | a :: as, b :: bs => p a b && zipAll p as bs
  | _, _ => false
theorem zipAll_get {α β : Type} {p : α → β → Bool} : ∀ {as : List α} {bs : List β} {i : Nat} {b : β}, zipAll p as bs = true → bs[i]? = some b → ∃ a, as[i]? = some a ∧ p a b = true
  | [], [], i, b, h, e => by simp at e
  | [], _ :: _, _, _, h, _ => by cases h
  | _ :: _, [], _, _, h, _ => by cases h
  | a :: as, b' :: bs, 0, b, h, e => by
    simp only [zipAll, Bool.and_eq_true] at h
    simp at e
    subst e
    exact ⟨a, rfl, h.1⟩
  | a :: as, b' :: bs, i + 1, b, h, e => by
    simp only [zipAll, Bool.and_eq_true] at h
    obtain ⟨a', e1, e2⟩ := zipAll_get (i := i) h.2 (by simpa using e)
    exact ⟨a', by simpa using e1, e2⟩
def prB (D : Tb) (dd : List Dd) (K : PySem.W.Frag) : Bool :=
  ((allBi.all fun b => freeB K (biNm b)) && ((allKd.all fun k => freeB K (kdNm k)) && freeB K "range")) &&
  ((D.cns.all fun p => match PySem.W.nsIn K mainGlobals p.1 with
    | some (some u) => relT K p.2 u
    | _ => false) && (zipAll (defB D K) dd D.fns && ((D.cls.all fun q => clB D dd K q) && exmB D K)))
theorem pr_of {D : Tb} {dd : List Dd} {K : PySem.W.Frag} {h : Heap} {mg : Str → Option Value} (X : K.In h) (Gn : h.Ns mainGlobals mg) (c : prB D dd K = true) : Pr (gxOf D dd K) mg ∧ PrX (gxOf D dd K) mg := by
  unfold prB at c
  simp only [Bool.and_eq_true] at c
  obtain ⟨⟨c1, c2, c3⟩, c4, c5, c6, c7⟩ := c
  have bi : ∀ b, mg (biNm b) = none := fun b => by
    have key : ∀ b ∈ allBi, mg (biNm b) = none := fun b hb => He.free_ok X Gn (List.all_eq_true.mp c1 b hb)
    cases b with
    | abs => exact key .abs (by simp [allBi])
    | all => exact key .all (by simp [allBi])
    | any => exact key .any (by simp [allBi])
    | int => exact key .int (by simp [allBi])
    | len => exact key .len (by simp [allBi])
    | list => exact key .list (by simp [allBi])
    | max1 => exact key .max1 (by simp [allBi])
    | max2 => exact key .max1 (by simp [allBi])
    | min1 => exact key .min1 (by simp [allBi])
    | min2 => exact key .min1 (by simp [allBi])
    | repr => exact key .repr (by simp [allBi])
    | str => exact key .str (by simp [allBi])
    | sum => exact key .sum (by simp [allBi])
    | tuple => exact key .tuple (by simp [allBi])
    | isinst k => exact key (.isinst .int) (by simp [allBi])
  have fns : ∀ (f : Nat) (fn : Fn), D.fns[f]? = some fn → ∃ d, dd[f]? = some d ∧ defB D K d fn = true := fun f fn e => zipAll_get c5 e
  have cls : ∀ (c : Nat) (q : Cl), D.cls[c]? = some q → clB D dd K q = true := fun c q e => List.all_eq_true.mp c6 q (List.mem_of_getElem? e)
  have eca : ∀ {c : Nat} {q : Cl}, D.cls[c]? = some q → (gxOf D dd K).ca c = He.ga K (clNm q) := fun {c q} e => by
    show (match D.cls[c]? with
      | some q => He.ga K (clNm q)
      | none => 0) = _
    rw [e]
  have efa : ∀ {f : Nat} {d : Dd}, dd[f]? = some d → (gxOf D dd K).fa f = He.fAd K d.at_ := fun {f d} e => by
    show (match dd[f]? with
      | some d => He.fAd K d.at_
      | none => 0) = _
    rw [e]
  refine ⟨⟨bi, fun k => He.free_ok X Gn (List.all_eq_true.mp c2 k (by cases k <;> simp [allKd])), He.free_ok X Gn c3, fun g p e => ?_, fun f fn e hc => ?_, fun f fn e => ?_, fun f fn c e hc => ?_, fun c nm i fl e => ?_, fun c f hf => ?_, fun c nm fl up e => ?_⟩, ⟨fun c nm fl up e => ?_, fun c j nm nm' fl fl' up up' e e' => ?_⟩⟩
  · have q := List.all_eq_true.mp c4 p (List.mem_of_getElem? e)
    split at q
    · rename_i u hu
      obtain ⟨v, r1, r2⟩ := relT_ok (G := gxOf D dd K) p.2 u q
      exact ⟨v, u, PySem.W.mg_of X Gn hu, r1, fun ρ hs H _ => r2 ρ H⟩
    · cases q
  · obtain ⟨d, e1, e2⟩ := fns f fn e
    unfold defB at e2
    rw [hc] at e2
    simp only [Bool.and_eq_true, decide_eq_true_eq] at e2
    rw [efa e1, e2.2.1]
    exact He.glo_ok X Gn e2.2.2
  · obtain ⟨d, e1, e2⟩ := fns f fn e
    unfold defB at e2
    rw [Bool.and_eq_true] at e2
    rw [efa e1]
    exact e2.1
  · obtain ⟨d, e1, e2⟩ := fns f fn e
    unfold defB at e2
    rw [hc] at e2
    dsimp only at e2
    cases q : D.cls[c]? with
    | none => rw [q] at e2; simp at e2
    | some q' =>
      rw [q] at e2
      simp only [Bool.and_eq_true, decide_eq_true_eq] at e2
      obtain ⟨_, e3, e4, e5⟩ := e2
      rw [efa e1, eca q, e3]
      exact ⟨He.cls_ok e4, He.meth_ok e5⟩
  · have q := cls c _ e
    simp only [clB, Bool.and_eq_true] at q
    obtain ⟨⟨q1, q2⟩, q3, q4, q5⟩ := q
    rw [eca e]
    split at q5
    · rename_i d hd
      simp only [Bool.and_eq_true, decide_eq_true_eq] at q5
      rw [efa hd, q5.1]
      exact ⟨He.glo_ok X Gn q1, He.mkr_ok q2, q5.2⟩
    · cases q5
  · unfold hasF at hf
    split at hf
    · rename_i nm i fl e
      have q := cls c _ e
      simp only [clB, Bool.and_eq_true] at q
      obtain ⟨⟨q1, q2⟩, q3, q4, q5⟩ := q
      rw [eca e]
      exact ⟨He.cls_ok q3, He.noat_ok (List.all_eq_true.mp q4 f (by simpa using hf))⟩
    · cases hf
  · have q := cls c _ e
    simp only [clB, Bool.and_eq_true] at q
    obtain ⟨q1, q2, q3, q4⟩ := q
    rw [eca e]
    exact ⟨xfB_ok q3, fun f hf => of_decide_eq_true (List.all_eq_true.mp q4 f hf)⟩
  · have q := cls c _ e
    simp only [clB, Bool.and_eq_true] at q
    obtain ⟨q1, q2, q3, q4⟩ := q
    rw [eca e]
    exact ⟨He.glo_ok X Gn q1, He.keep_ok q2⟩
  · unfold exmB at c7
    have q := List.all_eq_true.mp c7 _ (List.mem_of_getElem? e)
    dsimp only at q
    have q2 := List.all_eq_true.mp q j (List.mem_range.mpr (List.getElem?_eq_some_iff.mp e').1)
    rw [show D.cls[j]? = some (.exc nm' fl' up') from e'] at q2
    dsimp only at q2
    rw [eca e, eca e']
    exact of_decide_eq_true q2
end Fs
end

section
set_option Elab.async false
set_option linter.all false
set_option maxRecDepth 100000
/-! Fs18: the head: the facts behind the top; the law's call; a law from its table and what its term answers. -/
namespace Fs
open PySem L2 PyProof.Rows
/-- every parameter is given -/
def BindD (d : Dd) : Prop := ∀ (kV doc pm : Value) (an : Option Addr) (cdv ct : Value) (us : List Value), us.length = d.ps.length → bindArgs (PySem.W.fnOf (dName d) d.qual (dArgs d.st) (dBody d.st) (dScope d.st) .none kV doc pm an cdv ct) ⟨us, []⟩ = pure (d.ps.zip us)
def BindAll (dd : List Dd) : Prop := ∀ d ∈ dd, BindD d
theorem ball_nil : BindAll [] := fun d h => by cases h
theorem ball_cons {d : Dd} {r : List Dd} (h : BindD d) (hr : BindAll r) : BindAll (d :: r) := fun x hx => by
  rcases List.mem_cons.mp hx with rfl | hx
  · exact h
  · exact hr x hx
def txtB (D : Tb) (d : Dd) (fn : Fn) : Bool := C8.scC d.N d.ps (dScope d.st) && (decide (d.N.length = fn.nN) && (decide (d.ps.length = fn.ps) && chkSs { N := d.N, sc := dScope d.st, og := none, hot := false, D := D } fn.body (dBody d.st)))
/-! ### the law's call -/
theorem hr_nil {G : Gx} {H : Hp} : HR G ⟨[], []⟩ [] H := ⟨rfl, (fun a h => by cases h), (fun i j a h => by simp at h), (fun k a o h => by simp at h), fun k o h => by simp at h⟩
theorem law_go {G : Gx} {mg mb : Str → Option Value} {P : Program} (F : PrF G mg P) {wn n fl : Nat} {w : World} {a : Addr} {s₁ : Shared} {us : List Value} {ns : List Int} (hf : fl < G.D.fns.length)
    (KX : G.K.In s₁.heap) (gs : s₁.heap.Ns mainGlobals mg) (bs : s₁.heap.Ns builtinsNs mb) (bb : ∀ x : Str, x ≠ "__name__" → mb x = bootBuiltins x) (nl : s₁.heap.NoLimit) (ge : s₁.gens = #[])
    (ob : s₁.heap.get? a = some { cls := .type "list", data := .seq us.toArray }) (ia : IntsAre us ns) (ln : ns.length ≤ sizeLine) (room : Room (2 * n + 4) callerA) (ans : ∃ h', callN G.D wn n fl [.scr ns] [] = .ok (.bl true) h') :
    codeAny (model P w) callerA (.call (.ref (G.fa fl)) ⟨[.ref a], []⟩) (fun r s' => r = .ok (.ret (.bool true)) ∧ OldK s₁.heap s'.heap ∧ s'.os = s₁.os ∧ AllBare s'.gens) s₁ := by
  obtain ⟨hend, ans⟩ := ans
  have rel := vals_ints ia
  have many := ia.length
  -- over an abstract heap that tracks the script at most
  have go : ∀ H : Hp, Only H → ((∃ o, H a = some (.frz o (.lst (ns.map V.int)))) ∨ ∀ H', SqL G.K H' a (ns.map V.int)) → HOk P w H s₁.heap → (∀ b, H b ≠ none → b = a) → (H a ≠ none → G.K.lookup a = none) →
      codeAny (model P w) callerA (.call (.ref (G.fa fl)) ⟨[.ref a], []⟩) (fun r s' => r = .ok (.ret (.bool true)) ∧ OldK s₁.heap s'.heap ∧ s'.os = s₁.os ∧ AllBare s'.gens) s₁ := by
    intro H only scr hok onlyA offK
    have stays : ∀ {b : Addr} {o : Obj}, s₁.heap.get? b = some o → H b = none → (hidT s₁.heap H).get? b = some o := fun z q => hidT_get z q
    have dictFree : ∀ {b : Addr} {o : Obj} {es : Array DictEntry} {ep : Nat}, s₁.heap.get? b = some o → o.data = .dict es ep → H b = none := by
      intro b o es ep z dt
      cases q : H b with
      | none => rfl
      | some u =>
        have same := onlyA b (by rw [q]; simp)
        rw [same, ob] at z
        cases z
        cases (show Data.seq us.toArray _ = Data.dict es ep from dt)
    have spaces : ∀ {b : Addr} {m : Str → Option Value}, s₁.heap.Ns b m → (hidT s₁.heap H).Ns b m := by
      rintro b m ⟨o, es, ep, z, dt, r⟩
      exact ⟨o, es, ep, stays z (dictFree z dt), dt, r⟩
    have inK : G.K.In (hidT s₁.heap H) := by
      intro b o z
      refine stays (KX b o z) ?_
      cases q : H b with
      | none => rfl
      | some u =>
        have same := onlyA b (by rw [q]; simp)
        subst same
        have off := offK (by rw [q]; simp)
        rw [off] at z
        cases z
    have modl : Mod G.K mg (hidT s₁.heap H) := by
      obtain ⟨mc, l1, l2⟩ := nl
      exact ⟨inK, spaces gs, ⟨mb, spaces bs, bb⟩, ⟨mc, spaces l1, l2⟩⟩
    have e0 : Env0 P w G.K mg (hidT s₁.heap H) callerA [] s₁ H :=
      ⟨rfl, modl, fun b o z => of_hidT z, Nat.le_of_eq (hidT_size _ _), trivial, (fun b hb => by cases hb), hok, .of_eq ge⟩
    have rl : RvL G ⟨[], []⟩ H [.scr ns] [.ref a] := by
      refine .one ?_
      simp only [Rv]
      exact ⟨a, rfl, scr⟩
    have q : Post G (Rv G) ⟨[], []⟩ H (fun _ _ _ => False) (callN G.D wn n fl [.scr ns] []) (fun v _ => v = .bl true) := by
      rw [ans]
      intro ρ' H' v _ _ rv
      simpa only [Rv] using rv
    refine codeAny_mono ((cal_all F wn w (hidT s₁.heap H) n).run fl callerA [] s₁ H [.ref a] [.ref a] [.scr ns] [] ⟨[], []⟩ _ _ hf room rfl e0 (.cons rfl .nil) hr_nil rl q) fun res s' fin => ?_
    cases res with
    | error e =>
      obtain ⟨_, _, _, _, _, _, _, _, _, _, _, _, z⟩ := fin
      exact z.elim
    | ok flw =>
      cases flw with
      | next => exact fin.elim
      | brk => exact fin.elim
      | cont => exact fin.elim
      | ret u =>
        obtain ⟨v, H', os, bare, un, hok', rv, ev⟩ := fin
        have ev' : v = .bl true := ev
        subst ev'
        obtain rfl : u = Value.bool true := rv
        refine ⟨rfl, OldK.of_keep fun b o z => ?_, os, bare⟩
        cases q : H b with
        | none => exact un.keep b o z q (by simp [frs]) (by simp)
        | some u =>
          rcases only b with y | ⟨o2, zs, y⟩
          · rw [q] at y
            cases y
          · have y2 := un.frzs b o2 _ y
            have p1 := (hok b _ y).1
            have p2 := (hok' b _ y2).1
            rw [z] at p1
            cases p1
            exact p2
  cases kA : G.K.lookup a with
  | some o =>
    have z := KX a o kA
    rw [ob] at z
    cases z
    have sq : ∀ H', SqL G.K H' a (ns.map V.int) := fun H' => .inr ⟨_, us.toArray, _, kA, rfl, rfl, rfl, (by rw [List.size_toArray, many]; exact ln), (by simpa using rel)⟩
    exact go (fun _ => none) (fun _ => .inl rfl) (.inr sq) (fun b u y => by cases (show (none : Option HO) = some u from y)) (fun b y => (y rfl).elim) fun y => (y rfl).elim
  | none =>
    refine go (fun b => if b = a then some (.frz { cls := .type "list", data := .seq us.toArray } (.lst (ns.map V.int))) else none) (fun b => ?_) (.inl ⟨{ cls := .type "list", data := .seq us.toArray }, if_pos rfl⟩) (fun b u y => ?_) (fun b y => ?_) fun _ => kA
    · by_cases e : b = a
      · exact .inr ⟨_, _, if_pos e⟩
      · exact .inl (if_neg e)
    · by_cases e : b = a
      · have y2 := (if_pos e).symm.trans y
        cases y2
        subst e
        exact ⟨ob, (by rw [List.length_map]; exact ln), us, _, rel, ob⟩
      · have y2 := (if_neg e).symm.trans y
        cases y2
    · by_cases e : b = a
      · exact e
      · exact (y (if_neg e)).elim
end Fs
end

section
set_option Elab.async false
set_option linter.all false
set_option maxRecDepth 100000
set_option maxHeartbeats 2000000
/-! Fs19: own exceptions: a class without __init__; one whose __init__ says super().__init__(..), then stores its parameters as fields. -/
namespace Fs
open PySem L2 PySem.W PySem.Calls

/-! ### the text of such an __init__ -/
def nmsB : List Str → List Expr → Bool
  | [], xs => xs.isEmpty
  | f :: fl, xs => match xs with
    | .Name y _ :: r => decide (y = f) && nmsB fl r
    | _ => false
def stB : List Str → List Stmt → Bool
  | [], xs => xs.isEmpty
  | f :: fl, xs => match xs with
    | .Assign [.Attribute (.Name z _) g _] (.Name y _) _ :: r => (decide (z = ("self" : Str)) && (decide (g = f) && decide (y = f))) && stB fl r
    | _ => false
def initB (fl : List Str) (body : List Stmt) : Bool := match body with
  | .Expr (.Call (.Attribute (.Call (.Name sp _) [] [] _) m apos) xs [] pos) _ :: r => (decide (sp = ("super" : Str)) && (decide (m = ("__init__" : Str)) && ((apos.endLine == pos.line) && decide (xs.length < 20)))) && (nmsB fl xs && stB fl r)
  | _ => false
def okName (f : Str) : Bool := !(f == ("__debug__" : Str)) && !(f == ("__classdict__" : Str))
def initScB (fl : List Str) (sc : Scope) : Bool := (decide (sc.kind = .function) && (!sc.isCoroutine && !sc.isGenerator)) && ((decide (sc.names.lookup ("super" : Str) = some .globalImplicit) && decide (sc.names.lookup ("__class__" : Str) = some .free)) &&
  (((("self" : Str) :: fl).all fun f => decide (sc.names.lookup f = some .local) && okName f) && ((sc.names.all fun y => !decide (y.2 = .cell) && (!decide (y.2 = .free) || decide (y.1 = ("__class__" : Str)))) && decide ((("self" : Str) :: fl).Nodup))))

section
variable {X : Cx} {σ : St}
/-- names, one after another -/
def tNs : List Nat → TA
  | [] => tNil
  | i :: is => tCons (tVar i) (tNs is)
theorem pa_names {N : List Str} (hN : X.N = N) (hv : ∀ (i : Nat) (f : Str), N[i]? = some f → Vis X.env.scope f ∧ (f == ("__debug__" : Str)) = false ∧ (f == ("__classdict__" : Str)) = false) : ∀ (fl : List Str) (k : Nat) (xs : List Expr), nmsB fl xs = true → (∀ (j : Nat) (f : Str), fl[j]? = some f → N[k + j]? = some f) →
    PA X xs (tNs ((List.range fl.length).map (k + ·))) ∧ xs.all plainX = true
  | [], k, xs, h, _ => by
    cases xs with
    | nil => exact ⟨pa_nil, rfl⟩
    | cons _ _ => simp [nmsB] at h
  | f :: fl, k, xs, h, hn => by
    simp only [nmsB] at h
    split at h
    · rename_i y p r
      rw [Bool.and_eq_true, decide_eq_true_eq] at h
      obtain ⟨h1, h2⟩ := h
      subst h1
      obtain ⟨q1, q2⟩ := pa_names hN hv fl (k + 1) r h2 (fun j f' e => by
        have := hn (j + 1) f' (by simpa using e)
        rw [show k + 1 + j = k + (j + 1) by omega]
        exact this)
      have h0 : N[k]? = some y := by simpa using hn 0 y rfl
      obtain ⟨v1, v2, v3⟩ := hv k y h0
      have e1 : (List.range (y :: fl).length).map (k + ·) = k :: (List.range fl.length).map (k + 1 + ·) := by
        rw [List.length_cons, List.range_succ_eq_map, List.map_cons, List.map_map]
        congr 1
        apply List.map_congr_left
        intro a _
        show k + (a + 1) = k + 1 + a
        omega
      rw [e1]
      refine ⟨pa_cons (pe_var (by rw [hN]; exact h0) v1 v2 v3) q1 rfl, by simp only [List.all_cons, Bool.and_eq_true]; exact ⟨rfl, q2⟩⟩
    · cases h
theorem tNs_of {σ : St} {H : Hp} : ∀ (n k : Nat) (vs : List V) (Q : List V → Hp → Prop), (∀ (j : Nat) (v : V), vs[j]? = some v → σ[k + j]? = some (some v)) → vs.length = n → Q vs H → tNs ((List.range n).map (k + ·)) σ H Q
  | 0, k, vs, Q, _, hl, q => by
    have : vs = [] := List.length_eq_zero_iff.mp hl
    subst this
    exact q
  | n + 1, k, vs, Q, h, hl, q => by
    cases vs with
    | nil => cases hl
    | cons v vs =>
      have e1 : (List.range (n + 1)).map (k + ·) = k :: (List.range n).map (k + 1 + ·) := by
        rw [List.range_succ_eq_map, List.map_cons, List.map_map]
        congr 1
        apply List.map_congr_left
        intro a _
        show k + (a + 1) = k + 1 + a
        omega
      rw [e1]
      refine ⟨v, by simpa using h 0 v rfl, tNs_of n (k + 1) vs _ (fun j w e => ?_) (by simpa using hl) q⟩
      rw [show k + 1 + j = k + (j + 1) by omega]
      exact h (j + 1) w (by simpa using e)

/-- the exception that is being made: at a, its dict's fields so far; all else as it was -/
def Mkg (H1 : Hp) (a C : Addr) (fs : List (Str × V)) (H : Hp) : Prop :=
  (fs = [] ∧ H a = some (exo a C none) ∧ ∀ b, b ≠ a → H b = H1 b) ∨
  ∃ dx, H a = some (exo a C (some dx)) ∧ H dx = some (exd dx fs) ∧ H1 dx = none ∧ dx ≠ a ∧ ∀ b, b ≠ a → b ≠ dx → H b = H1 b
theorem stores_run {N : List Str} {C a : Addr} {H1 : Hp} (T : OexC X.K C) (hN : X.N = N) (hn0 : N[0]? = some ("self" : Str)) (hv : ∀ (i : Nat) (f : Str), N[i]? = some f → Vis X.env.scope f ∧ (f == ("__debug__" : Str)) = false ∧ (f == ("__classdict__" : Str)) = false) (hσ0 : σ[0]? = some (some (V.ref a))) :
    ∀ (fl : List Str) (k : Nat) (vs : List V) (r : List Stmt) (fs : List (Str × V)) (s : Shared) (H : Hp), stB fl r = true → (∀ (j : Nat) (f : Str), fl[j]? = some f → N[k + j]? = some f) → (∀ (j : Nat) (v : V), vs[j]? = some v → σ[k + j]? = some (some v)) → vs.length = fl.length → fs.length + fl.length ≤ 900 →
      (∀ f ∈ fl, findIn X.K (.ref C) f = some none) → Inv X [] σ H s → Mkg H1 a C fs H →
      wpAny (model X.prog X.w) X.A (execs r X.env) (fun fl' s' => fl' = .next ∧ ∃ H', Inv X [] σ H' s' ∧ Mkg H1 a C ((fl.zip vs).reverse ++ fs) H') X.xe s
  | [], k, vs, r, fs, s, H, h, _, _, hl, _, _, I, m => by
    cases r with
    | cons _ _ => simp [stB] at h
    | nil => exact wpAny_execs_nil ⟨rfl, H, I, by simpa using m⟩
  | f :: fl, k, vs, r, fs, s, H, h, hn, hσ, hl, hz, hno, I, m => by
    cases vs with
    | nil => cases hl
    | cons v vs =>
    simp only [stB] at h
    split at h
    · rename_i z p1 g p2 y p3 pos r
      simp only [Bool.and_eq_true, decide_eq_true_eq] at h
      obtain ⟨⟨e1, e2, e3⟩, h2⟩ := h
      subst e1 e2 e3
      have n1 : N[k]? = some y := by simpa using hn 0 y rfl
      have s1 : σ[k]? = some (some v) := by simpa using hσ 0 v rfl
      obtain ⟨v1, v2, v3⟩ := hv k y n1
      obtain ⟨u1, u2, u3⟩ := hv 0 _ hn0
      have fin : ∀ {s' : Shared} {H' : Hp}, Inv X [] σ H' s' → Mkg H1 a C ((y, v) :: fs) H' → wpAny (model X.prog X.w) X.A (execs r X.env) (fun fl' s' => fl' = .next ∧ ∃ H', Inv X [] σ H' s' ∧ Mkg H1 a C (((y :: fl).zip (v :: vs)).reverse ++ fs) H') X.xe s' := fun {s' H'} J m' => by
        have q := stores_run T hN hn0 hv hσ0 fl (k + 1) vs r ((y, v) :: fs) s' H' h2 (fun j f' e => by
          rw [show k + 1 + j = k + (j + 1) by omega]
          exact hn (j + 1) f' (by simpa using e)) (fun j w e => by
          rw [show k + 1 + j = k + (j + 1) by omega]
          exact hσ (j + 1) w (by simpa using e)) (by simpa using hl) (by simp at hz ⊢; omega) (fun f hf => hno f (List.mem_cons_of_mem _ hf)) J m'
        have ez : ((y :: fl).zip (v :: vs)).reverse ++ fs = (fl.zip vs).reverse ++ (y, v) :: fs := by simp
        rw [ez]
        exact q
      refine wpAny_execs_cons ?_
      refine plainObj_wpAny_Assign_Attribute (thn ((pe_var (X := X) (by rw [hN]; exact n1) v1 v2 v3).run [] s σ H (fun x H' => x = v ∧ H' = H) I ⟨_, s1, rfl, rfl⟩) fun w s2 hw => ?_) rfl
      obtain ⟨x, H2, I2, rx, e1, e2⟩ := hw
      subst e1 e2
      refine thn ((pe_var (X := X) (by rw [hN]; exact hn0) u1 u2 u3).run [] s2 σ H2 (fun x H' => x = .ref a ∧ H' = H2) I2 ⟨_, hσ0, rfl, rfl⟩) fun w2 s3 hw2 => ?_
      obtain ⟨x2, H3, I3, rx2, e1, e2⟩ := hw2
      subst e1 e2
      obtain rfl : w2 = Value.ref a := rx2
      rcases m with ⟨efs, ea, hb⟩ | ⟨dx, ea, ed, hd1, hda, hb⟩
      · subst efs
        refine ost_new T I3 ea (hno y List.mem_cons_self) rx fun dx s' n ne J => fin J ?_
        refine .inr ⟨dx, upd_same, by rw [upd_ne ne, upd_same], by rw [← hb dx ne]; exact n, ne, fun b h1 h2 => ?_⟩
        rw [upd_ne h1, upd_ne h2]
        exact hb b h1
      · refine ost_old T I3 ea ed (by simp at hz; omega) (hno y List.mem_cons_self) rx fun s' J => fin J ?_
        refine .inr ⟨dx, by rw [upd_ne (Ne.symm hda)]; exact ea, upd_same, hd1, hda, fun b h1 h2 => ?_⟩
        rw [upd_ne h2]
        exact hb b h1 h2
    · cases h
end
end Fs
end

section
set_option Elab.async false
set_option linter.all false
set_option maxRecDepth 100000
set_option maxHeartbeats 2000000
/-! Fs20: super().__init__(..) in an own exception's __init__; the exception's making. -/
namespace Fs
open PySem L2 PySem.W PySem.Calls
/-- the context of such an __init__ -/
def cxI (P : Program) (w : World) (K : Frag) (mg : Str → Option Value) (base : Heap) (N : List Str) (qual : Str) (sc : Scope) (fI cda cc : Addr) (A : Around) (outer : List Env) (s : Shared) (H : Hp) : Cx where
  prog := P
  w := w
  K := K
  mg := mg
  base := base
  A := A.deeper (ksEnv qual sc s.heap.objs.size fI (.ref cda) cc)
  N := N
  s_0 := s
  H_0 := H
  env := ksEnv qual sc s.heap.objs.size fI (.ref cda) cc
  outer := outer
  stack := ksEnv qual sc s.heap.objs.size fI (.ref cda) cc :: outer
  ex := []
  fn := fun _ => false
  calm := true
  pn := []
  xe := fun _ _ => False
theorem lookup_uniq {α : Type} {y : Str} {u : α} : ∀ {l : List (Str × α)}, (l.map (·.1)).Nodup → (y, u) ∈ l → l.lookup y = some u
  | [], _, h => by cases h
  | (z, v) :: l, n, h => by
    simp only [List.map_cons, List.nodup_cons] at n
    rw [List.lookup_cons]
    rcases List.mem_cons.mp h with e | e
    · cases e
      simp
    · have hne : ¬ y = z := fun q => n.1 (by rw [← q]; exact List.mem_map.mpr ⟨_, e, rfl⟩)
      have : (y == z) = false := by simpa using hne
      rw [this]
      exact lookup_uniq n.2 e
theorem zip_at {α : Type} {y : Str} {u : α} : ∀ {N : List Str} {us : List α} {i : Nat}, N[i]? = some y → us[i]? = some u → (y, u) ∈ N.zip us
  | [], _, _, h, _ => by simp at h
  | _ :: _, [], _, _, h => by simp at h
  | a :: N, b :: us, 0, h, h' => by
    simp at h h'
    subst h h'
    exact List.mem_cons_self
  | a :: N, b :: us, i + 1, h, h' => by
    rw [List.zip_cons_cons]
    exact List.mem_cons_of_mem _ (zip_at (i := i) (by simpa using h) (by simpa using h'))
theorem inv_I {P : Program} {w : World} {K : Frag} {mg : Str → Option Value} {base : Heap} {N : List Str} {qual : Str} {sc : Scope} {fI cda cc : Addr} {A : Around} {outer : List Env} {s : Shared} {H : Hp} {h₀ : Heap} {t : Nat} {us : List Value} {vs : List V}
    {cl : Value} {cld : Option Addr} {cv : Value} {csl : Array (Option Value)} (hd : A.handled = none) (e0 : Env0 P w K mg base A outer s H) (hns : h₀.Ns s.heap.objs.size (fun x => (N.zip us).reverse.lookup x)) (kk : ∀ b o, s.heap.get? b = some o → h₀.get? b = some o)
    (r : Vals vs us) (hl : vs.length = N.length) (nd : N.Nodup) (hk : sc.kind = .function) (hN : ∀ f ∈ N, sc.names.lookup f = some .local) (hc : ∀ y ∈ sc.names, y.2 ≠ .cell) (hf : ∀ y ∈ sc.names, y.2 = .free → y.1 = ("__class__" : Str))
    (hcell : K.lookup cc = some ⟨cl, cld, .cell (some cv), csl⟩) : Inv (cxI P w K mg base N qual sc fI cda cc A outer s H) [] (start N vs) H { s with heap := h₀, toks := t } := by
  have KX : K.In s.heap := e0.mod.kin.keeps fun b o z => (e0.bs b o z).1
  have hcs := KX _ _ hcell
  have cc1 : ∀ {y : Str} {c : Addr}, (cxI P w K mg base N qual sc fI cda cc A outer s H).env.cells.lookup y = some c → y = ("__class__" : Str) ∧ c = cc := fun {y c} e => by
    have e' : List.lookup y [(("__class__" : Str), cc)] = some c := e
    rw [List.lookup_cons] at e'
    cases q : y == ("__class__" : Str) with
    | true =>
      rw [q] at e'
      cases e'
      exact ⟨by simpa using q, rfl⟩
    | false => rw [q] at e'; cases e'
  have Hcc : H cc = none := (e0.bs cc _ (e0.mod.kin _ _ hcell)).2
  have noE : ∀ b : Addr, b ∉ (cxI P w K mg base N qual sc fI cda cc A outer s H).ex := fun b z => by cases (show b ∈ ([] : List Addr) from z)
  have lu : us.length = N.length := by rw [← r.length]; exact hl
  refine ⟨⟨e0.mod, hk, rfl, rfl, Nat.le_refl _, fun y z c h1 h2 => (cc1 h1).1.trans (cc1 h2).1.symm, fun y hy => ?_, (fun y c z _ => by cases z), fun _ => hd, Around.frames_deeper e0.frames, .inr ⟨rfl, rfl⟩, fun b z => absurd z (noE b), e0.bs, e0.bsz, fun b _ _ => noE b, fun b z => absurd z (noE b), e0.funs, e0.frf⟩,
    rfl, e0.bare, Un.kept kk, ⟨_, hns, fun i y v h1 h2 h3 => ?_⟩, fun y c h => ⟨some cv, ?_⟩, e0.hok.fresh (Nat.le_refl _), fun y c h => ?_, (fun p hp => by cases (show p ∈ ([] : List (Addr × Obj)) from hp)), e0.hok.kept kk, ?_⟩
  · have hy' : sc.names.lookup y = some .cell ∨ sc.names.lookup y = some .free := hy
    rcases hy' with q | q
    · exact absurd rfl (hc _ (PySem.mem_of_lookup q))
    · have := hf _ (PySem.mem_of_lookup q) rfl
      refine ⟨cc, ?_⟩
      show List.lookup y [(("__class__" : Str), cc)] = some cc
      have e : y = ("__class__" : Str) := this
      subst e
      simp
  · have hi : i < vs.length := by
      unfold L2.start at h2
      by_cases hi : i < vs.length
      · exact hi
      · rw [List.getElem?_append_right (by simpa using hi), List.getElem?_replicate] at h2
        split at h2 <;> cases h2
    have ha : vs[i]? = some v := by
      unfold L2.start at h2
      rw [List.getElem?_append_left (by simpa using hi), List.getElem?_map] at h2
      obtain ⟨a, e1, e2⟩ := Option.map_eq_some_iff.mp h2
      cases e2
      exact e1
    obtain ⟨u, hu, rv⟩ := r.get ha
    refine ⟨u, rv, .inl ⟨hN y (List.mem_of_getElem? h1), ?_⟩⟩
    refine lookup_uniq ?_ (List.mem_reverse.mpr (zip_at h1 hu))
    rw [List.map_reverse, List.map_fst_zip (by omega)]
    exact (List.reverse_perm N).nodup_iff.mpr nd
  · obtain ⟨_, e⟩ := cc1 h
    subst e
    exact ⟨_, kk _ _ hcs, rfl⟩
  · obtain ⟨_, e⟩ := cc1 h
    subst e
    exact Hcc
  · unfold L2.start
    show _ = N.length
    rw [List.length_append, List.length_map, List.length_replicate]
    omega
/-- ValueError.__init__, bound to the exception, called -/
theorem call_mw {X : Cx} {pins : List (Addr × Obj)} {σ : L2.St} {H : Hp} {s : Shared} {a C u : Addr} {us : List Value} {Q : Value → Shared → Prop} {E : Value → Shared → Prop} {A : Around} (T : OexC X.K C) (I : Inv X pins σ H s) (e : H a = some (exo a C none))
    (hu : s.heap.get? u = some (kxs_mw "ValueError.__init__" a)) (hl : us.length ≤ sizeLine) (h : ∀ s', Inv X pins σ H s' → Q .none s') : wpAny (model X.prog X.w) A (call (.ref u) us) Q E s := by
  obtain ⟨nm, q, N, bs, bm, sn, sub, ab, col, dd, k0, k1, k2, k3, k5, hC, hbm⟩ := T.cls
  obtain ⟨t1, ho⟩ := exo_at I.hok e
  have hCh := I.kIn _ _ hC
  obtain ⟨hp, g, d, t, os⟩ := s
  have fin : ∀ h', (∀ b o, b ≠ a → hp.get? b = some o → h'.get? b = some o) → h'.get? a = some (excRec (.ref C) hp.objs.size none .none .none (.bool false)) → h'.get? hp.objs.size = some (excTup us) → Q .none ⟨h', g, d, t, os⟩ := fun h' k hx _ => by
    have J := I.write (t' := t) (x := a) (e := a) (o := exo a C none) (by rw [e]; exact True.intro) (.inl rfl) k ⟨_, hx⟩ (exo_ok hx)
    have eu : upd H a (exo a C none) = H := by
      funext b
      by_cases hb : b = a
      · rw [hb, upd_same, e]
      · rw [upd_ne hb]
    rw [eu] at J
    exact h _ J
  refine wpAny_call (codeAny_of_tree ?_)
  show wpAny _ A.in1 (callAny (.ref u) ⟨us, []⟩) _ _ _
  simp only [callAny]
  refine wpAny_bind (wpAny_load hu ?_)
  simp only [kxs_mw, show (Value.type "method-wrapper" == Value.type "method" || Value.type "method-wrapper" == Value.type "builtin_function_or_method" || Value.type "method-wrapper" == Value.type "method-wrapper") = true by decide, if_true]
  refine KFB.if_so (by decide) ?_
  refine wpAny_bind (check_bound_init F.excBase_ValueError.toExcCallFacts hCh ho rfl ?_)
  refine wpAny_bind (wpAny_pure (wpAny_pure ?_))
  refine ⟨plainId_quiet F.excBase_ValueError.init.plain _, codeAny_builtin F.excBase_ValueError.initEntry ?_⟩
  exact exc_init_tree (cls := .ref C) (t0 := t1) (dv := none) (c2 := .none) (c3 := .none) (b4 := .bool false) ho hl fin
end Fs
end

section
set_option Elab.async false
set_option linter.all false
set_option maxRecDepth 100000
set_option maxHeartbeats 4000000
/-! Fs21: the __init__ of an own exception runs. -/
namespace Fs
open PySem L2 PySem.W PySem.Calls PyProof.Rows
structure XiF (K : Frag) (file : Str) (C : Addr) (fl : List Str) : Prop where
  ox : OexC K C
  no : ∀ f ∈ fl, findIn K (.ref C) f = some none
  su : ks_superIn K C C "__init__" = some (some (.builtin "ValueError.__init__"))
  op : nsIn K cStatics "thirdparty.any" = some none
  sb : subIn K (.ref C) (.type "ValueError") = some true
  mr : mroIn K C (.ref C) = some true
  few : fl.length ≤ 100
  ne : fl ≠ []
  ex : ∃ (fI cda cc : Addr) (qual : Str) (params : Arguments) (body : List Stmt) (sc : Scope) (kV doc pm : Value) (an : Option Addr) (ct oc : Value) (od : Option Addr) (osl : Array (Option Value)) (cl : Value) (cld : Option Addr) (csl : Array (Option Value)) (ccl : Value) (cdd : Option Addr) (fs : Array Value) (ccs : Array (Option Value)) (tf : Tok),
    findIn K (.ref C) "__init__" = some (some (.ref fI)) ∧ typeIn K (.ref fI) = some (.type "function") ∧
    K.lookup fI = some ⟨oc, od, .func (ksFn "__init__" qual params body sc .none kV doc pm an (.ref cda) ct cc), osl⟩ ∧ codeIn K (.ref cda) qual = true ∧
    K.lookup cc = some ⟨cl, cld, .cell (some (.ref C)), csl⟩ ∧ K.lookup cda = some ⟨ccl, cdd, .fields fs, ccs⟩ ∧ fs[2]? = some (.str file tf) ∧
    initB fl body = true ∧ initScB fl sc = true ∧ (∃ ar, (params.posonlyargs ++ params.args).head? = some ar ∧ ar.arg = ("self" : Str)) ∧
    ∀ us : List Value, us.length = (("self" : Str) :: fl).length → bindArgs (ksFn "__init__" qual params body sc .none kV doc pm an (.ref cda) ct cc) ⟨us, []⟩ = pure ((("self" : Str) :: fl).zip us)
theorem init_go {P : Program} {w : World} {K : Frag} {mg : Str → Option Value} {base : Heap} {A : Around} {outer : List Env} {s : Shared} {H1 : Hp} {a C : Addr} {fl : List Str} {file : Str} {us : List Value} {vs : List V} {k : Nat}
    (F0 : XiF K file C fl) (hfile : ((P.main.file : Str) == file) = true) (htop : (P.main.scope.names.lookup ("super" : Str)).isSome = false) (hms : mg "super" = none) (hr : Room (k + 1) A)
    (e0 : Env0 P w K mg base A outer s (upd H1 a (exo a C none))) (r : Vals vs us) (hl : vs.length = fl.length) (hb : ∀ b, b ≠ a → upd H1 a (exo a C none) b = H1 b) :
    ∃ fI : Addr, findIn K (.ref C) "__init__" = some (some (.ref fI)) ∧ typeIn K (.ref fI) = some (.type "function") ∧
    codeAny (model P w) A (.call (.ref fI) ⟨.ref a :: us, []⟩) (fun res s' => res = .ok (.ret .none) ∧ ∃ H2, s'.os = s.os ∧ AllBare s'.gens ∧ Un (frs outer) [] (upd H1 a (exo a C none)) H2 s.heap s'.heap ∧ HOk P w H2 s'.heap ∧ Mkg H1 a C (fl.zip vs).reverse H2) s := by
  obtain ⟨fI, cda, cc, qual, params, body, sc, kV, doc, pm, an, ct, oc, od, osl, cl, cld, csl, ccl, cdd, fs, ccs, tf, iC, tI, lk, hcd, hcell, hcode, hvs, hbody, hsc, ⟨ar, har, earg⟩, hbind⟩ := F0.ex
  refine ⟨fI, iC, tI, ?_⟩
  have KX : K.In s.heap := e0.mod.kin.keeps fun b o z => (e0.bs b o z).1
  have nolim : s.heap.NoLimit := e0.mod.nolimit.keeps fun b o z => (e0.bs b o z).1
  unfold initScB at hsc
  simp only [Bool.and_eq_true, decide_eq_true_eq, Bool.not_eq_true', List.all_eq_true, Bool.or_eq_true, decide_eq_false_iff_not] at hsc
  obtain ⟨⟨k1, k2, k3⟩, ⟨k4, k5⟩, k6, k7, k8⟩ := hsc
  have hN : ∀ f ∈ (("self" : Str) :: fl), sc.names.lookup f = some .local := fun f hf => (k6 f hf).1
  have hcell0 : ∀ y ∈ sc.names, y.2 ≠ .cell := fun y hy => (k7 y hy).1
  have hfree : ∀ y ∈ sc.names, y.2 = .free → y.1 = ("__class__" : Str) := fun y hy e => ((k7 y hy).2).resolve_left fun z => z e
  have lenU : (Value.ref a :: us).length = (("self" : Str) :: fl).length := by
    simp only [List.length_cons]
    rw [← r.length, hl]
  have lenV : (V.ref a :: vs).length = (("self" : Str) :: fl).length := by simp only [List.length_cons, hl]
  unfold initB at hbody
  split at hbody
  · rename_i sp p0 p1 m apos xs pos epos rest
    simp only [Bool.and_eq_true, decide_eq_true_eq] at hbody
    obtain ⟨⟨b1, b2, b3, b4⟩, b5, b6⟩ := hbody
    subst b1 b2
    refine ks_codeAny_call_defAt (fd := ksFn "__init__" qual params _ sc .none kV doc pm an (.ref cda) ct cc) (binds := (("self" : Str) :: fl).zip (.ref a :: us)) hr.depth (KX _ _ lk) rfl nolim (codeRec_of KX hcd) rfl (.of_eq (hbind _ lenU)) hcell0 (fun y hy => ?_) (fun h₀ hns kk => ?_) k2 k3 k1
    · exact hN y.1 (List.of_mem_zip (a := y.1) (b := y.2) hy).1
    · have I : Inv (cxI P w K mg base (("self" : Str) :: fl) qual sc fI cda cc A outer s (upd H1 a (exo a C none))) [] (L2.start (("self" : Str) :: fl) (.ref a :: vs)) (upd H1 a (exo a C none)) { s with heap := h₀, toks := s.toks + ((("self" : Str) :: fl).zip (Value.ref a :: us)).length } :=
        inv_I hr.hd e0 hns kk (.cons rfl r) lenV k8 k1 hN hcell0 hfree hcell
      have hea : upd H1 a (exo a C none) a = some (exo a C none) := upd_same
      have vis : ∀ (i : Nat) (f : Str), (("self" : Str) :: fl)[i]? = some f → Vis (cxI P w K mg base (("self" : Str) :: fl) qual sc fI cda cc A outer s (upd H1 a (exo a C none))).env.scope f ∧ (f == ("__debug__" : Str)) = false ∧ (f == ("__classdict__" : Str)) = false := fun i f e => by
        have hm := k6 f (List.mem_of_getElem? e)
        have q := hm.2
        unfold okName at q
        simp only [Bool.and_eq_true, Bool.not_eq_true'] at q
        exact ⟨.inl hm.1, q.1, q.2⟩
      have s0 : (L2.start (("self" : Str) :: fl) (V.ref a :: vs))[0]? = some (some (V.ref a)) := by unfold L2.start; rfl
      have sj : ∀ (j : Nat) (v : V), vs[j]? = some v → (L2.start (("self" : Str) :: fl) (V.ref a :: vs))[1 + j]? = some (some v) := fun j v e => by
        unfold L2.start
        have hj : j < vs.length := (List.getElem?_eq_some_iff.mp e).1
        rw [List.getElem?_append_left (by simp; omega), List.getElem?_map, Nat.add_comm]
        simp [e]
      show _root_.PySem.wpAt (model P w) (A.deeper (ksEnv qual sc s.heap.objs.size fI (.ref cda) cc)) (.func _ (ksEnv qual sc s.heap.objs.size fI (.ref cda) cc)) (execs _ (ksEnv qual sc s.heap.objs.size fI (.ref cda) cc)) _ _ _
      have hform : methodCallForm (xs.length + ([] : List Keyword).length) (backTo pos (starEach xs (ksEnv qual sc s.heap.objs.size fI (.ref cda) cc))) (backToKw pos (keywordEach [] (ksEnv qual sc s.heap.objs.size fI (.ref cda) cc))) = true := by
        obtain ⟨_, hp⟩ := pa_names (X := cxI P w K mg base (("self" : Str) :: fl) qual sc fI cda cc A outer s (upd H1 a (exo a C none))) rfl vis fl 1 xs b5 (fun j f e => by show (("self" : Str) :: fl)[1 + j]? = some f; rw [Nat.add_comm]; exact (List.getElem?_cons_succ ..).trans e)
        unfold methodCallForm
        rw [back_all hp]
        show (true && decide (xs.length + 0 + 0 < 30)) = true
        rw [decide_eq_true (by omega)] <;> rfl
      refine ks_wpAt_execs_cons (ks_wpAt_Expr_any (ks_wpAt_MethodCall (pl := plainOf (.Call (.Name "super" p0) [] [] p1) (ksEnv qual sc s.heap.objs.size fI (.ref cda) cc)) ?_ ?_) I.quiet rfl)
      · obtain ⟨hT1, hT2⟩ : ∃ cd, clsIn K C = some cd := by
          obtain ⟨nm, q, N, bs, bm, sn, sub, ab, col, dd, q0, q1, q2, q3, q5, hC, hbm⟩ := F0.ox.cls
          exact ⟨_, by unfold clsIn; rw [hC] <;> rfl⟩
        have X1 : K.In h₀ := KX.keeps kk
        refine ks_wpAt_super_base (env := ksEnv qual sc s.heap.objs.size fI (.ref cda) cc) k4 k5 (by decide) rfl (X1 _ _ lk) rfl har rfl (X1 _ _ hcode) rfl hvs hfile htop ?_
        obtain ⟨mb, hbn, hbb⟩ := e0.mod.blt
        have KB : ∀ b o, base.get? b = some o → h₀.get? b = some o := fun b o z => kk b o (e0.bs b o z).1
        have ha0 : h₀.get? s.heap.objs.size = h₀.get? s.heap.objs.size := rfl
        obtain ⟨t1, hob⟩ := exo_at I.hok hea
        refine ks_loadName_global k1 k4 (loadGlobal_builtin (e0.mod.glob.keeps KB) hms (hbn.keeps KB) ((hbb _ (by decide)).trans (by first | boot_by_name | rfl | kernel_rfl)) ⟨rfl, ?_⟩)
        refine wpAny_loadName_free k1 k5 rfl ⟨_, X1 _ _ hcell, rfl⟩ ?_
        rw [earg]
        refine wpAny_loadName_local k1 (hN _ List.mem_cons_self) hns (v := .ref a) ?_ ?_
        · refine lookup_uniq ?_ (List.mem_reverse.mpr (zip_at (i := 0) rfl rfl))
          rw [List.map_reverse, List.map_fst_zip (by omega)]
          exact (List.reverse_perm _).nodup_iff.mpr k8
        obtain ⟨oD, hD1, hD2⟩ : ∃ oD, h₀.get? C = some oD ∧ oD.data = .cls hT1 := by
          unfold clsIn at hT2
          split at hT2
          · rename_i c d cd' sl ho
            cases hT2
            exact ⟨_, X1 _ _ ho, rfl⟩
          · cases hT2
        refine ks_wpAny_isType_cls hD1 hD2 ⟨rfl, ?_⟩
        refine ks_wpAny_call_super hD1 hD2 hob rfl (fun c e => by cases e) (looks_mroIn X1 F0.mr) (fun h1 e1 kk1 => ?_)
        have I1 := I.kept (t' := s.toks + ((("self" : Str) :: fl).zip (Value.ref a :: us)).length) kk1
        obtain ⟨t2, hob1⟩ := exo_at I1.hok hea
        have X2 : K.In h1 := X1.keeps kk1
        have hsu := F0.su
        unfold ks_superIn at hsu
        rw [hT2] at hsu
        have aC : a ≠ C := fun e => by
          subst e
          obtain rfl : oD = _ := Option.some.inj (hD1.symm.trans hob)
          cases hD2
        have hI : Looks (model P w) h1 (isInstance (.ref a) (.type "ValueError")) true := (Looks.andThen (show Looks (model P w) h1 (typeOf (.ref a)) (.ref C) from (Looks.ld hob1).andThen .now) (looks_subIn X2 F0.sb))
        refine kxs_getMethod kxs_ValueError e1 (looks_opaque X2 F0.op) (l₀ := hT1.mro) (fun A Q E s k q => wpAny_bind ((looks_clsIn X2 hT2) A _ E s k (wpAny_pure q))) rfl X2 hsu hI aC (by decide) ?_
        have I2 := I1.kept (h' := h1.push (kxs_mw "ValueError.__init__" a)) (t' := s.toks + ((("self" : Str) :: fl).zip (Value.ref a :: us)).length + 1) (fun b o z => Heap.get?_push_of_some _ z)
        have hmw : (h1.push (kxs_mw "ValueError.__init__" a)).get? h1.objs.size = some (kxs_mw "ValueError.__init__" a) := Heap.get?_push_at rfl rfl
        obtain ⟨PAx, hpx⟩ := pa_names (X := cxI P w K mg base (("self" : Str) :: fl) qual sc fI cda cc A outer s (upd H1 a (exo a C none))) rfl vis fl 1 xs b5 (fun j f e => by show (("self" : Str) :: fl)[1 + j]? = some f; rw [Nat.add_comm]; exact (List.getElem?_cons_succ ..).trans e)
        have I3 : Inv (cxI P w K mg base (("self" : Str) :: fl) qual sc fI cda cc A outer s (upd H1 a (exo a C none))) [(h1.objs.size, kxs_mw "ValueError.__init__" a)] (L2.start (("self" : Str) :: fl) (V.ref a :: vs)) (upd H1 a (exo a C none)) _ :=
          I2.pins_of fun p hp => by
            obtain rfl : p = _ := List.mem_singleton.mp hp
            exact ⟨hmw, I1.fresh, fun e => Nat.lt_irrefl _ (e ▸ I1.lt), I1.nofs (Nat.le_refl _), fun v e => by cases e⟩
        have hstep := PAx.run pos _ _ _ _ (fun vs' H' => vs' = vs ∧ H' = upd H1 a (exo a C none)) I3 (tNs_of fl.length 1 vs _ sj hl ⟨rfl, rfl⟩)
        have plainR : (backTo pos (starEach xs (ksEnv qual sc s.heap.objs.size fI (.ref cda) cc))).any (·.1) = false := by
          have q := back_all (env := ksEnv qual sc s.heap.objs.size fI (.ref cda) cc) (pos := pos) hpx
          rw [List.all_eq_true] at q
          rw [List.any_eq_false]
          intro x hx
          have := q x hx
          simpa using this
        cases xs with
        | nil =>
          exfalso
          cases fl with
          | nil => exact F0.ne rfl
          | cons f fl => simp [nmsB] at b5
        | cons x0 xs0 =>
        have hx0 : starEach (x0 :: xs0) (ksEnv qual sc s.heap.objs.size fI (.ref cda) cc) = (false, eval x0 (ksEnv qual sc s.heap.objs.size fI (.ref cda) cc)) :: starEach xs0 (ksEnv qual sc s.heap.objs.size fI (.ref cda) cc) := by
          have q := star_all (env := ksEnv qual sc s.heap.objs.size fI (.ref cda) cc) hpx
          have q2 := star_all (env := ksEnv qual sc s.heap.objs.size fI (.ref cda) cc) (xs := xs0) (by simp only [List.all_cons, Bool.and_eq_true] at hpx; exact hpx.2)
          rw [q, q2] <;> rfl
        have hstep' : wpAny (model P w) (A.deeper (ksEnv qual sc s.heap.objs.size fI (.ref cda) cc)) (spliced (backTo pos (starEach (x0 :: xs0) (ksEnv qual sc s.heap.objs.size fI (.ref cda) cc)))) _ _ _ := hstep
        refine kxs_callWith (i := "ValueError.__init__") (x := a) plainR ?_
        rw [hx0] at hstep' ⊢
        refine evalArgs_plain (wpAny_mono hstep' (fun vs0 s4 h4 => ?_) fun _ _ z => z.elim)
        obtain ⟨vs', H', I4, r4, e4, e5⟩ := h4
        subst e4 e5
        have hu4 := (I4.pin _ (List.mem_append_right _ List.mem_cons_self)).1
        refine ⟨hu4, ?_⟩
        have I5 := I4.pins_of (pins' := []) (fun p hp => by cases hp)
        refine call_mw F0.ox I5 hea hu4 (by show vs0.length ≤ _; rw [← r4.length, hl]; exact Nat.le_trans F0.few (by decide)) (fun s5 J => ?_)
        refine wpAt_of_wpAny (wpAny_mono (stores_run F0.ox rfl rfl vis s0 fl 1 vs' rest [] s5 _ b6 (fun j f e => by show (("self" : Str) :: fl)[1 + j]? = some f; rw [Nat.add_comm]; exact (List.getElem?_cons_succ ..).trans e) sj hl (by have := F0.few; simp; omega) F0.no J (.inl ⟨rfl, hea, hb⟩)) (fun f s6 h6 => ?_) fun _ _ z => z.elim)
        obtain ⟨rfl, H', J6, m6⟩ := h6
        rw [List.append_nil] at m6
        exact ⟨rfl, H', J6.os, J6.bare, J6.base, J6.hok, m6⟩
      · rw [arm_eval_Call]
        simp only [mcall_line hform b3]
        rfl
  · cases hbody
end Fs
end

section
set_option Elab.async false
set_option linter.all false
set_option maxRecDepth 100000
set_option maxHeartbeats 4000000
/-! Fs22: making an own exception. -/
namespace Fs
open PySem L2 PySem.W PyProof.Rows
/-- a class of the table without fields of its own -/
structure Xi0 (K : Frag) (C : Addr) : Prop where
  q : excIn K C He.veBase "ValueError.__new__" = true
  ex : subIn K (.ref C) (.type "BaseException") = some true
  ty : typeIn K (.ref C) = some (.type "type")
theorem mk_bare {X : Cx} {C : Addr} (F : Xi0 X.K C) {pins : List (Addr × Obj)} {s : Shared} {σ : L2.St} {H : Hp} {us : List Value} {Q : XK} (I : Inv X pins σ H s) (hl : us.length ≤ sizeLine) (q : Q (.ref C) none H) : wpAny (model X.prog X.w) X.A (call (.ref C) us) (MkP X pins σ Q) X.xe s := by
  obtain ⟨hp, g, dr, tk, os⟩ := s
  obtain ⟨bm, N, nm, qn, bs, hdct, sn, sub, ab, col, dd, k0, k1, k2, k3, k5, mN, hC, hN, hni, T⟩ := exc_obj I.kIn F.q
  refine wpAny_call_exc_subT PySem.F.excBase_ValueError T hC hN hni (fun h' e hm => ?_) hl
  exact mk_of I hm (raises_own F.ex F.ty) q (I.hok.gone hm.new)
theorem mk_flds {X : Cx} {C : Addr} {fl : List Str} {file : Str} (F : XiF X.K file C fl) (hfile : ((X.prog.main.file : Str) == file) = true) (htop : (X.prog.main.scope.names.lookup ("super" : Str)).isSome = false) (hms : X.mg "super" = none) (hr : Room 4 X.A)
    {pins : List (Addr × Obj)} {s : Shared} {σ : L2.St} {H : Hp} {us : List Value} {vs : List V} {Q : XK} (I : Inv X pins σ H s) (r : Vals vs us) (hl : vs.length = fl.length)
    (q : ∀ H' d, Ext H H' → H' d = some (.xd (fl.zip vs).reverse) → Q (.ref C) (some d) H') : wpAny (model X.prog X.w) X.A (call (.ref C) us) (MkP X pins σ Q) X.xe s := by
  obtain ⟨nm, qn, N, bs, bm, sn, sub, ab, col, dd, k0, k1, k2, k3, k5, hC, hbm⟩ := F.ox.cls
  obtain ⟨hp, g, dr, tk, os⟩ := s
  have hsz : hp.objs.size ≤ hp.objs.size + 1 := Nat.le_succ _
  have kk : ∀ b o, hp.get? b = some o → ((hp.push (PySem.W.kdv_tup us)).push (PySem.HandSPX.excO C hp.objs.size)).get? b = some o := fun b o e => Heap.get?_push_of_some _ (Heap.get?_push_of_some _ e)
  have hget : ((hp.push (PySem.W.kdv_tup us)).push (PySem.HandSPX.excO C hp.objs.size)).get? (hp.objs.size + 1) = some (PySem.HandSPX.excO C hp.objs.size) := by heap_get
  have I2 : Inv X pins σ (upd H (hp.objs.size + 1) (exo (hp.objs.size + 1) C none)) ⟨(hp.push (PySem.W.kdv_tup us)).push (PySem.HandSPX.excO C hp.objs.size), g, dr, tk, os⟩ :=
    I.laid (t' := tk) (a := hp.objs.size + 1) (o := exo (hp.objs.size + 1) C none) (h' := (hp.push (PySem.W.kdv_tup us)).push (PySem.HandSPX.excO C hp.objs.size)) kk hsz (exo_ok hget)
  have hus : us.length ≤ sizeLine := by
    rw [← r.length, hl]
    exact Nat.le_trans F.few (by decide)
  obtain ⟨fI, iC, tI, run⟩ := init_go (k := 2) F hfile htop hms (hr.make C us []) (I2.env0.make C us []) r hl (fun b hb => upd_ne hb)
  refine wpAny_call (PySem.HandSPX.call_own PySem.F.excBase_ValueError (fun Y => PySem.HandSPX.refsVE_contains Y bm hbm) (I.kIn _ _ hC) (PySem.W.looks_findIn I.kIn iC) (fun self => PySem.W.bind_fn I.kIn self tI) hus
    (codeAny_mono run fun res s' hq' => ?_))
  obtain ⟨rfl, H2, os2, bare2, un2, hok2, m⟩ := hq'
  rcases m with ⟨e, _, _⟩ | ⟨d, ea, ed, hd1, hda, hb⟩
  · exfalso
    cases fl with
    | nil => exact F.ne rfl
    | cons f fl =>
      cases vs with
      | nil => cases hl
      | cons v vs => simp at e
  · obtain ⟨h2, g2, d2, t2, os'⟩ := s'
    refine ⟨rfl, mk_end (raises_own F.ox.exC F.ox.tyC) I hsz kk un2 hok2 os2 bare2 ea ed hd1 (q _ _ (fun b o e => ?_) upd_same)⟩
    have h1 : b ≠ hp.objs.size + 1 := fun z => by
      have := I.hok.fresh hsz
      rw [← z, e] at this
      cases this
    have h2 : b ≠ d := fun z => by
      rw [← z, e] at hd1
      cases hd1
    rw [upd_ne h2, del_ne h1, hb b h1 h2]
    exact e
theorem rvF_of {G : Gx} {ρ : Rho} {H : Hp} {fs : List (Str × V)} : ∀ (fl : List Str) (ts : List T) (vs : List V), fl.length = ts.length → RvL G ρ H ts vs → (∀ (i : Nat) (f : Str) (v : V), fl[i]? = some f → vs[i]? = some v → fs.lookup f = some v) → RvF G ρ H fl ts fs
  | [], _, _, _, _, _ => by simp [RvF]
  | _ :: _, [], _, h, _, _ => by cases h
  | f :: fl, t :: ts, vs, h, r, k => by
    simp only [RvL] at r
    obtain ⟨v, vs', rfl, r1, r2⟩ := r
    simp only [RvF]
    exact ⟨⟨v, k 0 f v rfl rfl, r1⟩, rvF_of fl ts vs' (by simpa using h) r2 fun i f' v' e1 e2 => k (i + 1) f' v' (by simpa using e1) (by simpa using e2)⟩
/-- the exception classes of the table: how they are made -/
def XFacts (G : Gx) (file : Str) : Prop := ∀ (c : Nat) (nm : Str) (fl : List Str) (up : List Nat), G.D.cls[c]? = some (.exc nm fl up) → fl.Nodup ∧ ((fl = [] ∧ Xi0 G.K (G.ca c)) ∨ XiF G.K file (G.ca c) fl)
theorem mkOk_of {G : Gx} {X : Cx} {file : Str} (F : XFacts G file) (hK : X.K = G.K) (hfile : ((X.prog.main.file : Str) == file) = true) (htop : (X.prog.main.scope.names.lookup ("super" : Str)).isSome = false) (hms : X.mg "super" = none) (hr : Room 4 X.A) : MkOk G X := by
  intro c nm fl up pins s σ H us vs ts hs ρ Q e I r R rl hl q
  obtain ⟨nd, h⟩ := F c nm fl up e
  rw [← hK] at h
  rcases h with ⟨rfl, h⟩ | h
  · have : ts = [] := List.length_eq_zero_iff.mp hl.symm
    subst this
    have h0 : vs = [] := List.length_eq_zero_iff.mp rl.len
    subst h0
    have h1 : us = [] := List.length_eq_zero_iff.mp r.length.symm
    subst h1
    exact mk_bare h I (by decide) (q H none (fun a o e => e) (.inl rfl))
  · refine mk_flds h hfile htop hms hr I r (by rw [rl.len, hl]) fun H' d x e' => q H' (some d) x (.inr ⟨d, _, rfl, e', ?_⟩)
    have hv : vs.length = fl.length := by rw [rl.len, hl]
    refine RvF.step R.Live (Stp.ext x) _ _ _ (rvF_of fl ts vs hl rl fun i f v e1 e2 => ?_)
    refine lookup_uniq ?_ (List.mem_reverse.mpr (zip_at e1 e2))
    rw [List.map_reverse, List.map_fst_zip (by omega)]
    exact (List.reverse_perm _).nodup_iff.mpr nd
end Fs
end

section
set_option Elab.async false
set_option linter.all false
set_option maxRecDepth 100000
set_option maxHeartbeats 2000000
/-! Fs23: the facts behind the top as one observation (own exceptions with fields too); a law from its table and what its term answers. -/
namespace Fs
open PySem L2 PySem.W PyProof.Rows
/-- an own exception with fields: its name, its __init__'s qualified name, its fields, its __init__ -/
structure Xd where
  nm : Str
  qual : Str
  fl : List Str
  st : Stmt
def claimFile : Str := "/claim/cut.py"
abbrev FnI : Type := Option (Str × Str × Arguments × FuncBody × Scope × Addr × List Str × Addr)
def iniA (K : Frag) (C : Addr) : Addr := match findIn K (.ref C) "__init__" with
  | some (some (.ref f)) => f
  | _ => 0
def fnI (K : Frag) (C : Addr) : FnI := match K.lookup (iniA K C) with
  | some ⟨_, _, .func fd, _⟩ => some (fd.name, fd.qualname, fd.params, fd.body, fd.scope, fd.globals, fd.closure.map (·.1), fd.builtins)
  | _ => none
def Xd.val (x : Xd) : FnI := some ("__init__", x.qual, dArgs x.st, .stmts (dBody x.st), dScope x.st, mainGlobals, ["__class__"], builtinsNs)
def mroOkB (C : Addr) (mro : List Value) (sl : List (Option Value)) : Bool := match mro, sl with
  | .ref C' :: bm, [_, _, _, _, some (.builtin n), _] => decide (C' = C) && (decide (n = "ValueError.__new__") && HandSPX.refsVE bm)
  | _, _ => false
def oexB (K : Frag) (C : Addr) : Bool := (match K.lookup C with
  | some ⟨.type t, _, .cls cd, sl⟩ => decide (t = "type") && (cd.hasDict && (!cd.hasDel && mroOkB C cd.mro sl.toList))
  | _ => false) && (decide (findIn K (.ref C) "__setattr__" = some (some (.builtin "object.__setattr__"))) && (decide (subIn K (.ref C) (.type "BaseException") = some true) && (decide (typeIn K (.ref C) = some (.type "type")) && keepIn K (.ref C))))
theorem oexB_ok {K : Frag} {C : Addr} (h : oexB K C = true) : OexC K C := by
  unfold oexB at h
  simp only [Bool.and_eq_true, decide_eq_true_eq] at h
  obtain ⟨h0, h1, h2, h3, h4⟩ := h
  refine ⟨?_, h1, h2, h3, h4⟩
  split at h0
  · rename_i t dd cd sl hk
    simp only [Bool.and_eq_true, decide_eq_true_eq, Bool.not_eq_true'] at h0
    obtain ⟨rfl, q1, q2, q3⟩ := h0
    obtain ⟨sl⟩ := sl
    obtain ⟨nm, bs, mro, ns, qn, hd, sn, sub, ab, col, del⟩ := cd
    dsimp only at q1 q2 q3
    unfold mroOkB at q3
    split at q3
    · rename_i C' bm k0 k1 k2 k3 n k5
      simp only [Bool.and_eq_true, decide_eq_true_eq] at q3
      obtain ⟨rfl, rfl, q4⟩ := q3
      subst q1 q2
      exact ⟨nm, qn, ns, bs, bm, sn, sub, ab, col, dd, k0, k1, k2, k3, k5, hk, q4⟩
    · cases q3
  · cases h0
def cellB (K : Frag) (C : Addr) : List (Str × Addr) → Bool
  | [(_, cc)] => match K.lookup cc with
    | some ⟨_, _, .cell (some (.ref C')), _⟩ => decide (C' = C)
    | _ => false
  | _ => false
def fileB (K : Frag) : Value → Bool
  | .ref cda => match K.lookup cda with
    | some ⟨_, _, .fields fs, _⟩ => (match (fs[2]? : Option Value) with
      | some (Value.str f _) => decide (f = claimFile)
      | _ => false)
    | _ => false
  | _ => false
def iniB (K : Frag) (C : Addr) (x : Xd) : Bool := decide (findIn K (.ref C) "__init__" = some (some (.ref (iniA K C)))) && (decide (typeIn K (.ref (iniA K C)) = some (.type "function")) && (match K.lookup (iniA K C) with
  | some ⟨_, _, .func fd, _⟩ => (match fd.defaults with
    | .none => true
    | _ => false) && (codeIn K fd.code x.qual && (cellB K C fd.closure && fileB K fd.code))
  | _ => false))
def xdB (K : Frag) (x : Xd) : Bool := oexB K (He.ga K x.nm) && ((x.fl.all fun f => decide (findIn K (.ref (He.ga K x.nm)) f = some none)) && (decide (ks_superIn K (He.ga K x.nm) (He.ga K x.nm) "__init__" = some (some (.builtin "ValueError.__init__"))) &&
  (decide (nsIn K cStatics "thirdparty.any" = some none) && (decide (subIn K (.ref (He.ga K x.nm)) (.type "ValueError") = some true) && (decide (mroIn K (He.ga K x.nm) (.ref (He.ga K x.nm)) = some true) && iniB K (He.ga K x.nm) x)))))
/-- the text of it -/
def xtB (x : Xd) : Bool := decide (x.fl.length ≤ 100) && (!x.fl.isEmpty && (initB x.fl (dBody x.st) && (initScB x.fl (dScope x.st) && (match ((dArgs x.st).posonlyargs ++ (dArgs x.st).args).head? with
  | some ar => decide (ar.arg = ("self" : Str))
  | none => false))))
def BindX (x : Xd) : Prop := ∀ (kV doc pm : Value) (an : Option Addr) (cdv ct : Value) (cc : Addr) (us : List Value), us.length = (("self" : Str) :: x.fl).length →
  bindArgs (ksFn "__init__" x.qual (dArgs x.st) (dBody x.st) (dScope x.st) .none kV doc pm an cdv ct cc) ⟨us, []⟩ = pure ((("self" : Str) :: x.fl).zip us)
theorem xif_of {K : Frag} {x : Xd} (h : xdB K x = true) (e : fnI K (He.ga K x.nm) = x.val) (t : xtB x = true) (b : BindX x) : XiF K claimFile (He.ga K x.nm) x.fl := by
  unfold xdB at h
  generalize He.ga K x.nm = C at h e ⊢
  unfold xtB at t
  simp only [Bool.and_eq_true, decide_eq_true_eq, Bool.not_eq_true', List.all_eq_true] at h t
  obtain ⟨h1, h2, h3, h4, h5, h6, h7⟩ := h
  obtain ⟨t1, t2, t3, t4, t5⟩ := t
  refine ⟨oexB_ok h1, h2, h3, h4, h5, h6, t1, (fun z => by rw [z] at t2; cases t2), ?_⟩
  unfold iniB at h7
  simp only [Bool.and_eq_true, decide_eq_true_eq] at h7
  obtain ⟨i1, i2, i3⟩ := h7
  unfold fnI at e
  cases lk : K.lookup (iniA K C) with
  | none =>
    rw [lk] at i3
    cases i3
  | some o =>
    obtain ⟨oc, od, dt, osl⟩ := o
    rw [lk] at i3 e
    cases dt with
    | func fd =>
      obtain ⟨n1, n2, n3, n4, n5, n6, n7, n8, n9, n10, n11, n12, n13, n14, n15⟩ := fd
      have e2 : (some (n1, n2, n3, n4, n5, n6, n7.map (·.1), n15) : FnI) = some (("__init__" : Str), x.qual, dArgs x.st, FuncBody.stmts (dBody x.st), dScope x.st, mainGlobals, [("__class__" : Str)], builtinsNs) := e
      simp only [Option.some.injEq, Prod.mk.injEq] at e2
      obtain ⟨g1, g2, g3, g4, g5, g6, g7, g8⟩ := e2
      subst g1 g2 g3 g4 g5 g6 g8
      dsimp only at i3
      simp only [Bool.and_eq_true] at i3
      obtain ⟨j1, j2, j3, j4⟩ := i3
      cases n8 with
      | none =>
        unfold cellB at j3
        split at j3
        · rename_i nmc cc
          cases g7
          split at j3
          · rename_i cl cld C' csl hcell
            rw [decide_eq_true_eq] at j3
            subst j3
            unfold fileB at j4
            split at j4
            · rename_i cda
              split at j4
              · rename_i ccl cdd fs ccs hcode
                split at j4
                · rename_i f tf hf
                  rw [decide_eq_true_eq] at j4
                  subst j4
                  cases hh : ((dArgs x.st).posonlyargs ++ (dArgs x.st).args).head? with
                  | none =>
                    rw [hh] at t5
                    cases t5
                  | some ar =>
                    rw [hh] at t5
                    exact ⟨iniA K C', cda, cc, x.qual, dArgs x.st, dBody x.st, dScope x.st, n9, n10, n11, n12, n14, oc, od, osl, cl, cld, csl, ccl, cdd, fs, ccs, tf, i1, i2, lk, j2, hcell, hcode, hf, t3, t4, ⟨ar, hh, of_decide_eq_true t5⟩, fun us hu => b _ _ _ _ _ _ _ us hu⟩
                · cases j4
              · cases j4
            · cases j4
          · cases j3
        · cases j3
      | _ => cases j1
    | _ => cases i3
def excB (D : Tb) (xs : List Xd) (K : Frag) : Bool := D.cls.all fun q => match q with
  | .exc nm fl _ => decide fl.Nodup && (if fl = [] then (He.Fa.exc nm).ok K else xs.any fun x => decide (x.nm = nm) && decide (x.fl = fl))
  | _ => true
abbrev Ob2 : Type := He.AlD × (Bool × (Bool × List FnI))
def obsX (D : Tb) (dd : List Dd) (xs : List Xd) (K : Frag) : Ob2 := (He.obsD [] (dd.map Dd.def_) K, prB D dd K, (He.Fa.free "super").ok K && (excB D xs K && xs.all (xdB K)), xs.map fun x => fnI K (He.ga K x.nm))
def valX (dd : List Dd) (xs : List Xd) : Ob2 := (He.valD (dd.map Dd.def_), true, true, xs.map Xd.val)
def obsXG (n : Nat) (D : Tb) (dd : List Dd) (xs : List Xd) (g : Addr → Option Obj) : Ob2 := obsX D dd xs (He.frG g (cStatics :: He.asD g n))
def hookX (n : Nat) (D : Tb) (dd : List Dd) (xs : List Xd) : Hook where
  α := Ob2
  obs := fun st => obsXG n D dd xs st.heap.get?
  val := fun _ => valX dd xs
  says := fun _ hp => ∃ K : Frag, K.In hp ∧ obsX D dd xs K = valX dd xs
  of := fun _ _ z => ⟨_, He.frG_in, z⟩
  keeps := fun _ _ _ ⟨K, inK, z⟩ kp => ⟨K, Frag.In.keeps inK kp, z⟩
theorem obsXG_eq {n : Nat} {D : Tb} {dd : List Dd} {xs : List Xd} {g : Addr → Option Obj} {s : Shared} (h : ∀ a, g a = s.heap.get? a) : obsXG n D dd xs g = (hookX n D dd xs).obs s := by
  have z : g = s.heap.get? := funext h
  rw [z]
  rfl
theorem map_at {α β : Type} {f g : α → β} {l : List α} {x : α} (e : l.map f = l.map g) (h : x ∈ l) : f x = g x := List.map_inj_left.mp e x h
theorem xfacts_of {D : Tb} {dd : List Dd} {xs : List Xd} {K : Frag} (c : obsX D dd xs K = valX dd xs) (tx : ∀ x ∈ xs, xtB x = true ∧ BindX x) : XFacts (gxOf D dd K) claimFile := by
  have c3 : ((He.Fa.free "super").ok K && (excB D xs K && xs.all (xdB K))) = true := congrArg (fun z : Ob2 => z.2.2.1) c
  have c4 : (xs.map fun x => fnI K (He.ga K x.nm)) = xs.map Xd.val := congrArg (fun z : Ob2 => z.2.2.2) c
  simp only [Bool.and_eq_true, List.all_eq_true] at c3
  obtain ⟨_, c5, c6⟩ := c3
  intro k nm fl up e
  have eca : (gxOf D dd K).ca k = He.ga K nm := by
    show (match D.cls[k]? with
      | some q => He.ga K (clNm q)
      | none => 0) = _
    rw [show D.cls[k]? = some (.exc nm fl up) from e]
    rfl
  rw [eca]
  unfold excB at c5
  rw [List.all_eq_true] at c5
  have q := c5 _ (List.mem_of_getElem? (show D.cls[k]? = some (.exc nm fl up) from e))
  simp only [Bool.and_eq_true, decide_eq_true_eq] at q
  refine ⟨q.1, ?_⟩
  have q2 := q.2
  split at q2
  · rename_i z
    have w : (excIn K (He.ga K nm) He.veBase "ValueError.__new__" && (keepIn K (.ref (He.ga K nm)) && (decide (subIn K (.ref (He.ga K nm)) (.type "BaseException") = some true) && decide (typeIn K (.ref (He.ga K nm)) = some (.type "type"))))) = true := q2
    simp only [Bool.and_eq_true, decide_eq_true_eq] at w
    exact .inl ⟨z, w.1, w.2.2.1, w.2.2.2⟩
  · obtain ⟨x, hx, e2⟩ := List.any_eq_true.mp q2
    simp only [Bool.and_eq_true, decide_eq_true_eq] at e2
    obtain ⟨rfl, rfl⟩ := e2
    obtain ⟨t1, t2⟩ := tx x hx
    exact .inr (xif_of (c6 x hx) (map_at c4 hx) t1 t2)
/-- the facts of a row -/
theorem prF_of {D : Tb} {dd : List Dd} {xs : List Xd} {K : Frag} {h : Heap} {mg : Str → Option Value} {P : Program} (X : K.In h) (Gn : h.Ns mainGlobals mg) (c : obsX D dd xs K = valX dd xs) (ht : zipAll (txtB D) dd D.fns = true) (hb : BindAll dd)
    (tx : ∀ x ∈ xs, xtB x = true ∧ BindX x) (hfile : ((P.main.file : Str) == claimFile) = true) (htop : (P.main.scope.names.lookup ("super" : Str)).isSome = false) : PrF (gxOf D dd K) mg P := by
  have c1 : He.SaysD [] (dd.map Dd.def_) K := congrArg (fun z : Ob2 => z.1) c
  have c2 : prB D dd K = true := congrArg (fun z : Ob2 => z.2.1) c
  have c3 : ((He.Fa.free "super").ok K && (excB D xs K && xs.all (xdB K))) = true := congrArg (fun z : Ob2 => z.2.2.1) c
  have c4 := (Bool.and_eq_true_iff.mp c3).1
  have XF := xfacts_of c tx
  obtain ⟨p1, p2⟩ := pr_of X Gn c2
  refine ⟨p1, p2, fun f fn e => ?_, fun Y hp hK hmg hc hr => mkOk_of XF hK (by rw [hp]; exact hfile) (by rw [hp]; exact htop) (by rw [hmg]; exact He.free_ok X Gn c4) hr⟩
  obtain ⟨d, e1, e2⟩ := zipAll_get ht e
  unfold txtB at e2
  simp only [Bool.and_eq_true, decide_eq_true_eq] at e2
  obtain ⟨t1, t2, t3, t4⟩ := e2
  obtain ⟨fd, F⟩ := c1.def_ f (d := d.def_) (by rw [List.getElem?_map, e1]; rfl)
  have ef : (gxOf D dd K).fa f = He.fAd K d.at_ := by
    show (match dd[f]? with
      | some d => He.fAd K d.at_
      | none => 0) = _
    rw [e1]
  refine ⟨dName d, d.qual, dArgs d.st, dBody d.st, dScope d.st, fd, d.N, d.ps, ?_, C8.fnScope_by t1, t2, t3, hb d (List.mem_of_getElem? e1), t4⟩
  rw [ef]
  exact F
/-- the walk of a law: its def is the number fl -/
theorem walk_go {l : PySem.W.OpenLaw} {most n wn fl sc : Nat} {q : Program} {loose : List Str} {XP : (Str → Option Value) → Heap → Prop} {d : DefRec} {D : Tb} {dd : List Dd} {xs : List Xd} {dl : Dd}
    (hn : l.most = some most) (hn2 : most ≤ sizeLine) (hdf : d.params.defaults = []) (hr : Room (2 * n + 4) callerA) (hdl : dd[fl]? = some dl) (hat : dl.at_ = (d.name, none)) (hlen : fl < D.fns.length) (ht : zipAll (txtB D) dd D.fns = true) (hb : BindAll dd)
    (tx : ∀ x ∈ xs, xtB x = true ∧ BindX x) (hfile : ((l.prog.main.file : Str) == claimFile) = true) (htop : (l.prog.main.scope.names.lookup ("super" : Str)).isSome = false)
    (ans : ∀ ns : List Int, ns.length ≤ most → ∃ h', callN D wn n fl [.scr ns] [] = .ok (.bl true) h') :
    PySem.W.WalkO q loose XP (hookX sc D dd xs).says l.row.toRowW d [] (fun f vs => PySem.call f vs) := by
  refine Att.attach_call hn hdf fun w s₀ s₁ mg mb fa o pm cd doc a us ns G Y ho hd hcd hmg hobj hints hln hg => ?_
  obtain ⟨K, KX, c⟩ := Y
  have PF := prF_of (P := l.prog) KX G.T.g c ht hb tx hfile htop
  have eff : (gxOf D dd K).fa fl = He.ga K d.name := by
    show (match dd[fl]? with
      | some d => He.fAd K d.at_
      | none => 0) = _
    rw [hdl]
    show He.fAd K dl.at_ = _
    rw [hat]
    rfl
  have efa : fa = (gxOf D dd K).fa fl := by
    have e1 : D.fns[fl]? = some D.fns[fl] := List.getElem?_eq_getElem hlen
    have c2 : prB D dd K = true := congrArg (fun z : Ob2 => z.2.1) c
    unfold prB at c2
    simp only [Bool.and_eq_true] at c2
    obtain ⟨d', e2, e3⟩ := zipAll_get c2.2.2.1 e1
    rw [hdl] at e2
    cases e2
    unfold defB at e3
    cases hc : (D.fns[fl]).cls with
    | none =>
      rw [hc] at e3
      simp only [Bool.and_eq_true, decide_eq_true_eq] at e3
      obtain ⟨_, e4, e5⟩ := e3
      rw [hat] at e4
      have en : d.name = (D.fns[fl]).nm := congrArg Prod.fst e4
      rw [← en] at e5
      have z := hmg.symm.trans (He.glo_ok KX G.T.g e5)
      cases z
      exact eff.symm
    | some k =>
      rw [hc] at e3
      dsimp only at e3
      cases hk : D.cls[k]? with
      | none => rw [hk] at e3; simp at e3
      | some qq =>
        rw [hk] at e3
        simp only [Bool.and_eq_true, decide_eq_true_eq] at e3
        obtain ⟨_, e4, _⟩ := e3
        rw [hat] at e4
        have z := congrArg Prod.snd e4
        cases z
  rw [efa]
  exact law_go PF hlen KX G.T.g G.T.b G.T.builtins G.T.nolimit hg hobj hints (Nat.le_trans hln hn2) hr (ans ns hln)
end Fs
end

section
set_option Elab.async false
set_option linter.all false
/-! PA: what the evaluator does, in plain steps; the draws of a law's script (bag, take, some). -/
namespace Fp
open Fs
open PySem
theorem mkV_v (r : R T) : (mkV r).v = r := rfl
theorem mkV_t (r : R T) : (mkV r).t = r.bind fun x h => R.ofO (truT h x) h := rfl
theorem mkB_v (b : R Bool) : (mkB b).v = b.bind fun x h => .ok (.bl x) h := rfl
theorem mkB_t (b : R Bool) : (mkB b).t = b := rfl
theorem shaped_non : SeqAt.shaped .none = true := by decide
theorem shaped_bl (b : Bool) : SeqAt.shaped (.bool b) = true := by cases b <;> decide
theorem shaped_int (i : Int) : SeqAt.shaped (.int i) = true := by
  unfold SeqAt.shaped
  simp [PyData.canLay0, PyData.depth]
theorem shaped_str (x : Str) : SeqAt.shaped (.str x) = PyData.strOk x := by
  unfold SeqAt.shaped
  simp [PyData.canLay0, PyData.depth]
theorem eqT_int (h : Hs) (i j : Int) : eqT h (.int i) (.int j) = some (decide (i = j)) := by
  simp [eqT, toDh, toD, shaped_int, PyData.eqv]
  exact Bool.eq_iff_iff.mpr (by simp)
theorem eqT_str (h : Hs) (x y : Str) (hx : PyData.strOk x = true) (hy : PyData.strOk y = true) : eqT h (.str x) (.str y) = some (decide (x = y)) := by
  simp [eqT, toDh, toD, shaped_str, hx, hy, PyData.eqv]
  exact Bool.eq_iff_iff.mpr (by simp)

theorem atI_nat {α : Type} (xs : List α) (n : Nat) : L2.atI xs (n : Int) = xs[n]? := by
  unfold L2.atI L2.ixN
  rw [if_pos (by omega)]
  by_cases h : n < xs.length
  · rw [if_pos (by omega)]
    simp
  · rw [if_neg (by omega), List.getElem?_eq_none (by omega)]
    rfl
theorem atI_0 {α : Type} (xs : List α) : L2.atI xs 0 = xs[0]? := atI_nat xs 0
theorem atI_1 {α : Type} (xs : List α) : L2.atI xs 1 = xs[1]? := atI_nat xs 1
theorem atI_2 {α : Type} (xs : List α) : L2.atI xs 2 = xs[2]? := atI_nat xs 2
theorem atI_3 {α : Type} (xs : List α) : L2.atI xs 3 = xs[3]? := atI_nat xs 3
theorem ixN_nat {m n : Nat} (h : n < m) : L2.ixN m (n : Int) = some n := by
  unfold L2.ixN
  rw [if_pos (by omega), if_pos (by omega)]
  rfl

def fTake : Ss := .cons (.ifs (.cmp .eq (.ix (.var 0) (.int 0)) (.int 0)) (.cons (.set 2 (.ix (.bin .add (.sl (.ix (.var 0) (.int 3)) (.ix (.var 0) (.int 2)) (.absent)) (.lstI (.cons (.int 0) (.nil)))) (.int 0))) (
.cons (.augIx (.var 0) (.int 2) .add (.int 1)) (
.cons (.ifs (.cmp .ge (.var 2) (.bin .pow (.int 10) (.int 18))) (.cons (.setIx (.var 0) (.int 0) (.var 2)) (
.nil)) (.nil)) (
.cons (.set 3 (.bin .add (.bin .add (.bin .mul (.ix (.var 0) (.int 1)) (.int 48271)) (.bin .mod (.bi .int (.cons (.var 2) (.nil))) (.int 2147483647))) (.bin .mul (.int 7919) (.ix (.var 0) (.int 2))))) (
.cons (.setIx (.var 0) (.int 1) (.bin .mod (.bi .int (.cons (.var 3) (.nil))) (.int 2147483647))) (
.nil)))))) (.nil)) (
.cons (.ifs (.cmp .gt (.ix (.var 0) (.int 0)) (.int 0)) (.cons (.set 4 (.bin .mod (.bi .int (.cons (.ix (.var 0) (.int 0)) (.nil))) (.var 1))) (
.cons (.setIx (.var 0) (.int 0) (.bin .fdiv (.bi .int (.cons (.ix (.var 0) (.int 0)) (.nil))) (.var 1))) (
.cons (.ret (.var 4)) (
.nil)))) (.nil)) (
.cons (.set 5 (.bin .mod (.bi .int (.cons (.bin .mul (.bin .add (.ix (.var 0) (.int 1)) (.int 1)) (.int 39373)) (.nil))) (.int 1000000007))) (
.cons (.set 6 (.bin .mod (.bi .int (.cons (.bin .mul (.bin .mod (.bi .int (.cons (.bin .mul (.var 5) (.var 5)) (.nil))) (.int 998244353)) (.int 30011)) (.nil))) (.int 998244353))) (
.cons (.ret (.bin .mod (.bi .int (.cons (.bin .fdiv (.var 6) (.int 7)) (.nil))) (.var 1))) (
.nil)))))
def bagO (a b c : Int) (cells : List Int) : Ob := .lst [.int a, .int b, .int c, .lst (cells.map T.int)]
theorem take_pos {D : Tb} {W : Nat} {cl : Cal} {h : Hs} {k : Nat} {a b c m : Int} {cells : List Int} (e : h[k]? = some (bagO a b c cells)) (ha : 0 < a) (hm : 0 < m) (hm2 : m < 1073741824) :
    evSs D W cl fTake [some (.ref k), some (.int m), none, none, none, none, none] h = .ret (.int (a % m)) (h.set k (bagO (a / m) b c cells)) := by
  have ha0 : ¬ a = 0 := by omega
  simp [fTake, evSs, evS, ev, evL, mkV_v, mkV_t, mkB_v, mkB_t, ixT, e, bagO, atI_0, L2.ixN, cmpT, eqT_int, ha0, atI_0, SR.andThen, ha, biT, one, toInt, binT, hm, hm2, setIxT]
theorem mulOk_l {i j : Int} (h1 : -18446744073709551616 < i) (h2 : i < 18446744073709551616) : mulOk i j = true := by
  unfold mulOk
  simp [h1, h2]
theorem mulOk_r {i j : Int} (h1 : -18446744073709551616 < j) (h2 : j < 18446744073709551616) : mulOk i j = true := by
  unfold mulOk
  simp [h1, h2]
theorem mulOk_m (x j : Int) : mulOk (x % 1000000007) j = true := mulOk_l (by omega) (by omega)
theorem head_cell (cells : List Int) (c : Int) (h0 : ∀ x ∈ cells, 0 ≤ x) : ∃ (cell : Int) (r : List T), 0 ≤ cell ∧ cutL (cells.map T.int) (some c) none ++ [T.int 0] = T.int cell :: r := by
  cases e : cutL (cells.map T.int) (some c) none with
  | nil => exact ⟨0, [], by omega, rfl⟩
  | cons y r =>
    have hy : y ∈ cutL (cells.map T.int) (some c) none := by rw [e]; exact List.mem_cons_self
    unfold cutL at hy
    have := List.mem_of_mem_drop (List.mem_of_mem_take hy)
    obtain ⟨x, hx, rfl⟩ := List.mem_map.mp this
    exact ⟨x, _, h0 x hx, rfl⟩
theorem cut_len {α : Type} (xs : List α) (lo hi : Option Int) : (cutL xs lo hi).length ≤ xs.length := by
  unfold cutL
  rw [List.length_take, List.length_drop]
  omega
theorem take_zero {D : Tb} {W : Nat} {cl : Cal} {h : Hs} {k : Nat} {b c m : Int} {cells : List Int} (e : h[k]? = some (bagO 0 b c cells)) (hc : ∀ x ∈ cells, 0 ≤ x) (hl : cells.length ≤ 63) (hm : 0 < m) (hm2 : m < 1073741824) :
    ∃ (v a' b' c' : Int), 0 ≤ v ∧ v < m ∧ 0 ≤ a' ∧ evSs D W cl fTake [some (.ref k), some (.int m), none, none, none, none, none] h = .ret (.int v) (h.set k (bagO a' b' c' cells)) := by
  obtain ⟨cell, r, h1, h2⟩ := head_cell cells c hc
  have hlen : (cutL (cells.map T.int) (some c) none).length ≤ 999999 := by
    have := cut_len (cells.map T.int) (some c) none
    rw [List.length_map] at this
    omega
  have hs : ∀ o : Ob, (h.set k o)[k]? = some o := fun o => List.getElem?_set_self (List.getElem?_eq_some_iff.mp e).1
  have hm0 : 0 < m := hm
  by_cases big : (1000000000000000000 : Int) ≤ cell
  · refine ⟨cell % m, cell / m, (b * 48271 + cell % 2147483647 + 7919 * (c + 1)) % 2147483647, c + 1, Int.emod_nonneg _ (by omega), Int.emod_lt_of_pos _ hm, Int.ediv_nonneg h1 (by omega), ?_⟩
    have hcell : 0 < cell := by omega
    simp [fTake, evSs, evS, ev, evL, mkV_v, mkV_t, mkB_v, mkB_t, ixT, e, bagO, atI_0, atI_1, atI_2, atI_3, L2.ixN, cmpT, eqT_int, SR.andThen, biT, one, toInt, binT, setIxT, slT, addT, hlen, lim, intT, E.isAbs, h2, hs, refIx, augT, big, hm, hm2, mulOk_r, mulOk_l, mulOk_m, hcell]
  · refine ⟨((((((b * 48271 + cell % 2147483647 + 7919 * (c + 1)) % 2147483647 + 1) * 39373) % 1000000007) * ((((b * 48271 + cell % 2147483647 + 7919 * (c + 1)) % 2147483647 + 1) * 39373) % 1000000007) % 998244353 * 30011) % 998244353 / 7) % m, 0,
      (b * 48271 + cell % 2147483647 + 7919 * (c + 1)) % 2147483647, c + 1, Int.emod_nonneg _ (by omega), Int.emod_lt_of_pos _ hm, by omega, ?_⟩
    simp [fTake, evSs, evS, ev, evL, mkV_v, mkV_t, mkB_v, mkB_t, ixT, e, bagO, atI_0, atI_1, atI_2, atI_3, L2.ixN, cmpT, eqT_int, SR.andThen, biT, one, toInt, binT, setIxT, slT, addT, hlen, lim, intT, E.isAbs, h2, hs, refIx, augT, big, hm, hm2, mulOk_r, mulOk_l, mulOk_m]
end Fp
end

section
set_option Elab.async false
set_option linter.all false
/-! PB: a law's draws: the bag, take, some; as calls. -/
namespace Fp
open Fs
open PySem
theorem callN_eq {D : Tb} {W n f : Nat} {ts : List T} {h : Hs} {fn : Fn} (e : D.fns[f]? = some fn) (hl : ts.length = fn.ps) (hp : fn.ps ≤ fn.nN) :
    callN D W (n + 1) f ts h = (evSs D W (callN D W n) fn.body (ts.map some ++ List.replicate (fn.nN - ts.length) none) h).fin := by
  unfold callN
  rw [e]
  dsimp only
  rw [if_pos ⟨hl, hp⟩]
/-- at k: a bag -/
def Bag (h : Hs) (k : Nat) : Prop := ∃ (a b c : Int) (cells : List Int), h[k]? = some (bagO a b c cells) ∧ 0 ≤ a ∧ (∀ x ∈ cells, 0 ≤ x) ∧ cells.length ≤ 63
/-- only k may have changed; more may stand behind -/
structure But (k : Nat) (h h' : Hs) : Prop where
  len : h.length ≤ h'.length
  old : ∀ j, j < h.length → j ≠ k → h'[j]? = h[j]?
theorem But.refl {k : Nat} {h : Hs} : But k h h := ⟨Nat.le_refl _, fun _ _ _ => rfl⟩
theorem But.trans {k : Nat} {h1 h2 h3 : Hs} (a : But k h1 h2) (b : But k h2 h3) : But k h1 h3 :=
  ⟨Nat.le_trans a.len b.len, fun j h n => (b.old j (Nat.lt_of_lt_of_le h a.len) n).trans (a.old j h n)⟩
theorem But.set {k : Nat} {h : Hs} {o : Ob} : But k h (h.set k o) := ⟨by simp, fun j _ n => by rw [List.getElem?_set]; simp [Ne.symm n]⟩
theorem Bag.lt {h : Hs} {k : Nat} (B : Bag h k) : k < h.length := by
  obtain ⟨a, b, c, cells, e, _⟩ := B
  exact (List.getElem?_eq_some_iff.mp e).1
theorem Bag.keep {h h' : Hs} {k j : Nat} (B : Bag h k) (b : But j h h') (hj : k ≠ j) : Bag h' k := by
  obtain ⟨a, b', c, cells, e, r⟩ := B
  exact ⟨a, b', c, cells, by rw [b.old k (List.getElem?_eq_some_iff.mp e).1 hj]; exact e, r⟩
structure LB (D : Tb) (it is : Nat) : Prop where
  take : D.fns[it]? = some ⟨none, "_law_take", 2, 7, fTake⟩
  some : D.fns[is]? = some ⟨none, "_law_some", 2, 2, .cons (.ret (.ix (.var 1) (.call it (.cons (.var 0) (.cons (.bi .len (.cons (.var 1) (.nil))) (.nil)))))) (.nil)⟩
section
variable {D : Tb} {W it is : Nat}
theorem take_call (L : LB D it is) {n : Nat} {h : Hs} {k : Nat} {m : Int} (B : Bag h k) (hm : 0 < m) (hm2 : m < 1073741824) :
    ∃ (v : Int) (h' : Hs), callN D W (n + 1) it [.ref k, .int m] h = .ok (.int v) h' ∧ 0 ≤ v ∧ v < m ∧ Bag h' k ∧ But k h h' ∧ h'.length = h.length := by
  have hk := B.lt
  obtain ⟨a, b, c, cells, e, ha, hc, hl⟩ := B
  rw [callN_eq L.take rfl (by decide)]
  have hs : ∀ o : Ob, (h.set k o)[k]? = some o := fun o => List.getElem?_set_self hk
  show ∃ v h', (evSs D W _ fTake [some (.ref k), some (.int m), none, none, none, none, none] h).fin = _ ∧ _
  by_cases h0 : a = 0
  · subst h0
    obtain ⟨v, a', b', c', v1, v2, a1, ev⟩ := take_zero (D := D) (W := W) (cl := callN D W n) e hc hl hm hm2
    rw [ev]
    exact ⟨v, _, rfl, v1, v2, ⟨a', b', c', cells, hs _, a1, hc, hl⟩, But.set, by simp⟩
  · rw [take_pos e (by omega) hm hm2]
    exact ⟨_, _, rfl, Int.emod_nonneg _ (by omega), Int.emod_lt_of_pos _ hm, ⟨_, b, c, cells, hs _, Int.ediv_nonneg ha (by omega), hc, hl⟩, But.set, by simp⟩
theorem some_call (L : LB D it is) {n : Nat} {h : Hs} {k : Nat} {xs : List T} (B : Bag h k) (hx : xs ≠ []) (hl : xs.length ≤ 1000) :
    ∃ (x : T) (h' : Hs), callN D W (n + 2) is [.ref k, .lst xs] h = .ok x h' ∧ x ∈ xs ∧ Bag h' k ∧ But k h h' ∧ h'.length = h.length := by
  have hp : 0 < xs.length := List.length_pos_iff.mpr hx
  obtain ⟨v, h', e, v1, v2, B', b', l'⟩ := take_call (W := W) L (n := n) (m := (xs.length : Int)) B (by omega) (by omega)
  rw [callN_eq L.some rfl (Nat.le_refl 2)]
  obtain ⟨u, rfl⟩ := Int.eq_ofNat_of_zero_le v1
  have hu : u < xs.length := by omega
  refine ⟨xs[u], h', ?_, List.getElem_mem hu, B', b', l'⟩
  simp [evSs, evS, ev, evL, mkV_v, SR.andThen, biT, one, lenT, e, ixT, atI_nat, SR.fin, hu]
end
end Fp
end

section
set_option Elab.async false
set_option linter.all false
/-! PC: loops and texts of the evaluator, in plain steps. -/
namespace Fp
open Fs
open PySem
abbrev Sx (l : List Nat) : Str := ⟨l.toArray⟩
/-- a comprehension without test: every item is made -/
theorem compL_all {f : T → Hs → R (Option T)} {I : Hs → Prop} {P : T → Prop} {Z : Hs → Hs → Prop} (z0 : ∀ h, Z h h) (zt : ∀ a b c, Z a b → Z b c → Z a c) :
    ∀ (xs : List T) (h : Hs), (∀ x ∈ xs, ∀ h, I h → ∃ y h', f x h = .ok (some y) h' ∧ P y ∧ I h' ∧ Z h h') → I h → ∃ ys h', compL f xs h = .ok ys h' ∧ (∀ y ∈ ys, P y) ∧ ys.length = xs.length ∧ I h' ∧ Z h h'
  | [], h, _, i => ⟨[], h, rfl, (fun y hy => by cases hy), rfl, i, z0 h⟩
  | x :: xs, h, hf, i => by
    obtain ⟨y, h1, e1, p1, i1, z1⟩ := hf x List.mem_cons_self h i
    obtain ⟨ys, h2, e2, p2, l2, i2, z2⟩ := compL_all z0 zt xs h1 (fun x hx => hf x (List.mem_cons_of_mem _ hx)) i1
    refine ⟨y :: ys, h2, ?_, ?_, by simp [l2], i2, zt _ _ _ z1 z2⟩
    · simp [compL, e1, e2]
    · intro w hw
      rcases List.mem_cons.mp hw with rfl | hw
      · exact p1
      · exact p2 w hw
/-- a comprehension whose items are a plain function of the item -/
theorem compL_map {f : T → Hs → R (Option T)} {g : T → T} {h : Hs} : ∀ (xs : List T), (∀ x ∈ xs, f x h = .ok (some (g x)) h) → compL f xs h = .ok (xs.map g) h
  | [], _ => rfl
  | x :: xs, hf => by
    simp [compL, hf x List.mem_cons_self, compL_map xs fun y hy => hf y (List.mem_cons_of_mem _ hy)]
/-- .. with a test -/
theorem compL_filter {f : T → Hs → R (Option T)} {p : T → Bool} {g : T → T} {h : Hs} : ∀ (xs : List T), (∀ x ∈ xs, f x h = .ok (if p x = true then some (g x) else none) h) → compL f xs h = .ok ((xs.filter p).map g) h
  | [], _ => rfl
  | x :: xs, hf => by
    have e := compL_filter (p := p) (g := g) xs fun y hy => hf y (List.mem_cons_of_mem _ hy)
    by_cases hp : p x = true
    · simp [compL, hf x List.mem_cons_self, e, hp]
    · simp [compL, hf x List.mem_cons_self, e, hp]
theorem rangeT_nat {n : Int} (h0 : 0 ≤ n) (h1 : n < 1000000000) : rangeT 0 n = some ((List.range n.toNat).map fun i : Nat => T.int (i : Int)) := by
  unfold rangeT
  rw [if_pos]
  · simp
  · simp
    omega
def isLet (c : Nat) : Bool := decide (97 ≤ c) && decide (c ≤ 122)
def isDig (c : Nat) : Bool := decide (48 ≤ c) && decide (c ≤ 57)
def isAl (c : Nat) : Bool := isLet c || isDig c
def wordL : List Nat → Bool
  | [] => false
  | c :: r => isLet c && r.all isAl
end Fp
end

section
set_option Elab.async false
set_option linter.all false
/-! PD: the evaluator step by step (comprehensions, loops and try left out): the tactic evs. -/
namespace Fp
open Fs
open PySem
@[simp] theorem ev_non {D : Tb} {cl : Cal} {env : En} {h : Hs} : ev D cl (.non) env h = mkV (.ok .non h) := by simp only [ev, evL, evA, evO, evI] <;> rfl
@[simp] theorem ev_bl {D : Tb} {cl : Cal} {env : En} {h : Hs} {b : Bool} : ev D cl (.bl b) env h = mkV (.ok (.bl b) h) := by simp only [ev, evL, evA, evO, evI] <;> rfl
@[simp] theorem ev_int {D : Tb} {cl : Cal} {env : En} {h : Hs} {i : Int} : ev D cl (.int i) env h = mkV (.ok (.int i) h) := by simp only [ev, evL, evA, evO, evI] <;> rfl
@[simp] theorem ev_str {D : Tb} {cl : Cal} {env : En} {h : Hs} {s : Str} : ev D cl (.str s) env h = mkV (.ok (.str s) h) := by simp only [ev, evL, evA, evO, evI] <;> rfl
@[simp] theorem ev_var {D : Tb} {cl : Cal} {env : En} {h : Hs} {i : Nat} : ev D cl (.var i) env h = mkV (match env[i]? with | some (some t) => .ok t h | _ => .bad) := by simp only [ev, evL, evA, evO, evI] <;> rfl
@[simp] theorem ev_glob {D : Tb} {cl : Cal} {env : En} {h : Hs} {g : Nat} : ev D cl (.glob g) env h = mkV (R.ofO (D.cns[g]?.map (·.2)) h) := by simp only [ev, evL, evA, evO, evI] <;> rfl
@[simp] theorem ev_bin {D : Tb} {cl : Cal} {env : En} {h : Hs} {o : Bk} {a b : E} : ev D cl (.bin o a b) env h = mkV ((ev D cl a env h).v.bind fun x h1 => (ev D cl b env h1).v.bind fun y h2 => R.ofO (binT o x y) h2) := by simp only [ev, evL, evA, evO, evI] <;> rfl
@[simp] theorem ev_neg {D : Tb} {cl : Cal} {env : En} {h : Hs} {a : E} : ev D cl (.neg a) env h = mkV ((ev D cl a env h).v.bind fun x h1 => R.ofO ((intT x).map fun i => .int (-i)) h1) := by simp only [ev, evL, evA, evO, evI] <;> rfl
@[simp] theorem ev_nott {D : Tb} {cl : Cal} {env : En} {h : Hs} {a : E} : ev D cl (.nott a) env h = ⟨(ev D cl a env h).v.bind fun x h1 => R.ofO ((truT h1 x).map fun b => .bl (!b)) h1, (ev D cl a env h).t.bind fun b h1 => .ok (!b) h1⟩ := by simp only [ev, evL, evA, evO, evI] <;> rfl
@[simp] theorem ev_andv {D : Tb} {cl : Cal} {env : En} {h : Hs} {xs : Es} : ev D cl (.andv xs) env h = evA D cl xs env h := by simp only [ev, evL, evA, evO, evI] <;> rfl
@[simp] theorem ev_orv {D : Tb} {cl : Cal} {env : En} {h : Hs} {xs : Es} : ev D cl (.orv xs) env h = evO D cl xs env h := by simp only [ev, evL, evA, evO, evI] <;> rfl
@[simp] theorem ev_cmp {D : Tb} {cl : Cal} {env : En} {h : Hs} {o : Ck} {a b : E} : ev D cl (.cmp o a b) env h = mkB ((ev D cl a env h).v.bind fun x h1 => (ev D cl b env h1).v.bind fun y h2 => R.ofO (cmpT o h2 x y) h2) := by simp only [ev, evL, evA, evO, evI] <;> rfl
@[simp] theorem ev_ite {D : Tb} {cl : Cal} {env : En} {h : Hs} {c a b : E} : ev D cl (.ite c a b) env h = ⟨(ev D cl c env h).t.bind fun k h1 => if k = true then (ev D cl a env h1).v else (ev D cl b env h1).v, (ev D cl c env h).t.bind fun k h1 => if k = true then (ev D cl a env h1).t else (ev D cl b env h1).t⟩ := by simp only [ev, evL, evA, evO, evI] <;> rfl
@[simp] theorem ev_tup {D : Tb} {cl : Cal} {env : En} {h : Hs} {xs : Es} : ev D cl (.tup xs) env h = mkV ((evL D cl xs env h).bind fun ts h1 => if ts.length ≤ lim then .ok (.tup ts) h1 else .bad) := by simp only [ev, evL, evA, evO, evI] <;> rfl
@[simp] theorem ev_lstI {D : Tb} {cl : Cal} {env : En} {h : Hs} {xs : Es} : ev D cl (.lstI xs) env h = mkV ((evL D cl xs env h).bind fun ts h1 => if ts.length ≤ lim then .ok (.lst ts) h1 else .bad) := by simp only [ev, evL, evA, evO, evI] <;> rfl
@[simp] theorem ev_lstM {D : Tb} {cl : Cal} {env : En} {h : Hs} {xs : Es} : ev D cl (.lstM xs) env h = mkV ((evL D cl xs env h).bind fun ts h1 => if ts.length ≤ lim then .ok (.ref h1.length) (h1 ++ [.lst ts]) else .bad) := by simp only [ev, evL, evA, evO, evI] <;> rfl
@[simp] theorem ev_ix {D : Tb} {cl : Cal} {env : En} {h : Hs} {a i : E} : ev D cl (.ix a i) env h = mkV ((ev D cl a env h).v.bind fun x h1 => (ev D cl i env h1).v.bind fun y h2 => R.ofO (ixT h2 x y) h2) := by simp only [ev, evL, evA, evO, evI] <;> rfl
@[simp] theorem ev_sl {D : Tb} {cl : Cal} {env : En} {h : Hs} {a lo hi : E} : ev D cl (.sl a lo hi) env h = mkV ((ev D cl a env h).v.bind fun x h1 => (if lo.isAbs then .ok none h1 else (ev D cl lo env h1).v.bind fun y h2 => R.ofO ((intT y).map some) h2).bind fun l h2 => (if hi.isAbs then .ok none h2 else (ev D cl hi env h2).v.bind fun y h3 => R.ofO ((intT y).map some) h3).bind fun u h3 => R.ofO (slT x l u) h3) := by simp only [ev, evL, evA, evO, evI] <;> rfl
@[simp] theorem ev_call {D : Tb} {cl : Cal} {env : En} {h : Hs} {f : Nat} {xs : Es} : ev D cl (.call f xs) env h = mkV ((evL D cl xs env h).bind fun ts h1 => cl f ts h1) := by simp only [ev, evL, evA, evO, evI] <;> rfl
@[simp] theorem ev_meth {D : Tb} {cl : Cal} {env : En} {h : Hs} {f : Nat} {o : E} {xs : Es} : ev D cl (.meth f o xs) env h = mkV ((ev D cl o env h).v.bind fun x h1 => if methOk D h1 f x = true then (evL D cl xs env h1).bind fun ts h2 => cl f (x :: ts) h2 else .bad) := by simp only [ev, evL, evA, evO, evI] <;> rfl
@[simp] theorem ev_new {D : Tb} {cl : Cal} {env : En} {h : Hs} {c : Nat} {xs : Es} : ev D cl (.new c xs) env h = mkV ((evL D cl xs env h).bind fun ts h1 => match initOf D c with | some i => (cl i (.ref h1.length :: ts) (h1 ++ [.ins c []])).bind fun r h2 => (match r with | .non => .ok (.ref h1.length) h2 | _ => .bad) | none => .bad) := by simp only [ev, evL, evA, evO, evI] <;> rfl
@[simp] theorem ev_bi {D : Tb} {cl : Cal} {env : En} {h : Hs} {b : Bi} {xs : Es} : ev D cl (.bi b xs) env h = mkV ((evL D cl xs env h).bind fun ts h1 => R.ofO (biT b h1 ts) h1) := by simp only [ev, evL, evA, evO, evI] <;> rfl
@[simp] theorem ev_bm {D : Tb} {cl : Cal} {env : En} {h : Hs} {m : Bm} {o : E} {xs : Es} : ev D cl (.bm m o xs) env h = mkV ((ev D cl o env h).v.bind fun x h1 => if bmOk m h1 x = true then (evL D cl xs env h1).bind fun ts h2 => (match bmT m h2 x ts with | some (y, h3) => .ok y h3 | none => .bad) else .bad) := by simp only [ev, evL, evA, evO, evI] <;> rfl
@[simp] theorem ev_attr {D : Tb} {cl : Cal} {env : En} {h : Hs} {o : E} {f : Str} : ev D cl (.attr o f) env h = mkV ((ev D cl o env h).v.bind fun x h1 => R.ofO (fieldOf D h1 x f) h1) := by simp only [ev, evL, evA, evO, evI] <;> rfl
@[simp] theorem ev_exf {D : Tb} {cl : Cal} {env : En} {h : Hs} {f : Str} : ev D cl (.exf f) env h = mkV (cl 0 [.str f] h) := by simp only [ev, evL, evA, evO, evI] <;> rfl
@[simp] theorem ev_fstr {D : Tb} {cl : Cal} {env : En} {h : Hs} {xs : Es} : ev D cl (.fstr xs) env h = mkV ((evF D cl xs Str.empty env h).bind fun s h1 => .ok (.str s) h1) := by simp only [ev, evL, evA, evO, evI] <;> rfl
@[simp] theorem evL_nil {D : Tb} {cl : Cal} {env : En} {h : Hs} : evL D cl .nil env h = .ok [] h := by simp only [ev, evL, evA, evO, evI] <;> rfl
@[simp] theorem evL_cons {D : Tb} {cl : Cal} {env : En} {h : Hs} {a : E} {r : Es} : evL D cl (.cons a r) env h = (ev D cl a env h).v.bind fun x h1 => (evL D cl r env h1).bind fun xs h2 => .ok (x :: xs) h2 := by simp only [ev, evL, evA, evO, evI] <;> rfl
@[simp] theorem evF_nil {D : Tb} {cl : Cal} {env : En} {h : Hs} {acc : Str} : evF D cl .nil acc env h = .ok acc h := by simp only [evF]
@[simp] theorem evF_cons {D : Tb} {cl : Cal} {env : En} {h : Hs} {acc : Str} {a : E} {r : Es} : evF D cl (.cons a r) acc env h = ((ev D cl a env h).v.bind fun x h1 => match fmtT x with | some s => (if (acc ++ s).length ≤ lim then evF D cl r (acc ++ s) env h1 else .bad) | none => .bad) := by simp only [evF] <;> rfl
@[simp] theorem evA_one {D : Tb} {cl : Cal} {env : En} {h : Hs} {a : E} : evA D cl (.cons a .nil) env h = ⟨(ev D cl a env h).v, (ev D cl a env h).t⟩ := by simp only [ev, evL, evA, evO, evI] <;> rfl
@[simp] theorem evA_two {D : Tb} {cl : Cal} {env : En} {h : Hs} {a b : E} {r : Es} : evA D cl (.cons a (.cons b r)) env h = ⟨(ev D cl a env h).v.bind fun x h1 => (R.ofO (truT h1 x) h1).bind fun k h2 => if k = true then (evA D cl (.cons b r) env h2).v else .ok x h2, (ev D cl a env h).t.bind fun k h1 => if k = true then (evA D cl (.cons b r) env h1).t else .ok false h1⟩ := by simp only [evA]
@[simp] theorem evO_one {D : Tb} {cl : Cal} {env : En} {h : Hs} {a : E} : evO D cl (.cons a .nil) env h = ⟨(ev D cl a env h).v, (ev D cl a env h).t⟩ := by simp only [ev, evL, evA, evO, evI] <;> rfl
@[simp] theorem evO_two {D : Tb} {cl : Cal} {env : En} {h : Hs} {a b : E} {r : Es} : evO D cl (.cons a (.cons b r)) env h = ⟨(ev D cl a env h).v.bind fun x h1 => (R.ofO (truT h1 x) h1).bind fun k h2 => if k = true then .ok x h2 else (evO D cl (.cons b r) env h2).v, (ev D cl a env h).t.bind fun k h1 => if k = true then .ok true h1 else (evO D cl (.cons b r) env h1).t⟩ := by simp only [evO]
@[simp] theorem evI_seq {D : Tb} {cl : Cal} {env : En} {h : Hs} {e : E} : evI D cl (.seq e) env h = (ev D cl e env h).v.bind fun x h1 => R.ofO (items x) h1 := by simp only [ev, evL, evA, evO, evI] <;> rfl
@[simp] theorem evI_rng {D : Tb} {cl : Cal} {env : En} {h : Hs} {e : E} : evI D cl (.rng e) env h = (ev D cl e env h).v.bind fun x h1 => R.ofO ((intT x).bind fun n => rangeT 0 n) h1 := by simp only [ev, evL, evA, evO, evI] <;> rfl
@[simp] theorem evI_rng2 {D : Tb} {cl : Cal} {env : En} {h : Hs} {a b : E} : evI D cl (.rng2 a b) env h = (ev D cl a env h).v.bind fun x h1 => (ev D cl b env h1).v.bind fun y h2 => R.ofO ((intT x).bind fun i => (intT y).bind fun j => rangeT i j) h2 := by simp only [ev, evL, evA, evO, evI] <;> rfl
@[simp] theorem evS_set {D : Tb} {W : Nat} {cl : Cal} {env : En} {h : Hs} {i : Nat} {e : E} : evS D W cl (.set i e) env h = (ev D cl e env h).v.toS env fun x h1 => .nx (env.set i (some x)) h1 := by simp only [evS] <;> rfl
@[simp] theorem evS_setT {D : Tb} {W : Nat} {cl : Cal} {env : En} {h : Hs} {ns : List Nat} {e : E} : evS D W cl (.setT ns e) env h = (ev D cl e env h).v.toS env fun x h1 => match bindG (.tp ns) x env with | some env1 => .nx env1 h1 | none => .bad := by simp only [evS] <;> rfl
@[simp] theorem evS_par {D : Tb} {W : Nat} {cl : Cal} {env : En} {h : Hs} {ns : List Nat} {xs : Es} : evS D W cl (.par ns xs) env h = (evL D cl xs env h).toS env fun ts h1 => match bindTs ns ts env with | some env1 => .nx env1 h1 | none => .bad := by simp only [evS] <;> rfl
@[simp] theorem evS_setAt {D : Tb} {W : Nat} {cl : Cal} {env : En} {h : Hs} {o : E} {f : Str} {e : E} : evS D W cl (.setAt o f e) env h = (ev D cl e env h).v.toS env fun x h1 => (ev D cl o env h1).v.toS env fun y h2 => match setAtT D h2 y f x with | some h3 => .nx env h3 | none => .bad := by simp only [evS] <;> rfl
@[simp] theorem evS_ex {D : Tb} {W : Nat} {cl : Cal} {env : En} {h : Hs} {e : E} : evS D W cl (.ex e) env h = (ev D cl e env h).v.toS env fun _ h1 => .nx env h1 := by simp only [evS] <;> rfl
@[simp] theorem evS_ret {D : Tb} {W : Nat} {cl : Cal} {env : En} {h : Hs} {e : E} : evS D W cl (.ret e) env h = (ev D cl e env h).v.toS env fun x h1 => .ret x h1 := by simp only [evS] <;> rfl
@[simp] theorem evS_retN {D : Tb} {W : Nat} {cl : Cal} {env : En} {h : Hs} : evS D W cl (.retN) env h = .ret .non h := by simp only [evS] <;> rfl
@[simp] theorem evS_ifs {D : Tb} {W : Nat} {cl : Cal} {env : En} {h : Hs} {c : E} {a b : Ss} : evS D W cl (.ifs c a b) env h = (ev D cl c env h).t.toS env fun k h1 => if k = true then evSs D W cl a env h1 else evSs D W cl b env h1 := by simp only [evS] <;> rfl
@[simp] theorem evS_rais {D : Tb} {W : Nat} {cl : Cal} {env : En} {h : Hs} {c : Nat} {xs : Es} : evS D W cl (.rais c xs) env h = (evL D cl xs env h).toS env fun ts h1 => if excOk D c ts = true then .exc c ts env h1 else .bad := by simp only [evS] <;> rfl
@[simp] theorem evS_cont {D : Tb} {W : Nat} {cl : Cal} {env : En} {h : Hs} : evS D W cl (.cont) env h = .cont env h := by simp only [evS] <;> rfl
@[simp] theorem evS_brk {D : Tb} {W : Nat} {cl : Cal} {env : En} {h : Hs} : evS D W cl (.brk) env h = .brk env h := by simp only [evS] <;> rfl
@[simp] theorem evSs_nil {D : Tb} {W : Nat} {cl : Cal} {env : En} {h : Hs} : evSs D W cl .nil env h = .nx env h := by simp only [evSs]
@[simp] theorem evSs_cons {D : Tb} {W : Nat} {cl : Cal} {env : En} {h : Hs} {s : S} {r : Ss} : evSs D W cl (.cons s r) env h = (evS D W cl s env h).andThen fun env1 h1 => evSs D W cl r env1 h1 := by simp only [evSs]
@[simp] theorem andThen_nx {env : En} {h : Hs} {k : En → Hs → SR} : (SR.nx env h).andThen k = k env h := rfl
@[simp] theorem andThen_ret {v : T} {h : Hs} {k : En → Hs → SR} : (SR.ret v h).andThen k = .ret v h := rfl
@[simp] theorem andThen_exc {c : Nat} {xs : List T} {env : En} {h : Hs} {k : En → Hs → SR} : (SR.exc c xs env h).andThen k = .exc c xs env h := rfl
@[simp] theorem andThen_cont {env : En} {h : Hs} {k : En → Hs → SR} : (SR.cont env h).andThen k = .cont env h := rfl
@[simp] theorem andThen_brk {env : En} {h : Hs} {k : En → Hs → SR} : (SR.brk env h).andThen k = .brk env h := rfl
@[simp] theorem fin_nx {env : En} {h : Hs} : (SR.nx env h).fin = .ok .non h := rfl
@[simp] theorem fin_ret {v : T} {h : Hs} : (SR.ret v h).fin = .ok v h := rfl
@[simp] theorem fin_exc {c : Nat} {xs : List T} {env : En} {h : Hs} : (SR.exc c xs env h).fin = .exc c xs h := rfl

@[simp] theorem mkV_v' (r : R T) : (mkV r).v = r := rfl
@[simp] theorem mkV_t' (r : R T) : (mkV r).t = r.bind fun x h => R.ofO (truT h x) h := rfl
@[simp] theorem mkB_v' (b : R Bool) : (mkB b).v = b.bind fun x h => .ok (.bl x) h := rfl
@[simp] theorem mkB_t' (b : R Bool) : (mkB b).t = b := rfl
@[simp] theorem eqT_int' (h : Hs) (i j : Int) : eqT h (.int i) (.int j) = some (decide (i = j)) := eqT_int h i j
@[simp] theorem cmp_eq {h : Hs} {x y : T} : cmpT .eq h x y = eqT h x y := rfl
@[simp] theorem cmp_ne {h : Hs} {x y : T} : cmpT .ne h x y = (eqT h x y).map (!·) := rfl
@[simp] theorem cmp_lt {h : Hs} {i j : Int} : cmpT .lt h (.int i) (.int j) = some (decide (i < j)) := rfl
@[simp] theorem cmp_le {h : Hs} {i j : Int} : cmpT .le h (.int i) (.int j) = some (decide (i ≤ j)) := rfl
@[simp] theorem cmp_gt {h : Hs} {i j : Int} : cmpT .gt h (.int i) (.int j) = some (decide (j < i)) := rfl
@[simp] theorem cmp_ge {h : Hs} {i j : Int} : cmpT .ge h (.int i) (.int j) = some (decide (j ≤ i)) := rfl
@[simp] theorem cmp_is {h : Hs} {x y : T} : cmpT .is h x y = isT h x y := rfl
@[simp] theorem cmp_nis {h : Hs} {x y : T} : cmpT .nis h x y = (isT h x y).map (!·) := rfl
@[simp] theorem cmp_in {h : Hs} {x y : T} : cmpT .inn h x y = inT h x y := rfl
@[simp] theorem cmp_nin {h : Hs} {x y : T} : cmpT .nin h x y = (inT h x y).map (!·) := rfl
@[simp] theorem is_non_non {h : Hs} : isT h .non .non = some true := rfl
@[simp] theorem is_int_non {h : Hs} {i : Int} : isT h (.int i) .non = some false := rfl
@[simp] theorem is_str_non {h : Hs} {i : Str} : isT h (.str i) .non = some false := rfl
@[simp] theorem is_bl_non {h : Hs} {i : Bool} : isT h (.bl i) .non = some false := rfl
@[simp] theorem is_tup_non {h : Hs} {i : List T} : isT h (.tup i) .non = some false := rfl
@[simp] theorem is_bl_bl {h : Hs} {a b : Bool} : isT h (.bl a) (.bl b) = some (decide (a = b)) := rfl
@[simp] theorem add_int {i j : Int} : binT .add (.int i) (.int j) = some (.int (i + j)) := rfl
@[simp] theorem add_str {i j : Str} : binT .add (.str i) (.str j) = if i.length + j.length ≤ lim then some (.str (i ++ j)) else none := rfl
@[simp] theorem add_tup {i j : List T} : binT .add (.tup i) (.tup j) = if i.length + j.length ≤ lim then some (.tup (i ++ j)) else none := rfl
@[simp] theorem add_lst {i j : List T} : binT .add (.lst i) (.lst j) = if i.length + j.length ≤ lim then some (.lst (i ++ j)) else none := rfl
@[simp] theorem sub_int {i j : Int} : binT .sub (.int i) (.int j) = some (.int (i - j)) := rfl
@[simp] theorem mul_int {i j : Int} : binT .mul (.int i) (.int j) = if mulOk i j then some (.int (i * j)) else none := rfl
@[simp] theorem pow_int {i j : Int} : binT .pow (.int i) (.int j) = if decide (0 ≤ j) && (decide (j ≤ 1000000) && decide (i.natAbs < 2 ^ 64)) then some (.int (i ^ j.toNat)) else none := rfl
@[simp] theorem intT_int {i : Int} : intT (.int i) = some i := rfl
@[simp] theorem one_one {x : T} : one [x] = some x := rfl
@[simp] theorem bi_len {h : Hs} {x : T} : biT .len h [x] = (lenT h x).map fun (n : Nat) => T.int (n : Int) := rfl
@[simp] theorem bi_abs {h : Hs} {i : Int} : biT .abs h [.int i] = some (.int (if i < 0 then -i else i)) := rfl
@[simp] theorem bi_int {h : Hs} {x : T} : biT .int h [x] = toInt x := rfl
@[simp] theorem bi_str {h : Hs} {x : T} : biT .str h [x] = toStr x := rfl
@[simp] theorem bi_repr {h : Hs} {x : T} : biT .repr h [x] = reprT h x := rfl
@[simp] theorem bi_tuple {h : Hs} {x : T} : biT .tuple h [x] = toTup h x := rfl
@[simp] theorem bi_isinst {h : Hs} {x : T} {n : Kd} : biT (.isinst n) h [x] = (kind h x).map fun k => .bl (k.is n) := rfl
@[simp] theorem bi_all {h : Hs} {ts : List T} : biT .all h [.lst ts] = (bools ts).map fun bs => .bl (bs.all id) := rfl
@[simp] theorem bi_any {h : Hs} {ts : List T} : biT .any h [.lst ts] = (bools ts).map fun bs => .bl (bs.any id) := rfl
@[simp] theorem toInt_int {i : Int} : toInt (.int i) = some (.int i) := rfl
@[simp] theorem toTup_lst {h : Hs} {i : List T} : toTup h (.lst i) = some (.tup i) := rfl
@[simp] theorem len_lst {h : Hs} {i : List T} : lenT h (.lst i) = some i.length := rfl
@[simp] theorem len_tup {h : Hs} {i : List T} : lenT h (.tup i) = some i.length := rfl
@[simp] theorem len_str {h : Hs} {i : Str} : lenT h (.str i) = if i.length ≤ lim then some i.length else none := rfl
@[simp] theorem tru_bl {h : Hs} {b : Bool} : truT h (.bl b) = some b := rfl
@[simp] theorem abs_absent : E.absent.isAbs = true := rfl
@[simp] theorem abs_int {i : Int} : (E.int i).isAbs = false := rfl
@[simp] theorem abs_var {i : Nat} : (E.var i).isAbs = false := rfl
@[simp] theorem abs_bin {o : Bk} {a b : E} : (E.bin o a b).isAbs = false := rfl
@[simp] theorem abs_attr {o : E} {f : Str} : (E.attr o f).isAbs = false := rfl
@[simp] theorem abs_cmp {o : Ck} {a b : E} : (E.cmp o a b).isAbs = false := rfl
@[simp] theorem kd_non {h : Hs} : kind h .non = some .non := rfl
@[simp] theorem kd_bl {h : Hs} {b : Bool} : kind h (.bl b) = some .bl := rfl
@[simp] theorem kd_int {h : Hs} {b : Int} : kind h (.int b) = some .int := rfl
@[simp] theorem kd_str {h : Hs} {b : Str} : kind h (.str b) = some .str := rfl
@[simp] theorem kd_tup {h : Hs} {b : List T} : kind h (.tup b) = some .tup := rfl
@[simp] theorem kd_lst {h : Hs} {b : List T} : kind h (.lst b) = some .lst := rfl
@[simp] theorem lim_eq : lim = 1000000 := rfl
@[simp] theorem sl_str {z : Str} {lo hi : Option Int} : slT (.str z) lo hi = if z.length ≤ lim then some (.str (L2.cutS z lo hi)) else none := rfl
@[simp] theorem ix_tup {h : Hs} {ts : List T} {i : Int} : ixT h (.tup ts) (.int i) = L2.atI ts i := rfl
@[simp] theorem ix_lst {h : Hs} {ts : List T} {i : Int} : ixT h (.lst ts) (.int i) = L2.atI ts i := rfl
@[simp] theorem ix_str {h : Hs} {z : Str} {i : Int} : ixT h (.str z) (.int i) = if z.length ≤ lim then (L2.atI z.cps.toList i).map sgn else none := rfl
@[simp] theorem at_0 {α : Type} (xs : List α) : L2.atI xs 0 = xs[0]? := atI_nat xs 0
@[simp] theorem at_1 {α : Type} (xs : List α) : L2.atI xs 1 = xs[1]? := atI_nat xs 1
@[simp] theorem at_2 {α : Type} (xs : List α) : L2.atI xs 2 = xs[2]? := atI_nat xs 2
@[simp] theorem at_nat {α : Type} (xs : List α) (n : Nat) : L2.atI xs (n : Int) = xs[n]? := atI_nat xs n
@[simp] theorem items_tup {ts : List T} : items (.tup ts) = some ts := rfl
@[simp] theorem items_lst {ts : List T} : items (.lst ts) = some ts := rfl
@[simp] theorem items_str {z : Str} : items (.str z) = some (z.cps.toList.map sgn) := rfl
def cBody (D : Tb) (cl : Cal) (i : Nat) (c e : E) (vs : List Nat) (env : En) (x : T) (h : Hs) : R (Option T) :=
  (if c.isAbs then .ok true h else (ev D cl c ((wipeT env vs).set i (some x)) h).t).bind fun k h3 => if k = true then (ev D cl e ((wipeT env vs).set i (some x)) h3).v.bind fun y h4 => .ok (some y) h4 else .ok none h3
theorem ev_compE {D : Tb} {cl : Cal} {env : En} {h : Hs} {i : Nat} {it : It} {c e : E} {vs : List Nat} : ev D cl (.comp false (.nm i) it c e vs) env h =
    mkV (((evI D cl it env h).bind fun xs h1 => (compL (cBody D cl i c e vs env) xs h1).nox).bind fun ys h5 => if ys.length ≤ lim then .ok (.lst ys) h5 else .bad) := by
  simp only [ev] <;> rfl
/-- a comprehension over its items, no test -/
theorem ev_comp {D : Tb} {cl : Cal} {env : En} {h h1 : Hs} {i : Nat} {it : It} {e : E} {vs : List Nat} {xs : List T} {I : Hs → Prop} {P : T → Prop} {Z : Hs → Hs → Prop} (hi : evI D cl it env h = .ok xs h1) (i1 : I h1)
    (z0 : ∀ h, Z h h) (zt : ∀ a b c, Z a b → Z b c → Z a c) (hl : xs.length ≤ lim) (hf : ∀ x ∈ xs, ∀ h, I h → ∃ y h', (ev D cl e ((wipeT env vs).set i (some x)) h).v = .ok y h' ∧ P y ∧ I h' ∧ Z h h') :
    ∃ ys h', ev D cl (.comp false (.nm i) it .absent e vs) env h = mkV (.ok (.lst ys) h') ∧ (∀ y ∈ ys, P y) ∧ ys.length = xs.length ∧ I h' ∧ Z h1 h' := by
  obtain ⟨ys, h', e1, p, l, i', z⟩ := compL_all z0 zt (f := cBody D cl i .absent e vs env) xs h1 (fun x hx h ih => by
    obtain ⟨y, h', e1, r⟩ := hf x hx h ih
    exact ⟨y, h', by simp [cBody, e1], r⟩) i1
  refine ⟨ys, h', ?_, p, l, i', z⟩
  rw [ev_compE, hi, R.bind_ok, e1]
  simp only [R.nox_ok, R.bind_ok]
  rw [if_pos (by rw [l]; exact hl)]
/-- .. each a plain function of its item -/
theorem ev_compM {D : Tb} {cl : Cal} {env : En} {h h1 : Hs} {i : Nat} {it : It} {e : E} {vs : List Nat} {xs : List T} {g : T → T} (hi : evI D cl it env h = .ok xs h1) (hl : xs.length ≤ lim)
    (hf : ∀ x ∈ xs, (ev D cl e ((wipeT env vs).set i (some x)) h1).v = .ok (g x) h1) : ev D cl (.comp false (.nm i) it .absent e vs) env h = mkV (.ok (.lst (xs.map g)) h1) := by
  have e1 := compL_map (f := cBody D cl i .absent e vs env) (g := g) (h := h1) xs (fun x hx => by simp [cBody, hf x hx])
  rw [ev_compE, hi, R.bind_ok, e1]
  simp only [R.nox_ok, R.bind_ok]
  rw [if_pos (by rw [List.length_map]; exact hl)]
/-- .. with a test -/
theorem ev_compF {D : Tb} {cl : Cal} {env : En} {h h1 : Hs} {i : Nat} {it : It} {c e : E} {vs : List Nat} {xs : List T} {p : T → Bool} {g : T → T} (hc : c.isAbs = false) (hi : evI D cl it env h = .ok xs h1) (hl : xs.length ≤ lim)
    (hp : ∀ x ∈ xs, (ev D cl c ((wipeT env vs).set i (some x)) h1).t = .ok (p x) h1) (hf : ∀ x ∈ xs, p x = true → (ev D cl e ((wipeT env vs).set i (some x)) h1).v = .ok (g x) h1) :
    ev D cl (.comp false (.nm i) it c e vs) env h = mkV (.ok (.lst ((xs.filter p).map g)) h1) := by
  have e1 := compL_filter (f := cBody D cl i c e vs env) (p := p) (g := g) (h := h1) xs (fun x hx => by
    by_cases q : p x = true
    · simp [cBody, hc, hp x hx, hf x hx q, q]
    · simp [cBody, hc, hp x hx, q])
  rw [ev_compE, hi, R.bind_ok, e1]
  simp only [R.nox_ok, R.bind_ok]
  rw [if_pos (by rw [List.length_map]; exact Nat.le_trans (List.length_filter_le _ _) hl)]
end Fp
end

section
set_option Elab.async false
set_option linter.all false
/-! PE: texts as lists of signs, in the evaluator. -/
namespace Fp
open Fs
open PySem
theorem Sx_len (l : List Nat) : (Sx l).length = l.length := by simp [Sx, Str.length]
theorem Sx_tl (l : List Nat) : (Sx l).cps.toList = l := rfl
theorem Sx_of (x : Str) : x = Sx x.cps.toList := rfl
theorem Sx_inj {a b : List Nat} : (Sx a = Sx b) ↔ a = b := ⟨fun h => congrArg (fun x : Str => x.cps.toList) h, fun h => by rw [h]⟩
theorem Sx_cat (a b : List Nat) : Sx a ++ Sx b = Sx (a ++ b) := SX.S_cat a b
theorem texts_map (ls : List (List Nat)) : texts (ls.map fun l => T.str (Sx l)) = some (ls.map Sx) := by
  induction ls with
  | nil => rfl
  | cons l ls ih => simp [texts, ih]
theorem join_Sx (a : List Nat) (ys : List (List Nat)) : Str.join (Sx a) (ys.map Sx) = Sx (TL.joinL a ys) := by
  rw [← TL.join_eq]
  exact SX.join_S a ys
theorem lens_Sx (ls : List (List Nat)) : ((ls.map Sx).map (·.length)) = ls.map (·.length) := by
  rw [List.map_map]
  apply List.map_congr_left
  intro l _
  exact Sx_len l
theorem join_len (a : List Nat) : ∀ ys : List (List Nat), (TL.joinL a ys).length ≤ (ys.map (·.length)).sum + ys.length * a.length
  | [] => by simp [TL.joinL]
  | [y] => by simp [TL.joinL]
  | y :: z :: r => by
    have := join_len a (z :: r)
    simp only [TL.joinL, List.length_append, List.map_cons, List.sum_cons, List.length_cons] at this ⊢
    have e : (r.length + 1 + 1) * a.length = (r.length + 1) * a.length + a.length := by rw [Nat.add_mul (r.length + 1) 1]; omega
    omega
@[simp] theorem bmOk_join {h : Hs} {a : Str} : bmOk .join h (.str a) = true := rfl
theorem bm_join {h : Hs} {a : List Nat} {ys : List (List Nat)} (hl : (ys.map (·.length)).sum + ys.length * a.length ≤ 1000000) : bmT .join h (.str (Sx a)) [.lst (ys.map fun l => T.str (Sx l))] = some (.str (Sx (TL.joinL a ys)), h) := by
  show ((texts (ys.map fun l => T.str (Sx l))).bind fun zs => if glueOk (Sx a) zs then some (T.str (Str.join (Sx a) zs), h) else none) = _
  rw [texts_map, Option.bind_some, if_pos, join_Sx]
  unfold glueOk
  rw [lens_Sx, Sx_len, List.length_map]
  exact decide_eq_true hl
/-- the signs of a whole number -/
def intL (i : Int) : List Nat := if i < 0 then 45 :: TL.numL i.natAbs else TL.numL i.natAbs
theorem int_Sx (i : Int) : Str.ofString (toString i) = Sx (intL i) := by
  unfold intL
  by_cases h : i < 0
  · rw [if_pos h, PyProof.Rows.toString_neg h]
    have e : (0 - i) = ((i.natAbs : Nat) : Int) := by omega
    rw [e]
    have e2 : Str.ofString ("-" ++ toString ((i.natAbs : Nat) : Int)) = Str.ofString "-" ++ Str.ofString (toString ((i.natAbs : Nat) : Int)) := by
      rw [Str.ofString_eq_toList, Str.ofString_eq_toList, Str.ofString_eq_toList, String.toList_append, List.map_append]
      exact (Sx_cat _ _).symm
    rw [e2, SX.num_S]
    exact Sx_cat [45] _
  · rw [if_neg h]
    have e : i = ((i.natAbs : Nat) : Int) := by omega
    rw [e, SX.num_S]
    simp
end Fp
end

section
set_option Elab.async false
set_option linter.all false
/-! PF: cuts and comparisons of texts given by their signs. -/
namespace Fp
open Fs
open PySem
theorem cut_to (l : List Nat) (q : Nat) : L2.cutS (Sx l) none (some (q : Int)) = Sx (l.take q) := by
  unfold L2.cutS
  rw [HT.sIx_none, HT.sIx_nat, Sx_len]
  show Sx _ = _
  rw [Sx_tl, List.drop_zero, Nat.sub_zero, ← List.take_eq_take_min]
theorem cut_from (l : List Nat) (p : Nat) : L2.cutS (Sx l) (some (p : Int)) none = Sx (l.drop p) := by
  unfold L2.cutS
  rw [HT.sIx_none, HT.sIx_nat, Sx_len]
  show Sx _ = _
  rw [Sx_tl]
  congr 1
  rw [List.take_of_length_le (by rw [List.length_drop]; omega)]
  by_cases h : p ≤ l.length
  · rw [Nat.min_eq_left h]
  · rw [Nat.min_eq_right (by omega), List.drop_eq_nil_of_le (Nat.le_refl _), List.drop_eq_nil_of_le (by omega)]
theorem cut_mid (l : List Nat) (p q : Nat) : L2.cutS (Sx l) (some (p : Int)) (some (q : Int)) = Sx ((l.drop p).take (q - p)) := by
  unfold L2.cutS
  rw [HT.sIx_nat, HT.sIx_nat, Sx_len]
  show Sx _ = _
  rw [Sx_tl]
  congr 1
  by_cases h : p ≤ l.length
  · rw [Nat.min_eq_left h]
    by_cases h2 : q ≤ l.length
    · rw [Nat.min_eq_left h2]
    · rw [Nat.min_eq_right (by omega), List.take_of_length_le (by rw [List.length_drop]; omega), List.take_of_length_le (by rw [List.length_drop]; omega)]
  · have e : min p l.length = l.length := Nat.min_eq_right (by omega)
    rw [e, List.drop_eq_nil_of_le (Nat.le_refl _), List.drop_eq_nil_of_le (by omega : l.length ≤ p)]
    simp
def okL (l : List Nat) : Prop := ∀ c ∈ l, c < 128
theorem okL_str {l : List Nat} (h : okL l) : PyData.strOk (Sx l) = true := by
  show l.toArray.all (· < 0x110000) = true
  rw [← Array.all_toList, List.all_eq_true]
  intro c hc
  have := h c (by simpa using hc)
  simp only [decide_eq_true_eq]
  omega
theorem okL_take {l : List Nat} (h : okL l) (n : Nat) : okL (l.take n) := fun c hc => h c (List.mem_of_mem_take hc)
theorem okL_drop {l : List Nat} (h : okL l) (n : Nat) : okL (l.drop n) := fun c hc => h c (List.mem_of_mem_drop hc)
theorem okL_app {a b : List Nat} (h : okL a) (h' : okL b) : okL (a ++ b) := fun c hc => (List.mem_append.mp hc).elim (h c) (h' c)
theorem eq_Sx {h : Hs} {a b : List Nat} (oa : okL a) (ob : okL b) : eqT h (.str (Sx a)) (.str (Sx b)) = some (decide (a = b)) := by
  rw [eqT_str h _ _ (okL_str oa) (okL_str ob)]
  exact congrArg some (Bool.eq_iff_iff.mpr (by simp only [decide_eq_true_eq]; exact Sx_inj))
theorem in_Sx {h : Hs} {c : Nat} {l : List Nat} : inT h (sgn c) (.str (Sx l)) = some (decide (c ∈ l)) := rfl
theorem bools_map {α : Type} {p : α → Bool} : ∀ l : List α, bools (l.map fun c => T.bl (p c)) = some (l.map p)
  | [] => rfl
  | c :: r => by simp [bools, bools_map r]
theorem int_Sx' {a : List Nat} (h : a.all isDig = true) (hne : a ≠ []) (hl : a.length ≤ 640) : toInt (.str (Sx a)) = some (.int ((NumText.digitsVal a : Nat) : Int)) := by
  show (if (Sx a).length ≤ 640 then (intText? (Sx a)).map T.int else none) = _
  rw [if_pos (by rw [Sx_len]; exact hl), SX.int_S (a := a) h hne (by omega)]
  rfl
end Fp
end

section
set_option Elab.async false
set_option linter.all false
set_option maxRecDepth 10000
/-! PG: what repr writes of plain values: how long, which signs. -/
namespace Fp
open Fs
open PySem
/-- a text of small signs -/
def okS (s : Str) : Prop := okL s.cps.toList
theorem okS_Sx {l : List Nat} (h : okL l) : okS (Sx l) := h
theorem okS_str {s : Str} (h : okS s) : PyData.strOk s = true := okL_str (l := s.cps.toList) h
theorem okS_cat {a b : Str} (h : okS a) (h' : okS b) : okS (a ++ b) := by
  have e : (a ++ b).cps.toList = a.cps.toList ++ b.cps.toList := TL.tl_append _ _
  unfold okS
  rw [e]
  exact okL_app h h'
theorem cat_len (a b : Str) : (a ++ b).length = a.length + b.length := by
  have e : (a ++ b).cps.toList = a.cps.toList ++ b.cps.toList := TL.tl_append _ _
  have := congrArg List.length e
  simpa [Str.length] using this
theorem joinL_ok {a : List Nat} (ha : okL a) : ∀ ys : List (List Nat), (∀ y ∈ ys, okL y) → okL (TL.joinL a ys)
  | [], _ => by intro c hc; simp [TL.joinL] at hc
  | [y], h => by simpa [TL.joinL] using h y (by simp)
  | y :: z :: r, h => by
    have := joinL_ok ha (z :: r) fun w hw => h w (List.mem_cons_of_mem _ hw)
    simp only [TL.joinL]
    first
      | exact okL_app (h y (by simp)) (okL_app ha this)
      | exact okL_app (okL_app (h y (by simp)) ha) this
theorem repr_chr (c : Nat) (h : c < 128) : okL (Builtin.Str.reprChar 39 c) ∧ okL (Builtin.Str.reprChar 34 c) := by
  have : ∀ c : Fin 128, ((Builtin.Str.reprChar 39 c.val).all (· < 128) && (Builtin.Str.reprChar 34 c.val).all (· < 128)) = true := by decide +kernel
  have := this ⟨c, h⟩
  simp only [Bool.and_eq_true, List.all_eq_true, decide_eq_true_eq] at this
  exact this
theorem fold_ok {q : Nat} (hq : q = 39 ∨ q = 34) : ∀ (l : List Nat) (acc : Array Nat), okL l → okL acc.toList → okL (l.foldl (fun out c => out ++ (Builtin.Str.reprChar q c).toArray) acc).toList
  | [], acc, _, h => h
  | c :: r, acc, hl, h => by
    rw [List.foldl_cons]
    refine fold_ok hq r _ (fun d hd => hl d (List.mem_cons_of_mem _ hd)) ?_
    rw [Array.toList_append]
    have := repr_chr c (hl c (by simp))
    rcases hq with rfl | rfl
    · exact okL_app h this.1
    · exact okL_app h this.2
theorem repr_okS {s : Str} (h : okS s) : okS (reprText s) := by
  unfold okS reprText
  have hq : reprQuote s = 39 ∨ reprQuote s = 34 := by
    unfold reprQuote
    split
    · exact .inr rfl
    · exact .inl rfl
  generalize reprQuote s = q at hq
  have hq2 : q < 128 := by omega
  show okL (Array.push _ _).toList
  rw [Array.toList_push, ← Array.foldl_toList]
  refine okL_app (fold_ok hq _ _ h ?_) ?_ <;> · intro c hc; simp at hc; omega
theorem repr_len {s : Str} (h : okS s) : (reprText s).length ≤ 10 * s.length + 2 :=
  StrLaws.reprText_len s fun c hc => Nat.lt_trans (h c hc) (by decide)
structure Good (d n : Nat) (x : PyData) : Prop where
  lay : x.canLay0 = true
  dep : x.depth ≤ d
  vis : x.showable = true
  len : x.shown.length ≤ n
  asc : okS x.shown
mutual
/-- a bound of what repr writes -/
def szT : T → Nat
  | .non => 4
  | .int _ => 42
  | .str s => 10 * s.length + 2
  | .tup ts => szTs ts + 3
  | _ => 0
def szTs : List T → Nat
  | [] => 0
  | t :: r => szT t + 2 + szTs r
end
theorem szTs_app : ∀ (a b : List T), szTs (a ++ b) = szTs a + szTs b
  | [], b => by simp [szTs]
  | t :: r, b => by simp [szTs, szTs_app r b]; omega
theorem good_all {d : Nat} : ∀ ts : List T, (∀ t ∈ ts, ∃ x, toD t = some x ∧ Good d (szT t) x) →
    ∃ xs, toDs ts = some xs ∧ xs.length = ts.length ∧ PyData.canLayAll0 xs = true ∧ PyData.depthAll xs ≤ d ∧ PyData.showableAll xs = true ∧ ((PyData.shownAll xs).map (·.length)).sum + 2 * ts.length ≤ szTs ts ∧ (PyData.shownAll xs).length = ts.length ∧ ∀ y ∈ PyData.shownAll xs, okS y
  | [], _ => ⟨[], by simp [toDs, PyData.canLayAll0, PyData.depthAll, PyData.showableAll, PyData.shownAll]⟩
  | t :: r, h => by
    obtain ⟨x, e1, g⟩ := h t (by simp)
    obtain ⟨xs, e2, l2, a2, b2, c2, d2, f2, k2⟩ := good_all r fun t ht => h t (List.mem_cons_of_mem _ ht)
    refine ⟨x :: xs, by simp [toDs, e1, e2], by simp [l2], by simp [PyData.canLayAll0, g.lay, a2], ?_, by simp [PyData.showableAll, g.vis, c2], ?_, by simp [PyData.shownAll, f2], ?_⟩
    · simp only [PyData.depthAll]
      have := g.dep
      omega
    · have := g.len
      simp only [PyData.shownAll, List.map_cons, List.sum_cons, List.length_cons, szTs]
      omega
    · intro y hy
      simp only [PyData.shownAll, List.mem_cons] at hy
      rcases hy with rfl | hy
      · exact g.asc
      · exact k2 y hy
theorem join_str (a : Str) (ys : List Str) : Str.join a ys = Sx (TL.joinL a.cps.toList (ys.map fun y => y.cps.toList)) := by
  have := join_Sx a.cps.toList (ys.map fun y => y.cps.toList)
  rw [List.map_map] at this
  have e : ys.map (Sx ∘ fun y => y.cps.toList) = ys := by
    induction ys with
    | nil => rfl
    | cons y r ih => rw [List.map_cons, ih (by rw [← List.map_map]; exact join_Sx _ _)]; rfl
  rw [e] at this
  exact this
theorem good_tup {d n : Nat} {xs : List PyData} (ha : PyData.canLayAll0 xs = true) (hd : PyData.depthAll xs ≤ d) (hs : PyData.showableAll xs = true) (hl : ((PyData.shownAll xs).map (·.length)).sum + 2 * (PyData.shownAll xs).length ≤ n) (hk : ∀ y ∈ PyData.shownAll xs, okS y) : Good (d + 1) (n + 3) (.tuple xs) := by
  refine ⟨by simpa [PyData.canLay0] using ha, by simp only [PyData.depth]; omega, by simpa [PyData.showable] using hs, ?_, ?_⟩
  · simp only [PyData.shown, tupleText]
    rw [cat_len, cat_len, join_str, Sx_len (TL.joinL (Str.ofString ", ").cps.toList ((PyData.shownAll xs).map fun y => y.cps.toList))]
    have := join_len (Str.ofString ", ").cps.toList ((PyData.shownAll xs).map fun y => y.cps.toList)
    rw [List.map_map, List.length_map] at this
    have e : ((fun l : List Nat => l.length) ∘ fun y : Str => y.cps.toList) = fun y : Str => y.length := by funext y; simp [Str.length]
    rw [e] at this
    have e2 : (Str.ofString ", ").cps.toList.length = 2 := by decide
    rw [e2] at this
    have e3 : (Str.ofString "(").length = 1 := by decide
    have e4 : (Str.ofString (if (PyData.shownAll xs).length == 1 then ",)" else ")")).length ≤ 2 := by split <;> decide
    rw [e3]
    omega
  · simp only [PyData.shown, tupleText]
    refine okS_cat (okS_cat (by unfold okS okL; decide) ?_) ?_
    · rw [join_str]
      refine joinL_ok (by unfold okL; decide) _ fun y hy => ?_
      obtain ⟨z, hz, rfl⟩ := List.mem_map.mp hy
      exact hk z hz
    · split <;> · unfold okS okL; decide
/-- repr of a couple of plain things -/
theorem good_two {d n : Nat} {x y : PyData} (gx : Good d n x) (gy : Good d n y) : Good (d + 1) (2 * n + 10) (.list [x, y]) := by
  refine ⟨by simp [PyData.canLay0, PyData.canLayAll0, gx.lay, gy.lay], ?_, by simp [PyData.showable, PyData.showableAll, gx.vis, gy.vis], ?_, ?_⟩
  · have := gx.dep
    have := gy.dep
    simp only [PyData.depth, PyData.depthAll]
    omega
  · have e : PyData.shown (.list [x, y]) = Str.ofString "[" ++ Str.ofString "" ++ x.shown ++ Str.ofString ", " ++ y.shown ++ Str.ofString "]" := by
      simp only [PyData.shown, PyData.shownAll, listText, textFrom]
      rfl
    rw [e, cat_len, cat_len, cat_len, cat_len, cat_len]
    have := gx.len
    have := gy.len
    have e3 : (Str.ofString "[").length = 1 := by decide
    have e4 : (Str.ofString "]").length = 1 := by decide
    have e5 : (Str.ofString ", ").length = 2 := by decide
    have e6 : (Str.ofString "").length = 0 := by decide
    omega
  · have e : PyData.shown (.list [x, y]) = Str.ofString "[" ++ Str.ofString "" ++ x.shown ++ Str.ofString ", " ++ y.shown ++ Str.ofString "]" := by
      simp only [PyData.shown, PyData.shownAll, listText, textFrom]
      rfl
    rw [e]
    refine okS_cat (okS_cat (okS_cat (okS_cat (okS_cat ?_ ?_) gx.asc) ?_) gy.asc) ?_ <;> · unfold okS okL; decide
theorem Good.str {s : Str} (h : okS s) : Good 0 (10 * s.length + 2) (.str s) := by
  refine ⟨?_, by simp [PyData.depth], by simp [PyData.showable], ?_, ?_⟩
  · simpa [PyData.canLay0] using okS_str h
  · simpa [PyData.shown] using repr_len h
  · simpa [PyData.shown] using repr_okS h
theorem Good.mono {d n d' n' : Nat} {x : PyData} (g : Good d n x) (hd : d ≤ d') (hn : n ≤ n') : Good d' n' x :=
  ⟨g.lay, Nat.le_trans g.dep hd, g.vis, Nat.le_trans g.len hn, g.asc⟩
theorem Good.shaped {d n : Nat} {x : PyData} (g : Good d n x) (hd : d ≤ 64) : SeqAt.shaped x = true := by
  unfold SeqAt.shaped
  rw [g.lay, Bool.true_and, decide_eq_true_eq]
  exact Nat.le_trans g.dep hd
theorem nil_of {d : Nat} {ts : List T} (q : ∀ t ∈ ts, ∃ x, toD t = some x ∧ Good d (szT t) x) (hd : d ≤ 60) : ∃ xs, toDs ts = some xs ∧ (if SeqAt.shaped (.list xs) && SeqAt.shaped (.list []) then some (PyData.eqv (.list xs) (.list [])) else none) = some (decide (ts = [])) := by
  obtain ⟨xs, e1, l, a, b, c, s, f, kk⟩ := good_all (d := d) ts q
  have s1 : SeqAt.shaped (.list xs) = true := by
    unfold SeqAt.shaped
    simp only [PyData.canLay0, a, PyData.depth, Bool.true_and, decide_eq_true_eq]
    have z : PyData.depthAll xs + 1 ≤ 61 := Nat.add_le_add_right (Nat.le_trans b hd) 1
    exact decide_eq_true (Nat.le_trans z (by decide))
  have s2 : SeqAt.shaped (.list []) = true := by decide
  refine ⟨xs, e1, ?_⟩
  rw [if_pos (by rw [s1, s2]; rfl)]
  cases xs with
  | nil =>
    have : ts = [] := by cases ts with
      | nil => rfl
      | cons t r => simp at l
    subst this
    simp [PyData.eqv, PyData.eqvAll]
  | cons x xs =>
    have : ts ≠ [] := by rintro rfl; simp at l
    simp [PyData.eqv, PyData.eqvAll, this]
/-- whether a list has no items -/
theorem lst_nil {d : Nat} {h : Hs} {ts : List T} (q : ∀ t ∈ ts, ∃ x, toD t = some x ∧ Good d (szT t) x) (hd : d ≤ 60) : eqT h (.lst ts) (.lst []) = some (decide (ts = [])) := by
  obtain ⟨xs, e1, r⟩ := nil_of q hd
  have z : toDh h (.lst ts) = some (.list xs) := by simp [toDh, toD, e1]
  have z2 : toDh h (.lst []) = some (.list []) := by simp [toDh, toD, toDs]
  unfold eqT
  rw [z, z2, Option.bind_some, Option.bind_some]
  exact r
theorem ref_nil {d k : Nat} {h : Hs} {ts : List T} (e : h[k]? = some (.lst ts)) (q : ∀ t ∈ ts, ∃ x, toD t = some x ∧ Good d (szT t) x) (hd : d ≤ 60) : eqT h (.ref k) (.lst []) = some (decide (ts = [])) := by
  obtain ⟨xs, e1, r⟩ := nil_of q hd
  have z : toDh h (.ref k) = some (.list xs) := by simp [toDh, e, e1]
  have z2 : toDh h (.lst []) = some (.list []) := by simp [toDh, toD, toDs]
  unfold eqT
  rw [z, z2, Option.bind_some, Option.bind_some]
  exact r
theorem sgn_good {c : Nat} (h : c < 128) : ∃ x, toD (sgn c) = some x ∧ Good 0 (szT (sgn c)) x :=
  ⟨.str (Sx [c]), by simp [toD, sgn], (Good.str (s := Sx [c]) (by intro d hd; simp at hd; omega)).mono (Nat.le_refl 0) (by simp [szT, sgn])⟩
theorem signs_nil {h : Hs} {l : List Nat} (ok : okL l) : eqT h (.lst (l.map sgn)) (.lst []) = some (decide (l = [])) := by
  rw [lst_nil (d := 0) (fun t ht => by
    obtain ⟨c, hc, rfl⟩ := List.mem_map.mp ht
    exact sgn_good (ok c hc)) (by decide)]
  simp
/-- what repr writes -/
theorem repr_good {h : Hs} {t : T} {x : PyData} {d n : Nat} (e : toDh h t = some x) (g : Good d n x) (hd : d ≤ 64) (hn : n ≤ 1000000) : reprT h t = some (.str x.shown) := by
  unfold reprT
  rw [e, Option.bind_some, if_pos]
  rw [g.shaped hd, g.vis]
  simp only [Bool.true_and, decide_eq_true_eq]
  exact Nat.le_trans g.len hn
end Fp
end

section
set_option Elab.async false
set_option linter.all false
set_option maxRecDepth 100000
/-! K10: the table of the law's defs (printed by print_fs.py). -/
namespace K10
open PySem Fs
abbrev top (i : Nat) : Stmt := PySem.Challenge.pw_fewslots_k10_values_told_as_texts.main.body.getD i (.Pass ⟨0, 0, 0, 0⟩)
def inCls (st : Stmt) (j : Nat) : Stmt := match st with
  | .ClassDef (body := b) .. => b.getD j (.Pass ⟨0, 0, 0, 0⟩)
  | _ => .Pass ⟨0, 0, 0, 0⟩
/-- law: 0 script, 1 bag, 2 turn, 3 thing, 4 text, 5 at, 6 more, 7 bent, 8 value, 9 end, 10 error, 11 odd -/
def f_law : Ss := .cons (.set 1 (.call 1 (.cons (.var 0) (.nil)))) (
.cons (.for_ (.nm 2) (.rng (.int 14)) (.cons (.set 3 (.call 2 (.cons (.var 1) (.cons (.int 3) (.nil))))) (
.cons (.set 4 (.call 3 (.cons (.var 3) (.nil)))) (
.cons (.ifs (.orv (.cons (.cmp .nis (.call 4 (.cons (.var 3) (.nil))) (.bl true)) (.cons (.nott (.call 5 (.cons (.lstI (.cons (.call 6 (.cons (.var 3) (.nil))) (.cons (.call 7 (.cons (.var 4) (.nil))) (.nil)))) (.cons (.lstI (.cons (.var 4) (.cons (.var 3) (.nil)))) (.nil))))) (.nil)))) (.cons (.ret (.bl false)) (
.nil)) (.nil)) (
.cons (.set 5 (.call 8 (.cons (.var 1) (.cons (.bin .add (.bi .len (.cons (.var 4) (.nil))) (.int 1)) (.nil))))) (
.cons (.set 6 (.call 9 (.cons (.var 1) (.cons (.lstI (.cons (.str "") (.cons (.str "?") (.cons (.str "A") (.cons (.str "01") (.cons (.str "-0") (.cons (.str "(") (.cons (.str ")") (.cons (.str "9a") (.cons (.str "--") (.cons (.str " ") (.cons (.str "  ") (.cons (.str "-") (.cons (.str "a") (.nil))))))))))))))) (.nil))))) (
.cons (.set 7 (.bin .add (.bin .add (.sl (.var 4) (.absent) (.var 5)) (.var 6)) (.sl (.var 4) (.bin .add (.var 5) (.ite (.cmp .eq (.var 6) (.str "")) (.int 1) (.int 0))) (.absent)))) (
.cons (.setT [8, 9] (.call 10 (.cons (.var 7) (.cons (.int 0) (.nil))))) (
.cons (.tryy (.cons (.ifs (.orv (.cons (.nott (.call 5 (.cons (.call 7 (.cons (.var 7) (.nil))) (.cons (.var 8) (.nil))))) (.cons (.cmp .ne (.var 9) (.bi .len (.cons (.var 7) (.nil)))) (.nil)))) (.cons (.ret (.bl false)) (
.nil)) (.nil)) (
.nil)) (.cons [0] (some 10) (.cons (.ifs (.orv (.cons (.cmp .eq (.var 9) (.bi .len (.cons (.var 7) (.nil)))) (.cons (.cmp .ne (.tup (.cons (.exf "line") (.cons (.exf "column") (.nil)))) (.tup (.cons (.int 1) (.cons (.ite (.cmp .lt (.var 9) (.int 0)) (.bin .sub (.int 0) (.var 9)) (.bin .add (.var 9) (.int 1))) (.nil))))) (.nil)))) (.cons (.ret (.bl false)) (
.nil)) (.nil)) (
.nil)) (.nil))) (
.nil)))))))))) (
.cons (.for_ (.nm 11) (.seq (.tup (.cons (.bl true) (.cons (.lstI (.cons (.int 1) (.nil))) (.cons (.tup (.cons (.str "A") (.nil))) (.cons (.tup (.cons (.str "1a") (.nil))) (.cons (.bin .pow (.int 10) (.int 40)) (.cons (.neg (.bin .pow (.int 10) (.int 40))) (.cons (.lstI (.cons (.non) (.nil))) (.cons (.tup (.cons (.str "") (.nil))) (.nil))))))))))) (.cons (.ifs (.cmp .nis (.call 4 (.cons (.var 11) (.nil))) (.bl false)) (.cons (.ret (.bl false)) (
.nil)) (.nil)) (
.cons (.tryy (.cons (.ex (.call 6 (.cons (.var 11) (.nil)))) (
.cons (.ret (.bl false)) (
.nil))) (.cons [2] none (.cons (.cont) (
.nil)) (.nil))) (
.nil)))) (
.cons (.ret (.bl true)) (
.nil))))
/-- _law_bag: 0 script, 1 cell -/
def f__law_bag : Ss := .cons (.ret (.lstM (.cons (.int 0) (.cons (.int 1234567891) (.cons (.int 0) (.cons (.comp false (.nm 1) (.seq (.sl (.var 0) (.absent) (.int 63))) (.absent) (.bi .abs (.cons (.var 1) (.nil))) [1]) (.nil))))))) (
.nil)
/-- _law_value_of: 0 bag, 1 deep, 2 way, 3 turn -/
def f__law_value_of : Ss := .cons (.set 2 (.ite (.cmp .gt (.var 1) (.int 0)) (.call 8 (.cons (.var 0) (.cons (.int 5) (.nil)))) (.call 8 (.cons (.var 0) (.cons (.int 4) (.nil)))))) (
.cons (.ifs (.cmp .eq (.var 2) (.int 0)) (.cons (.ret (.non)) (
.nil)) (.nil)) (
.cons (.ifs (.cmp .eq (.var 2) (.int 1)) (.cons (.ret (.call 9 (.cons (.var 0) (.cons (.lstI (.cons (.int 0) (.cons (.int 7) (.cons (.neg (.int 1)) (.cons (.bin .pow (.int 10) (.int 39)) (.cons (.bin .sub (.bin .pow (.int 10) (.int 40)) (.int 1)) (.cons (.bin .sub (.int 1) (.bin .pow (.int 10) (.int 40))) (.cons (.int 12) (.nil))))))))) (.nil))))) (
.nil)) (.nil)) (
.cons (.ifs (.cmp .lt (.var 2) (.int 4)) (.cons (.ret (.call 9 (.cons (.var 0) (.cons (.lstI (.cons (.str "a") (.cons (.str "floor") (.cons (.str "z9") (.cons (.str "is") (.cons (.bin .mul (.str "x") (.int 30)) (.nil))))))) (.nil))))) (
.nil)) (.nil)) (
.cons (.ret (.bi .tuple (.cons (.comp false (.nm 3) (.rng (.call 8 (.cons (.var 0) (.cons (.int 4) (.nil))))) (.absent) (.call 2 (.cons (.var 0) (.cons (.bin .sub (.var 1) (.int 1)) (.nil)))) [3]) (.nil)))) (
.nil)))))
/-- _law_told: 0 thing, 1 one -/
def f__law_told : Ss := .cons (.ifs (.cmp .is (.var 0) (.non)) (.cons (.ret (.str "-")) (
.nil)) (.nil)) (
.cons (.ifs (.bi (.isinst .tup) (.cons (.var 0) .nil)) (.cons (.ret (.bin .add (.bin .add (.str "(") (.bm .join (.str " ") (.cons (.comp false (.nm 1) (.seq (.var 0)) (.absent) (.call 3 (.cons (.var 1) (.nil))) [1]) (.nil)))) (.str ")"))) (
.nil)) (.nil)) (
.cons (.ret (.bi .str (.cons (.var 0) (.nil)))) (
.nil)))
/-- is_plain_value: 0 thing -/
def f_is_plain_value : Ss := .cons (.ret (.call 11 (.cons (.var 0) (.cons (.glob 0) (.nil))))) (
.nil)
/-- _law_alike: 0 found, 1 wanted -/
def f__law_alike : Ss := .cons (.ret (.cmp .eq (.bi .repr (.cons (.var 0) (.nil))) (.bi .repr (.cons (.var 1) (.nil))))) (
.nil)
/-- value_text: 0 thing -/
def f_value_text : Ss := .cons (.ifs (.nott (.call 4 (.cons (.var 0) (.nil)))) (.cons (.rais 2 (.nil)) (
.nil)) (.nil)) (
.cons (.ret (.call 12 (.cons (.var 0) (.nil)))) (
.nil))
/-- read_value: 0 text, 1 reader, 2 found -/
def f_read_value : Ss := .cons (.ifs (.nott (.bi (.isinst .str) (.cons (.var 0) .nil))) (.cons (.rais 2 (.nil)) (
.nil)) (.nil)) (
.cons (.set 1 (.new 3 (.cons (.var 0) (.nil)))) (
.cons (.set 2 (.meth 14 (.var 1) (.cons (.glob 0) (.nil)))) (
.cons (.ifs (.cmp .lt (.attr (.var 1) "at") (.bi .len (.cons (.var 0) (.nil)))) (.cons (.ex (.meth 15 (.var 1) (.nil))) (
.nil)) (.nil)) (
.cons (.ret (.var 2)) (
.nil)))))
/-- _law_take: 0 bag, 1 many, 2 cell, 3 stirred, 4 value, 5 begin, 6 second -/
def f__law_take : Ss := .cons (.ifs (.cmp .eq (.ix (.var 0) (.int 0)) (.int 0)) (.cons (.set 2 (.ix (.bin .add (.sl (.ix (.var 0) (.int 3)) (.ix (.var 0) (.int 2)) (.absent)) (.lstI (.cons (.int 0) (.nil)))) (.int 0))) (
.cons (.augIx (.var 0) (.int 2) .add (.int 1)) (
.cons (.ifs (.cmp .ge (.var 2) (.bin .pow (.int 10) (.int 18))) (.cons (.setIx (.var 0) (.int 0) (.var 2)) (
.nil)) (.nil)) (
.cons (.set 3 (.bin .add (.bin .add (.bin .mul (.ix (.var 0) (.int 1)) (.int 48271)) (.bin .mod (.bi .int (.cons (.var 2) (.nil))) (.int 2147483647))) (.bin .mul (.int 7919) (.ix (.var 0) (.int 2))))) (
.cons (.setIx (.var 0) (.int 1) (.bin .mod (.bi .int (.cons (.var 3) (.nil))) (.int 2147483647))) (
.nil)))))) (.nil)) (
.cons (.ifs (.cmp .gt (.ix (.var 0) (.int 0)) (.int 0)) (.cons (.set 4 (.bin .mod (.bi .int (.cons (.ix (.var 0) (.int 0)) (.nil))) (.var 1))) (
.cons (.setIx (.var 0) (.int 0) (.bin .fdiv (.bi .int (.cons (.ix (.var 0) (.int 0)) (.nil))) (.var 1))) (
.cons (.ret (.var 4)) (
.nil)))) (.nil)) (
.cons (.set 5 (.bin .mod (.bi .int (.cons (.bin .mul (.bin .add (.ix (.var 0) (.int 1)) (.int 1)) (.int 39373)) (.nil))) (.int 1000000007))) (
.cons (.set 6 (.bin .mod (.bi .int (.cons (.bin .mul (.bin .mod (.bi .int (.cons (.bin .mul (.var 5) (.var 5)) (.nil))) (.int 998244353)) (.int 30011)) (.nil))) (.int 998244353))) (
.cons (.ret (.bin .mod (.bi .int (.cons (.bin .fdiv (.var 6) (.int 7)) (.nil))) (.var 1))) (
.nil)))))
/-- _law_some: 0 bag, 1 things -/
def f__law_some : Ss := .cons (.ret (.ix (.var 1) (.call 8 (.cons (.var 0) (.cons (.bi .len (.cons (.var 1) (.nil))) (.nil)))))) (
.nil)
/-- _law_at: 0 text, 1 at, 2 end, 3 more, 4 atom, 5 found, 6 turn, 7 value -/
def f__law_at : Ss := .cons (.ifs (.cmp .ne (.sl (.var 0) (.var 1) (.bin .add (.var 1) (.int 1))) (.str "(")) (.cons (.set 2 (.var 1)) (
.cons (.for_ (.nm 3) (.rng2 (.var 1) (.bi .len (.cons (.var 0) (.nil)))) (.cons (.set 2 (.ite (.andv (.cons (.cmp .eq (.var 3) (.var 2)) (.cons (.cmp .nin (.ix (.var 0) (.var 3)) (.str " ()")) (.nil)))) (.bin .add (.var 3) (.int 1)) (.var 2))) (
.nil))) (
.cons (.set 4 (.call 16 (.cons (.sl (.var 0) (.var 1) (.var 2)) (.nil)))) (
.cons (.ret (.ite (.cmp .nis (.var 4) (.non)) (.tup (.cons (.ix (.var 4) (.int 0)) (.cons (.var 2) (.nil)))) (.tup (.cons (.non) (.cons (.bin .sub (.neg (.int 1)) (.var 1)) (.nil)))))) (
.nil))))) (.nil)) (
.cons (.par [5, 1] (.cons (.lstM (.nil)) (.cons (.bin .add (.var 1) (.int 1)) (.nil)))) (
.cons (.for_ (.nm 6) (.rng (.bin .add (.bi .len (.cons (.var 0) (.nil))) (.int 1))) (.cons (.ifs (.cmp .eq (.sl (.var 0) (.var 1) (.bin .add (.var 1) (.int 1))) (.str ")")) (.cons (.ret (.tup (.cons (.bi .tuple (.cons (.var 5) (.nil))) (.cons (.bin .add (.var 1) (.int 1)) (.nil))))) (
.nil)) (.nil)) (
.cons (.ifs (.andv (.cons (.cmp .ne (.var 5) (.lstI (.nil))) (.cons (.cmp .ne (.sl (.var 0) (.var 1) (.bin .add (.var 1) (.int 1))) (.str " ")) (.nil)))) (.cons (.ret (.tup (.cons (.non) (.cons (.bin .sub (.neg (.int 1)) (.var 1)) (.nil))))) (
.nil)) (.nil)) (
.cons (.setT [7, 2] (.call 10 (.cons (.var 0) (.cons (.ite (.cmp .ne (.var 5) (.lstI (.nil))) (.bin .add (.var 1) (.int 1)) (.var 1)) (.nil))))) (
.cons (.ifs (.cmp .lt (.var 2) (.int 0)) (.cons (.ret (.tup (.cons (.non) (.cons (.var 2) (.nil))))) (
.nil)) (.nil)) (
.cons (.ex (.bm .append (.var 5) (.cons (.var 7) (.nil)))) (
.cons (.set 1 (.var 2)) (
.nil)))))))) (
.cons (.ret (.tup (.cons (.non) (.cons (.bin .sub (.neg (.int 1)) (.var 1)) (.nil))))) (
.nil))))
/-- is_plain: 0 thing, 1 deep, 2 part -/
def f_is_plain : Ss := .cons (.ifs (.orv (.cons (.cmp .is (.var 0) (.non)) (.cons (.call 17 (.cons (.var 0) (.nil))) (.nil)))) (.cons (.ret (.bl true)) (
.nil)) (.nil)) (
.cons (.ifs (.call 18 (.cons (.var 0) (.nil))) (.cons (.ret (.cmp .lt (.bi .abs (.cons (.var 0) (.nil))) (.bin .pow (.int 10) (.int 40)))) (
.nil)) (.nil)) (
.cons (.ifs (.orv (.cons (.nott (.bi (.isinst .tup) (.cons (.var 0) .nil))) (.cons (.cmp .eq (.var 1) (.int 0)) (.nil)))) (.cons (.ret (.bl false)) (
.nil)) (.nil)) (
.cons (.ret (.bi .all (.cons (.comp false (.nm 2) (.seq (.var 0)) (.absent) (.call 11 (.cons (.var 2) (.cons (.bin .sub (.var 1) (.int 1)) (.nil)))) [2]) (.nil)))) (
.nil))))
/-- shown: 0 value, 1 parts, 2 part -/
def f_shown : Ss := .cons (.ifs (.cmp .is (.var 0) (.non)) (.cons (.ret (.str "-")) (
.nil)) (.nil)) (
.cons (.ifs (.nott (.bi (.isinst .tup) (.cons (.var 0) .nil))) (.cons (.ret (.fstr (.cons (.var 0) (.nil)))) (
.nil)) (.nil)) (
.cons (.set 1 (.bm .join (.str " ") (.cons (.comp false (.nm 2) (.seq (.var 0)) (.absent) (.call 12 (.cons (.var 2) (.nil))) [2]) (.nil)))) (
.cons (.ret (.fstr (.cons (.str "(") (.cons (.var 1) (.cons (.str ")") (.nil)))))) (
.nil))))
/-- __init__: 0 self, 1 text -/
def f_Values___init__ : Ss := .cons (.setAt (.var 0) "signs" (.var 1)) (
.cons (.setAt (.var 0) "at" (.int 0)) (
.nil))
/-- value: 0 self, 1 deep, 2 found -/
def f_Values_value : Ss := .cons (.ifs (.nott (.meth 19 (.var 0) (.cons (.str "(") (.nil)))) (.cons (.set 2 (.call 20 (.cons (.meth 21 (.var 0) (.nil)) (.nil)))) (
.cons (.ifs (.cmp .is (.var 2) (.non)) (.cons (.ex (.meth 15 (.var 0) (.nil))) (
.nil)) (.nil)) (
.cons (.setAt (.var 0) "at" (.bin .add (.attr (.var 0) "at") (.bi .len (.cons (.meth 21 (.var 0) (.nil)) (.nil))))) (
.cons (.ret (.ix (.var 2) (.int 0))) (
.nil))))) (.nil)) (
.cons (.ifs (.cmp .eq (.var 1) (.int 0)) (.cons (.ex (.meth 15 (.var 0) (.nil))) (
.nil)) (.nil)) (
.cons (.setAt (.var 0) "at" (.bin .add (.attr (.var 0) "at") (.int 1))) (
.cons (.set 2 (.lstM (.nil))) (
.cons (.whil (.nott (.meth 19 (.var 0) (.cons (.str ")") (.nil)))) (.cons (.ifs (.cmp .ne (.var 2) (.lstI (.nil))) (.cons (.ifs (.nott (.meth 19 (.var 0) (.cons (.str " ") (.nil)))) (.cons (.ex (.meth 15 (.var 0) (.nil))) (
.nil)) (.nil)) (
.cons (.setAt (.var 0) "at" (.bin .add (.attr (.var 0) "at") (.int 1))) (
.nil))) (.nil)) (
.cons (.ex (.bm .append (.var 2) (.cons (.meth 14 (.var 0) (.cons (.bin .sub (.var 1) (.int 1)) (.nil))) (.nil)))) (
.nil)))) (
.cons (.setAt (.var 0) "at" (.bin .add (.attr (.var 0) "at") (.int 1))) (
.cons (.ret (.bi .tuple (.cons (.var 2) (.nil)))) (
.nil)))))))
/-- fail: 0 self -/
def f_Values_fail : Ss := .cons (.rais 0 (.cons (.int 1) (.cons (.bin .add (.attr (.var 0) "at") (.int 1)) (.nil)))) (
.nil)
/-- _law_atom: 0 run, 1 letters, 2 digits, 3 sign, 4 body -/
def f__law_atom : Ss := .cons (.setT [1, 2] (.tup (.cons (.str "abcdefghijklmnopqrstuvwxyz") (.cons (.str "0123456789") (.nil))))) (
.cons (.ifs (.cmp .eq (.var 0) (.str "-")) (.cons (.ret (.tup (.cons (.non) (.nil)))) (
.nil)) (.nil)) (
.cons (.ifs (.andv (.cons (.cmp .ne (.var 0) (.str "")) (.cons (.cmp .inn (.ix (.var 0) (.int 0)) (.var 1)) (.nil)))) (.cons (.ret (.ite (.cmp .eq (.comp false (.nm 3) (.seq (.var 0)) (.cmp .nin (.var 3) (.bin .add (.var 1) (.var 2))) (.var 3) [3]) (.lstI (.nil))) (.tup (.cons (.var 0) (.nil))) (.non))) (
.nil)) (.nil)) (
.cons (.set 4 (.ite (.cmp .eq (.sl (.var 0) (.absent) (.int 1)) (.str "-")) (.sl (.var 0) (.int 1) (.absent)) (.var 0))) (
.cons (.ifs (.orv (.cons (.cmp .eq (.var 4) (.str "")) (.cons (.cmp .ne (.comp false (.nm 3) (.seq (.var 4)) (.cmp .nin (.var 3) (.var 2)) (.var 3) [3]) (.lstI (.nil))) (.cons (.cmp .gt (.bi .len (.cons (.var 4) (.nil))) (.int 40)) (.cons (.andv (.cons (.cmp .eq (.ix (.var 4) (.int 0)) (.str "0")) (.cons (.cmp .ne (.var 0) (.str "0")) (.nil)))) (.nil)))))) (.cons (.ret (.non)) (
.nil)) (.nil)) (
.cons (.ret (.tup (.cons (.bi .int (.cons (.var 0) (.nil))) (.nil)))) (
.nil))))))
/-- is_word: 0 thing, 1 sign -/
def f_is_word : Ss := .cons (.ifs (.orv (.cons (.nott (.bi (.isinst .str) (.cons (.var 0) .nil))) (.cons (.cmp .eq (.var 0) (.str "")) (.cons (.cmp .nin (.ix (.var 0) (.int 0)) (.glob 1)) (.nil))))) (.cons (.ret (.bl false)) (
.nil)) (.nil)) (
.cons (.ret (.bi .all (.cons (.comp false (.nm 1) (.seq (.var 0)) (.absent) (.cmp .inn (.var 1) (.bin .add (.glob 1) (.glob 2))) [1]) (.nil)))) (
.nil))
/-- is_number: 0 thing -/
def f_is_number : Ss := .cons (.ret (.andv (.cons (.bi (.isinst .int) (.cons (.var 0) .nil)) (.cons (.nott (.bi (.isinst .bl) (.cons (.var 0) .nil))) (.nil))))) (
.nil)
/-- is_next: 0 self, 1 sign -/
def f_Values_is_next : Ss := .cons (.ret (.cmp .eq (.sl (.attr (.var 0) "signs") (.attr (.var 0) "at") (.bin .add (.attr (.var 0) "at") (.int 1))) (.var 1))) (
.nil)
/-- run_value: 0 run -/
def f_run_value : Ss := .cons (.ifs (.cmp .eq (.var 0) (.str "-")) (.cons (.ret (.tup (.cons (.non) (.nil)))) (
.nil)) (.nil)) (
.cons (.ret (.ite (.call 17 (.cons (.var 0) (.nil))) (.tup (.cons (.var 0) (.nil))) (.call 22 (.cons (.var 0) (.nil))))) (
.nil))
/-- run: 0 self, 1 end -/
def f_Values_run : Ss := .cons (.set 1 (.attr (.var 0) "at")) (
.cons (.whil (.andv (.cons (.cmp .lt (.var 1) (.bi .len (.cons (.attr (.var 0) "signs") (.nil)))) (.cons (.cmp .nin (.ix (.attr (.var 0) "signs") (.var 1)) (.str " ()")) (.nil)))) (.cons (.set 1 (.bin .add (.var 1) (.int 1))) (
.nil))) (
.cons (.ret (.sl (.attr (.var 0) "signs") (.attr (.var 0) "at") (.var 1))) (
.nil)))
/-- figures_value: 0 run, 1 is_below, 2 digits, 3 sign -/
def f_figures_value : Ss := .cons (.set 1 (.cmp .eq (.sl (.var 0) (.absent) (.int 1)) (.str "-"))) (
.cons (.set 2 (.ite (.var 1) (.sl (.var 0) (.int 1) (.absent)) (.var 0))) (
.cons (.ifs (.orv (.cons (.cmp .eq (.var 2) (.str "")) (.cons (.cmp .gt (.bi .len (.cons (.var 2) (.nil))) (.glob 3)) (.cons (.nott (.bi .all (.cons (.comp false (.nm 3) (.seq (.var 2)) (.absent) (.cmp .inn (.var 3) (.glob 2)) [3]) (.nil)))) (.nil))))) (.cons (.ret (.non)) (
.nil)) (.nil)) (
.cons (.ifs (.andv (.cons (.cmp .eq (.ix (.var 2) (.int 0)) (.str "0")) (.cons (.orv (.cons (.var 1) (.cons (.cmp .ne (.var 2) (.str "0")) (.nil)))) (.nil)))) (.cons (.ret (.non)) (
.nil)) (.nil)) (
.cons (.ret (.tup (.cons (.ite (.var 1) (.bin .sub (.int 0) (.bi .int (.cons (.var 2) (.nil)))) (.bi .int (.cons (.var 2) (.nil)))) (.nil)))) (
.nil)))))
def fnT : List Fn := [⟨none, "law", 1, 12, f_law⟩,
  ⟨none, "_law_bag", 1, 2, f__law_bag⟩,
  ⟨none, "_law_value_of", 2, 4, f__law_value_of⟩,
  ⟨none, "_law_told", 1, 2, f__law_told⟩,
  ⟨none, "is_plain_value", 1, 1, f_is_plain_value⟩,
  ⟨none, "_law_alike", 2, 2, f__law_alike⟩,
  ⟨none, "value_text", 1, 1, f_value_text⟩,
  ⟨none, "read_value", 1, 3, f_read_value⟩,
  ⟨none, "_law_take", 2, 7, f__law_take⟩,
  ⟨none, "_law_some", 2, 2, f__law_some⟩,
  ⟨none, "_law_at", 2, 8, f__law_at⟩,
  ⟨none, "is_plain", 2, 3, f_is_plain⟩,
  ⟨none, "shown", 1, 3, f_shown⟩,
  ⟨(some 3), "__init__", 2, 2, f_Values___init__⟩,
  ⟨(some 3), "value", 2, 3, f_Values_value⟩,
  ⟨(some 3), "fail", 1, 1, f_Values_fail⟩,
  ⟨none, "_law_atom", 1, 5, f__law_atom⟩,
  ⟨none, "is_word", 1, 2, f_is_word⟩,
  ⟨none, "is_number", 1, 1, f_is_number⟩,
  ⟨(some 3), "is_next", 2, 2, f_Values_is_next⟩,
  ⟨none, "run_value", 1, 1, f_run_value⟩,
  ⟨(some 3), "run", 1, 2, f_Values_run⟩,
  ⟨none, "figures_value", 1, 4, f_figures_value⟩]
def clT : List Cl := [.exc "BadText" ["line", "column"] [0, 1], .exc "SlotError" [] [1], .exc "Nothing" [] [2, 1], .plain "Values" 13 ["signs", "at"]]
def cnT : List (Str × T) := [("MOST_LEVELS", .int 60), ("LETTERS", .str "abcdefghijklmnopqrstuvwxyz"), ("DIGITS", .str "0123456789"), ("MOST_FIGURES", .int 40)]
abbrev D : Tb := ⟨fnT, clT, cnT⟩
abbrev d0 : Dd := ⟨("law", none), "law", ["script", "bag", "turn", "thing", "text", "at", "more", "bent", "value", "end", "error", "odd"], ["script"], top 30⟩
abbrev d1 : Dd := ⟨("_law_bag", none), "_law_bag", ["script", "cell"], ["script"], top 24⟩
abbrev d2 : Dd := ⟨("_law_value_of", none), "_law_value_of", ["bag", "deep", "way", "turn"], ["bag", "deep"], top 26⟩
abbrev d3 : Dd := ⟨("_law_told", none), "_law_told", ["thing", "one"], ["thing"], top 27⟩
abbrev d4 : Dd := ⟨("is_plain_value", none), "is_plain_value", ["thing"], ["thing"], top 14⟩
abbrev d5 : Dd := ⟨("_law_alike", none), "_law_alike", ["found", "wanted"], ["found", "wanted"], top 25⟩
abbrev d6 : Dd := ⟨("value_text", none), "value_text", ["thing"], ["thing"], top 16⟩
abbrev d7 : Dd := ⟨("read_value", none), "read_value", ["text", "reader", "found"], ["text"], top 20⟩
abbrev d8 : Dd := ⟨("_law_take", none), "_law_take", ["bag", "many", "cell", "stirred", "value", "begin", "second"], ["bag", "many"], top 22⟩
abbrev d9 : Dd := ⟨("_law_some", none), "_law_some", ["bag", "things"], ["bag", "things"], top 23⟩
abbrev d10 : Dd := ⟨("_law_at", none), "_law_at", ["text", "at", "end", "more", "atom", "found", "turn", "value"], ["text", "at"], top 29⟩
abbrev d11 : Dd := ⟨("is_plain", none), "is_plain", ["thing", "deep", "part"], ["thing", "deep"], top 13⟩
abbrev d12 : Dd := ⟨("shown", none), "shown", ["value", "parts", "part"], ["value"], top 15⟩
abbrev d13 : Dd := ⟨("Values", some "__init__"), "Values.__init__", ["self", "text"], ["self", "text"], inCls (top 19) 0⟩
abbrev d14 : Dd := ⟨("Values", some "value"), "Values.value", ["self", "deep", "found"], ["self", "deep"], inCls (top 19) 4⟩
abbrev d15 : Dd := ⟨("Values", some "fail"), "Values.fail", ["self"], ["self"], inCls (top 19) 1⟩
abbrev d16 : Dd := ⟨("_law_atom", none), "_law_atom", ["run", "letters", "digits", "sign", "body"], ["run"], top 28⟩
abbrev d17 : Dd := ⟨("is_word", none), "is_word", ["thing", "sign"], ["thing"], top 12⟩
abbrev d18 : Dd := ⟨("is_number", none), "is_number", ["thing"], ["thing"], top 8⟩
abbrev d19 : Dd := ⟨("Values", some "is_next"), "Values.is_next", ["self", "sign"], ["self", "sign"], inCls (top 19) 2⟩
abbrev d20 : Dd := ⟨("run_value", none), "run_value", ["run"], ["run"], top 18⟩
abbrev d21 : Dd := ⟨("Values", some "run"), "Values.run", ["self", "end"], ["self"], inCls (top 19) 3⟩
abbrev d22 : Dd := ⟨("figures_value", none), "figures_value", ["run", "is_below", "digits", "sign"], ["run"], top 17⟩
abbrev dd : List Dd := [d0, d1, d2, d3, d4, d5, d6, d7, d8, d9, d10, d11, d12, d13, d14, d15, d16, d17, d18, d19, d20, d21, d22]
theorem b0 : BindD d0 := fun _ _ _ _ _ _ us hl => match us, hl with | [_], _ => rfl
theorem b1 : BindD d1 := fun _ _ _ _ _ _ us hl => match us, hl with | [_], _ => rfl
theorem b2 : BindD d2 := fun _ _ _ _ _ _ us hl => match us, hl with | [_, _], _ => rfl
theorem b3 : BindD d3 := fun _ _ _ _ _ _ us hl => match us, hl with | [_], _ => rfl
theorem b4 : BindD d4 := fun _ _ _ _ _ _ us hl => match us, hl with | [_], _ => rfl
theorem b5 : BindD d5 := fun _ _ _ _ _ _ us hl => match us, hl with | [_, _], _ => rfl
theorem b6 : BindD d6 := fun _ _ _ _ _ _ us hl => match us, hl with | [_], _ => rfl
theorem b7 : BindD d7 := fun _ _ _ _ _ _ us hl => match us, hl with | [_], _ => rfl
theorem b8 : BindD d8 := fun _ _ _ _ _ _ us hl => match us, hl with | [_, _], _ => rfl
theorem b9 : BindD d9 := fun _ _ _ _ _ _ us hl => match us, hl with | [_, _], _ => rfl
theorem b10 : BindD d10 := fun _ _ _ _ _ _ us hl => match us, hl with | [_, _], _ => rfl
theorem b11 : BindD d11 := fun _ _ _ _ _ _ us hl => match us, hl with | [_, _], _ => rfl
theorem b12 : BindD d12 := fun _ _ _ _ _ _ us hl => match us, hl with | [_], _ => rfl
theorem b13 : BindD d13 := fun _ _ _ _ _ _ us hl => match us, hl with | [_, _], _ => rfl
theorem b14 : BindD d14 := fun _ _ _ _ _ _ us hl => match us, hl with | [_, _], _ => rfl
theorem b15 : BindD d15 := fun _ _ _ _ _ _ us hl => match us, hl with | [_], _ => rfl
theorem b16 : BindD d16 := fun _ _ _ _ _ _ us hl => match us, hl with | [_], _ => rfl
theorem b17 : BindD d17 := fun _ _ _ _ _ _ us hl => match us, hl with | [_], _ => rfl
theorem b18 : BindD d18 := fun _ _ _ _ _ _ us hl => match us, hl with | [_], _ => rfl
theorem b19 : BindD d19 := fun _ _ _ _ _ _ us hl => match us, hl with | [_, _], _ => rfl
theorem b20 : BindD d20 := fun _ _ _ _ _ _ us hl => match us, hl with | [_], _ => rfl
theorem b21 : BindD d21 := fun _ _ _ _ _ _ us hl => match us, hl with | [_], _ => rfl
theorem b22 : BindD d22 := fun _ _ _ _ _ _ us hl => match us, hl with | [_], _ => rfl
theorem bAll : BindAll dd := (ball_cons b0 (ball_cons b1 (ball_cons b2 (ball_cons b3 (ball_cons b4 (ball_cons b5 (ball_cons b6 (ball_cons b7 (ball_cons b8 (ball_cons b9 (ball_cons b10 (ball_cons b11 (ball_cons b12 (ball_cons b13 (ball_cons b14 (ball_cons b15 (ball_cons b16 (ball_cons b17 (ball_cons b18 (ball_cons b19 (ball_cons b20 (ball_cons b21 (ball_cons b22 ball_nil)))))))))))))))))))))))
theorem t0 : txtB D d0 ⟨none, "law", 1, 12, f_law⟩ = true := by decide +kernel
theorem t1 : txtB D d1 ⟨none, "_law_bag", 1, 2, f__law_bag⟩ = true := by decide +kernel
theorem t2 : txtB D d2 ⟨none, "_law_value_of", 2, 4, f__law_value_of⟩ = true := by decide +kernel
theorem t3 : txtB D d3 ⟨none, "_law_told", 1, 2, f__law_told⟩ = true := by decide +kernel
theorem t4 : txtB D d4 ⟨none, "is_plain_value", 1, 1, f_is_plain_value⟩ = true := by decide +kernel
theorem t5 : txtB D d5 ⟨none, "_law_alike", 2, 2, f__law_alike⟩ = true := by decide +kernel
theorem t6 : txtB D d6 ⟨none, "value_text", 1, 1, f_value_text⟩ = true := by decide +kernel
theorem t7 : txtB D d7 ⟨none, "read_value", 1, 3, f_read_value⟩ = true := by decide +kernel
theorem t8 : txtB D d8 ⟨none, "_law_take", 2, 7, f__law_take⟩ = true := by decide +kernel
theorem t9 : txtB D d9 ⟨none, "_law_some", 2, 2, f__law_some⟩ = true := by decide +kernel
theorem t10 : txtB D d10 ⟨none, "_law_at", 2, 8, f__law_at⟩ = true := by decide +kernel
theorem t11 : txtB D d11 ⟨none, "is_plain", 2, 3, f_is_plain⟩ = true := by decide +kernel
theorem t12 : txtB D d12 ⟨none, "shown", 1, 3, f_shown⟩ = true := by decide +kernel
theorem t13 : txtB D d13 ⟨(some 3), "__init__", 2, 2, f_Values___init__⟩ = true := by decide +kernel
theorem t14 : txtB D d14 ⟨(some 3), "value", 2, 3, f_Values_value⟩ = true := by decide +kernel
theorem t15 : txtB D d15 ⟨(some 3), "fail", 1, 1, f_Values_fail⟩ = true := by decide +kernel
theorem t16 : txtB D d16 ⟨none, "_law_atom", 1, 5, f__law_atom⟩ = true := by decide +kernel
theorem t17 : txtB D d17 ⟨none, "is_word", 1, 2, f_is_word⟩ = true := by decide +kernel
theorem t18 : txtB D d18 ⟨none, "is_number", 1, 1, f_is_number⟩ = true := by decide +kernel
theorem t19 : txtB D d19 ⟨(some 3), "is_next", 2, 2, f_Values_is_next⟩ = true := by decide +kernel
theorem t20 : txtB D d20 ⟨none, "run_value", 1, 1, f_run_value⟩ = true := by decide +kernel
theorem t21 : txtB D d21 ⟨(some 3), "run", 1, 2, f_Values_run⟩ = true := by decide +kernel
theorem t22 : txtB D d22 ⟨none, "figures_value", 1, 4, f_figures_value⟩ = true := by decide +kernel
theorem tAll : zipAll (txtB D) dd D.fns = true := by
  simp only [zipAll, D, dd, fnT, Bool.and_true, Bool.and_eq_true]
  exact ⟨t0, t1, t2, t3, t4, t5, t6, t7, t8, t9, t10, t11, t12, t13, t14, t15, t16, t17, t18, t19, t20, t21, t22⟩
abbrev x0 : Xd := ⟨"BadText", "BadText.__init__", ["line", "column"], inCls (top 3) 0⟩
theorem xb0 : BindX x0 := fun _ _ _ _ _ _ _ us hl => match us, hl with | [_, _, _], _ => rfl
theorem xt0 : xtB x0 = true := by decide +kernel
abbrev xs : List Xd := [x0]
theorem xAll : ∀ x ∈ xs, xtB x = true ∧ BindX x := by
  intro x h
  simp only [xs, List.mem_cons, List.not_mem_nil, or_false] at h
  subst h; exact ⟨xt0, xb0⟩
end K10
end

section
set_option Elab.async false
set_option linter.all false
set_option maxRecDepth 10000
/-! K10p1: the values that the law draws. -/
namespace K10
open PySem Fs Fp
theorem lb : LB D 8 9 := ⟨rfl, rfl⟩
inductive PV : Nat → T → Prop
  | non (d : Nat) : PV d .non
  | int (d : Nat) (i : Int) : i.natAbs < 10 ^ 40 → PV d (.int i)
  | str (d : Nat) (l : List Nat) : wordL l = true → l.length ≤ 30 → PV d (.str (Sx l))
  | tup (d : Nat) (ts : List T) : (∀ t ∈ ts, PV d t) → ts.length ≤ 3 → PV (d + 1) (.tup ts)
theorem val_fn : D.fns[2]? = some ⟨none, "_law_value_of", 2, 4, f__law_value_of⟩ := rfl
abbrev someI : List T := [.int 0, .int 7, .int (-1), .int 1000000000000000000000000000000000000000, .int 9999999999999999999999999999999999999999, .int (-9999999999999999999999999999999999999999), .int 12]
abbrev someS : List T := [.str "a", .str "floor", .str "z9", .str "is", .str (Txt.mul "x" 30)]
theorem some_I {t : T} (h : t ∈ someI) (d : Nat) : PV d t := by
  simp only [someI, List.mem_cons, List.not_mem_nil, or_false] at h
  rcases h with rfl | rfl | rfl | rfl | rfl | rfl | rfl <;> exact .int _ _ (by decide)
theorem some_S {t : T} (h : t ∈ someS) (d : Nat) : PV d t := by
  simp only [someS, List.mem_cons, List.not_mem_nil, or_false] at h
  rcases h with rfl | rfl | rfl | rfl | rfl
  · exact .str _ [97] (by decide) (by decide)
  · exact .str _ [102, 108, 111, 111, 114] (by decide) (by decide)
  · exact .str _ [122, 57] (by decide) (by decide)
  · exact .str _ [105, 115] (by decide) (by decide)
  · rw [show (Txt.mul "x" 30 : Str) = Sx (List.replicate 30 120) from by decide +kernel]
    exact .str _ _ (by decide) (by decide)
theorem xlen : (Str.ofString "x").length ≤ 1000 := by decide
theorem val_ok {W : Nat} {k : Nat} : ∀ (d n : Nat) (h : Hs), d < 100 → d + 3 ≤ n → Bag h k → ∃ t h', callN D W n 2 [.ref k, .int (d : Int)] h = .ok t h' ∧ PV d t ∧ Bag h' k ∧ But k h h' := by
  intro d
  induction d with
  | zero =>
    intro n h hd hn B
    obtain ⟨n, rfl⟩ : ∃ m, n = m + 3 := ⟨n - 3, by omega⟩
    rw [callN_eq val_fn rfl (by decide)]
    obtain ⟨v, h1, e1, v0, v1, B1, b1, _⟩ := take_call (W := W) lb (n := n + 1) (m := 4) B (by decide) (by decide)
    have hv : v = 0 ∨ v = 1 ∨ (v < 4 ∧ ¬ v = 0 ∧ ¬ v = 1) := by omega
    rcases hv with rfl | rfl | ⟨hv, hv0, hv1⟩
    · refine ⟨.non, h1, ?_, .non _, B1, b1⟩
      simp [f__law_value_of, e1]
    · obtain ⟨x, h2, e2, m2, B2, b2, _⟩ := some_call (W := W) lb (n := n) (xs := someI) B1 (by simp) (by decide)
      refine ⟨x, h2, ?_, some_I m2 _, B2, b1.trans b2⟩
      simp [f__law_value_of, e1, e2]
    · obtain ⟨x, h2, e2, m2, B2, b2, _⟩ := some_call (W := W) lb (n := n) (xs := someS) B1 (by simp) (by decide)
      refine ⟨x, h2, ?_, some_S m2 _, B2, b1.trans b2⟩
      simp [f__law_value_of, e1, e2, hv, hv0, hv1, binT, xlen]
  | succ d ih =>
    intro n h hd hn B
    obtain ⟨n, rfl⟩ : ∃ m, n = m + 3 := ⟨n - 3, by omega⟩
    rw [callN_eq val_fn rfl (by decide)]
    obtain ⟨v, h1, e1, v0, v1, B1, b1, _⟩ := take_call (W := W) lb (n := n + 1) (m := 5) B (by decide) (by decide)
    have hp : (0 : Int) < (d : Int) + 1 := by omega
    have hv : v = 0 ∨ v = 1 ∨ (v < 4 ∧ ¬ v = 0 ∧ ¬ v = 1) ∨ v = 4 := by omega
    rcases hv with rfl | rfl | ⟨hv, hv0, hv1⟩ | rfl
    · refine ⟨.non, h1, ?_, .non _, B1, b1⟩
      simp [f__law_value_of, e1, hp]
    · obtain ⟨x, h2, e2, m2, B2, b2, _⟩ := some_call (W := W) lb (n := n) (xs := someI) B1 (by simp) (by decide)
      refine ⟨x, h2, ?_, some_I m2 _, B2, b1.trans b2⟩
      simp [f__law_value_of, e1, e2, hp]
    · obtain ⟨x, h2, e2, m2, B2, b2, _⟩ := some_call (W := W) lb (n := n) (xs := someS) B1 (by simp) (by decide)
      refine ⟨x, h2, ?_, some_S m2 _, B2, b1.trans b2⟩
      simp [f__law_value_of, e1, e2, hv, hv0, hv1, hp, binT, xlen]
    · obtain ⟨u, h2, e2, u0, u1, B2, b2, _⟩ := take_call (W := W) lb (n := n + 1) (m := 4) B1 (by decide) (by decide)
      have hr := rangeT_nat u0 (by omega : u < 1000000000)
      obtain ⟨ys, h3, e3, p3, l3, B3, b3⟩ := ev_comp (D := D) (cl := callN D W (n + 2)) (env := [some (T.ref k), some (T.int ((d : Int) + 1)), some (T.int 4), none]) (h := h1) (h1 := h2) (i := 3) (it := .rng (.call 8 (.cons (.var 0) (.cons (.int 4) (.nil)))))
        (e := .call 2 (.cons (.var 0) (.cons (.bin .sub (.var 1) (.int 1)) (.nil)))) (vs := [3]) (I := fun h => Bag h k) (P := PV d) (Z := But k) (by simp [e2, hr]; rfl) B2 (fun _ => But.refl) (fun _ _ _ => But.trans) (by simp; omega) (fun x hx h' B' => by
          obtain ⟨t, h'', e, p, B'', b''⟩ := ih (n + 2) h' (by omega) (by omega) B'
          exact ⟨t, h'', by simp [wipeT, e], p, B'', b''⟩)
      refine ⟨.tup ys, h3, ?_, .tup d ys p3 (by rw [l3]; simp; omega), B3, b1.trans (b2.trans b3)⟩
      simp [f__law_value_of, e1, e3, hp]
end K10
end

section
set_option Elab.async false
set_option linter.all false
set_option maxRecDepth 10000
/-! K10p2: the text of a value. -/
namespace K10
open PySem Fs Fp
mutual
def toldL : T → List Nat
  | .non => [45]
  | .int i => intL i
  | .str s => s.cps.toList
  | .tup ts => 40 :: (TL.joinL [32] (toldLs ts) ++ [41])
  | _ => []
def toldLs : List T → List (List Nat)
  | [] => []
  | t :: r => toldL t :: toldLs r
end
theorem toldLs_map : ∀ ts : List T, toldLs ts = ts.map toldL
  | [] => by simp [toldLs]
  | t :: r => by simp [toldLs, toldLs_map r]
def bnd : Nat → Nat
  | 0 => 42
  | d + 1 => 3 * bnd d + 6
theorem bnd_ge : ∀ d, 42 ≤ bnd d
  | 0 => Nat.le_refl _
  | d + 1 => by have := bnd_ge d; unfold bnd; omega
theorem sum3 {b : Nat} : ∀ (ls : List (List Nat)), (∀ l ∈ ls, l.length ≤ b) → (ls.map (·.length)).sum ≤ ls.length * b
  | [], _ => by simp
  | l :: ls, h => by
    have h1 := h l List.mem_cons_self
    have h2 := sum3 ls fun x hx => h x (List.mem_cons_of_mem _ hx)
    simp only [List.map_cons, List.sum_cons, List.length_cons, Nat.add_mul, Nat.one_mul]
    omega
theorem told_len : ∀ (d : Nat) (t : T), PV d t → (toldL t).length ≤ bnd d := by
  intro d
  induction d with
  | zero =>
    intro t h
    cases h with
    | non => simp [toldL, bnd]
    | int _ i hi =>
      have := TL.numL_len (k := 40) (by decide) hi
      simp only [toldL, intL, bnd]
      split <;> simp <;> omega
    | str _ l h1 h2 => simp [toldL, bnd]; omega
  | succ d ih =>
    intro t h
    have hb := bnd_ge d
    cases h with
    | non => simp [toldL, bnd]
    | int _ i hi =>
      have := TL.numL_len (k := 40) (by decide) hi
      simp only [toldL, intL, bnd]
      split <;> simp <;> omega
    | str _ l h1 h2 => simp [toldL, bnd]; omega
    | tup _ ts h1 h2 =>
      have q := sum3 (b := bnd d) (ts.map toldL) (fun l hl => by
        obtain ⟨t, ht, rfl⟩ := List.mem_map.mp hl
        exact ih t (h1 t ht))
      have j := join_len [32] (ts.map toldL)
      rw [List.length_map] at q j
      have m : ts.length * bnd d ≤ 3 * bnd d := Nat.mul_le_mul_right _ h2
      simp only [toldL, toldLs_map, List.length_cons, List.length_append, List.length_nil, bnd] at j ⊢
      omega
theorem told_fn : D.fns[3]? = some ⟨none, "_law_told", 1, 2, f__law_told⟩ := rfl
theorem toStr_int {i : Int} (h : i.natAbs < 10 ^ 40) : toStr (.int i) = some (.str (Sx (intL i))) := by
  have h2 : i.natAbs.log2 < 1920 := by
    by_cases h0 : i.natAbs = 0
    · rw [h0]; decide
    · exact (Nat.log2_lt h0).mpr (Nat.lt_of_lt_of_le h (by decide))
  show (if i.natAbs.log2 < 1920 then some (T.str (Str.ofString (toString i))) else none) = _
  rw [if_pos h2, int_Sx]
theorem bounds {d : Nat} {ts : List T} (h1 : ∀ t ∈ ts, PV d t) (h2 : ts.length ≤ 3) (hd : d ≤ 2) :
    ((ts.map toldL).map (·.length)).sum + (ts.map toldL).length * [32].length ≤ 1000000 ∧ (TL.joinL [32] (ts.map toldL)).length ≤ 2000 := by
  have q := sum3 (b := bnd d) (ts.map toldL) (fun l hl => by
    obtain ⟨t, ht, rfl⟩ := List.mem_map.mp hl
    exact told_len d t (h1 t ht))
  have jl := join_len [32] (ts.map toldL)
  rw [List.length_map] at q jl ⊢
  have m : ts.length * bnd d ≤ 3 * bnd d := Nat.mul_le_mul_right _ h2
  have b3 : bnd d ≤ 402 := by
    have : d = 0 ∨ d = 1 ∨ d = 2 := by omega
    rcases this with rfl | rfl | rfl <;> decide
  simp only [List.length_cons, List.length_nil] at jl ⊢
  constructor <;> omega
theorem told_ok {W : Nat} : ∀ (d n : Nat) (t : T) (h : Hs), d ≤ 3 → d < n → PV d t → callN D W n 3 [t] h = .ok (.str (Sx (toldL t))) h := by
  intro d
  induction d with
  | zero =>
    intro n t h hd hn p
    obtain ⟨n, rfl⟩ : ∃ m, n = m + 1 := ⟨n - 1, by omega⟩
    rw [callN_eq told_fn rfl (by decide)]
    cases p with
    | non => simp [f__law_told, toldL]; rfl
    | int _ i hi => simp [f__law_told, toldL, toStr_int hi, Kd.is]
    | str _ l h1 h2 => simp [f__law_told, toldL, Kd.is, toStr]
  | succ d ih =>
    intro n t h hd hn p
    obtain ⟨n, rfl⟩ : ∃ m, n = m + 1 := ⟨n - 1, by omega⟩
    rw [callN_eq told_fn rfl (by decide)]
    cases p with
    | non => simp [f__law_told, toldL]; rfl
    | int _ i hi => simp [f__law_told, toldL, toStr_int hi, Kd.is]
    | str _ l h1 h2 => simp [f__law_told, toldL, Kd.is, toStr]
    | tup _ ts h1 h2 =>
      have e := ev_compM (D := D) (cl := callN D W n) (env := [some (T.tup ts), none]) (h := h) (h1 := h) (i := 1) (it := .seq (.var 0)) (e := .call 3 (.cons (.var 1) (.nil))) (vs := [1]) (xs := ts) (g := fun t => .str (Sx (toldL t))) (by simp) (by simp; omega)
        (fun x hx => by simp [wipeT, ih n x h (by omega) (by omega) (h1 x hx)])
      obtain ⟨hz, hM⟩ := bounds h1 h2 (by omega)
      have j := bm_join (h := h) (a := [32]) (ys := ts.map toldL) hz
      rw [List.map_map] at j
      have s1 : (Str.ofString "(") = Sx [40] := by decide
      have s2 : (Str.ofString ")") = Sx [41] := by decide
      have s3 : (Str.ofString " ") = Sx [32] := by decide
      simp only [Function.comp_def] at j
      have z1 : 1 + (TL.joinL [32] (ts.map toldL)).length ≤ 1000000 := by omega
      have z2 : (TL.joinL [32] (ts.map toldL)).length ≤ 999998 := by omega
      simp [f__law_told, e, Kd.is, j, s1, s2, s3, Sx_len, Sx_cat, toldL, toldLs_map, z1, z2]
theorem shown_fn : D.fns[12]? = some ⟨none, "shown", 1, 3, f_shown⟩ := rfl
theorem fmt_int {i : Int} (h : i.natAbs < 10 ^ 40) : fmtT (.int i) = some (Sx (intL i)) := by
  have z := toStr_int h
  have z2 : (if i.natAbs.log2 < 1920 then some (T.str (Str.ofString (toString i))) else none) = some (T.str (Sx (intL i))) := z
  show (if i.natAbs.log2 < 1920 then some (Str.ofString (toString i)) else none) = _
  by_cases q : i.natAbs.log2 < 1920
  · rw [if_pos q] at z2 ⊢
    exact congrArg some (T.str.inj (Option.some.inj z2))
  · rw [if_neg q] at z2
    cases z2
theorem intL_len {i : Int} (h : i.natAbs < 10 ^ 40) : (intL i).length ≤ 41 := by
  have := TL.numL_len (k := 40) (by decide) h
  unfold intL
  split <;> simp <;> omega
theorem shown_ok {W : Nat} : ∀ (d n : Nat) (t : T) (h : Hs), d ≤ 3 → d < n → PV d t → callN D W n 12 [t] h = .ok (.str (Sx (toldL t))) h := by
  have em : Str.empty = Sx [] := rfl
  have fs : ∀ l : List Nat, l.length ≤ 1000000 → fmtT (.str (Sx l)) = some (Sx l) := fun l hl => by
    show (if (Sx l).length ≤ lim then some (Sx l) else none) = _
    rw [if_pos (by rw [Sx_len]; exact hl)]
  intro d
  induction d with
  | zero =>
    intro n t h hd hn p
    obtain ⟨n, rfl⟩ : ∃ m, n = m + 1 := ⟨n - 1, by omega⟩
    rw [callN_eq shown_fn rfl (by decide)]
    cases p with
    | non => simp [f_shown, toldL]; rfl
    | int _ i hi =>
      have z1 : (intL i).length ≤ 1000000 := Nat.le_trans (intL_len hi) (by decide)
      simp [f_shown, toldL, fmt_int hi, Kd.is, em, Sx_cat, Sx_len, z1]
    | str _ l h1 h2 =>
      have z1 : l.length ≤ 1000000 := by omega
      simp [f_shown, toldL, Kd.is, em, Sx_cat, Sx_len, fs l z1, z1]
  | succ d ih =>
    intro n t h hd hn p
    obtain ⟨n, rfl⟩ : ∃ m, n = m + 1 := ⟨n - 1, by omega⟩
    rw [callN_eq shown_fn rfl (by decide)]
    cases p with
    | non => simp [f_shown, toldL]; rfl
    | int _ i hi =>
      have z1 : (intL i).length ≤ 1000000 := Nat.le_trans (intL_len hi) (by decide)
      simp [f_shown, toldL, fmt_int hi, Kd.is, em, Sx_cat, Sx_len, z1]
    | str _ l h1 h2 =>
      have z1 : l.length ≤ 1000000 := by omega
      simp [f_shown, toldL, Kd.is, em, Sx_cat, Sx_len, fs l z1, z1]
    | tup _ ts h1 h2 =>
      have e := ev_compM (D := D) (cl := callN D W n) (env := [some (T.tup ts), none, none]) (h := h) (h1 := h) (i := 2) (it := .seq (.var 0)) (e := .call 12 (.cons (.var 2) (.nil))) (vs := [2]) (xs := ts) (g := fun t => .str (Sx (toldL t))) (by simp) (by simp; omega)
        (fun x hx => by simp [wipeT, ih n x h (by omega) (by omega) (h1 x hx)])
      obtain ⟨hz, hM⟩ := bounds h1 h2 (by omega)
      have j := bm_join (h := h) (a := [32]) (ys := ts.map toldL) hz
      rw [List.map_map] at j
      have s1 : (Str.ofString "(") = Sx [40] := by decide
      have s2 : (Str.ofString ")") = Sx [41] := by decide
      have s3 : (Str.ofString " ") = Sx [32] := by decide
      simp only [Function.comp_def] at j
      have z0 : (TL.joinL [32] (ts.map toldL)).length ≤ 1000000 := by omega
      have z1 : (TL.joinL [32] (ts.map toldL)).length ≤ 999999 := by omega
      have z2 : (TL.joinL [32] (ts.map toldL)).length ≤ 999998 := by omega
      simp [f_shown, e, Kd.is, j, s1, s2, s3, Sx_len, Sx_cat, toldL, toldLs_map, em, fs _ z0, fs [40] (by decide), fs [41] (by decide), z0, z1, z2]
end K10
end

section
set_option Elab.async false
set_option linter.all false
set_option maxRecDepth 10000
/-! K10p3: words, numbers, plain values. -/
namespace K10
open PySem Fs Fp
theorem let_in (c : Nat) : decide (c ∈ (Str.ofString "abcdefghijklmnopqrstuvwxyz").cps.toList) = isLet c := by
  rw [show (Str.ofString "abcdefghijklmnopqrstuvwxyz").cps.toList = (List.range 26).map (97 + ·) from by decide +kernel]
  unfold isLet
  rw [Bool.eq_iff_iff]
  simp only [decide_eq_true_eq, List.mem_map, List.mem_range, Bool.and_eq_true]
  exact ⟨fun ⟨i, h1, h2⟩ => by omega, fun h => ⟨c - 97, by omega, by omega⟩⟩
theorem dig_in (c : Nat) : decide (c ∈ (Str.ofString "0123456789").cps.toList) = isDig c := by
  rw [show (Str.ofString "0123456789").cps.toList = (List.range 10).map (48 + ·) from by decide +kernel]
  unfold isDig
  rw [Bool.eq_iff_iff]
  simp only [decide_eq_true_eq, List.mem_map, List.mem_range, Bool.and_eq_true]
  exact ⟨fun ⟨i, h1, h2⟩ => by omega, fun h => ⟨c - 48, by omega, by omega⟩⟩
theorem al_in (c : Nat) : decide (c ∈ (Str.ofString "abcdefghijklmnopqrstuvwxyz" ++ Str.ofString "0123456789").cps.toList) = isAl c := by
  have e : (Str.ofString "abcdefghijklmnopqrstuvwxyz" ++ Str.ofString "0123456789").cps.toList = (Str.ofString "abcdefghijklmnopqrstuvwxyz").cps.toList ++ (Str.ofString "0123456789").cps.toList := TL.tl_append _ _
  rw [e]
  unfold isAl
  rw [← let_in, ← dig_in, Bool.eq_iff_iff]
  simp only [decide_eq_true_eq, List.mem_append, Bool.or_eq_true]
theorem let_in' (c : Nat) : decide (c ∈ (Str.ofString "abcdefghijklmnopqrstuvwxyz").cps) = isLet c := by
  rw [← let_in]
  exact Bool.eq_iff_iff.mpr (by simp)
theorem dig_in' (c : Nat) : decide (c ∈ (Str.ofString "0123456789").cps) = isDig c := by
  rw [← dig_in]
  exact Bool.eq_iff_iff.mpr (by simp)
theorem al_in' (c : Nat) : decide (c ∈ (Str.ofString "abcdefghijklmnopqrstuvwxyz" ++ Str.ofString "0123456789").cps) = isAl c := by
  rw [← al_in]
  exact Bool.eq_iff_iff.mpr (by simp)
theorem in_sgn {h : Hs} {c : Nat} {z : Str} : inT h (sgn c) (.str z) = some (decide (c ∈ z.cps.toList)) := rfl
theorem eq_nil {h : Hs} {l : List Nat} (ok : okL l) : eqT h (.str (Sx l)) (.str (Str.ofString "")) = some (decide (l = [])) := by
  rw [show Str.ofString "" = Sx [] from by decide, eqT_str h _ _ (okL_str ok) (okL_str (fun c hc => by cases hc))]
  exact congrArg some (Bool.eq_iff_iff.mpr (by simp only [decide_eq_true_eq]; exact Sx_inj))
theorem word_fn : D.fns[17]? = some ⟨none, "is_word", 1, 2, f_is_word⟩ := rfl
theorem word_ok {W n : Nat} {l : List Nat} {h : Hs} (ok : okL l) (hl : l.length ≤ 5000) : callN D W (n + 1) 17 [.str (Sx l)] h = .ok (.bl (wordL l)) h := by
  rw [callN_eq word_fn rfl (by decide)]
  have c1 : D.cns[1]? = some (("LETTERS" : Str), T.str ("abcdefghijklmnopqrstuvwxyz" : Str)) := rfl
  have c2 : D.cns[2]? = some (("DIGITS" : Str), T.str ("0123456789" : Str)) := rfl
  cases l with
  | nil => simp [f_is_word, Kd.is, eq_nil ok, wordL]
  | cons c r =>
    have h1 : r.length + 1 ≤ 1000000 := by simp at hl; omega
    have hs : (Str.ofString "abcdefghijklmnopqrstuvwxyz").length + (Str.ofString "0123456789").length ≤ 1000000 := by decide
    have e := ev_compM (D := D) (cl := callN D W n) (env := [some (T.str (Sx (c :: r))), none]) (h := h) (h1 := h) (i := 1) (it := .seq (.var 0)) (e := .cmp .inn (.var 1) (.bin .add (.glob 1) (.glob 2))) (vs := [1]) (xs := (c :: r).map sgn) (g := fun x => match x with
        | .str z => .bl (isAl (z.cps.toList.headD 0))
        | _ => .non) (by simp) (by simpa using h1) (fun x hx => by
          obtain ⟨y, hy, rfl⟩ := List.mem_map.mp hx
          simp [wipeT, c1, c2, hs, in_sgn, al_in']
          rfl)
    have e2 : ((c :: r).map sgn).map (fun x => match x with
        | .str z => T.bl (isAl (z.cps.toList.headD 0))
        | _ => .non) = (c :: r).map fun c => T.bl (isAl c) := by
      rw [List.map_map]
      rfl
    rw [e2] at e
    have b : bools ((c :: r).map fun c => T.bl (isAl c)) = some ((c :: r).map isAl) := bools_map _
    by_cases hc : isLet c = true
    · have hc2 : isAl c = true := by unfold isAl; simp [hc]
      simp [f_is_word, Kd.is, eq_nil ok, wordL, c1, h1, in_sgn, let_in', Sx_len, hc]
      rw [e]
      have b2 : bools (T.bl true :: r.map fun c => T.bl (isAl c)) = some (true :: r.map isAl) := by simp [bools, bools_map]
      simp [hc2, b2, Function.comp_def]
    · simp [f_is_word, Kd.is, eq_nil ok, wordL, c1, h1, in_sgn, let_in', Sx_len, hc]
end K10
end

section
set_option Elab.async false
set_option linter.all false
set_option maxRecDepth 10000
/-! K10p4: plain values. -/
namespace K10
open PySem Fs Fp
theorem num_fn : D.fns[18]? = some ⟨none, "is_number", 1, 1, f_is_number⟩ := rfl
theorem plain_fn : D.fns[11]? = some ⟨none, "is_plain", 2, 3, f_is_plain⟩ := rfl
theorem word_non {W n : Nat} {h : Hs} {t : T} {k : Kd} (e : ∀ h, kind h t = some k) (hk : k.is .str = false) : callN D W (n + 1) 17 [t] h = .ok (.bl false) h := by
  rw [callN_eq word_fn rfl (by decide)]
  simp [f_is_word, e, hk]
theorem num_int {W n : Nat} {h : Hs} {i : Int} : callN D W (n + 1) 18 [.int i] h = .ok (.bl true) h := by
  rw [callN_eq num_fn rfl (by decide)]
  simp [f_is_number, Kd.is]
theorem num_non {W n : Nat} {h : Hs} {t : T} {k : Kd} (e : ∀ h, kind h t = some k) (hk : k.is .int = false) : callN D W (n + 1) 18 [t] h = .ok (.bl false) h := by
  rw [callN_eq num_fn rfl (by decide)]
  simp [f_is_number, e, hk]
theorem word_okL {l : List Nat} (h : wordL l = true) : okL l := by
  cases l with
  | nil => cases h
  | cons c r =>
    simp only [wordL, Bool.and_eq_true, List.all_eq_true] at h
    intro x hx
    rcases List.mem_cons.mp hx with rfl | hx
    · have := h.1
      unfold isLet at this
      simp at this
      omega
    · have := h.2 x hx
      unfold isAl isLet isDig at this
      simp at this
      omega
theorem plain_ok {W : Nat} : ∀ (d n : Nat) (t : T) (m : Int) (h : Hs), d + 1 < n → (d : Int) ≤ m → PV d t → callN D W n 11 [t, .int m] h = .ok (.bl true) h := by
  intro d
  induction d with
  | zero =>
    intro n t m h hn hm p
    obtain ⟨n, rfl⟩ : ∃ m, n = m + 2 := ⟨n - 2, by omega⟩
    rw [callN_eq plain_fn rfl (by decide)]
    cases p with
    | non => simp [f_is_plain]
    | int _ i hi =>
      have w := word_non (W := W) (n := n) (h := h) (t := .int i) (k := .int) (fun _ => rfl) rfl
      have u := num_int (W := W) (n := n) (h := h) (i := i)
      have hb : (if i < 0 then -i else i) < 10000000000000000000000000000000000000000 := by
        have : i.natAbs < 10000000000000000000000000000000000000000 := hi
        split <;> omega
      simp [f_is_plain, w, u, hb]
    | str _ l h1 h2 =>
      have w := word_ok (W := W) (n := n) (h := h) (word_okL h1) (by omega)
      simp [f_is_plain, w, h1]
  | succ d ih =>
    intro n t m h hn hm p
    obtain ⟨n, rfl⟩ : ∃ m, n = m + 2 := ⟨n - 2, by omega⟩
    rw [callN_eq plain_fn rfl (by decide)]
    cases p with
    | non => simp [f_is_plain]
    | int _ i hi =>
      have w := word_non (W := W) (n := n) (h := h) (t := .int i) (k := .int) (fun _ => rfl) rfl
      have u := num_int (W := W) (n := n) (h := h) (i := i)
      have hb : (if i < 0 then -i else i) < 10000000000000000000000000000000000000000 := by
        have : i.natAbs < 10000000000000000000000000000000000000000 := hi
        split <;> omega
      simp [f_is_plain, w, u, hb]
    | str _ l h1 h2 =>
      have w := word_ok (W := W) (n := n) (h := h) (word_okL h1) (by omega)
      simp [f_is_plain, w, h1]
    | tup _ ts h1 h2 =>
      have w := word_non (W := W) (n := n) (h := h) (t := .tup ts) (k := .tup) (fun _ => rfl) rfl
      have u := num_non (W := W) (n := n) (h := h) (t := .tup ts) (k := .tup) (fun _ => rfl) rfl
      have hm0 : ¬ m = 0 := by omega
      have e := ev_compM (D := D) (cl := callN D W (n + 1)) (env := [some (T.tup ts), some (T.int m), none]) (h := h) (h1 := h) (i := 2) (it := .seq (.var 0)) (e := .call 11 (.cons (.var 2) (.cons (.bin .sub (.var 1) (.int 1)) (.nil)))) (vs := [2]) (xs := ts) (g := fun _ => .bl true) (by simp) (by simp; omega)
        (fun x hx => by simp [wipeT, ih (n + 1) x (m - 1) h (by omega) (by omega) (h1 x hx)])
      have b : bools (List.map (fun _ => T.bl true) ts) = some (ts.map fun _ => true) := by
        clear e h1 h2 w u
        induction ts with
        | nil => rfl
        | cons t r ih => simp only [List.map_cons, bools, ih, Option.map_some]
      simp [f_is_plain, w, u, hm0, Kd.is]
      rw [e]
      simp [b]
end K10
end

section
set_option Elab.async false
set_option linter.all false
set_option maxRecDepth 10000
/-! K10p5: what a text says, in plain words: a relation that both readers follow. -/
namespace K10
open PySem Fs Fp
def stopC (c : Nat) : Bool := decide (c = 32) || (decide (c = 40) || decide (c = 41))
def runL (x : List Nat) (p : Nat) : List Nat := (x.drop p).takeWhile fun c => !stopC c
def isNeg (run : List Nat) : Bool := decide (run.take 1 = [45])
def digsL (run : List Nat) : List Nat := if isNeg run = true then run.drop 1 else run
def numOk (run : List Nat) : Bool := !decide (digsL run = []) && (decide ((digsL run).length ≤ 40) && ((digsL run).all isDig && !(decide ((digsL run).head? = some 48) && (isNeg run || !decide (digsL run = [48])))))
def numV (run : List Nat) : Int := if isNeg run = true then -((NumText.digitsVal (digsL run) : Nat) : Int) else ((NumText.digitsVal (digsL run) : Nat) : Int)
def atomL (run : List Nat) : Option T := if run = [45] then some .non else if wordL run = true then some (.str (Sx run)) else if numOk run = true then some (.int (numV run)) else none
inductive PR where
  | ok (t : T) (e : Nat) | err (e : Nat)
/-- at p: a value (none) | the rest of a list whose items so far are acc; d bounds how deep lists stand in lists -/
inductive V (x : List Nat) : Option (List T) → Nat → Nat → PR → Prop
  | atom (d p : Nat) (t : T) : x[p]? ≠ some 40 → atomL (runL x p) = some t → V x none d p (.ok t (p + (runL x p).length))
  | bad (d p : Nat) : x[p]? ≠ some 40 → atomL (runL x p) = none → V x none d p (.err p)
  | list (d p : Nat) (r : PR) : x[p]? = some 40 → V x (some []) d (p + 1) r → V x none (d + 1) p r
  | close (d p : Nat) (acc : List T) : x[p]? = some 41 → V x (some acc) d p (.ok (.tup acc) (p + 1))
  | gap (d p : Nat) (acc : List T) : acc ≠ [] → x[p]? ≠ some 41 → x[p]? ≠ some 32 → V x (some acc) d p (.err p)
  | ierr (d p q e : Nat) (acc : List T) : x[p]? ≠ some 41 → (acc = [] ∧ q = p ∨ acc ≠ [] ∧ x[p]? = some 32 ∧ q = p + 1) → V x none d q (.err e) → V x (some acc) d p (.err e)
  | item (d p q e : Nat) (acc : List T) (t : T) (r : PR) : x[p]? ≠ some 41 → (acc = [] ∧ q = p ∨ acc ≠ [] ∧ x[p]? = some 32 ∧ q = p + 1) → V x none d q (.ok t e) → V x (some (acc ++ [t])) d e r → V x (some acc) d p r
theorem run_lt {x : List Nat} {p : Nat} {t : T} (h : atomL (runL x p) = some t) : 0 < (runL x p).length := by
  cases e : runL x p with
  | nil =>
    rw [e] at h
    simp [atomL, wordL, numOk, digsL, isNeg] at h
  | cons c r => simp
theorem run_le {x : List Nat} {p : Nat} : p + (runL x p).length ≤ max p x.length := by
  have : (runL x p).length ≤ (x.drop p).length := by
    unfold runL
    exact (List.takeWhile_sublist _).length_le
  rw [List.length_drop] at this
  omega
theorem V.mono {x : List Nat} {mo : Option (List T)} {d p : Nat} {r : PR} (v : V x mo d p r) : ∀ d', d ≤ d' → V x mo d' p r := by
  induction v with
  | atom d p t h1 h2 => exact fun d' _ => .atom d' p t h1 h2
  | bad d p h1 h2 => exact fun d' _ => .bad d' p h1 h2
  | list d p r h1 _ ih =>
    intro d' hd
    obtain ⟨k, rfl⟩ : ∃ k, d' = k + 1 := ⟨d' - 1, by omega⟩
    exact .list k p r h1 (ih k (by omega))
  | close d p acc h => exact fun d' _ => .close d' p acc h
  | gap d p acc h1 h2 h3 => exact fun d' _ => .gap d' p acc h1 h2 h3
  | ierr d p q e acc h1 h2 _ ih => exact fun d' hd => .ierr d' p q e acc h1 h2 (ih d' hd)
  | item d p q e acc t r h1 h2 _ _ ih1 ih2 => exact fun d' hd => .item d' p q e acc t r h1 h2 (ih1 d' hd) (ih2 d' hd)
theorem some_lt {x : List Nat} {p c : Nat} (h : x[p]? = some c) : p < x.length := (List.getElem?_eq_some_iff.mp h).1
/-- a value that is there goes on and stays within the text -/
theorem V.adv {x : List Nat} {mo : Option (List T)} {d p : Nat} {r : PR} (v : V x mo d p r) : ∀ t e, r = .ok t e → p < e ∧ e ≤ x.length := by
  induction v with
  | atom d p t h1 h2 =>
    intro t' e h
    cases h
    have := run_lt h2
    have := run_le (x := x) (p := p)
    have : p < x.length ∨ x.length ≤ p := by omega
    rcases this with h | h
    · omega
    · have z : runL x p = [] := by
        unfold runL
        rw [List.drop_eq_nil_of_le h]
        rfl
      have q := run_lt h2
      rw [z] at q
      exact absurd q (Nat.lt_irrefl 0)
  | bad d p h1 h2 => exact fun t e h => by cases h
  | list d p r h1 _ ih =>
    intro t e h
    have := ih t e h
    omega
  | close d p acc h =>
    intro t e h'
    cases h'
    have := some_lt h
    omega
  | gap d p acc h1 h2 h3 => exact fun t e h => by cases h
  | ierr d p q e acc h1 h2 _ ih => exact fun t e h => by cases h
  | item d p q e acc t r h1 h2 _ _ ih1 ih2 =>
    intro t' e' h
    have a := ih1 t e rfl
    have b := ih2 t' e' h
    rcases h2 with ⟨_, rfl⟩ | ⟨_, _, rfl⟩ <;> omega
/-- the text says something at every place -/
theorem V.ex {x : List Nat} : ∀ (k p : Nat), x.length - p ≤ k → (∃ r, V x none ((x.drop p).count 40) p r) ∧ ∀ acc, ∃ r, V x (some acc) ((x.drop p).count 40) p r := by
  have cnt : ∀ p q, p ≤ q → (x.drop q).count 40 ≤ (x.drop p).count 40 := fun p q h => by
    have e : x.drop q = (x.drop p).drop (q - p) := by rw [List.drop_drop]; congr 1; omega
    rw [e]
    exact (List.drop_sublist _ _).count_le _
  have val : ∀ p, (∀ acc, x[p]? = some 40 → ∃ r, V x (some acc) ((x.drop (p + 1)).count 40) (p + 1) r) → ∃ r, V x none ((x.drop p).count 40) p r := fun p h => by
    by_cases h0 : x[p]? = some 40
    · obtain ⟨r, hr⟩ := h [] h0
      have e : (x.drop p).count 40 = (x.drop (p + 1)).count 40 + 1 := by
        obtain ⟨h1, h2⟩ := List.getElem?_eq_some_iff.mp h0
        rw [List.drop_eq_getElem_cons h1, h2, List.count_cons_self]
      rw [e]
      exact ⟨r, .list _ _ r h0 hr⟩
    · cases ha : atomL (runL x p) with
      | none => exact ⟨_, .bad _ _ h0 ha⟩
      | some t => exact ⟨_, .atom _ _ t h0 ha⟩
  intro k
  induction k with
  | zero =>
    intro p hp
    have hn : x[p]? = none := List.getElem?_eq_none (by omega)
    have hv := val p (fun acc h => by rw [hn] at h; cases h)
    refine ⟨hv, fun acc => ?_⟩
    by_cases ha : acc = []
    · cases h2 : atomL (runL x p) with
      | none => exact ⟨_, .ierr _ p p p acc (by rw [hn]; simp) (.inl ⟨ha, rfl⟩) (.bad _ _ (by rw [hn]; simp) h2)⟩
      | some t =>
        exfalso
        have := (V.atom (x := x) 0 p t (by rw [hn]; simp) h2).adv t _ rfl
        omega
    · exact ⟨_, .gap _ p acc ha (by rw [hn]; simp) (by rw [hn]; simp)⟩
  | succ k ih =>
    intro p hp
    have hv := val p (fun acc h => (ih (p + 1) (by have := some_lt h; omega)).2 acc)
    refine ⟨hv, fun acc => ?_⟩
    by_cases h41 : x[p]? = some 41
    · exact ⟨_, .close _ p acc h41⟩
    · have go : ∀ q, p ≤ q → (acc = [] ∧ q = p ∨ acc ≠ [] ∧ x[p]? = some 32 ∧ q = p + 1) → (∃ r, V x none ((x.drop q).count 40) q r) → ∃ r, V x (some acc) ((x.drop p).count 40) p r := fun q hq hc ⟨r, hr⟩ => by
        cases r with
        | err e => exact ⟨_, .ierr _ p q e acc h41 hc (hr.mono _ (cnt p q hq))⟩
        | ok t e =>
          have a := hr.adv t e rfl
          obtain ⟨r2, hr2⟩ := (ih e (by omega)).2 (acc ++ [t])
          exact ⟨r2, .item _ p q e acc t r2 h41 hc (hr.mono _ (cnt p q hq)) (hr2.mono _ (cnt p e (by omega)))⟩
      by_cases ha : acc = []
      · exact go p (Nat.le_refl _) (.inl ⟨ha, rfl⟩) hv
      · by_cases h32 : x[p]? = some 32
        · exact go (p + 1) (by omega) (.inr ⟨ha, h32, rfl⟩) (ih (p + 1) (by have := some_lt h32; omega)).1
        · exact ⟨_, .gap _ p acc ha h41 h32⟩
end K10
end

section
set_option Elab.async false
set_option linter.all false
set_option maxRecDepth 10000
/-! K10p6: what is read is plain: how deep, how long. -/
namespace K10
open PySem Fs Fp
inductive QV : Nat → T → Prop
  | non (d : Nat) : QV d .non
  | int (d : Nat) (i : Int) : i.natAbs < 10 ^ 40 → QV d (.int i)
  | str (d : Nat) (l : List Nat) : wordL l = true → QV d (.str (Sx l))
  | tup (d : Nat) (ts : List T) : (∀ t ∈ ts, QV d t) → QV (d + 1) (.tup ts)
theorem QV.mono {d : Nat} {t : T} (q : QV d t) : ∀ d', d ≤ d' → QV d' t := by
  induction q with
  | non d => exact fun d' _ => .non d'
  | int d i h => exact fun d' _ => .int d' i h
  | str d l h => exact fun d' _ => .str d' l h
  | tup d ts h ih =>
    intro d' hd
    obtain ⟨k, rfl⟩ : ∃ k, d' = k + 1 := ⟨d' - 1, by omega⟩
    exact .tup k ts fun t ht => ih t ht k (by omega)
theorem PV.qv {d : Nat} {t : T} (p : PV d t) : QV d t := by
  induction p with
  | non d => exact .non d
  | int d i h => exact .int d i h
  | str d l h _ => exact .str d l h
  | tup d ts h _ ih => exact .tup d ts ih
theorem log_lt {i : Int} (h : i.natAbs < 10 ^ 40) : i.natAbs.log2 < 1920 := by
  by_cases h0 : i.natAbs = 0
  · rw [h0]; decide
  · exact (Nat.log2_lt h0).mpr (Nat.lt_of_lt_of_le h (by decide))
theorem num_okL (n : Nat) : okL (TL.numL n) := fun c hc => by
  have := TL.numL_digits n c hc
  omega
theorem intL_ok (i : Int) : okL (intL i) := by
  unfold intL
  split
  · intro c hc
    rcases List.mem_cons.mp hc with rfl | hc
    · decide
    · exact num_okL _ c hc
  · exact num_okL _
theorem QV.good {d : Nat} {t : T} (q : QV d t) : ∃ x, toD t = some x ∧ Good d (szT t) x := by
  induction q with
  | non d => exact ⟨.none, by simp [toD], by simp [PyData.canLay0], by simp [PyData.depth], by simp [PyData.showable], by simp only [PyData.shown, szT]; decide, by simp only [PyData.shown, okS, okL]; decide⟩
  | int d i h =>
    refine ⟨.int i, by simp [toD], by simp [PyData.canLay0], by simp [PyData.depth], by simpa [PyData.showable] using log_lt h, ?_, ?_⟩
    · simp only [PyData.shown, szT]
      rw [int_Sx, Sx_len]
      exact Nat.le_succ_of_le (intL_len h)
    · simp only [PyData.shown]
      rw [int_Sx]
      exact intL_ok i
  | str d l h => exact ⟨.str (Sx l), by simp [toD], (Good.str (word_okL h)).mono (by omega) (by simp [szT])⟩
  | tup d ts h ih =>
    obtain ⟨xs, e, l, a, b, c, s, f, k⟩ := good_all ts ih
    refine ⟨.tuple xs, by simp [toD, e], ?_⟩
    have := good_tup (d := d) (n := szTs ts) a b c (by rw [f]; exact s) k
    simpa [szT] using this
theorem ne_nil {d k : Nat} {h : Hs} {ts : List T} (e : h[k]? = some (.lst ts)) (q : ∀ t ∈ ts, QV d t) (hd : d ≤ 60) : eqT h (.ref k) (.lst []) = some (decide (ts = [])) :=
  ref_nil e (fun t ht => (q t ht).good) hd
theorem val_lt : ∀ (l : List Nat), l.all isDig = true → NumText.digitsVal l < 10 ^ l.length := by
  have go : ∀ (l : List Nat) (a : Nat), l.all isDig = true → l.foldl (fun acc c => acc * 10 + (c - 48)) a < (a + 1) * 10 ^ l.length := by
    intro l
    induction l with
    | nil => intro a _; simp
    | cons c r ih =>
      intro a h
      simp only [List.all_cons, Bool.and_eq_true] at h
      have := ih (a * 10 + (c - 48)) h.2
      have hc : c ≤ 57 := by
        have := h.1
        unfold isDig at this
        simp at this
        omega
      rw [List.foldl_cons, List.length_cons, Nat.pow_succ]
      refine Nat.lt_of_lt_of_le this ?_
      have m : (a * 10 + (c - 48) + 1) * 10 ^ r.length ≤ ((a + 1) * 10) * 10 ^ r.length := Nat.mul_le_mul_right _ (by omega)
      rw [Nat.mul_assoc, Nat.mul_comm 10] at m
      exact m
  intro l h
  have := go l 0 h
  simpa [NumText.digitsVal] using this
theorem atom_qv {run : List Nat} {t : T} (h : atomL run = some t) : QV 0 t ∧ szT t + 2 ≤ 46 * run.length := by
  unfold atomL at h
  by_cases h1 : run = [45]
  · rw [if_pos h1] at h
    cases h
    subst h1
    exact ⟨.non 0, by simp [szT]⟩
  · rw [if_neg h1] at h
    by_cases h2 : wordL run = true
    · rw [if_pos h2] at h
      cases h
      refine ⟨.str 0 run h2, ?_⟩
      have : 0 < run.length := by cases run with
        | nil => cases h2
        | cons c r => simp
      simp only [szT, Sx_len]
      omega
    · rw [if_neg h2] at h
      by_cases h3 : numOk run = true
      · rw [if_pos h3] at h
        cases h
        simp only [numOk, Bool.and_eq_true, decide_eq_true_eq, Bool.not_eq_true'] at h3
        obtain ⟨a, b, c, e⟩ := h3
        have hv := val_lt _ c
        have hp : (10 : Nat) ^ (digsL run).length ≤ 10 ^ 40 := Nat.pow_le_pow_right (by decide) b
        have hn : (numV run).natAbs = NumText.digitsVal (digsL run) := by
          unfold numV
          split <;> omega
        refine ⟨.int 0 _ (by rw [hn]; omega), ?_⟩
        have : 0 < run.length := by cases run with
          | nil => exact absurd a (by decide)
          | cons c r => simp
        simp only [szT]
        omega
      · rw [if_neg h3] at h
        cases h
theorem V.inv {x : List Nat} {mo : Option (List T)} {d p : Nat} {r : PR} (v : V x mo d p r) : ∀ t e, r = .ok t e →
    (mo = none → QV d t ∧ szT t + 2 + 46 * p ≤ 46 * e) ∧ ∀ acc, mo = some acc → (∀ a ∈ acc, QV d a) → QV (d + 1) t ∧ szT t + 46 * p + 46 ≤ 46 * e + szTs acc + 3 := by
  induction v with
  | atom d p t h1 h2 =>
    intro t' e h
    cases h
    refine ⟨fun _ => ?_, fun acc h => by cases h⟩
    obtain ⟨a, b⟩ := atom_qv h2
    exact ⟨a.mono d (by omega), by omega⟩
  | bad d p h1 h2 => exact fun t e h => by cases h
  | list d p r h1 _ ih =>
    intro t e h
    refine ⟨fun _ => ?_, fun acc h => by cases h⟩
    obtain ⟨a, b⟩ := (ih t e h).2 [] rfl (fun a ha => by cases ha)
    simp only [szTs] at b
    exact ⟨a, by omega⟩
  | close d p acc h =>
    intro t e h'
    cases h'
    refine ⟨fun h => (by cases h), fun acc' h q => ?_⟩
    cases h
    exact ⟨.tup d acc q, by simp only [szT]; omega⟩
  | gap d p acc h1 h2 h3 => exact fun t e h => by cases h
  | ierr d p q e acc h1 h2 _ ih => exact fun t e h => by cases h
  | item d p q e acc t r h1 h2 _ _ ih1 ih2 =>
    intro t' e' h
    refine ⟨fun h => (by cases h), fun acc' h' k => ?_⟩
    cases h'
    obtain ⟨a, b⟩ := (ih1 t e rfl).1 rfl
    obtain ⟨c, f⟩ := (ih2 t' e' h).2 _ rfl (fun y hy => by
      rcases List.mem_append.mp hy with hy | hy
      · exact k y hy
      · simp only [List.mem_cons, List.not_mem_nil, or_false] at hy
        subst hy
        exact a)
    rw [szTs_app] at f
    simp only [szTs] at f
    refine ⟨c, ?_⟩
    rcases h2 with ⟨_, rfl⟩ | ⟨_, _, rfl⟩ <;> omega
end K10
end

section
set_option Elab.async false
set_option linter.all false
set_option maxRecDepth 10000
/-! K10p7: the atoms, as the package and as the law read them. -/
namespace K10
open PySem Fs Fp
def atomR (run : List Nat) : T := match atomL run with
  | some t => .tup [t]
  | none => .non
theorem s_dash : Str.ofString "-" = Sx [45] := by decide
theorem s_zero : Str.ofString "0" = Sx [48] := by decide
theorem s_nil : Str.ofString "" = Sx [] := by decide
theorem s_open : Str.ofString "(" = Sx [40] := by decide
theorem s_close : Str.ofString ")" = Sx [41] := by decide
theorem s_gap : Str.ofString " " = Sx [32] := by decide
theorem s_stop : Str.ofString " ()" = Sx [32, 40, 41] := by decide
theorem cut_to1 (l : List Nat) : L2.cutS (Sx l) none (some 1) = Sx (l.take 1) := cut_to l 1
theorem cut_from1 (l : List Nat) : L2.cutS (Sx l) (some 1) none = Sx l.tail := by
  rw [← List.drop_one]
  exact cut_from l 1
theorem sgn_Sx (c : Nat) : sgn c = .str (Sx [c]) := rfl
theorem ok1 {c : Nat} (h : c < 128) : okL [c] := by intro d hd; simp at hd; omega
theorem digs_ok {run : List Nat} (h : okL run) : okL (digsL run) := by
  unfold digsL
  split
  · exact okL_drop h 1
  · exact h
theorem digs_len {run : List Nat} : (digsL run).length ≤ run.length := by
  unfold digsL
  split
  · simp
  · exact Nat.le_refl _
theorem fig_fn : D.fns[22]? = some ⟨none, "figures_value", 1, 4, f_figures_value⟩ := rfl
theorem runv_fn : D.fns[20]? = some ⟨none, "run_value", 1, 1, f_run_value⟩ := rfl
theorem atom_fn : D.fns[16]? = some ⟨none, "_law_atom", 1, 5, f__law_atom⟩ := rfl
def sgC (x : T) : Nat := match x with
  | .str z => z.cps.toList.headD 0
  | _ => 0
theorem sgC_sgn (c : Nat) : sgC (sgn c) = c := rfl
def figRest : Ss := .cons (.ifs (.orv (.cons (.cmp .eq (.var 2) (.str "")) (.cons (.cmp .gt (.bi .len (.cons (.var 2) (.nil))) (.glob 3)) (.cons (.nott (.bi .all (.cons (.comp false (.nm 3) (.seq (.var 2)) (.absent) (.cmp .inn (.var 3) (.glob 2)) [3]) (.nil)))) (.nil))))) (.cons (.ret (.non)) (
.nil)) (.nil)) (
.cons (.ifs (.andv (.cons (.cmp .eq (.ix (.var 2) (.int 0)) (.str "0")) (.cons (.orv (.cons (.var 1) (.cons (.cmp .ne (.var 2) (.str "0")) (.nil)))) (.nil)))) (.cons (.ret (.non)) (
.nil)) (.nil)) (
.cons (.ret (.tup (.cons (.ite (.var 1) (.bin .sub (.int 0) (.bi .int (.cons (.var 2) (.nil)))) (.bi .int (.cons (.var 2) (.nil)))) (.nil)))) (
.nil)))
theorem fig_body : f_figures_value = .cons (.set 1 (.cmp .eq (.sl (.var 0) (.absent) (.int 1)) (.str "-"))) (
    .cons (.set 2 (.ite (.var 1) (.sl (.var 0) (.int 1) (.absent)) (.var 0))) figRest) := rfl
def okN (neg : Bool) (dg : List Nat) : Bool := !decide (dg = []) && (decide (dg.length ≤ 40) && (dg.all isDig && !(decide (dg.head? = some 48) && (neg || !decide (dg = [48])))))
def valN (neg : Bool) (dg : List Nat) : Int := if neg = true then -((NumText.digitsVal dg : Nat) : Int) else ((NumText.digitsVal dg : Nat) : Int)
theorem figRest_ok {W : Nat} {cl : Cal} {t0 : T} {neg : Bool} {dg : List Nat} {h : Hs} (okd : okL dg) (hd : dg.length ≤ 5000) : (evSs D W cl figRest [some t0, some (.bl neg), some (.str (Sx dg)), none] h).fin = .ok (if okN neg dg = true then .tup [.int (valN neg dg)] else .non) h := by
  have c2 : D.cns[2]? = some (("DIGITS" : Str), T.str ("0123456789" : Str)) := rfl
  have c3 : D.cns[3]? = some (("MOST_FIGURES" : Str), T.int 40) := rfl
  have hz2 : dg.length ≤ 1000000 := by omega
  have e2 : eqT h (.str (Sx dg)) (.str (Sx [])) = some (decide (dg = [])) := eq_Sx okd (by intro c hc; cases hc)
  have e4 : eqT h (.str (Sx dg)) (.str (Sx [48])) = some (decide (dg = [48])) := eq_Sx okd (ok1 (by decide))
  have cc := ev_compM (D := D) (cl := cl) (env := [some t0, some (.bl neg), some (.str (Sx dg)), none]) (h := h) (h1 := h) (i := 3) (it := .seq (.var 2)) (e := .cmp .inn (.var 3) (.glob 2)) (vs := [3]) (xs := dg.map sgn) (g := fun x => .bl (isDig (sgC x))) (by simp) (by rw [List.length_map]; simp only [lim_eq]; omega) (fun x hx => by
    obtain ⟨y, hy, rfl⟩ := List.mem_map.mp hx
    simp [wipeT, c2, K10.in_sgn, dig_in', sgC_sgn])
  rw [List.map_map, show ((fun x => T.bl (isDig (sgC x))) ∘ sgn) = (fun c => T.bl (isDig c)) from rfl] at cc
  have b : bools (dg.map fun c => T.bl (isDig c)) = some (dg.map isDig) := Fp.bools_map _
  by_cases d0 : dg = []
  · rw [decide_eq_true d0] at e2
    have k : okN neg dg = false := by simp [okN, d0]
    simp [figRest, s_nil, e2, k]
  rw [decide_eq_false d0] at e2
  by_cases d1 : dg.length ≤ 40
  · have d1' : ¬ (40 : Int) < (dg.length : Int) := by omega
    by_cases d2 : dg.all isDig = true
    · have it := int_Sx' d2 d0 (by omega)
      have b2 : (List.map isDig dg).all id = true := by rw [List.all_map]; exact d2
      obtain ⟨c, r, hdg⟩ : ∃ c r, dg = c :: r := by cases dg with
        | nil => exact absurd rfl d0
        | cons c r => exact ⟨c, r, rfl⟩
      have e3 : eqT h (sgn c) (.str (Sx [48])) = some (decide (c = 48)) := by
        rw [sgn_Sx, eq_Sx (ok1 (okd c (by rw [hdg]; simp))) (ok1 (by decide))]
        simp
      have ix0 : dg[0]? = some c := by rw [hdg]; rfl
      have hh : dg.head? = some c := by rw [hdg]; rfl
      have fst : (evS D W cl (.ifs (.orv (.cons (.cmp .eq (.var 2) (.str "")) (.cons (.cmp .gt (.bi .len (.cons (.var 2) (.nil))) (.glob 3)) (.cons (.nott (.bi .all (.cons (.comp false (.nm 3) (.seq (.var 2)) (.absent) (.cmp .inn (.var 3) (.glob 2)) [3]) (.nil)))) (.nil))))) (.cons (.ret (.non)) (
        .nil)) (.nil)) [some t0, some (.bl neg), some (.str (Sx dg)), none] h) = .nx [some t0, some (.bl neg), some (.str (Sx dg)), none] h := by
        simp only [evS_ifs, ev_orv, evO_two, evO_one, ev_nott, ev_bi, evL_cons, evL_nil, cc]
        simp [s_nil, e2, hz2, c3, Sx_len, d1', cc, b, b2]
      unfold figRest
      rw [evSs_cons, fst]
      have k : okN neg dg = !(decide (c = 48) && (neg || !decide (dg = [48]))) := by simp [okN, d0, d1, d2, hh]
      clear hdg hh
      generalize decide (c = 48) = b1 at e3 k
      generalize decide (dg = [48]) = b2 at e4 k
      cases neg <;> cases b1 <;> cases b2 <;> simp [s_zero, e3, e4, hz2, ix0, it, valN, k, Sx_len]
    · have b2 : (List.map isDig dg).all id = false := by rw [List.all_map]; exact Bool.eq_false_iff.mpr d2
      have d2' : dg.all isDig = false := Bool.eq_false_iff.mpr d2
      have fst : (evS D W cl (.ifs (.orv (.cons (.cmp .eq (.var 2) (.str "")) (.cons (.cmp .gt (.bi .len (.cons (.var 2) (.nil))) (.glob 3)) (.cons (.nott (.bi .all (.cons (.comp false (.nm 3) (.seq (.var 2)) (.absent) (.cmp .inn (.var 3) (.glob 2)) [3]) (.nil)))) (.nil))))) (.cons (.ret (.non)) (
        .nil)) (.nil)) [some t0, some (.bl neg), some (.str (Sx dg)), none] h) = .ret .non h := by
        simp only [evS_ifs, ev_orv, evO_two, evO_one, ev_nott, ev_bi, evL_cons, evL_nil, cc]
        simp [s_nil, e2, hz2, c3, Sx_len, d1', cc, b, b2]
      unfold figRest
      rw [evSs_cons, fst]
      simp [okN, d2']
  · have d1' : (40 : Int) < (dg.length : Int) := by omega
    simp [figRest, s_nil, e2, hz2, c3, Sx_len, d1', d1, okN]
theorem fig_ok {W n : Nat} {l : List Nat} {h : Hs} (ok : okL l) (hl : l.length ≤ 5000) : callN D W (n + 1) 22 [.str (Sx l)] h = .ok (if numOk l = true then .tup [.int (numV l)] else .non) h := by
  have hz : (Sx l).length ≤ 1000000 := by rw [Sx_len]; omega
  have e1 : eqT h (.str (Sx (l.take 1))) (.str (Sx [45])) = some (isNeg l) := eq_Sx (okL_take ok 1) (ok1 (by decide))
  have r := figRest_ok (W := W) (cl := callN D W n) (t0 := .str (Sx l)) (neg := isNeg l) (h := h) (digs_ok ok) (Nat.le_trans digs_len hl)
  rw [callN_eq fig_fn rfl (by decide), fig_body]
  show _ = R.ok (if okN (isNeg l) (digsL l) = true then T.tup [T.int (valN (isNeg l) (digsL l))] else T.non) h
  rw [← r]
  unfold digsL
  cases hn : isNeg l <;> simp [s_dash, hz, cut_to1, cut_from1, e1, hn]
theorem runv_ok {W n : Nat} {l : List Nat} {h : Hs} (ok : okL l) (hl : l.length ≤ 5000) : callN D W (n + 2) 20 [.str (Sx l)] h = .ok (atomR l) h := by
  rw [callN_eq runv_fn rfl (by decide)]
  have e1 : eqT h (.str (Sx l)) (.str (Sx [45])) = some (decide (l = [45])) := eq_Sx ok (ok1 (by decide))
  have w := word_ok (W := W) (n := n) (h := h) ok hl
  have f := fig_ok (W := W) (n := n) (h := h) ok hl
  unfold atomR atomL
  by_cases h1 : l = [45]
  · simp [f_run_value, s_dash, e1, h1]
    simp [h1] at e1
    simp [e1]
  by_cases h2 : wordL l = true
  · simp [f_run_value, s_dash, e1, h1, w, h2]
  by_cases h3 : numOk l = true
  · simp [f_run_value, s_dash, e1, h1, w, h2, f, h3]
  · simp [f_run_value, s_dash, e1, h1, w, h2, f, h3]
end K10
end

section
set_option Elab.async false
set_option linter.all false
set_option maxRecDepth 10000
/-! K10p8: an atom, as the law reads it. -/
namespace K10
open PySem Fs Fp
theorem neg_Sx {l : List Nat} (h : l.all isDig = true) (hne : l ≠ []) (hl : l.length ≤ 600) : toInt (.str (Sx (45 :: l))) = some (.int (-((NumText.digitsVal l : Nat) : Int))) := by
  show (if (Sx (45 :: l)).length ≤ 640 then (intText? (Sx (45 :: l))).map T.int else none) = _
  rw [if_pos (by rw [Sx_len, List.length_cons]; omega), intText_neg (x := Sx (45 :: l)) (cs := l) rfl (fun c hc => by
    have := List.all_eq_true.mp h c hc
    unfold isDig at this
    simp at this
    exact this) hne (by rw [Sx_len, List.length_cons]; omega)]
  rfl
theorem neg_form {l : List Nat} (h : isNeg l = true) : l = 45 :: digsL l := by
  have h2 := h
  unfold isNeg at h2
  rw [decide_eq_true_eq] at h2
  cases l with
  | nil => simp at h2
  | cons c r =>
    simp at h2
    subst h2
    unfold digsL
    rw [if_pos h]
    rfl
theorem int_run {l : List Nat} (h : numOk l = true) : toInt (.str (Sx l)) = some (.int (numV l)) := by
  simp only [numOk, Bool.and_eq_true, decide_eq_true_eq, Bool.not_eq_true', decide_eq_false_iff_not] at h
  obtain ⟨a, b, c, e⟩ := h
  cases hn : isNeg l with
  | true =>
    have := neg_Sx c a (by omega)
    rw [← neg_form hn] at this
    rw [this]
    simp [numV, hn]
  | false =>
    have e : digsL l = l := by simp [digsL, hn]
    rw [e] at a b c
    rw [int_Sx' c a (by omega)]
    simp [numV, hn, e]
theorem filt_map (p : Nat → Bool) (l : List Nat) : ((l.map sgn).filter fun x => p (sgC x)).map (fun x => x) = (l.filter p).map sgn := by
  rw [List.map_id', List.filter_map]
  rfl
def atomIf : S := .ifs (.andv (.cons (.cmp .ne (.var 0) (.str "")) (.cons (.cmp .inn (.ix (.var 0) (.int 0)) (.var 1)) (.nil)))) (.cons (.ret (.ite (.cmp .eq (.comp false (.nm 3) (.seq (.var 0)) (.cmp .nin (.var 3) (.bin .add (.var 1) (.var 2))) (.var 3) [3]) (.lstI (.nil))) (.tup (.cons (.var 0) (.nil))) (.non))) (
.nil)) (.nil)
def atomSet : S := .set 4 (.ite (.cmp .eq (.sl (.var 0) (.absent) (.int 1)) (.str "-")) (.sl (.var 0) (.int 1) (.absent)) (.var 0))
def atomRest : Ss := .cons (.ifs (.orv (.cons (.cmp .eq (.var 4) (.str "")) (.cons (.cmp .ne (.comp false (.nm 3) (.seq (.var 4)) (.cmp .nin (.var 3) (.var 2)) (.var 3) [3]) (.lstI (.nil))) (.cons (.cmp .gt (.bi .len (.cons (.var 4) (.nil))) (.int 40)) (.cons (.andv (.cons (.cmp .eq (.ix (.var 4) (.int 0)) (.str "0")) (.cons (.cmp .ne (.var 0) (.str "0")) (.nil)))) (.nil)))))) (.cons (.ret (.non)) (
.nil)) (.nil)) (
.cons (.ret (.tup (.cons (.bi .int (.cons (.var 0) (.nil))) (.nil)))) (
.nil))
theorem atom_body : f__law_atom = .cons (.setT [1, 2] (.tup (.cons (.str "abcdefghijklmnopqrstuvwxyz") (.cons (.str "0123456789") (.nil))))) (
    .cons (.ifs (.cmp .eq (.var 0) (.str "-")) (.cons (.ret (.tup (.cons (.non) (.nil)))) (
    .nil)) (.nil)) (
    .cons atomIf (.cons atomSet atomRest))) := rfl
abbrev aEnv (l : List Nat) (o : Option T) : En := [some (T.str (Sx l)), some (.str ("abcdefghijklmnopqrstuvwxyz" : Str)), some (.str ("0123456789" : Str)), none, o]
theorem atomIf_yes {W : Nat} {cl : Cal} {c : Nat} {r : List Nat} {h : Hs} (ok : okL (c :: r)) (hl : (c :: r).length ≤ 5000) (hc : isLet c = true) : evS D W cl atomIf (aEnv (c :: r) none) h = .ret (if wordL (c :: r) = true then .tup [.str (Sx (c :: r))] else .non) h := by
  have hz : (Sx (c :: r)).length ≤ 1000000 := by rw [Sx_len]; omega
  have e0n : eqT h (.str (Sx (c :: r))) (.str (Sx [])) = some false := (eq_Sx ok (by intro c hc; cases hc)).trans (by simp)
  have hs : (Str.ofString "abcdefghijklmnopqrstuvwxyz").length + (Str.ofString "0123456789").length ≤ 1000000 := by decide
  have cc := ev_compF (D := D) (cl := cl) (env := aEnv (c :: r) none) (h := h) (h1 := h) (i := 3) (it := .seq (.var 0)) (c := .cmp .nin (.var 3) (.bin .add (.var 1) (.var 2))) (e := .var 3) (vs := [3]) (xs := (c :: r).map sgn) (p := fun x => !isAl (sgC x)) (g := fun x => x) rfl (by simp) (by rw [List.length_map]; simp only [lim_eq]; omega) (fun x hx => by
      obtain ⟨y, hy, rfl⟩ := List.mem_map.mp hx
      simp [wipeT, hs, K10.in_sgn, al_in', sgC_sgn]) (fun x hx _ => by simp [wipeT])
  rw [filt_map (fun c => !isAl c)] at cc
  have z := signs_nil (h := h) (l := (c :: r).filter fun c => !isAl c) (fun d hd => ok d (List.mem_filter.mp hd).1)
  have hca : isAl c = true := by unfold isAl; simp [hc]
  have z2 : wordL (c :: r) = decide (((c :: r).filter fun c => !isAl c) = []) := by
    simp only [wordL, hc, Bool.true_and]
    rw [Bool.eq_iff_iff, decide_eq_true_eq, List.filter_eq_nil_iff]
    simp [hca]
  rw [← z2] at z
  generalize ((c :: r).filter fun c => !isAl c).map sgn = ys at cc z
  generalize wordL (c :: r) = w at z ⊢
  simp only [aEnv] at cc ⊢
  unfold atomIf
  cases w <;> simp [s_nil, e0n, hz, K10.in_sgn, let_in', hc, cc, z]
theorem atomIf_no {W : Nat} {cl : Cal} {l : List Nat} {h : Hs} (ok : okL l) (hl : l.length ≤ 5000) (hc : ∀ c r, l = c :: r → isLet c = false) : evS D W cl atomIf (aEnv l none) h = .nx (aEnv l none) h := by
  have hz : (Sx l).length ≤ 1000000 := by rw [Sx_len]; omega
  have e0n : eqT h (.str (Sx l)) (.str (Sx [])) = some (decide (l = [])) := eq_Sx ok (by intro c hc; cases hc)
  unfold atomIf
  cases l with
  | nil => simp [s_nil, e0n]
  | cons c r =>
    have q := hc c r rfl
    have e0n : eqT h (.str (Sx (c :: r))) (.str (Sx [])) = some false := e0n.trans (by simp)
    simp [s_nil, e0n, hz, K10.in_sgn, let_in', q]
theorem atomSet_ok {W : Nat} {cl : Cal} {l : List Nat} {h : Hs} (ok : okL l) (hl : l.length ≤ 5000) : evS D W cl atomSet (aEnv l none) h = .nx (aEnv l (some (.str (Sx (digsL l))))) h := by
  have hz : (Sx l).length ≤ 1000000 := by rw [Sx_len]; omega
  have e1 : eqT h (.str (Sx (l.take 1))) (.str (Sx [45])) = some (isNeg l) := eq_Sx (okL_take ok 1) (ok1 (by decide))
  unfold atomSet digsL
  cases hn : isNeg l <;> simp [hz, cut_to1, cut_from1, s_dash, e1, hn]
theorem atomRest_ok {W : Nat} {cl : Cal} {l : List Nat} {h : Hs} (ok : okL l) (hl : l.length ≤ 5000) : (evSs D W cl atomRest (aEnv l (some (.str (Sx (digsL l))))) h).fin = .ok (if numOk l = true then .tup [.int (numV l)] else .non) h := by
  have e0z : eqT h (.str (Sx l)) (.str (Sx [48])) = some (decide (l = [48])) := eq_Sx ok (ok1 (by decide))
  have okd := digs_ok ok
  have hd := digs_len (run := l)
  have e2 : eqT h (.str (Sx (digsL l))) (.str (Sx [])) = some (decide (digsL l = [])) := eq_Sx okd (by intro c hc; cases hc)
  have hz2 : (digsL l).length ≤ 1000000 := by omega
  have cc := ev_compF (D := D) (cl := cl) (env := aEnv l (some (.str (Sx (digsL l))))) (h := h) (h1 := h) (i := 3) (it := .seq (.var 4)) (c := .cmp .nin (.var 3) (.var 2)) (e := .var 3) (vs := [3]) (xs := (digsL l).map sgn) (p := fun x => !isDig (sgC x)) (g := fun x => x) rfl (by simp) (by rw [List.length_map]; simp only [lim_eq]; omega) (fun x hx => by
        obtain ⟨y, hy, rfl⟩ := List.mem_map.mp hx
        simp [wipeT, K10.in_sgn, dig_in', sgC_sgn]) (fun x hx _ => by simp [wipeT])
  rw [filt_map (fun c => !isDig c)] at cc
  have z := signs_nil (h := h) (l := (digsL l).filter fun c => !isDig c) (fun d hd => okd d (List.mem_filter.mp hd).1)
  have z2 : decide (((digsL l).filter fun c => !isDig c) = []) = (digsL l).all isDig := by
    rw [Bool.eq_iff_iff, decide_eq_true_eq, List.filter_eq_nil_iff]
    simp
  rw [z2] at z
  generalize ((digsL l).filter fun c => !isDig c).map sgn = ys at cc z
  simp only [aEnv] at cc
  by_cases d0 : digsL l = []
  · have nn : numOk l = false := by simp [numOk, d0]
    rw [decide_eq_true d0] at e2
    simp [atomRest, s_nil, e2, nn]
  rw [decide_eq_false d0] at e2
  by_cases d2 : (digsL l).all isDig = true
  · by_cases d1 : (digsL l).length ≤ 40
    · have d1' : ¬ (40 : Int) < ((digsL l).length : Int) := by omega
      obtain ⟨c, r, hdg⟩ : ∃ c r, digsL l = c :: r := by cases q : digsL l with
        | nil => exact absurd q d0
        | cons c r => exact ⟨c, r, rfl⟩
      have e3 : eqT h (sgn c) (.str (Sx [48])) = some (decide (c = 48)) := by
        rw [sgn_Sx, eq_Sx (ok1 (okd c (by rw [hdg]; simp))) (ok1 (by decide))]
        simp
      have ix0 : (digsL l)[0]? = some c := by rw [hdg]; rfl
      have hh : (digsL l).head? = some c := by rw [hdg]; rfl
      have l48 : decide (l = [48]) = (!(isNeg l || !decide (digsL l = [48]))) := by
        rw [Bool.eq_iff_iff]
        cases hn : isNeg l with
        | true =>
          simp
          rintro rfl
          exact absurd hn (by decide)
        | false => simp [digsL, hn]
      have nk : numOk l = (!(decide (c = 48) && !decide (l = [48]))) := by
        unfold numOk
        rw [d2, l48, hh]
        simp [d1, d0]
      have it : numOk l = true → toInt (.str (Sx l)) = some (.int (numV l)) := int_run
      rw [d2] at z
      generalize decide (c = 48) = b1 at e3 nk
      generalize decide (l = [48]) = b2 at e0z nk
      cases b1 <;> cases b2 <;> simp at nk <;> simp [nk] at it <;> simp [atomRest, s_nil, s_zero, e2, cc, z, Sx_len, hz2, d1', ix0, e3, e0z, nk, it]
    · have d1' : (40 : Int) < ((digsL l).length : Int) := by omega
      have nn : numOk l = false := by simp [numOk, d1]
      rw [d2] at z
      simp [atomRest, s_nil, s_zero, e2, cc, z, Sx_len, hz2, d1', nn]
  · have nn : numOk l = false := by simp [numOk, d2]
    have d2' : (digsL l).all isDig = false := by simpa using d2
    rw [d2'] at z
    simp [atomRest, s_nil, s_zero, e2, cc, z, nn]
theorem law_atom_ok {W n : Nat} {l : List Nat} {h : Hs} (ok : okL l) (hl : l.length ≤ 5000) : callN D W (n + 1) 16 [.str (Sx l)] h = .ok (atomR l) h := by
  rw [callN_eq atom_fn rfl (by decide), atom_body]
  have e0 : eqT h (.str (Sx l)) (.str (Sx [45])) = some (decide (l = [45])) := eq_Sx ok (ok1 (by decide))
  unfold atomR atomL
  by_cases h1 : l = [45]
  · rw [decide_eq_true h1] at e0
    rw [if_pos h1]
    simp [s_dash, e0, bindG, bindTs]
  rw [decide_eq_false h1] at e0
  rw [if_neg h1]
  by_cases hf : ∃ c r, l = c :: r ∧ isLet c = true
  · obtain ⟨c, r, rfl, hc⟩ := hf
    have y := atomIf_yes (W := W) (cl := callN D W n) (h := h) ok hl hc
    simp only [aEnv] at y
    have nn : numOk (c :: r) = false := by
      have hi : isNeg (c :: r) = false := by
        unfold isNeg
        simp
        rintro rfl
        exact absurd hc (by decide)
      have hdc : isDig c = false := by
        unfold isLet at hc
        unfold isDig
        simp at hc ⊢
        omega
      simp [numOk, digsL, hi, hdc]
    cases hw : wordL (c :: r) <;> simp [s_dash, e0, bindG, bindTs, y, hw, nn]
  have hq : ∀ c r, l = c :: r → isLet c = false := fun c r e => by
    cases q : isLet c with
    | false => rfl
    | true => exact absurd ⟨c, r, e, q⟩ hf
  have hw : wordL l = false := by
    cases l with
    | nil => rfl
    | cons c r => simp [wordL, hq c r rfl]
  have y1 := atomIf_no (W := W) (cl := callN D W n) (h := h) ok hl hq
  have y2 := atomSet_ok (W := W) (cl := callN D W n) (h := h) ok hl
  have y3 := atomRest_ok (W := W) (cl := callN D W n) (h := h) ok hl
  simp only [aEnv] at y1 y2 y3
  cases hn : numOk l <;> simp [hn] at y3 <;> simp [s_dash, e0, bindG, bindTs, y1, y2, y3, hw]
end K10
end

section
set_option Elab.async false
set_option linter.all false
set_option maxRecDepth 10000
/-! K10p9: the law's own reader follows the relation V. -/
namespace K10
open PySem Fs Fp
theorem evS_for {D : Tb} {W : Nat} {cl : Cal} {env : En} {h : Hs} {t : Tg} {it : It} {b : Ss} : evS D W cl (.for_ t it b) env h = (evI D cl it env h).toS env fun xs h1 => forL t (fun env2 h2 => evSs D W cl b env2 h2) xs env h1 := by simp only [evS]
theorem forL_nil {t : Tg} {b : En → Hs → SR} {env : En} {h : Hs} : forL t b [] env h = .nx env h := rfl
theorem forL_eq {i : Nat} {b : En → Hs → SR} {x : T} {r : List T} {env : En} {h : Hs} : forL (.nm i) b (x :: r) env h = match b (env.set i (some x)) h with
  | .nx env2 h2 => forL (.nm i) b r env2 h2
  | .cont env2 h2 => forL (.nm i) b r env2 h2
  | .brk env2 h2 => .nx env2 h2
  | q => q := rfl
theorem forL_nx {i : Nat} {b : En → Hs → SR} {x : T} {r : List T} {env env2 : En} {h h2 : Hs} (e : b (env.set i (some x)) h = .nx env2 h2) : forL (.nm i) b (x :: r) env h = forL (.nm i) b r env2 h2 := by
  rw [forL_eq, e]
theorem forL_cont {i : Nat} {b : En → Hs → SR} {x : T} {r : List T} {env env2 : En} {h h2 : Hs} (e : b (env.set i (some x)) h = .cont env2 h2) : forL (.nm i) b (x :: r) env h = forL (.nm i) b r env2 h2 := by
  rw [forL_eq, e]
theorem forL_ret {i : Nat} {b : En → Hs → SR} {x v : T} {r : List T} {env : En} {h h2 : Hs} (e : b (env.set i (some x)) h = .ret v h2) : forL (.nm i) b (x :: r) env h = .ret v h2 := by
  rw [forL_eq, e]
theorem range_nat {p q : Nat} (hp : p < 1000000000) (hq : q < 1000000000) : rangeT (p : Int) (q : Int) = some ((List.range' p (q - p)).map fun i : Nat => T.int (i : Int)) := by
  unfold rangeT
  rw [if_pos (by simp; omega), List.range'_eq_map_range, List.map_map, show ((q : Int) - (p : Int)).toNat = q - p by omega]
  rfl
theorem rng2_ok {D : Tb} {cl : Cal} {env : En} {h h1 h2 : Hs} {a b : E} {i j : Int} {xs : List T} (ea : (ev D cl a env h).v = .ok (.int i) h1) (eb : (ev D cl b env h1).v = .ok (.int j) h2) (hr : rangeT i j = some xs) : evI D cl (.rng2 a b) env h = .ok xs h2 := by
  rw [evI_rng2, ea, R.bind_ok, eb, R.bind_ok, intT_int]
  show R.ofO (rangeT i j) h2 = _
  rw [hr]
  rfl
theorem rng_ok {D : Tb} {cl : Cal} {env : En} {h h1 : Hs} {a : E} {i : Int} {xs : List T} (ea : (ev D cl a env h).v = .ok (.int i) h1) (hr : rangeT 0 i = some xs) : evI D cl (.rng a) env h = .ok xs h1 := by
  rw [evI_rng, ea, R.bind_ok, intT_int]
  show R.ofO (rangeT 0 i) h1 = _
  rw [hr]
  rfl
theorem run_end {x : List Nat} {q : Nat} (h : x.length ≤ q) : runL x q = [] := by
  unfold runL
  rw [List.drop_eq_nil_of_le h]
  rfl
theorem run_step {x : List Nat} {q : Nat} (h : q < x.length) : runL x q = if stopC x[q] = true then [] else x[q] :: runL x (q + 1) := by
  unfold runL
  rw [List.drop_eq_getElem_cons h, List.takeWhile_cons]
  cases stopC x[q] <;> simp
theorem run_cut (x : List Nat) (p : Nat) : (x.drop p).take (runL x p).length = runL x p := by
  unfold runL
  exact (List.prefix_iff_eq_take.mp (List.takeWhile_prefix _)).symm
theorem run_okL {x : List Nat} (ok : okL x) (p : Nat) : okL (runL x p) := by
  rw [← run_cut]
  exact okL_take (okL_drop ok _) _
theorem run_len_le (x : List Nat) (p : Nat) : (runL x p).length ≤ x.length := by
  unfold runL
  have := (List.takeWhile_sublist (fun c => !stopC c) (l := x.drop p)).length_le
  rw [List.length_drop] at this
  omega
theorem stop_in (c : Nat) : decide (c ∈ [32, 40, 41]) = stopC c := by
  unfold stopC
  rw [Bool.eq_iff_iff]
  simp
def endB : Ss := .cons (.set 2 (.ite (.andv (.cons (.cmp .eq (.var 3) (.var 2)) (.cons (.cmp .nin (.ix (.var 0) (.var 3)) (.str " ()")) (.nil)))) (.bin .add (.var 3) (.int 1)) (.var 2))) (.nil)
theorem end_loop {x : List Nat} (hl : x.length ≤ 5000) {W p : Nat} {cl : Cal} {h : Hs} : ∀ (m q : Nat) (u : Option T), q + m = x.length →
    (∀ e : Nat, e < q → ∃ u', forL (.nm 3) (fun env2 h2 => evSs D W cl endB env2 h2) ((List.range' q m).map fun i : Nat => T.int (i : Int)) [some (.str (Sx x)), some (.int (p : Int)), some (.int (e : Int)), u, none, none, none, none] h = .nx [some (.str (Sx x)), some (.int (p : Int)), some (.int (e : Int)), u', none, none, none, none] h) ∧
    ∃ u', forL (.nm 3) (fun env2 h2 => evSs D W cl endB env2 h2) ((List.range' q m).map fun i : Nat => T.int (i : Int)) [some (.str (Sx x)), some (.int (p : Int)), some (.int (q : Int)), u, none, none, none, none] h = .nx [some (.str (Sx x)), some (.int (p : Int)), some (.int ((q + (runL x q).length : Nat) : Int)), u', none, none, none, none] h := by
  intro m
  induction m with
  | zero =>
    intro q u hq
    refine ⟨fun e he => ⟨u, by simp [forL_nil]⟩, u, ?_⟩
    rw [run_end (by omega)]
    simp [forL_nil]
  | succ m ih =>
    intro q u hq
    have hq1 : q < x.length := by omega
    have hz : (Sx x).length ≤ 1000000 := by rw [Sx_len]; omega
    rw [List.range'_succ, List.map_cons]
    constructor
    · intro e he
      obtain ⟨u', r⟩ := (ih (q + 1) (some (.int (q : Int))) (by omega)).1 e (by omega)
      refine ⟨u', ?_⟩
      have ne : ¬ ((q : Int) = (e : Int)) := by omega
      rw [forL_nx (env2 := [some (.str (Sx x)), some (.int (p : Int)), some (.int (e : Int)), some (.int (q : Int)), none, none, none, none]) (h2 := h) (by simp [endB, ne])]
      exact r
    · have hin : inT h (sgn x[q]) (.str (Sx [32, 40, 41])) = some (stopC x[q]) := by rw [Fp.in_Sx, stop_in]
      rw [run_step hq1]
      cases hs : stopC x[q] with
      | true =>
        obtain ⟨u', r⟩ := (ih (q + 1) (some (.int (q : Int))) (by omega)).1 q (by omega)
        refine ⟨u', ?_⟩
        rw [forL_nx (env2 := [some (.str (Sx x)), some (.int (p : Int)), some (.int (q : Int)), some (.int (q : Int)), none, none, none, none]) (h2 := h) (by simp [endB, hz, s_stop, hq1, hin, hs])]
        simpa using r
      | false =>
        obtain ⟨u', r⟩ := (ih (q + 1) (some (.int (q : Int))) (by omega)).2
        refine ⟨u', ?_⟩
        rw [forL_nx (env2 := [some (.str (Sx x)), some (.int (p : Int)), some (.int ((q + 1 : Nat) : Int)), some (.int (q : Int)), none, none, none, none]) (h2 := h) (by simp [endB, hz, s_stop, hq1, hin, hs])]
        rw [r]
        simp
        omega
def Gr (h h' : Hs) : Prop := h.length ≤ h'.length ∧ ∀ j, j < h.length → h'[j]? = h[j]?
theorem Gr.refl {h : Hs} : Gr h h := ⟨Nat.le_refl _, fun _ _ => rfl⟩
theorem Gr.but {h h' : Hs} (g : Gr h h') (k : Nat) : But k h h' := ⟨g.1, fun j hj _ => g.2 j hj⟩
theorem but_gr {h h' : Hs} (o : Ob) (b : But h.length (h ++ [o]) h') : Gr h h' := by
  have := b.len
  rw [List.length_append] at this
  simp only [List.length_cons, List.length_nil] at this
  refine ⟨by omega, fun j hj => ?_⟩
  rw [b.old j (by rw [List.length_append]; omega) (by omega), List.getElem?_append_left hj]
def resT : PR → T
  | .ok t e => .tup [t, .int (e : Int)]
  | .err e => .tup [.non, .int (-1 - (e : Int))]
theorem take_one {x : List Nat} {p c : Nat} : decide ((x.drop p).take 1 = [c]) = decide (x[p]? = some c) := by
  rw [Bool.eq_iff_iff, decide_eq_true_eq, decide_eq_true_eq]
  by_cases h : p < x.length
  · rw [List.drop_eq_getElem_cons h, List.take_succ_cons, List.take_zero, List.getElem?_eq_getElem h]
    simp
  · rw [List.drop_eq_nil_of_le (by omega), List.getElem?_eq_none (by omega)]
    simp
theorem cut_one (x : List Nat) (p : Nat) : L2.cutS (Sx x) (some (p : Int)) (some ((p : Int) + 1)) = Sx ((x.drop p).take 1) := by
  have := cut_mid x p (p + 1)
  rw [show p + 1 - p = 1 by omega] at this
  exact this
theorem sign_is {h : Hs} {x : List Nat} (ok : okL x) {p c : Nat} (hc : c < 128) : eqT h (.str (Sx ((x.drop p).take 1))) (.str (Sx [c])) = some (decide (x[p]? = some c)) := by
  rw [eq_Sx (okL_take (okL_drop ok _) _) (ok1 hc), take_one]
def atB : Ss := .cons (.ifs (.cmp .eq (.sl (.var 0) (.var 1) (.bin .add (.var 1) (.int 1))) (.str ")")) (.cons (.ret (.tup (.cons (.bi .tuple (.cons (.var 5) (.nil))) (.cons (.bin .add (.var 1) (.int 1)) (.nil))))) (
.nil)) (.nil)) (
.cons (.ifs (.andv (.cons (.cmp .ne (.var 5) (.lstI (.nil))) (.cons (.cmp .ne (.sl (.var 0) (.var 1) (.bin .add (.var 1) (.int 1))) (.str " ")) (.nil)))) (.cons (.ret (.tup (.cons (.non) (.cons (.bin .sub (.neg (.int 1)) (.var 1)) (.nil))))) (
.nil)) (.nil)) (
.cons (.setT [7, 2] (.call 10 (.cons (.var 0) (.cons (.ite (.cmp .ne (.var 5) (.lstI (.nil))) (.bin .add (.var 1) (.int 1)) (.var 1)) (.nil))))) (
.cons (.ifs (.cmp .lt (.var 2) (.int 0)) (.cons (.ret (.tup (.cons (.non) (.cons (.var 2) (.nil))))) (
.nil)) (.nil)) (
.cons (.ex (.bm .append (.var 5) (.cons (.var 7) (.nil)))) (
.cons (.set 1 (.var 2)) (
.nil))))))
theorem at_body : f__law_at = .cons (.ifs (.cmp .ne (.sl (.var 0) (.var 1) (.bin .add (.var 1) (.int 1))) (.str "(")) (.cons (.set 2 (.var 1)) (
    .cons (.for_ (.nm 3) (.rng2 (.var 1) (.bi .len (.cons (.var 0) (.nil)))) endB) (
    .cons (.set 4 (.call 16 (.cons (.sl (.var 0) (.var 1) (.var 2)) (.nil)))) (
    .cons (.ret (.ite (.cmp .nis (.var 4) (.non)) (.tup (.cons (.ix (.var 4) (.int 0)) (.cons (.var 2) (.nil)))) (.tup (.cons (.non) (.cons (.bin .sub (.neg (.int 1)) (.var 1)) (.nil)))))) (
    .nil))))) (.nil)) (
    .cons (.par [5, 1] (.cons (.lstM (.nil)) (.cons (.bin .add (.var 1) (.int 1)) (.nil)))) (
    .cons (.for_ (.nm 6) (.rng (.bin .add (.bi .len (.cons (.var 0) (.nil))) (.int 1))) atB) (
    .cons (.ret (.tup (.cons (.non) (.cons (.bin .sub (.neg (.int 1)) (.var 1)) (.nil))))) (
    .nil)))) := rfl
theorem at_fn : D.fns[10]? = some ⟨none, "_law_at", 2, 8, f__law_at⟩ := rfl
def AtP (x : List Nat) (W : Nat) : Option (List T) → Nat → Nat → PR → Prop
  | none, d, p, r => p ≤ x.length → ∀ (n : Nat) (h : Hs), d + 3 ≤ n → ∃ h', callN D W n 10 [.str (Sx x), .int (p : Int)] h = .ok (resT r) h' ∧ Gr h h'
  | some acc, d, p, r => p ≤ x.length → (∀ a ∈ acc, QV d a) → acc.length ≤ p → ∀ (n : Nat) (h : Hs) (k : Nat) (L : List T) (e2 e3 e4 e6 e7 : Option T), d + 3 ≤ n → h[k]? = some (.lst acc) → x.length - p < L.length →
      ∃ h', forL (.nm 6) (fun env2 h2 => evSs D W (callN D W n) atB env2 h2) L [some (.str (Sx x)), some (.int (p : Int)), e2, e3, e4, some (.ref k), e6, e7] h = .ret (resT r) h' ∧ But k h h'
theorem bm_app {h : Hs} {k : Nat} {ts : List T} {x : T} (e : h[k]? = some (.lst ts)) (hl : ts.length < 1000000) : bmT .append h (.ref k) [x] = some (.non, h.set k (.lst (ts ++ [x]))) := by
  simp [bmT, e, hl]
theorem bmOk_app {h : Hs} {k : Nat} {ts : List T} (e : h[k]? = some (.lst ts)) : bmOk .append h (.ref k) = true := by
  simp [bmOk, e]
theorem tup_ref {h : Hs} {k : Nat} {ts : List T} (e : h[k]? = some (.lst ts)) : toTup h (.ref k) = some (.tup ts) := by
  simp [toTup, e]
theorem at_atom {x : List Nat} {W : Nat} (ok : okL x) (hl : x.length ≤ 5000) (d p n : Nat) (h : Hs) (h40 : x[p]? ≠ some 40) (hn : d + 3 ≤ n) (hp : p < 1000000) : callN D W n 10 [.str (Sx x), .int (p : Int)] h = .ok (match atomL (runL x p) with
      | some t => resT (.ok t (p + (runL x p).length))
      | none => resT (.err p)) h := by
    have hz : (Sx x).length ≤ 1000000 := by rw [Sx_len]; omega
    have hz' : x.length ≤ 1000000 := by omega
    obtain ⟨n, rfl⟩ : ∃ m, n = m + 2 := ⟨n - 2, by omega⟩
    rw [callN_eq at_fn rfl (by decide)]
    have s1 := sign_is (h := h) ok (p := p) (c := 40) (by decide)
    rw [decide_eq_false h40] at s1
    have hr : rangeT (p : Int) (x.length : Int) = some ((List.range' p (x.length - p)).map fun i : Nat => T.int (i : Int)) := range_nat (by omega) (by omega)
    have lp : ∃ u', forL (.nm 3) (fun env2 h2 => evSs D W (callN D W (n + 1)) endB env2 h2) ((List.range' p (x.length - p)).map fun i : Nat => T.int (i : Int)) [some (.str (Sx x)), some (.int (p : Int)), some (.int (p : Int)), none, none, none, none, none] h = .nx [some (.str (Sx x)), some (.int (p : Int)), some (.int ((p + (runL x p).length : Nat) : Int)), u', none, none, none, none] h := by
      by_cases hpx : p ≤ x.length
      · exact (end_loop hl (x.length - p) p none (by omega)).2
      · rw [show x.length - p = 0 by omega, run_end (by omega)]
        exact ⟨none, by simp [forL_nil]⟩
    obtain ⟨u, lp⟩ := lp
    have cut : L2.cutS (Sx x) (some (p : Int)) (some ((p + (runL x p).length : Nat) : Int)) = Sx (runL x p) := by
      rw [cut_mid, show p + (runL x p).length - p = (runL x p).length by omega, run_cut]
    have at1 := law_atom_ok (W := W) (n := n) (h := h) (run_okL ok p) (Nat.le_trans (run_len_le x p) hl)
    have fs : evS D W (callN D W (n + 1)) (.for_ (.nm 3) (.rng2 (.var 1) (.bi .len (.cons (.var 0) (.nil)))) endB) [some (.str (Sx x)), some (.int (p : Int)), some (.int (p : Int)), none, none, none, none, none] h = .nx [some (.str (Sx x)), some (.int (p : Int)), some (.int ((p + (runL x p).length : Nat) : Int)), u, none, none, none, none] h := by
      have hi : evI D (callN D W (n + 1)) (.rng2 (.var 1) (.bi .len (.cons (.var 0) (.nil)))) [some (.str (Sx x)), some (.int (p : Int)), some (.int (p : Int)), none, none, none, none, none] h = .ok ((List.range' p (x.length - p)).map fun i : Nat => T.int (i : Int)) h := by
        exact rng2_ok (i := (p : Int)) (j := (x.length : Int)) (h1 := h) (by simp) (by simp [Sx_len, hz']) hr
      rw [evS_for, hi, R.toS_ok]
      exact lp
    rw [Int.natCast_add] at cut fs
    rw [at_body]
    simp [s_open, hz, cut_one, s1, fs, cut, at1]
    unfold atomR
    cases atomL (runL x p) with
    | none => simp [resT]
    | some t => simp [resT]
/-- in the loop: no closing sign here, and the item's place -/
theorem at_ok {x : List Nat} {W : Nat} (ok : okL x) (hl : x.length ≤ 5000) {mo : Option (List T)} {d p : Nat} {r : PR} (v : V x mo d p r) : d ≤ 50 → AtP x W mo d p r := by
  have hz : (Sx x).length ≤ 1000000 := by rw [Sx_len]; omega
  have hz' : x.length ≤ 1000000 := by omega
  induction v with
  | atom d p t h1 h2 =>
    intro hd px n h hn
    refine ⟨h, ?_, Gr.refl⟩
    rw [at_atom ok hl d p n h h1 hn (by omega), h2]
  | bad d p h1 h2 =>
    intro hd px n h hn
    refine ⟨h, ?_, Gr.refl⟩
    rw [at_atom ok hl d p n h h1 hn (by omega), h2]
  | list d p r h1 v ih =>
    intro hd px n h hn
    obtain ⟨n, rfl⟩ : ∃ m, n = m + 1 := ⟨n - 1, by omega⟩
    have s1 := sign_is (h := h) ok (p := p) (c := 40) (by decide)
    rw [decide_eq_true h1] at s1
    have hr := rangeT_nat (n := ((x.length : Nat) : Int) + 1) (by omega) (by omega)
    obtain ⟨h', e, b⟩ := ih (by omega) (some_lt h1) (fun a ha => by cases ha) (Nat.zero_le _) n (h ++ [.lst []]) h.length ((List.range ((x.length : Int) + 1).toNat).map fun i : Nat => T.int (i : Int)) none none none none none (by omega) (by simp) (by simp; omega)
    have fs : evS D W (callN D W n) (.for_ (.nm 6) (.rng (.bin .add (.bi .len (.cons (.var 0) (.nil))) (.int 1))) atB) [some (.str (Sx x)), some (.int ((p + 1 : Nat) : Int)), none, none, none, some (.ref h.length), none, none] (h ++ [.lst []]) = .ret (resT r) h' := by
      have hi : evI D (callN D W n) (.rng (.bin .add (.bi .len (.cons (.var 0) (.nil))) (.int 1))) [some (.str (Sx x)), some (.int ((p + 1 : Nat) : Int)), none, none, none, some (.ref h.length), none, none] (h ++ [.lst []]) = .ok ((List.range ((x.length : Int) + 1).toNat).map fun i : Nat => T.int (i : Int)) (h ++ [.lst []]) := by
        exact rng_ok (i := (x.length : Int) + 1) (by simp [Sx_len, hz']) hr
      rw [evS_for, hi, R.toS_ok]
      exact e
    rw [Int.natCast_add, Int.natCast_one] at fs
    rw [callN_eq at_fn rfl (by decide), at_body]
    refine ⟨h', ?_, but_gr _ b⟩
    simp [s_open, hz, cut_one, s1, bindTs, fs]
  | close d p acc h =>
    intro hd px qa ha n hh k L e2 e3 e4 e6 e7 hn hk hL
    cases L with
    | nil => simp at hL
    | cons y L =>
      have s1 := sign_is (h := hh) ok (p := p) (c := 41) (by decide)
      rw [decide_eq_true h] at s1
      refine ⟨hh, ?_, But.refl⟩
      rw [forL_ret (v := resT (.ok (.tup acc) (p + 1))) (h2 := hh)]
      simp [atB, s_close, hz, cut_one, s1, tup_ref hk, resT]
  | gap d p acc h1 h2 h3 =>
    intro hd px qa ha n hh k L e2 e3 e4 e6 e7 hn hk hL
    cases L with
    | nil => simp at hL
    | cons y L =>
      have s1 := sign_is (h := hh) ok (p := p) (c := 41) (by decide)
      rw [decide_eq_false h2] at s1
      have s2 := sign_is (h := hh) ok (p := p) (c := 32) (by decide)
      rw [decide_eq_false h3] at s2
      have s3 := ne_nil hk qa (by omega)
      rw [decide_eq_false h1] at s3
      refine ⟨hh, ?_, But.refl⟩
      rw [forL_ret (v := resT (.err p)) (h2 := hh)]
      simp [atB, s_close, s_gap, hz, cut_one, s1, s2, s3, resT]
  | ierr d p q e acc h1 h2 v ih =>
    intro hd px qa ha n hh k L e2 e3 e4 e6 e7 hn hk hL
    cases L with
    | nil => simp at hL
    | cons y L =>
      have s1 := sign_is (h := hh) ok (p := p) (c := 41) (by decide)
      rw [decide_eq_false h1] at s1
      have s3 := ne_nil hk qa (by omega)
      have qx : q ≤ x.length := by
        rcases h2 with ⟨_, rfl⟩ | ⟨_, h32, rfl⟩
        · exact px
        · exact some_lt h32
      obtain ⟨h', e', g⟩ := ih hd qx n hh hn
      refine ⟨h', ?_, g.but k⟩
      have neg : (-1 : Int) - (e : Int) < 0 := by omega
      rw [forL_ret (v := resT (.err e)) (h2 := h')]
      rcases h2 with ⟨rfl, rfl⟩ | ⟨hne, h32, rfl⟩
      · rw [decide_eq_true rfl] at s3
        simp [atB, s_close, s_gap, hz, cut_one, s1, s3, e', resT, bindG, bindTs, neg]
      · rw [decide_eq_false hne] at s3
        have s2 := sign_is (h := hh) ok (p := p) (c := 32) (by decide)
        rw [decide_eq_true h32] at s2
        rw [Int.natCast_add, Int.natCast_one] at e'
        simp [atB, s_close, s_gap, hz, cut_one, s1, s2, s3, e', resT, bindG, bindTs, neg]
  | item d p q e acc t r h1 h2 v v2 ih ih2 =>
    intro hd px qa ha n hh k L e2 e3 e4 e6 e7 hn hk hL
    cases L with
    | nil => simp at hL
    | cons y L =>
      have s1 := sign_is (h := hh) ok (p := p) (c := 41) (by decide)
      rw [decide_eq_false h1] at s1
      have s3 := ne_nil hk qa (by omega)
      have qx : q ≤ x.length := by
        rcases h2 with ⟨_, rfl⟩ | ⟨_, h32, rfl⟩
        · exact px
        · exact some_lt h32
      obtain ⟨h', e', g⟩ := ih hd qx n hh hn
      have adv := v.adv t e rfl
      have hqp : p ≤ q := by rcases h2 with ⟨_, rfl⟩ | ⟨_, _, rfl⟩ <;> omega
      have neg : ¬ (e : Int) < 0 := by omega
      have hkl : k < hh.length := (List.getElem?_eq_some_iff.mp hk).1
      have hk' : h'[k]? = some (.lst acc) := by rw [g.2 k hkl]; exact hk
      have hk2 : (h'.set k (.lst (acc ++ [t])))[k]? = some (.lst (acc ++ [t])) := List.getElem?_set_self (Nat.lt_of_lt_of_le hkl g.1)
      have qt : QV d t := ((v.inv t e rfl).1 rfl).1
      simp only [List.length_cons] at hL
      obtain ⟨h'', e'', b⟩ := ih2 hd adv.2 (fun a ha => by
        rcases List.mem_append.mp ha with ha | ha
        · exact qa a ha
        · simp only [List.mem_cons, List.not_mem_nil, or_false] at ha
          subst ha
          exact qt) (by simp; omega) n (h'.set k (.lst (acc ++ [t]))) k L (some (.int (e : Int))) e3 e4 (some y) (some t) hn hk2 (by omega)
      refine ⟨h'', ?_, (g.but k).trans (But.set.trans b)⟩
      have hacc : acc.length < 1000000 := by omega
      rw [forL_nx (env2 := [some (.str (Sx x)), some (.int (e : Int)), some (.int (e : Int)), e3, e4, some (.ref k), some y, some t]) (h2 := h'.set k (.lst (acc ++ [t])))]
      · exact e''
      · rcases h2 with ⟨rfl, rfl⟩ | ⟨hne, h32, rfl⟩
        · rw [decide_eq_true rfl] at s3
          simp [atB, s_close, s_gap, hz, cut_one, s1, s3, e', resT, bindG, bindTs, neg, bmOk_app hk', bm_app hk']
        · rw [decide_eq_false hne] at s3
          have s2 := sign_is (h := hh) ok (p := p) (c := 32) (by decide)
          rw [decide_eq_true h32] at s2
          rw [Int.natCast_add, Int.natCast_one] at e'
          simp [atB, s_close, s_gap, hz, cut_one, s1, s2, s3, e', resT, bindG, bindTs, neg, bmOk_app hk', bm_app hk' hacc]
end K10
end

section
set_option Elab.async false
set_option linter.all false
set_option maxRecDepth 10000
/-! K10q1: the package's reader (class Values) follows the relation V. -/
namespace K10
open PySem Fs Fp
theorem evS_whil {D : Tb} {W : Nat} {cl : Cal} {env : En} {h : Hs} {c : E} {b : Ss} : evS D W cl (.whil c b) env h = whileL (fun env2 h2 => (ev D cl c env2 h2).t) (fun env2 h2 => evSs D W cl b env2 h2) W env h := by simp only [evS]
theorem while_no {c : En → Hs → R Bool} {b : En → Hs → SR} {m : Nat} {env : En} {h h1 : Hs} (e : c env h = .ok false h1) : whileL c b (m + 1) env h = .nx env h1 := by
  show (c env h).toS env _ = _
  rw [e]
  rfl
theorem while_nx {c : En → Hs → R Bool} {b : En → Hs → SR} {m : Nat} {env env2 : En} {h h1 h2 : Hs} (e : c env h = .ok true h1) (e2 : b env h1 = .nx env2 h2) : whileL c b (m + 1) env h = whileL c b m env2 h2 := by
  show (c env h).toS env _ = _
  rw [e, R.toS_ok, if_pos rfl, e2]
theorem while_exc {c : En → Hs → R Bool} {b : En → Hs → SR} {m k : Nat} {xs : List T} {env env2 : En} {h h1 h2 : Hs} (e : c env h = .ok true h1) (e2 : b env h1 = .exc k xs env2 h2) : whileL c b (m + 1) env h = .exc k xs env2 h2 := by
  show (c env h).toS env _ = _
  rw [e, R.toS_ok, if_pos rfl, e2]
def vals (x : List Nat) (p : Int) : Ob := .ins 3 [("signs", .str (Sx x)), ("at", .int p)]
section
variable {h : Hs} {k : Nat} {x : List Nat} {p : Int}
theorem f_at (e : h[k]? = some (vals x p)) : fieldOf D h (.ref k) "at" = some (.int p) := by
  unfold fieldOf
  dsimp only
  rw [e]
  rfl
theorem f_signs (e : h[k]? = some (vals x p)) : fieldOf D h (.ref k) "signs" = some (.str (Sx x)) := by
  unfold fieldOf
  dsimp only
  rw [e]
  rfl
theorem s_at (e : h[k]? = some (vals x p)) (q : Int) : setAtT D h (.ref k) "at" (.int q) = some (h.set k (vals x q)) := by
  unfold setAtT
  dsimp only
  rw [e]
  rfl
theorem m_14 (e : h[k]? = some (vals x p)) : methOk D h 14 (.ref k) = true := by
  unfold methOk
  dsimp only
  rw [e]
  rfl
theorem m_15 (e : h[k]? = some (vals x p)) : methOk D h 15 (.ref k) = true := by
  unfold methOk
  dsimp only
  rw [e]
  rfl
theorem m_19 (e : h[k]? = some (vals x p)) : methOk D h 19 (.ref k) = true := by
  unfold methOk
  dsimp only
  rw [e]
  rfl
theorem m_21 (e : h[k]? = some (vals x p)) : methOk D h 21 (.ref k) = true := by
  unfold methOk
  dsimp only
  rw [e]
  rfl
end
theorem next_fn : D.fns[19]? = some ⟨some 3, "is_next", 2, 2, f_Values_is_next⟩ := rfl
theorem fail_fn : D.fns[15]? = some ⟨some 3, "fail", 1, 1, f_Values_fail⟩ := rfl
theorem run_fn : D.fns[21]? = some ⟨some 3, "run", 1, 2, f_Values_run⟩ := rfl
theorem value_fn : D.fns[14]? = some ⟨some 3, "value", 2, 3, f_Values_value⟩ := rfl
theorem next_ok {W n p c k : Nat} {x : List Nat} {h : Hs} (ok : okL x) (hl : x.length ≤ 5000) (hc : c < 128) (e : h[k]? = some (vals x (p : Int))) : callN D W (n + 1) 19 [.ref k, .str (Sx [c])] h = .ok (.bl (decide (x[p]? = some c))) h := by
  rw [callN_eq next_fn rfl (by decide)]
  have hz : (Sx x).length ≤ 1000000 := by rw [Sx_len]; omega
  have s1 := sign_is (h := h) ok (p := p) hc
  simp [f_Values_is_next, f_at e, f_signs e, hz, cut_one, s1]
theorem fail_ok {W n k : Nat} {p : Int} {x : List Nat} {h : Hs} (e : h[k]? = some (vals x p)) : callN D W (n + 1) 15 [.ref k] h = .exc 0 [.int 1, .int (p + 1)] h := by
  rw [callN_eq fail_fn rfl (by decide)]
  have : excOk D 0 [.int 1, .int (p + 1)] = true := rfl
  simp [f_Values_fail, f_at e, this]
def runC : E := .andv (.cons (.cmp .lt (.var 1) (.bi .len (.cons (.attr (.var 0) "signs") (.nil)))) (.cons (.cmp .nin (.ix (.attr (.var 0) "signs") (.var 1)) (.str " ()")) (.nil)))
def runB : Ss := .cons (.set 1 (.bin .add (.var 1) (.int 1))) (.nil)
theorem run_body : f_Values_run = .cons (.set 1 (.attr (.var 0) "at")) (.cons (.whil runC runB) (.cons (.ret (.sl (.attr (.var 0) "signs") (.attr (.var 0) "at") (.var 1))) (.nil))) := rfl
theorem run_loop {W k : Nat} {P : Int} {cl : Cal} {x : List Nat} {h : Hs} (hl : x.length ≤ 5000) (e : h[k]? = some (vals x P)) : ∀ (m q : Nat), x.length - q < m →
    whileL (fun env2 h2 => (ev D cl runC env2 h2).t) (fun env2 h2 => evSs D W cl runB env2 h2) m [some (.ref k), some (.int (q : Int))] h = .nx [some (.ref k), some (.int ((q + (runL x q).length : Nat) : Int))] h := by
  have hz : (Sx x).length ≤ 1000000 := by rw [Sx_len]; omega
  have hz' : x.length ≤ 1000000 := by omega
  intro m
  induction m with
  | zero => intro q hq; omega
  | succ m ih =>
    intro q hq
    by_cases hlt : q < x.length
    · have hin : inT h (sgn x[q]) (.str (Sx [32, 40, 41])) = some (stopC x[q]) := by rw [Fp.in_Sx, stop_in]
      have lt : (q : Int) < (x.length : Int) := by omega
      have cnd : (ev D cl runC [some (.ref k), some (.int (q : Int))] h).t = .ok (!stopC x[q]) h := by
        simp [runC, f_signs e, Sx_len, hz', lt, s_stop, hlt, hin]
      rw [run_step hlt]
      cases hs : stopC x[q] with
      | true =>
        rw [hs] at cnd
        rw [while_no cnd]
        simp
      | false =>
        rw [hs] at cnd
        rw [while_nx (env2 := [some (.ref k), some (.int ((q + 1 : Nat) : Int))]) (h2 := h) cnd (by simp [runB])]
        rw [ih (q + 1) (by omega)]
        simp
        omega
    · have lt : ¬ (q : Int) < (x.length : Int) := by omega
      have cnd : (ev D cl runC [some (.ref k), some (.int (q : Int))] h).t = .ok false h := by
        simp [runC, f_signs e, Sx_len, hz', lt]
      rw [while_no cnd, run_end (by omega)]
      simp
theorem runm_ok {W n p k : Nat} {x : List Nat} {h : Hs} (hW : 5001 ≤ W) (hl : x.length ≤ 5000) (e : h[k]? = some (vals x (p : Int))) : callN D W (n + 1) 21 [.ref k] h = .ok (.str (Sx (runL x p))) h := by
  rw [callN_eq run_fn rfl (by decide), run_body]
  have hz : (Sx x).length ≤ 1000000 := by rw [Sx_len]; omega
  have lp : evS D W (callN D W n) (.whil runC runB) [some (.ref k), some (.int (p : Int))] h = .nx [some (.ref k), some (.int ((p + (runL x p).length : Nat) : Int))] h := by
    rw [evS_whil]
    exact run_loop hl e W p (by omega)
  have cut : L2.cutS (Sx x) (some (p : Int)) (some ((p + (runL x p).length : Nat) : Int)) = Sx (runL x p) := by
    rw [cut_mid, show p + (runL x p).length - p = (runL x p).length by omega, run_cut]
  rw [Int.natCast_add] at lp cut
  simp [f_at e, f_signs e, lp, hz, cut]
structure But2 (k j : Nat) (h h' : Hs) : Prop where
  len : h.length ≤ h'.length
  old : ∀ i, i < h.length → i ≠ k → i ≠ j → h'[i]? = h[i]?
theorem but_two {k j : Nat} {h h' : Hs} (b : But k h h') : But2 k j h h' := ⟨b.len, fun i a n _ => b.old i a n⟩
theorem But2.trans {k j : Nat} {h1 h2 h3 : Hs} (a : But2 k j h1 h2) (b : But2 k j h2 h3) : But2 k j h1 h3 :=
  ⟨Nat.le_trans a.len b.len, fun i h n m => (b.old i (Nat.lt_of_lt_of_le h a.len) n m).trans (a.old i h n m)⟩
theorem But2.set2 {k j : Nat} {h : Hs} {o : Ob} : But2 k j h (h.set j o) := ⟨by simp, fun i _ _ n => by rw [List.getElem?_set]; simp [Ne.symm n]⟩
def valC : E := .nott (.meth 19 (.var 0) (.cons (.str ")") (.nil)))
def valB : Ss := .cons (.ifs (.cmp .ne (.var 2) (.lstI (.nil))) (.cons (.ifs (.nott (.meth 19 (.var 0) (.cons (.str " ") (.nil)))) (.cons (.ex (.meth 15 (.var 0) (.nil))) (
.nil)) (.nil)) (
.cons (.setAt (.var 0) "at" (.bin .add (.attr (.var 0) "at") (.int 1))) (
.nil))) (.nil)) (
.cons (.ex (.bm .append (.var 2) (.cons (.meth 14 (.var 0) (.cons (.bin .sub (.var 1) (.int 1)) (.nil))) (.nil)))) (
.nil))
theorem val_body : f_Values_value = .cons (.ifs (.nott (.meth 19 (.var 0) (.cons (.str "(") (.nil)))) (.cons (.set 2 (.call 20 (.cons (.meth 21 (.var 0) (.nil)) (.nil)))) (
    .cons (.ifs (.cmp .is (.var 2) (.non)) (.cons (.ex (.meth 15 (.var 0) (.nil))) (
    .nil)) (.nil)) (
    .cons (.setAt (.var 0) "at" (.bin .add (.attr (.var 0) "at") (.bi .len (.cons (.meth 21 (.var 0) (.nil)) (.nil))))) (
    .cons (.ret (.ix (.var 2) (.int 0))) (
    .nil))))) (.nil)) (
    .cons (.ifs (.cmp .eq (.var 1) (.int 0)) (.cons (.ex (.meth 15 (.var 0) (.nil))) (
    .nil)) (.nil)) (
    .cons (.setAt (.var 0) "at" (.bin .add (.attr (.var 0) "at") (.int 1))) (
    .cons (.set 2 (.lstM (.nil))) (
    .cons (.whil valC valB) (
    .cons (.setAt (.var 0) "at" (.bin .add (.attr (.var 0) "at") (.int 1))) (
    .cons (.ret (.bi .tuple (.cons (.var 2) (.nil)))) (
    .nil))))))) := rfl
def VlN (x : List Nat) (W d p : Nat) (r : PR) : Prop := ∀ (n : Nat) (h : Hs) (k : Nat) (m : Int), (d : Int) ≤ m → d + 4 ≤ n → h[k]? = some (vals x (p : Int)) →
  match r with
  | .ok t e => ∃ h', callN D W n 14 [.ref k, .int m] h = .ok t h' ∧ h'[k]? = some (vals x (e : Int)) ∧ But k h h'
  | .err e => ∃ h', callN D W n 14 [.ref k, .int m] h = .exc 0 [.int 1, .int ((e : Int) + 1)] h' ∧ But k h h'
def VlS (x : List Nat) (W : Nat) (acc : List T) (d p : Nat) (r : PR) : Prop := (∀ a ∈ acc, QV d a) → acc.length ≤ p → ∀ (n : Nat) (h : Hs) (k j : Nat) (m : Int) (w : Nat), (d : Int) ≤ m - 1 → d + 4 ≤ n → h[k]? = some (vals x (p : Int)) → h[j]? = some (.lst acc) → j ≠ k → x.length - p < w →
  match r with
  | .ok t e => ∃ (h' : Hs) (acc' : List T) (q : Nat), whileL (fun env2 h2 => (ev D (callN D W n) valC env2 h2).t) (fun env2 h2 => evSs D W (callN D W n) valB env2 h2) w [some (.ref k), some (.int m), some (.ref j)] h = .nx [some (.ref k), some (.int m), some (.ref j)] h' ∧ h'[k]? = some (vals x (q : Int)) ∧ h'[j]? = some (.lst acc') ∧ t = .tup acc' ∧ e = q + 1 ∧ But2 k j h h'
  | .err e => ∃ h', whileL (fun env2 h2 => (ev D (callN D W n) valC env2 h2).t) (fun env2 h2 => evSs D W (callN D W n) valB env2 h2) w [some (.ref k), some (.int m), some (.ref j)] h = .exc 0 [.int 1, .int ((e : Int) + 1)] [some (.ref k), some (.int m), some (.ref j)] h' ∧ But2 k j h h'
def VlP (x : List Nat) (W : Nat) : Option (List T) → Nat → Nat → PR → Prop
  | none, d, p, r => VlN x W d p r
  | some acc, d, p, r => VlS x W acc d p r
section
variable {x : List Nat} {W : Nat} (ok : okL x) (hl : x.length ≤ 5000) (hW : 5001 ≤ W)
include ok hl hW
theorem vl_atom {d p : Nat} {t : T} (h1 : x[p]? ≠ some 40) (h2 : atomL (runL x p) = some t) : VlN x W d p (.ok t (p + (runL x p).length)) := by
  intro n h k m hm hn hk
  obtain ⟨n, rfl⟩ : ∃ m, n = m + 3 := ⟨n - 3, by omega⟩
  have hkl := (List.getElem?_eq_some_iff.mp hk).1
  refine ⟨h.set k (vals x ((p + (runL x p).length : Nat) : Int)), ?_, List.getElem?_set_self hkl, But.set⟩
  rw [callN_eq value_fn rfl (by decide), val_body]
  have s1 := next_ok (W := W) (n := n + 1) ok hl (c := 40) (by decide) hk
  rw [decide_eq_false h1] at s1
  have r1 := runm_ok (W := W) (n := n + 1) hW hl hk
  have v1 := runv_ok (W := W) (n := n) (h := h) (run_okL ok p) (Nat.le_trans (run_len_le x p) hl)
  rw [show atomR (runL x p) = .tup [t] by unfold atomR; rw [h2]] at v1
  have hz : (runL x p).length ≤ 1000000 := Nat.le_trans (run_len_le x p) (by omega)
  simp [s_open, m_19 hk, s1, m_21 hk, r1, v1, f_at hk, s_at hk, Sx_len, hz]
theorem vl_bad {d p : Nat} (h1 : x[p]? ≠ some 40) (h2 : atomL (runL x p) = none) : VlN x W d p (.err p) := by
  intro n h k m hm hn hk
  obtain ⟨n, rfl⟩ : ∃ m, n = m + 3 := ⟨n - 3, by omega⟩
  refine ⟨h, ?_, But.refl⟩
  rw [callN_eq value_fn rfl (by decide), val_body]
  have s1 := next_ok (W := W) (n := n + 1) ok hl (c := 40) (by decide) hk
  rw [decide_eq_false h1] at s1
  have r1 := runm_ok (W := W) (n := n + 1) hW hl hk
  have v1 := runv_ok (W := W) (n := n) (h := h) (run_okL ok p) (Nat.le_trans (run_len_le x p) hl)
  rw [show atomR (runL x p) = .non by unfold atomR; rw [h2]] at v1
  have fl := fail_ok (W := W) (n := n + 1) hk
  simp [s_open, m_19 hk, s1, m_21 hk, r1, v1, m_15 hk, fl]
theorem vl_close {d p : Nat} {acc : List T} (h1 : x[p]? = some 41) : VlS x W acc d p (.ok (.tup acc) (p + 1)) := by
  intro qa ha n h k j m w hm hn hk hj hjk hw
  obtain ⟨w, rfl⟩ : ∃ v, w = v + 1 := ⟨w - 1, by omega⟩
  obtain ⟨n, rfl⟩ : ∃ m, n = m + 1 := ⟨n - 1, by omega⟩
  have s1 := next_ok (W := W) (n := n) ok hl (c := 41) (by decide) hk
  rw [decide_eq_true h1] at s1
  refine ⟨h, acc, p, ?_, hk, hj, rfl, rfl, but_two But.refl⟩
  rw [while_no (h1 := h) (by simp [valC, s_close, m_19 hk, s1])]
theorem vl_gap {d p : Nat} {acc : List T} (hd : d ≤ 50) (h1 : acc ≠ []) (h2 : x[p]? ≠ some 41) (h3 : x[p]? ≠ some 32) : VlS x W acc d p (.err p) := by
  intro qa ha n h k j m w hm hn hk hj hjk hw
  obtain ⟨w, rfl⟩ : ∃ v, w = v + 1 := ⟨w - 1, by omega⟩
  obtain ⟨n, rfl⟩ : ∃ m, n = m + 1 := ⟨n - 1, by omega⟩
  have s1 := next_ok (W := W) (n := n) ok hl (c := 41) (by decide) hk
  rw [decide_eq_false h2] at s1
  have s2 := next_ok (W := W) (n := n) ok hl (c := 32) (by decide) hk
  rw [decide_eq_false h3] at s2
  have s3 := ne_nil hj qa (by omega)
  rw [decide_eq_false h1] at s3
  have fl := fail_ok (W := W) (n := n) hk
  refine ⟨h, ?_, but_two But.refl⟩
  rw [while_exc (h1 := h) (k := 0) (xs := [.int 1, .int ((p : Int) + 1)]) (env2 := [some (.ref k), some (.int m), some (.ref j)]) (h2 := h) (by simp [valC, s_close, m_19 hk, s1]) (by
    simp [valB, s_gap, m_19 hk, s2, s3, m_15 hk, fl])]
/-- up to the next item's place -/
theorem vl_pre {d p q n : Nat} {acc : List T} {h : Hs} {k j : Nat} {m : Int} (hd : d ≤ 50) (qa : ∀ a ∈ acc, QV d a) (hk : h[k]? = some (vals x (p : Int))) (hj : h[j]? = some (.lst acc)) (hjk : j ≠ k)
    (h2 : acc = [] ∧ q = p ∨ acc ≠ [] ∧ x[p]? = some 32 ∧ q = p + 1) : ∃ h', evS D W (callN D W (n + 1)) (.ifs (.cmp .ne (.var 2) (.lstI (.nil))) (.cons (.ifs (.nott (.meth 19 (.var 0) (.cons (.str " ") (.nil)))) (.cons (.ex (.meth 15 (.var 0) (.nil))) (
.nil)) (.nil)) (
.cons (.setAt (.var 0) "at" (.bin .add (.attr (.var 0) "at") (.int 1))) (
.nil))) (.nil)) [some (.ref k), some (.int m), some (.ref j)] h = .nx [some (.ref k), some (.int m), some (.ref j)] h' ∧ h'[k]? = some (vals x (q : Int)) ∧ h'[j]? = some (.lst acc) ∧ But k h h' := by
  have s3 := ne_nil hj qa (by omega)
  rcases h2 with ⟨rfl, rfl⟩ | ⟨hne, h32, rfl⟩
  · rw [decide_eq_true rfl] at s3
    exact ⟨h, by simp [s3], hk, hj, But.refl⟩
  · rw [decide_eq_false hne] at s3
    have s2 := next_ok (W := W) (n := n) ok hl (c := 32) (by decide) hk
    rw [decide_eq_true h32] at s2
    have hkl := (List.getElem?_eq_some_iff.mp hk).1
    refine ⟨h.set k (vals x ((p + 1 : Nat) : Int)), ?_, List.getElem?_set_self hkl, ?_, But.set⟩
    · simp [s_gap, s2, s3, m_19 hk, f_at hk, s_at hk]
    · rw [List.getElem?_set_ne (Ne.symm hjk)]
      exact hj
theorem vl_ierr {d p q e : Nat} {acc : List T} (hd : d ≤ 50) (h1 : x[p]? ≠ some 41) (h2 : acc = [] ∧ q = p ∨ acc ≠ [] ∧ x[p]? = some 32 ∧ q = p + 1) (ih : VlN x W d q (.err e)) : VlS x W acc d p (.err e) := by
  intro qa ha n h k j m w hm hn hk hj hjk hw
  obtain ⟨w, rfl⟩ : ∃ v, w = v + 1 := ⟨w - 1, by omega⟩
  obtain ⟨n, rfl⟩ : ∃ m, n = m + 1 := ⟨n - 1, by omega⟩
  have s1 := next_ok (W := W) (n := n) ok hl (c := 41) (by decide) hk
  rw [decide_eq_false h1] at s1
  obtain ⟨h', e1, hk', hj', b1⟩ := vl_pre (n := n) (m := m) ok hl hW hd qa hk hj hjk h2
  obtain ⟨h'', e2, b2⟩ := ih (n + 1) h' k (m - 1) hm hn hk'
  refine ⟨h'', ?_, but_two (b1.trans b2)⟩
  rw [while_exc (h1 := h) (k := 0) (xs := [.int 1, .int ((e : Int) + 1)]) (env2 := [some (.ref k), some (.int m), some (.ref j)]) (h2 := h'') (by simp [valC, s_close, m_19 hk, s1]) (by
    unfold valB
    rw [evSs_cons, e1]
    simp [m_14 hk', bmOk_app hj', e2])]
theorem vl_item {d p q e : Nat} {acc : List T} {t : T} {r : PR} (hd : d ≤ 50) (h1 : x[p]? ≠ some 41) (h2 : acc = [] ∧ q = p ∨ acc ≠ [] ∧ x[p]? = some 32 ∧ q = p + 1) (v : V x none d q (.ok t e)) (ih : VlN x W d q (.ok t e)) (ih2 : VlS x W (acc ++ [t]) d e r) : VlS x W acc d p r := by
  intro qa ha n h k j m w hm hn hk hj hjk hw
  obtain ⟨w, rfl⟩ : ∃ v, w = v + 1 := ⟨w - 1, by omega⟩
  obtain ⟨n, rfl⟩ : ∃ m, n = m + 1 := ⟨n - 1, by omega⟩
  have s1 := next_ok (W := W) (n := n) ok hl (c := 41) (by decide) hk
  rw [decide_eq_false h1] at s1
  have adv := v.adv t e rfl
  have hqp : p ≤ q := by rcases h2 with ⟨_, rfl⟩ | ⟨_, _, rfl⟩ <;> omega
  have qt : QV d t := ((v.inv t e rfl).1 rfl).1
  obtain ⟨h', e1, hk', hj', b1⟩ := vl_pre (n := n) (m := m) ok hl hW hd qa hk hj hjk h2
  obtain ⟨h'', e2, hk2, b2⟩ := ih (n + 1) h' k (m - 1) hm hn hk'
  have hjl : j < h'.length := (List.getElem?_eq_some_iff.mp hj').1
  have hj2 : h''[j]? = some (.lst acc) := by rw [b2.old j hjl hjk]; exact hj'
  have hjl2 : j < h''.length := (List.getElem?_eq_some_iff.mp hj2).1
  have hacc : acc.length < 1000000 := by omega
  have st := while_nx (m := w) (c := fun env2 h2 => (ev D (callN D W (n + 1)) valC env2 h2).t) (b := fun env2 h2 => evSs D W (callN D W (n + 1)) valB env2 h2) (env := [some (.ref k), some (.int m), some (.ref j)]) (env2 := [some (.ref k), some (.int m), some (.ref j)]) (h := h) (h1 := h) (h2 := h''.set j (.lst (acc ++ [t]))) (by simp [valC, s_close, m_19 hk, s1]) (by
    unfold valB
    rw [evSs_cons, e1]
    simp [m_14 hk', bmOk_app hj', e2, bm_app hj2 hacc])
  have hk3 : (h''.set j (.lst (acc ++ [t])))[k]? = some (vals x (e : Int)) := by
    rw [List.getElem?_set_ne hjk]
    exact hk2
  have hj3 : (h''.set j (.lst (acc ++ [t])))[j]? = some (.lst (acc ++ [t])) := List.getElem?_set_self hjl2
  have bb : But2 k j h (h''.set j (.lst (acc ++ [t]))) := (but_two (b1.trans b2)).trans But2.set2
  have fin := ih2 (fun a ha => by
    rcases List.mem_append.mp ha with ha | ha
    · exact qa a ha
    · simp only [List.mem_cons, List.not_mem_nil, or_false] at ha
      subst ha
      exact qt) (by simp; omega) (n + 1) (h''.set j (.lst (acc ++ [t]))) k j m w hm hn hk3 hj3 hjk (by omega)
  rw [st]
  cases r with
  | ok t' e' =>
    obtain ⟨hh, acc', q', f1, f2, f3, f4, f5, f6⟩ := fin
    exact ⟨hh, acc', q', f1, f2, f3, f4, f5, bb.trans f6⟩
  | err e' =>
    obtain ⟨hh, f1, f6⟩ := fin
    exact ⟨hh, f1, bb.trans f6⟩
theorem vl_list {d p : Nat} {r : PR} (h1 : x[p]? = some 40) (ih : VlS x W [] d (p + 1) r) : VlN x W (d + 1) p r := by
  intro n h k m hm hn hk
  obtain ⟨n, rfl⟩ : ∃ m, n = m + 2 := ⟨n - 2, by omega⟩
  have s1 := next_ok (W := W) (n := n) ok hl (c := 40) (by decide) hk
  rw [decide_eq_true h1] at s1
  have hkl := (List.getElem?_eq_some_iff.mp hk).1
  have m0 : ¬ m = 0 := by omega
  have hk1 : (h.set k (vals x ((p + 1 : Nat) : Int)) ++ [Ob.lst []])[k]? = some (vals x ((p + 1 : Nat) : Int)) := by
    rw [List.getElem?_append_left (by simpa using hkl)]
    exact List.getElem?_set_self hkl
  have hj1 : (h.set k (vals x ((p + 1 : Nat) : Int)) ++ [Ob.lst []])[h.length]? = some (.lst []) := by simp
  have fin := ih (fun a ha => by cases ha) (Nat.zero_le _) (n + 1) (h.set k (vals x ((p + 1 : Nat) : Int)) ++ [Ob.lst []]) k h.length m W (by omega) (by omega) hk1 hj1 (by omega) (by omega)
  have bb : ∀ h', But2 k h.length (h.set k (vals x ((p + 1 : Nat) : Int)) ++ [Ob.lst []]) h' → But k h h' := fun h' b => by
    have bl := b.len
    simp at bl
    refine ⟨by omega, fun i hi hik => ?_⟩
    rw [b.old i (by simp; omega) hik (by omega), List.getElem?_append_left (by simpa using hi), List.getElem?_set_ne (Ne.symm hik)]
  cases r with
  | ok t e =>
    obtain ⟨h', acc', q, f1, f2, f3, f4, f5, f6⟩ := fin
    have hkl' := (List.getElem?_eq_some_iff.mp f2).1
    refine ⟨h'.set k (vals x (e : Int)), ?_, List.getElem?_set_self hkl', (bb h' f6).trans But.set⟩
    have lp : evS D W (callN D W (n + 1)) (.whil valC valB) [some (.ref k), some (.int m), some (.ref h.length)] (h.set k (vals x ((p + 1 : Nat) : Int)) ++ [Ob.lst []]) = .nx [some (.ref k), some (.int m), some (.ref h.length)] h' := by
      rw [evS_whil]
      exact f1
    have f3' : (h'.set k (vals x (e : Int)))[h.length]? = some (.lst acc') := by
      rw [List.getElem?_set_ne (by omega)]
      exact f3
    rw [callN_eq value_fn rfl (by decide), val_body]
    rw [f5] at f3' ⊢
    rw [Int.natCast_add, Int.natCast_one] at lp f3' ⊢
    simp [s_open, m_19 hk, s1, m0, f_at hk, s_at hk, lp, f_at f2, s_at f2, tup_ref f3', f4]
  | err e =>
    obtain ⟨h', f1, f6⟩ := fin
    refine ⟨h', ?_, bb h' f6⟩
    have lp : evS D W (callN D W (n + 1)) (.whil valC valB) [some (.ref k), some (.int m), some (.ref h.length)] (h.set k (vals x ((p + 1 : Nat) : Int)) ++ [Ob.lst []]) = .exc 0 [.int 1, .int ((e : Int) + 1)] [some (.ref k), some (.int m), some (.ref h.length)] h' := by
      rw [evS_whil]
      exact f1
    rw [callN_eq value_fn rfl (by decide), val_body]
    rw [Int.natCast_add, Int.natCast_one] at lp
    simp [s_open, m_19 hk, s1, m0, f_at hk, s_at hk, lp]
/-- the package's reader follows V -/
theorem vl_ok {mo : Option (List T)} {d p : Nat} {r : PR} (v : V x mo d p r) : d ≤ 50 → VlP x W mo d p r := by
  induction v with
  | atom d p t h1 h2 => exact fun _ => vl_atom ok hl hW h1 h2
  | bad d p h1 h2 => exact fun _ => vl_bad ok hl hW h1 h2
  | list d p r h1 _ ih => exact fun hd => vl_list ok hl hW h1 (ih (by omega))
  | close d p acc h => exact fun _ => vl_close ok hl hW h
  | gap d p acc h1 h2 h3 => exact fun hd => vl_gap ok hl hW hd h1 h2 h3
  | ierr d p q e acc h1 h2 _ ih => exact fun hd => vl_ierr ok hl hW hd h1 h2 (ih hd)
  | item d p q e acc t r h1 h2 v _ ih ih2 => exact fun hd => vl_item ok hl hW hd h1 h2 v (ih hd) (ih2 hd)
end
end K10
end

section
set_option Elab.async false
set_option linter.all false
set_option maxRecDepth 10000
/-! K10q2: a value's text says the value; bent texts are small. -/
namespace K10
open PySem Fs Fp
theorem num_head : ∀ n : Nat, 0 < n → (TL.numL n).head? ≠ some 48 := by
  intro n
  induction n using Nat.strongRecOn with
  | _ n ih =>
    intro hn
    by_cases h : n < 10
    · rw [TL.numL_lt h]
      simp
      omega
    · rw [TL.numL_step (by omega)]
      have h2 := ih (n / 10) (by omega) (by omega)
      have ne := TL.numL_ne (n / 10)
      cases e : TL.numL (n / 10) with
      | nil => exact absurd e ne
      | cons c r =>
        rw [e] at h2
        simpa using h2
theorem num_dig (n : Nat) : (TL.numL n).all isDig = true := by
  rw [List.all_eq_true]
  intro c hc
  have := TL.numL_digits n c hc
  unfold isDig
  simp
  omega
theorem atom_int {i : Int} (h : i.natAbs < 10 ^ 40) : atomL (intL i) = some (.int i) := by
  have hl := TL.numL_len (k := 40) (by decide) h
  have hd := num_dig i.natAbs
  have hne := TL.numL_ne i.natAbs
  unfold atomL intL
  by_cases hi : i < 0
  · rw [if_pos hi]
    have neg : isNeg (45 :: TL.numL i.natAbs) = true := by simp [isNeg]
    have dg : digsL (45 :: TL.numL i.natAbs) = TL.numL i.natAbs := by simp [digsL, neg]
    have nh := num_head i.natAbs (by omega)
    have w : wordL (45 :: TL.numL i.natAbs) = false := by simp [wordL, isLet]
    have k : numOk (45 :: TL.numL i.natAbs) = true := by
      unfold numOk
      rw [dg, hd]
      simp [hne, hl, nh]
    rw [if_neg (by simp [hne]), w, if_neg (by simp), if_pos k]
    unfold numV
    rw [if_pos neg, dg, TL.numL_val]
    congr 2
    omega
  · rw [if_neg hi]
    obtain ⟨c, r, e⟩ : ∃ c r, TL.numL i.natAbs = c :: r := by cases e : TL.numL i.natAbs with
      | nil => exact absurd e hne
      | cons c r => exact ⟨c, r, rfl⟩
    have hc : isDig c = true := by
      rw [e] at hd
      simp at hd
      exact hd.1
    have hc2 : 48 ≤ c ∧ c ≤ 57 := by
      unfold isDig at hc
      simpa using hc
    have neg : isNeg (TL.numL i.natAbs) = false := by
      rw [e]
      simp [isNeg]
      omega
    have dg : digsL (TL.numL i.natAbs) = TL.numL i.natAbs := by simp [digsL, neg]
    have w : wordL (TL.numL i.natAbs) = false := by
      rw [e]
      simp [wordL, isLet]
      omega
    have hh : (TL.numL i.natAbs).head? = some 48 → TL.numL i.natAbs = [48] := fun q => by
      by_cases z : 0 < i.natAbs
      · exact absurd q (num_head _ z)
      · rw [show i.natAbs = 0 by omega, TL.numL_lt (by decide)]
    have k : numOk (TL.numL i.natAbs) = true := by
      unfold numOk
      rw [dg, hd, neg]
      simp [hne, hl]
      by_cases q : (TL.numL i.natAbs).head? = some 48
      · exact .inr (hh q)
      · exact .inl q
    rw [if_neg (by rw [e]; simp; omega), w, if_neg (by simp), if_pos k]
    unfold numV
    rw [if_neg (by simp [neg]), dg, TL.numL_val]
    congr 2
    omega
theorem atom_word {l : List Nat} (h : wordL l = true) : atomL l = some (.str (Sx l)) := by
  unfold atomL
  rw [if_neg (by rintro rfl; exact absurd h (by decide)), if_pos h]
def free (l : List Nat) : Prop := ∀ c ∈ l, stopC c = false
theorem free_word {l : List Nat} (h : wordL l = true) : free l := by
  have ok := word_okL h
  cases l with
  | nil => intro c hc; cases hc
  | cons c r =>
    simp only [wordL, Bool.and_eq_true, List.all_eq_true] at h
    intro x hx
    have : isAl x = true := by
      rcases List.mem_cons.mp hx with rfl | hx
      · unfold isAl
        rw [h.1]
        rfl
      · exact h.2 x hx
    unfold isAl isLet isDig at this
    unfold stopC
    simp at this ⊢
    omega
theorem free_int (i : Int) : free (intL i) := by
  intro c hc
  unfold stopC
  unfold intL at hc
  have num : ∀ n c, c ∈ TL.numL n → 48 ≤ c ∧ c ≤ 57 := fun n c h => TL.numL_digits n c h
  split at hc
  · rcases List.mem_cons.mp hc with rfl | hc
    · decide
    · have := num _ _ hc
      simp
      omega
  · have := num _ _ hc
    simp
    omega
abbrev stopHd (b : List Nat) : Prop := ∀ c, b.head? = some c → stopC c = true
theorem run_at {a l b : List Nat} (fl : free l) (hb : stopHd b) : runL (a ++ l ++ b) a.length = l := by
  unfold runL
  rw [List.append_assoc, List.drop_left' rfl, List.takeWhile_append_of_pos (by
    intro c hc
    rw [fl c hc]
    rfl)]
  cases b with
  | nil => simp
  | cons c r =>
    have := hb c rfl
    simp [this]
theorem at_here {a l b : List Nat} {c : Nat} (h : (l ++ b).head? = some c) : (a ++ l ++ b)[a.length]? = some c := by
  rw [List.append_assoc, List.getElem?_append_right (Nat.le_refl _), Nat.sub_self]
  cases e : l ++ b with
  | nil => rw [e] at h; cases h
  | cons y r => rw [e] at h; simpa using h
theorem atom_V {a l b : List Nat} {d : Nat} {t : T} (h : atomL l = some t) (fl : free l) (hb : stopHd b) : V (a ++ l ++ b) none d a.length (.ok t (a.length + l.length)) := by
  have hr := run_at (a := a) fl hb
  have := V.atom (x := a ++ l ++ b) d a.length t (by
    have hne : l ≠ [] := by
      rintro rfl
      simp [atomL, wordL, numOk, digsL, isNeg] at h
    obtain ⟨c, r, e⟩ : ∃ c r, l = c :: r := by cases l with
      | nil => exact absurd rfl hne
      | cons c r => exact ⟨c, r, rfl⟩
    rw [at_here (c := c) (by rw [e]; rfl)]
    intro q
    have z := fl c (by rw [e]; simp)
    simp at q
    subst q
    exact absurd z (by decide)) (by rw [hr]; exact h)
  rw [hr] at this
  exact this
def tailL (r : List T) : List Nat := (r.map fun t => 32 :: toldL t).flatten
theorem join_tail (t : T) : ∀ r : List T, TL.joinL [32] ((t :: r).map toldL) = toldL t ++ tailL r := by
  intro r
  induction r generalizing t with
  | nil => simp [TL.joinL, tailL]
  | cons u r ih =>
    have := ih u
    simp only [List.map_cons] at this ⊢
    simp only [TL.joinL] at this ⊢
    rw [this]
    simp [tailL]
theorem tail_stop (r : List T) (b : List Nat) : stopHd (tailL r ++ 41 :: b) := by
  intro c hc
  cases r with
  | nil =>
    simp [tailL] at hc
    subst hc
    decide
  | cons t r =>
    simp [tailL] at hc
    subst hc
    decide
def ValAt (d : Nat) (t : T) : Prop := ∀ a b : List Nat, stopHd b → V (a ++ toldL t ++ b) none d a.length (.ok t (a.length + (toldL t).length))
theorem rest_V {d : Nat} : ∀ (r acc : List T) (a b : List Nat), acc ≠ [] → (∀ t ∈ r, ValAt d t) → V (a ++ tailL r ++ 41 :: b) (some acc) d a.length (.ok (.tup (acc ++ r)) (a.length + (tailL r).length + 1)) := by
  intro r
  induction r with
  | nil =>
    intro acc a b ha h
    rw [List.append_nil]
    exact V.close d a.length acc (at_here (by simp [tailL]))
  | cons t r ih =>
    intro acc a b ha h
    have e1 : a ++ tailL (t :: r) ++ 41 :: b = (a ++ [32]) ++ toldL t ++ (tailL r ++ 41 :: b) := by simp [tailL]
    have e2 : a ++ tailL (t :: r) ++ 41 :: b = (a ++ [32] ++ toldL t) ++ tailL r ++ 41 :: b := by simp [tailL]
    have v1 := h t (by simp) (a ++ [32]) (tailL r ++ 41 :: b) (tail_stop r b)
    have v2 := ih (acc ++ [t]) (a ++ [32] ++ toldL t) b (by simp) fun u hu => h u (List.mem_cons_of_mem _ hu)
    rw [← e1] at v1
    rw [← e2] at v2
    have hh : (a ++ tailL (t :: r) ++ 41 :: b)[a.length]? = some 32 := at_here (by simp [tailL])
    have l1 : (a ++ [32]).length = a.length + 1 := by simp
    have l2 : (a ++ [32] ++ toldL t).length = a.length + 1 + (toldL t).length := by simp; omega
    rw [l1] at v1
    rw [l2] at v2
    have l3 : (tailL (t :: r)).length = 1 + (toldL t).length + (tailL r).length := by simp [tailL]; omega
    rw [show acc ++ [t] ++ r = acc ++ t :: r by simp] at v2
    have := V.item d a.length (a.length + 1) _ acc t _ (by rw [hh]; simp) (.inr ⟨ha, hh, rfl⟩) v1 v2
    rw [show a.length + (tailL (t :: r)).length + 1 = a.length + 1 + (toldL t).length + (tailL r).length + 1 by rw [l3]; omega]
    exact this
theorem told_V : ∀ (d : Nat) (t : T), PV d t → ValAt d t := by
  intro d
  induction d with
  | zero =>
    intro t p a b hb
    cases p with
    | non => simpa [toldL] using atom_V (a := a) (l := [45]) (b := b) (d := 0) (t := .non) (by simp [atomL]) (by intro c hc; simp at hc; subst hc; decide) hb
    | int _ i hi => simpa [toldL] using atom_V (a := a) (b := b) (d := 0) (atom_int hi) (free_int i) hb
    | str _ l h1 h2 => simpa [toldL] using atom_V (a := a) (b := b) (d := 0) (atom_word h1) (free_word h1) hb
  | succ d ih =>
    intro t p a b hb
    cases p with
    | non => simpa [toldL] using atom_V (a := a) (l := [45]) (b := b) (d := d + 1) (t := .non) (by simp [atomL]) (by intro c hc; simp at hc; subst hc; decide) hb
    | int _ i hi => simpa [toldL] using atom_V (a := a) (b := b) (d := d + 1) (atom_int hi) (free_int i) hb
    | str _ l h1 h2 => simpa [toldL] using atom_V (a := a) (b := b) (d := d + 1) (atom_word h1) (free_word h1) hb
    | tup _ ts h1 h2 =>
      cases ts with
      | nil =>
        have e : toldL (.tup []) = [40, 41] := by simp [toldL, toldLs, TL.joinL]
        rw [e]
        refine V.list d a.length _ (at_here (by simp)) ?_
        have e3 : a ++ [40, 41] ++ b = (a ++ [40]) ++ [41] ++ b := by simp
        have := V.close (x := a ++ [40, 41] ++ b) d (a.length + 1) [] (by
          rw [e3, show a.length + 1 = (a ++ [40]).length by simp]
          exact at_here (by simp))
        simpa using this
      | cons t r =>
        have e : toldL (.tup (t :: r)) = 40 :: (toldL t ++ tailL r ++ [41]) := by
          simp only [toldL, toldLs_map]
          rw [join_tail]
        have e1 : a ++ toldL (.tup (t :: r)) ++ b = (a ++ [40]) ++ toldL t ++ (tailL r ++ 41 :: b) := by rw [e]; simp
        have e2 : a ++ toldL (.tup (t :: r)) ++ b = (a ++ [40] ++ toldL t) ++ tailL r ++ 41 :: b := by rw [e]; simp
        have v1 := ih t (h1 t (by simp)) (a ++ [40]) (tailL r ++ 41 :: b) (tail_stop r b)
        have v2 := rest_V (d := d) r [t] (a ++ [40] ++ toldL t) b (by simp) fun u hu => ih u (h1 u (List.mem_cons_of_mem _ hu))
        rw [← e1] at v1
        rw [← e2] at v2
        have l1 : (a ++ [40]).length = a.length + 1 := by simp
        have l2 : (a ++ [40] ++ toldL t).length = a.length + 1 + (toldL t).length := by simp; omega
        rw [l1] at v1
        rw [l2] at v2
        have hne : toldL t ≠ [] := by
          have := v1.adv _ _ rfl
          intro q
          rw [q] at this
          simp at this
        have hh : (a ++ toldL (.tup (t :: r)) ++ b)[a.length + 1]? ≠ some 41 := by
          obtain ⟨c, s, es⟩ : ∃ c s, toldL t = c :: s := by cases q : toldL t with
            | nil => exact absurd q hne
            | cons c s => exact ⟨c, s, rfl⟩
          intro q
          rw [e1, show a.length + 1 = (a ++ [40]).length by simp, at_here (c := c) (by rw [es]; rfl)] at q
          simp at q
          subst q
          -- the first sign of a value's text
          have := h1 t (by simp)
          cases this with
          | non => simp [toldL] at es
          | int _ i hi =>
            have z := free_int i 41 (by simp only [toldL] at es; rw [es]; simp)
            exact absurd z (by decide)
          | str _ l k1 k2 =>
            have z := free_word k1 41 (by simp only [toldL] at es; have es' : l = 41 :: s := es; rw [es']; simp)
            exact absurd z (by decide)
          | tup _ us k1 k2 => simp [toldL] at es
        refine V.list d a.length _ (by
          have := at_here (a := a) (l := toldL (.tup (t :: r))) (b := b) (c := 40) (by rw [e]; rfl)
          exact this) ?_
        have := V.item d (a.length + 1) (a.length + 1) _ [] t _ hh (.inl ⟨rfl, rfl⟩) v1 (by rw [List.nil_append]; exact v2)
        rw [show a.length + (toldL (.tup (t :: r))).length = a.length + 1 + (toldL t).length + (tailL r).length + 1 by rw [e]; simp; omega]
        exact this
/-- how many opening signs -/
def bndC : Nat → Nat
  | 0 => 0
  | d + 1 => 3 * bndC d + 1
theorem free_cnt {l : List Nat} (h : free l) : l.count 40 = 0 := by
  rw [List.count_eq_zero]
  intro q
  exact absurd (h 40 q) (by decide)
theorem sumC {b : Nat} : ∀ (ls : List (List Nat)), (∀ l ∈ ls, l.count 40 ≤ b) → (TL.joinL [32] ls).count 40 ≤ ls.length * b
  | [], _ => by simp [TL.joinL]
  | [l], h => by simpa [TL.joinL] using h l (by simp)
  | l :: m :: ls, h => by
    have h1 := h l (by simp)
    have h2 := sumC (m :: ls) fun x hx => h x (List.mem_cons_of_mem _ hx)
    simp only [TL.joinL, List.count_append, List.length_cons, Nat.add_mul, Nat.one_mul] at h2 ⊢
    have h3 : List.count 40 [32] = 0 := by decide
    omega
theorem told_cnt : ∀ (d : Nat) (t : T), PV d t → (toldL t).count 40 ≤ bndC d := by
  have atoms : ∀ (d : Nat) (t : T), PV d t → (∀ ts, t ≠ .tup ts) → (toldL t).count 40 = 0 := fun d t p h => by
    cases p with
    | non => simp [toldL]
    | int _ i hi => simp only [toldL]; exact free_cnt (free_int i)
    | str _ l h1 h2 => simp only [toldL]; exact free_cnt (free_word h1)
    | tup _ ts h1 h2 => exact absurd rfl (h ts)
  intro d
  induction d with
  | zero =>
    intro t p
    rw [atoms 0 t p (fun ts e => by subst e; cases p)]
    exact Nat.zero_le _
  | succ d ih =>
    intro t p
    by_cases h : ∃ ts, t = .tup ts
    · obtain ⟨ts, rfl⟩ := h
      cases p with
      | tup _ ts h1 h2 =>
        have := sumC (b := bndC d) (ts.map toldL) (fun l hl => by
          obtain ⟨u, hu, rfl⟩ := List.mem_map.mp hl
          exact ih u (h1 u hu))
        rw [List.length_map] at this
        have m : ts.length * bndC d ≤ 3 * bndC d := Nat.mul_le_mul_right _ h2
        simp only [toldL, toldLs_map, List.count_cons, List.count_append, bndC]
        simp
        omega
    · rw [atoms _ t p (fun ts e => h ⟨ts, e⟩)]
      exact Nat.zero_le _
theorem told_okL : ∀ (d : Nat) (t : T), PV d t → okL (toldL t) := by
  intro d
  induction d with
  | zero =>
    intro t p
    cases p with
    | non => simp only [toldL]; exact ok1 (by decide)
    | int _ i hi => simp only [toldL]; exact intL_ok i
    | str _ l h1 h2 => simp only [toldL]; exact word_okL h1
  | succ d ih =>
    intro t p
    cases p with
    | non => simp only [toldL]; exact ok1 (by decide)
    | int _ i hi => simp only [toldL]; exact intL_ok i
    | str _ l h1 h2 => simp only [toldL]; exact word_okL h1
    | tup _ ts h1 h2 =>
      simp only [toldL, toldLs_map]
      have : okL (TL.joinL [32] (ts.map toldL)) := joinL_ok (ok1 (by decide)) _ fun l hl => by
        obtain ⟨u, hu, rfl⟩ := List.mem_map.mp hl
        exact ih u (h1 u hu)
      exact okL_app (ok1 (by decide) : okL [40]) (okL_app this (ok1 (by decide)))
end K10
end

section
set_option Elab.async false
set_option linter.all false
set_option maxRecDepth 10000
/-! K10q3: read_value, value_text, alike. -/
namespace K10
open PySem Fs Fp
theorem init_fn : D.fns[13]? = some ⟨some 3, "__init__", 2, 2, f_Values___init__⟩ := rfl
theorem read_fn : D.fns[7]? = some ⟨none, "read_value", 1, 3, f_read_value⟩ := rfl
theorem init_ok {W n : Nat} {x : List Nat} {h : Hs} : callN D W (n + 1) 13 [.ref h.length, .str (Sx x)] (h ++ [.ins 3 []]) = .ok .non (h ++ [vals x 0]) := by
  rw [callN_eq init_fn rfl (by decide)]
  have g0 : (h ++ [Ob.ins 3 []])[h.length]? = some (.ins 3 []) := by simp
  have s1 : setAtT D (h ++ [Ob.ins 3 []]) (.ref h.length) "signs" (.str (Sx x)) = some (h ++ [.ins 3 [("signs", .str (Sx x))]]) := by
    unfold setAtT
    dsimp only
    rw [g0]
    show some ((h ++ [Ob.ins 3 []]).set h.length (.ins 3 [("signs", .str (Sx x))])) = _
    rw [List.set_append_right _ _ (Nat.le_refl _), Nat.sub_self]
    rfl
  have g1 : (h ++ [Ob.ins 3 [("signs", .str (Sx x))]])[h.length]? = some (.ins 3 [("signs", .str (Sx x))]) := by simp
  have s2 : setAtT D (h ++ [Ob.ins 3 [("signs", .str (Sx x))]]) (.ref h.length) "at" (.int 0) = some (h ++ [vals x 0]) := by
    unfold setAtT
    dsimp only
    rw [g1]
    show some ((h ++ [Ob.ins 3 [("signs", T.str (Sx x))]]).set h.length (vals x 0)) = _
    rw [List.set_append_right _ _ (Nat.le_refl _), Nat.sub_self]
    rfl
  simp [f_Values___init__, s1, s2]
def readR (x : List Nat) : PR → Hs → R T
  | .ok t e, h => if e = x.length then .ok t h else .exc 0 [.int 1, .int ((e : Int) + 1)] h
  | .err e, h => .exc 0 [.int 1, .int ((e : Int) + 1)] h
theorem read_ok {W n d : Nat} {x : List Nat} {h : Hs} {r : PR} (ok : okL x) (hl : x.length ≤ 5000) (hW : 5001 ≤ W) (hd : d ≤ 50) (hn : d + 4 ≤ n) (v : V x none d 0 r) : ∃ h', callN D W (n + 1) 7 [.str (Sx x)] h = readR x r h' ∧ Gr h h' := by
  have g0 : (h ++ [vals x 0])[h.length]? = some (vals x ((0 : Nat) : Int)) := by simp
  have c0 : D.cns[0]? = some (("MOST_LEVELS" : Str), T.int 60) := rfl
  have hz' : x.length ≤ 1000000 := by omega
  have i0 : initOf D 3 = some 13 := rfl
  obtain ⟨n, rfl⟩ : ∃ m, n = m + 1 := ⟨n - 1, by omega⟩
  have ini := init_ok (W := W) (n := n) (x := x) (h := h)
  have vl := vl_ok (W := W) ok hl hW v hd (n + 1) (h ++ [vals x 0]) h.length 60 (by omega) hn g0
  rw [callN_eq read_fn rfl (by decide)]
  cases r with
  | err e =>
    obtain ⟨h', e1, b⟩ := vl
    refine ⟨h', ?_, but_gr _ b⟩
    simp [f_read_value, Kd.is, i0, ini, m_14 g0, c0, e1, readR]
  | ok t e =>
    obtain ⟨h', e1, hk, b⟩ := vl
    refine ⟨h', ?_, but_gr _ b⟩
    have adv := v.adv t e rfl
    have fl := fail_ok (W := W) (n := n) hk
    by_cases he : e = x.length
    · subst he
      have lt : ¬ (x.length : Int) < (x.length : Int) := by omega
      simp [f_read_value, Kd.is, i0, ini, m_14 g0, c0, e1, readR, f_at hk, Sx_len, hz', lt]
    · have lt : (e : Int) < (x.length : Int) := by omega
      simp [f_read_value, Kd.is, i0, ini, m_14 g0, c0, e1, readR, f_at hk, Sx_len, hz', lt, m_15 hk, fl, he]
theorem alike_fn : D.fns[5]? = some ⟨none, "_law_alike", 2, 2, f__law_alike⟩ := rfl
theorem text_fn : D.fns[6]? = some ⟨none, "value_text", 1, 1, f_value_text⟩ := rfl
theorem isp_fn : D.fns[4]? = some ⟨none, "is_plain_value", 1, 1, f_is_plain_value⟩ := rfl
theorem alike_ok {W n d m : Nat} {h : Hs} {t : T} {x : PyData} (e : toDh h t = some x) (g : Good d m x) (hd : d ≤ 64) (hm : m ≤ 1000000) : callN D W (n + 1) 5 [t, t] h = .ok (.bl true) h := by
  rw [callN_eq alike_fn rfl (by decide)]
  have r := repr_good e g hd hm
  have q : eqT h (.str x.shown) (.str x.shown) = some true := by
    rw [eqT_str h _ _ (okS_str g.asc) (okS_str g.asc)]
    simp
  simp [f__law_alike, r, q]
theorem isp_ok {W n d : Nat} {t : T} {h : Hs} (hn : d + 1 < n) (hd : d ≤ 60) (p : PV d t) : callN D W (n + 1) 4 [t] h = .ok (.bl true) h := by
  rw [callN_eq isp_fn rfl (by decide)]
  have c0 : D.cns[0]? = some (("MOST_LEVELS" : Str), T.int 60) := rfl
  have := plain_ok (W := W) d n t 60 h hn (by omega) p
  simp [f_is_plain_value, c0, this]
theorem text_ok {W n d : Nat} {t : T} {h : Hs} (hn : d + 2 < n) (hd : d ≤ 3) (p : PV d t) : callN D W (n + 1) 6 [t] h = .ok (.str (Sx (toldL t))) h := by
  obtain ⟨n, rfl⟩ : ∃ m, n = m + 1 := ⟨n - 1, by omega⟩
  rw [callN_eq text_fn rfl (by decide)]
  have a := isp_ok (W := W) (n := n) (h := h) (by omega) (by omega) p
  have b := shown_ok (W := W) d (n + 1) t h hd (by omega) p
  simp [f_value_text, a, b]
theorem QV.toDh {d : Nat} {t : T} (q : QV d t) (h : Hs) : Fs.toDh h t = Fs.toD t := by
  cases q <;> rfl
/-- a plain value and its like -/
theorem alike_val {W n d : Nat} {h : Hs} {t : T} (q : QV d t) (hd : d ≤ 60) (hs : szT t ≤ 1000000) : callN D W (n + 1) 5 [t, t] h = .ok (.bl true) h := by
  obtain ⟨x, e, g⟩ := q.good
  exact alike_ok (by rw [q.toDh]; exact e) g (by omega) hs
theorem alike_two {W n d : Nat} {h : Hs} {l : List Nat} {t : T} (ok : okL l) (hl : l.length ≤ 5000) (q : QV d t) (hd : d ≤ 60) (hs : szT t ≤ 100000) : callN D W (n + 1) 5 [.lst [.str (Sx l), t], .lst [.str (Sx l), t]] h = .ok (.bl true) h := by
  obtain ⟨x, e, g⟩ := q.good
  have g1 : Good d 100000 (.str (Sx l)) := (Good.str (s := Sx l) ok).mono (Nat.zero_le _) (by rw [Sx_len]; omega)
  refine alike_ok (d := d + 1) (m := 2 * 100000 + 10) (x := .list [.str (Sx l), x]) ?_ (good_two g1 (g.mono (Nat.le_refl _) hs)) (by omega) (by decide)
  simp [Fs.toDh, toD, toDs, e]
end K10
end

section
set_option Elab.async false
set_option linter.all false
set_option maxRecDepth 10000
/-! K10q4: the odd ones are no plain values. -/
namespace K10
open PySem Fs Fp
theorem odd_kind {W n : Nat} {h : Hs} {t : T} {k : Kd} {m : Int} (e : ∀ h, kind h t = some k) (e2 : ∀ h, isT h t .non = some false) (h1 : k.is .str = false) (h2 : k.is .int = false) (h3 : k.is .tup = false) : callN D W (n + 2) 11 [t, .int m] h = .ok (.bl false) h := by
  rw [callN_eq plain_fn rfl (by decide)]
  have w := word_non (W := W) (n := n) (h := h) e h1
  have u := num_non (W := W) (n := n) (h := h) e h2
  simp [f_is_plain, e2, w, u, e, h3]
theorem odd_bl {W n : Nat} {h : Hs} {b : Bool} {m : Int} : callN D W (n + 2) 11 [.bl b, .int m] h = .ok (.bl false) h := by
  rw [callN_eq plain_fn rfl (by decide)]
  have w := word_non (W := W) (n := n) (h := h) (t := .bl b) (k := .bl) (fun _ => rfl) rfl
  have u : callN D W (n + 1) 18 [.bl b] h = .ok (.bl false) h := by
    rw [callN_eq num_fn rfl (by decide)]
    simp [f_is_number, Kd.is]
  simp [f_is_plain, w, u, Kd.is]
theorem odd_int {W n : Nat} {h : Hs} {i m : Int} (hi : 10 ^ 40 ≤ i.natAbs) : callN D W (n + 2) 11 [.int i, .int m] h = .ok (.bl false) h := by
  rw [callN_eq plain_fn rfl (by decide)]
  have w := word_non (W := W) (n := n) (h := h) (t := .int i) (k := .int) (fun _ => rfl) rfl
  have u := num_int (W := W) (n := n) (h := h) (i := i)
  have hb : ¬ (if i < 0 then -i else i) < 10000000000000000000000000000000000000000 := by
    have : 10000000000000000000000000000000000000000 ≤ i.natAbs := hi
    split <;> omega
  simp [f_is_plain, w, u, hb]
theorem odd_str {W n : Nat} {h : Hs} {l : List Nat} {m : Int} (ok : okL l) (hl : l.length ≤ 5000) (hw : wordL l = false) : callN D W (n + 2) 11 [.str (Sx l), .int m] h = .ok (.bl false) h := by
  rw [callN_eq plain_fn rfl (by decide)]
  have w := word_ok (W := W) (n := n) (h := h) ok hl
  have u := num_non (W := W) (n := n) (h := h) (t := .str (Sx l)) (k := .str) (fun _ => rfl) rfl
  simp [f_is_plain, w, hw, u, Kd.is]
theorem odd_tup {W n : Nat} {h : Hs} {t : T} (e : callN D W (n + 1) 11 [t, .int 59] h = .ok (.bl false) h) : callN D W (n + 2) 11 [.tup [t], .int 60] h = .ok (.bl false) h := by
  rw [callN_eq plain_fn rfl (by decide)]
  have w := word_non (W := W) (n := n) (h := h) (t := .tup [t]) (k := .tup) (fun _ => rfl) rfl
  have u := num_non (W := W) (n := n) (h := h) (t := .tup [t]) (k := .tup) (fun _ => rfl) rfl
  have cc := ev_compM (D := D) (cl := callN D W (n + 1)) (env := [some (T.tup [t]), some (T.int 60), none]) (h := h) (h1 := h) (i := 2) (it := .seq (.var 0)) (e := .call 11 (.cons (.var 2) (.cons (.bin .sub (.var 1) (.int 1)) (.nil)))) (vs := [2]) (xs := [t]) (g := fun _ => .bl false) (by simp) (by simp)
        (fun x hx => by
          simp only [List.mem_cons, List.not_mem_nil, or_false] at hx
          subst hx
          simp [wipeT, e])
  simp [f_is_plain, w, u, Kd.is]
  rw [cc]
  simp [bools]
/-- what the law calls odd -/
abbrev oddL : List T := [.bl true, .lst [.int 1], .tup [.str "A"], .tup [.str "1a"], .int (10 ^ 40), .int (-10 ^ 40), .lst [.non], .tup [.str ""]]
theorem odd_no {W n : Nat} {h : Hs} {t : T} (m : t ∈ oddL) : callN D W (n + 4) 4 [t] h = .ok (.bl false) h := by
  rw [callN_eq isp_fn rfl (by decide)]
  have c0 : D.cns[0]? = some (("MOST_LEVELS" : Str), T.int 60) := rfl
  have z : callN D W (n + 3) 11 [t, .int 60] h = .ok (.bl false) h := by
    simp only [oddL, List.mem_cons, List.not_mem_nil, or_false] at m
    rcases m with rfl | rfl | rfl | rfl | rfl | rfl | rfl | rfl
    · exact odd_bl
    · exact odd_kind (k := .lst) (fun _ => rfl) (fun _ => rfl) rfl rfl rfl
    · rw [show Str.ofString "A" = Sx [65] by decide]
      exact odd_tup (odd_str (ok1 (by decide)) (by decide) (by decide))
    · rw [show Str.ofString "1a" = Sx [49, 97] by decide]
      exact odd_tup (odd_str (by unfold okL; decide) (by decide) (by decide))
    · exact odd_int (by decide)
    · exact odd_int (by decide)
    · exact odd_kind (k := .lst) (fun _ => rfl) (fun _ => rfl) rfl rfl rfl
    · rw [show Str.ofString "" = Sx [] by decide]
      exact odd_tup (odd_str (by unfold okL; decide) (by decide) (by decide))
  simp [f_is_plain_value, c0, z]
theorem odd_exc {W n : Nat} {h : Hs} {t : T} (m : t ∈ oddL) : callN D W (n + 5) 6 [t] h = .exc 2 [] h := by
  rw [callN_eq text_fn rfl (by decide)]
  have a := odd_no (W := W) (n := n) (h := h) m
  have : excOk D 2 [] = true := rfl
  simp [f_value_text, a, this]
theorem evS_try {D : Tb} {W : Nat} {cl : Cal} {env : En} {h : Hs} {b : Ss} {hs : Hd} : evS D W cl (.tryy b hs) env h = match evSs D W cl b env h with
    | .exc c xs env1 h1 => evH D W hs c xs env1 h1
    | q => q := by
  simp only [evS] <;> rfl
theorem try_exc {D : Tb} {W : Nat} {cl : Cal} {env env1 : En} {h h1 : Hs} {b b2 : Ss} {cs : List Nat} {i : Option Nat} {r : Hd} {c : Nat} {xs : List T} (e : evSs D W cl b env h = .exc c xs env1 h1) (hc : isExc D c cs = true) : evS D W cl (.tryy b (.cons cs i b2 r)) env h =
    (evSs D W (xCal D c xs) b2 (match i with
      | some j => env1.set j none
      | none => env1) h1).offName i := by
  rw [evS_try, e]
  simp only [evH]
  rw [if_pos hc] <;> cases i <;> rfl
theorem try_nx {D : Tb} {W : Nat} {cl : Cal} {env env1 : En} {h h1 : Hs} {b : Ss} {hs : Hd} (e : evSs D W cl b env h = .nx env1 h1) : evS D W cl (.tryy b hs) env h = .nx env1 h1 := by
  rw [evS_try, e]
def oddB : Ss := .cons (.ifs (.cmp .nis (.call 4 (.cons (.var 11) (.nil))) (.bl false)) (.cons (.ret (.bl false)) (
.nil)) (.nil)) (
.cons (.tryy (.cons (.ex (.call 6 (.cons (.var 11) (.nil)))) (
.cons (.ret (.bl false)) (
.nil))) (.cons [2] none (.cons (.cont) (
.nil)) (.nil))) (
.nil))
theorem oddB_ok {W n : Nat} {h : Hs} {t : T} {env : En} (m : t ∈ oddL) (e : env[11]? = some (some t)) : evSs D W (callN D W (n + 5)) oddB env h = .cont env h := by
  have a := odd_no (W := W) (n := n + 1) (h := h) m
  have b := odd_exc (W := W) (n := n) (h := h) m
  have i : isExc D 2 [2] = true := rfl
  have tr := try_exc (D := D) (W := W) (cl := callN D W (n + 5)) (env := env) (env1 := env) (h := h) (h1 := h) (b := .cons (.ex (.call 6 (.cons (.var 11) (.nil)))) (.cons (.ret (.bl false)) (.nil))) (b2 := .cons (.cont) (.nil)) (cs := [2]) (i := none) (r := .nil) (c := 2) (xs := []) (by simp [e, b]) i
  simp only [evSs_cons, evS_cont, andThen_cont, SR.offName] at tr
  simp [oddB, e, a, tr]
theorem odd_loop {W n : Nat} {h : Hs} : ∀ (L : List T) (env : En), (∀ t ∈ L, t ∈ oddL) → 11 < env.length → ∃ env', forL (.nm 11) (fun env2 h2 => evSs D W (callN D W (n + 5)) oddB env2 h2) L env h = .nx env' h
  | [], env, _, _ => ⟨env, rfl⟩
  | t :: L, env, m, hl => by
    obtain ⟨env', r⟩ := odd_loop (W := W) (n := n) (h := h) L (env.set 11 (some t)) (fun u hu => m u (List.mem_cons_of_mem _ hu)) (by simpa using hl)
    exact ⟨env', by rw [forL_cont (oddB_ok (m t (by simp)) (by simp [hl]))]; exact r⟩
end K10
end

section
set_option Elab.async false
set_option linter.all false
set_option maxRecDepth 10000
/-! K10q5: one turn of the law. -/
namespace K10
open PySem Fs Fp
abbrev putL : List T := [.str "", .str "?", .str "A", .str "01", .str "-0", .str "(", .str ")", .str "9a", .str "--", .str " ", .str "  ", .str "-", .str "a"]
theorem put_ok {t : T} (h : t ∈ putL) : ∃ l : List Nat, t = .str (Sx l) ∧ okL l ∧ l.length ≤ 2 ∧ l.count 40 ≤ 1 := by
  simp only [putL, List.mem_cons, List.not_mem_nil, or_false] at h
  rcases h with rfl | rfl | rfl | rfl | rfl | rfl | rfl | rfl | rfl | rfl | rfl | rfl | rfl
  · exact ⟨[], congrArg T.str (by decide), by unfold okL; decide, by decide, by decide⟩
  · exact ⟨[63], congrArg T.str (by decide), by unfold okL; decide, by decide, by decide⟩
  · exact ⟨[65], congrArg T.str (by decide), by unfold okL; decide, by decide, by decide⟩
  · exact ⟨[48, 49], congrArg T.str (by decide), by unfold okL; decide, by decide, by decide⟩
  · exact ⟨[45, 48], congrArg T.str (by decide), by unfold okL; decide, by decide, by decide⟩
  · exact ⟨[40], congrArg T.str (by decide), by unfold okL; decide, by decide, by decide⟩
  · exact ⟨[41], congrArg T.str (by decide), by unfold okL; decide, by decide, by decide⟩
  · exact ⟨[57, 97], congrArg T.str (by decide), by unfold okL; decide, by decide, by decide⟩
  · exact ⟨[45, 45], congrArg T.str (by decide), by unfold okL; decide, by decide, by decide⟩
  · exact ⟨[32], congrArg T.str (by decide), by unfold okL; decide, by decide, by decide⟩
  · exact ⟨[32, 32], congrArg T.str (by decide), by unfold okL; decide, by decide, by decide⟩
  · exact ⟨[45], congrArg T.str (by decide), by unfold okL; decide, by decide, by decide⟩
  · exact ⟨[97], congrArg T.str (by decide), by unfold okL; decide, by decide, by decide⟩
/-- the bent text -/
def bentL (l mo : List Nat) (at_ : Nat) : List Nat := l.take at_ ++ mo ++ l.drop (at_ + if mo = [] then 1 else 0)
theorem bent_okL {l mo : List Nat} {a : Nat} (h : okL l) (h2 : okL mo) : okL (bentL l mo a) := okL_app (okL_app (okL_take h _) h2) (okL_drop h _)
theorem bent_len {l mo : List Nat} {a : Nat} (h : l.length ≤ 2000) (h2 : mo.length ≤ 2) : (bentL l mo a).length ≤ 5000 := by
  unfold bentL
  simp only [List.length_append, List.length_take, List.length_drop]
  omega
theorem bent_cnt {l mo : List Nat} {a : Nat} (h : l.count 40 ≤ 13) (h2 : mo.count 40 ≤ 1) : (bentL l mo a).count 40 ≤ 14 := by
  unfold bentL
  simp only [List.count_append]
  have e : (l.take a).count 40 + (l.drop a).count 40 = l.count 40 := by
    rw [← List.count_append, List.take_append_drop]
  have : (l.drop (a + if mo = [] then 1 else 0)).count 40 ≤ (l.drop a).count 40 := by
    rw [← List.drop_drop]
    exact (List.drop_sublist _ _).count_le _
  omega
def u3 : S := .ifs (.orv (.cons (.cmp .nis (.call 4 (.cons (.var 3) (.nil))) (.bl true)) (.cons (.nott (.call 5 (.cons (.lstI (.cons (.call 6 (.cons (.var 3) (.nil))) (.cons (.call 7 (.cons (.var 4) (.nil))) (.nil)))) (.cons (.lstI (.cons (.var 4) (.cons (.var 3) (.nil)))) (.nil))))) (.nil)))) (.cons (.ret (.bl false)) (
.nil)) (.nil)
def u6 : S := .set 7 (.bin .add (.bin .add (.sl (.var 4) (.absent) (.var 5)) (.var 6)) (.sl (.var 4) (.bin .add (.var 5) (.ite (.cmp .eq (.var 6) (.str "")) (.int 1) (.int 0))) (.absent)))
def u8b : Ss := .cons (.ifs (.orv (.cons (.nott (.call 5 (.cons (.call 7 (.cons (.var 7) (.nil))) (.cons (.var 8) (.nil))))) (.cons (.cmp .ne (.var 9) (.bi .len (.cons (.var 7) (.nil)))) (.nil)))) (.cons (.ret (.bl false)) (
.nil)) (.nil)) (
.nil)
def u8h : Ss := .cons (.ifs (.orv (.cons (.cmp .eq (.var 9) (.bi .len (.cons (.var 7) (.nil)))) (.cons (.cmp .ne (.tup (.cons (.exf "line") (.cons (.exf "column") (.nil)))) (.tup (.cons (.int 1) (.cons (.ite (.cmp .lt (.var 9) (.int 0)) (.bin .sub (.int 0) (.var 9)) (.bin .add (.var 9) (.int 1))) (.nil))))) (.nil)))) (.cons (.ret (.bl false)) (
.nil)) (.nil)) (
.nil)
def u8 : S := .tryy u8b (.cons [0] (some 10) u8h (.nil))
def turnB : Ss := .cons (.set 3 (.call 2 (.cons (.var 1) (.cons (.int 3) (.nil))))) (
.cons (.set 4 (.call 3 (.cons (.var 3) (.nil)))) (
.cons u3 (
.cons (.set 5 (.call 8 (.cons (.var 1) (.cons (.bin .add (.bi .len (.cons (.var 4) (.nil))) (.int 1)) (.nil))))) (
.cons (.set 6 (.call 9 (.cons (.var 1) (.cons (.lstI (.cons (.str "") (.cons (.str "?") (.cons (.str "A") (.cons (.str "01") (.cons (.str "-0") (.cons (.str "(") (.cons (.str ")") (.cons (.str "9a") (.cons (.str "--") (.cons (.str " ") (.cons (.str "  ") (.cons (.str "-") (.cons (.str "a") (.nil))))))))))))))) (.nil))))) (
.cons u6 (
.cons (.setT [8, 9] (.call 10 (.cons (.var 7) (.cons (.int 0) (.nil))))) (
.cons u8 (
.nil))))))))
theorem law_body : f_law = .cons (.set 1 (.call 1 (.cons (.var 0) (.nil)))) (
    .cons (.for_ (.nm 2) (.rng (.int 14)) turnB) (
    .cons (.for_ (.nm 11) (.seq (.tup (.cons (.bl true) (.cons (.lstI (.cons (.int 1) (.nil))) (.cons (.tup (.cons (.str "A") (.nil))) (.cons (.tup (.cons (.str "1a") (.nil))) (.cons (.bin .pow (.int 10) (.int 40)) (.cons (.neg (.bin .pow (.int 10) (.int 40))) (.cons (.lstI (.cons (.non) (.nil))) (.cons (.tup (.cons (.str "") (.nil))) (.nil))))))))))) oddB) (
    .cons (.ret (.bl true)) (
    .nil)))) := rfl
section
variable {W : Nat} (hW : 5001 ≤ W)
theorem t3_ok {n : Nat} {h : Hs} {o0 o1 o2 o5 o6 o7 o8 o9 o10 o11 : Option T} {t : T} (hW : 5001 ≤ W) (p : PV 3 t) : ∃ h', evS D W (callN D W (n + 20)) u3 [o0, o1, o2, some t, some (.str (Sx (toldL t))), o5, o6, o7, o8, o9, o10, o11] h = .nx [o0, o1, o2, some t, some (.str (Sx (toldL t))), o5, o6, o7, o8, o9, o10, o11] h' ∧ Gr h h' := by
  have hl : (toldL t).length ≤ 2000 := Nat.le_trans (told_len 3 t p) (by decide)
  have ok := told_okL 3 t p
  have v := told_V 3 t p [] [] (by intro c hc; cases hc)
  simp only [List.nil_append, List.append_nil, List.length_nil, Nat.zero_add] at v
  obtain ⟨h', e, g⟩ := read_ok (W := W) (n := n + 19) (h := h) ok (by omega) hW (by decide) (by omega) v
  simp only [readR, if_true] at e
  have sz : szT t ≤ 100000 := by
    have := ((v.inv _ _ rfl).1 rfl).2
    omega
  have a := isp_ok (W := W) (n := n + 19) (h := h) (d := 3) (by omega) (by decide) p
  have b := text_ok (W := W) (n := n + 19) (h := h) (d := 3) (by omega) (by decide) p
  have al := alike_two (W := W) (n := n + 19) (h := h') (l := toldL t) ok (by omega) p.qv (by decide) sz
  refine ⟨h', ?_, g⟩
  simp [u3, a, b, e, al]
theorem t6_ok {n : Nat} {h : Hs} {o0 o1 o2 o3 o7 o8 o9 o10 o11 : Option T} {l mo : List Nat} {a : Nat} (hl : l.length ≤ 2000) (okm : okL mo) (hm : mo.length ≤ 2) : evS D W (callN D W n) u6 [o0, o1, o2, o3, some (.str (Sx l)), some (.int (a : Int)), some (.str (Sx mo)), o7, o8, o9, o10, o11] h = .nx [o0, o1, o2, o3, some (.str (Sx l)), some (.int (a : Int)), some (.str (Sx mo)), some (.str (Sx (bentL l mo a))), o8, o9, o10, o11] h := by
  have e : eqT h (.str (Sx mo)) (.str (Sx [])) = some (decide (mo = [])) := eq_Sx okm (by intro c hc; cases hc)
  have hz : l.length ≤ 1000000 := by omega
  have z1 : min a l.length + mo.length ≤ 1000000 := by omega
  have z2 : ∀ k, min a l.length + mo.length + (l.length - k) ≤ 1000000 := by omega
  have c1 := cut_from l (a + if mo = [] then 1 else 0)
  unfold bentL
  by_cases q : mo = []
  · rw [if_pos q] at c1 ⊢
    rw [decide_eq_true q] at e
    rw [Int.natCast_add, Int.natCast_one] at c1
    simp [u6, s_nil, e, hz, cut_to, c1, Sx_len, Sx_cat, z1, z2]
  · rw [if_neg q] at c1 ⊢
    rw [decide_eq_false q] at e
    rw [Nat.add_zero] at c1 ⊢
    simp [u6, s_nil, e, hz, cut_to, c1, Sx_len, Sx_cat, z1, z2]
theorem eq_pair {h : Hs} {a b : Int} : eqT h (.tup [.int 1, .int a]) (.tup [.int 1, .int b]) = some (decide (a = b)) := by
  have s : ∀ a : Int, SeqAt.shaped (.tuple [.int 1, .int a]) = true := fun a => by
    unfold SeqAt.shaped
    simp [PyData.canLay0, PyData.canLayAll0, PyData.depth, PyData.depthAll]
  have e : ∀ a : Int, toDh h (.tup [.int 1, .int a]) = some (.tuple [.int 1, .int a]) := fun a => by simp [toDh, toD, toDs]
  unfold eqT
  rw [e, e, Option.bind_some, Option.bind_some, if_pos (by rw [s, s]; rfl)]
  simp only [PyData.eqv, PyData.eqvAll]
  congr 1
  exact Bool.eq_iff_iff.mpr (by simp)
theorem t8h_ok {h : Hs} {o0 o1 o2 o3 o4 o5 o6 o8 o10 o11 : Option T} {x : List Nat} {z c : Int} (hl : x.length ≤ 5000) (hz : z ≠ (x.length : Int)) (hc : c = if z < 0 then 0 - z else z + 1) : evSs D W (xCal D 0 [.int 1, .int c]) u8h [o0, o1, o2, o3, o4, o5, o6, some (.str (Sx x)), o8, some (.int z), o10, o11] h = .nx [o0, o1, o2, o3, o4, o5, o6, some (.str (Sx x)), o8, some (.int z), o10, o11] h := by
  have hz' : x.length ≤ 1000000 := by omega
  by_cases hn : z < 0
  · rw [if_pos hn] at hc
    obtain rfl : c = -z := by omega
    have x1 : xCal D 0 [.int 1, .int (-z)] 0 [.str "line"] h = .ok (.int 1) h := rfl
    have x2 : xCal D 0 [.int 1, .int (-z)] 0 [.str "column"] h = .ok (.int (-z)) h := rfl
    simp [u8h, Sx_len, hz', hz, x1, x2, eq_pair, hn]
  · rw [if_neg hn] at hc
    subst hc
    have x1 : xCal D 0 [.int 1, .int (z + 1)] 0 [.str "line"] h = .ok (.int 1) h := rfl
    have x2 : xCal D 0 [.int 1, .int (z + 1)] 0 [.str "column"] h = .ok (.int (z + 1)) h := rfl
    simp [u8h, Sx_len, hz', hz, x1, x2, eq_pair, hn]
theorem t8_ok {n d : Nat} {h : Hs} {o0 o1 o2 o3 o4 o5 o6 o10 o11 : Option T} {x : List Nat} {r : PR} {t : T} {z : Int} (hW : 5001 ≤ W) (ok : okL x) (hl : x.length ≤ 5000) (hd : d ≤ 14) (v : V x none d 0 r) (hr : resT r = .tup [t, .int z]) :
    ∃ o10' h', evS D W (callN D W (n + 20)) u8 [o0, o1, o2, o3, o4, o5, o6, some (.str (Sx x)), some t, some (.int z), o10, o11] h = .nx [o0, o1, o2, o3, o4, o5, o6, some (.str (Sx x)), some t, some (.int z), o10', o11] h' ∧ Gr h h' := by
  have hz' : x.length ≤ 1000000 := by omega
  obtain ⟨h', e, g⟩ := read_ok (W := W) (n := n + 19) (h := h) ok hl hW (by omega) (by omega) v
  have i : isExc D 0 [0] = true := rfl
  cases r with
  | err p =>
    simp only [resT] at hr
    injection hr with hr
    injection hr with h1 h2
    injection h2 with h2 _
    injection h2 with h2
    subst h1 h2
    simp only [readR] at e
    refine ⟨none, h', ?_, g⟩
    unfold u8
    rw [try_exc (env1 := [o0, o1, o2, o3, o4, o5, o6, some (.str (Sx x)), some .non, some (.int (-1 - (p : Int))), o10, o11]) (h1 := h') (c := 0) (xs := [.int 1, .int ((p : Int) + 1)]) (by simp [u8b, e]) i]
    have := t8h_ok (W := W) (h := h') (o0 := o0) (o1 := o1) (o2 := o2) (o3 := o3) (o4 := o4) (o5 := o5) (o6 := o6) (o8 := some .non) (o10 := none) (o11 := o11) (x := x) (z := -1 - (p : Int)) (c := (p : Int) + 1) hl (by omega) (by rw [if_pos (by omega)]; omega)
    simp [this, SR.offName]
  | ok u p =>
    simp only [resT] at hr
    injection hr with hr
    injection hr with h1 h2
    injection h2 with h2 _
    injection h2 with h2
    subst h1 h2
    have adv := v.adv u p rfl
    obtain ⟨q, sz⟩ := (v.inv u p rfl).1 rfl
    by_cases hp : p = x.length
    · subst hp
      simp only [readR, if_true] at e
      have al := alike_val (W := W) (n := n + 19) (h := h') q (by omega) (by omega)
      refine ⟨o10, h', ?_, g⟩
      unfold u8
      rw [try_nx (env1 := [o0, o1, o2, o3, o4, o5, o6, some (.str (Sx x)), some u, some (.int (x.length : Int)), o10, o11]) (h1 := h') (by simp [u8b, e, al, Sx_len, hz'])]
    · simp only [readR, if_neg hp] at e
      refine ⟨none, h', ?_, g⟩
      unfold u8
      rw [try_exc (env1 := [o0, o1, o2, o3, o4, o5, o6, some (.str (Sx x)), some u, some (.int (p : Int)), o10, o11]) (h1 := h') (c := 0) (xs := [.int 1, .int ((p : Int) + 1)]) (by simp [u8b, e]) i]
      have := t8h_ok (W := W) (h := h') (o0 := o0) (o1 := o1) (o2 := o2) (o3 := o3) (o4 := o4) (o5 := o5) (o6 := o6) (o8 := some u) (o10 := none) (o11 := o11) (x := x) (z := (p : Int)) (c := (p : Int) + 1) hl (by omega) (by rw [if_neg (by omega)])
      simp [this, SR.offName]
theorem bag_gr {h h' : Hs} {k : Nat} (B : Bag h k) (g : Gr h h') : Bag h' k := by
  obtain ⟨a, b, c, cells, e, r⟩ := B
  exact ⟨a, b, c, cells, by rw [g.2 k (List.getElem?_eq_some_iff.mp e).1]; exact e, r⟩
/-- one turn: the bag stays a bag -/
theorem turn_ok {n k : Nat} {h : Hs} {o0 o2 o3 o4 o5 o6 o7 o8 o9 o10 o11 : Option T} (hW : 5001 ≤ W) (B : Bag h k) :
    ∃ o3' o4' o5' o6' o7' o8' o9' o10' h', evSs D W (callN D W (n + 20)) turnB [o0, some (.ref k), o2, o3, o4, o5, o6, o7, o8, o9, o10, o11] h = .nx [o0, some (.ref k), o2, o3', o4', o5', o6', o7', o8', o9', o10', o11] h' ∧ Bag h' k := by
  obtain ⟨t, h1, e1, p, B1, b1⟩ := val_ok (W := W) 3 (n + 20) h (by decide) (by omega) B
  have e2 := told_ok (W := W) 3 (n + 20) t h1 (by decide) (by omega) p
  have hl : (toldL t).length ≤ 2000 := Nat.le_trans (told_len 3 t p) (by decide)
  have ok := told_okL 3 t p
  obtain ⟨h2, e3, g2⟩ := t3_ok (n := n) (h := h1) (o0 := o0) (o1 := some (.ref k)) (o2 := o2) (o5 := o5) (o6 := o6) (o7 := o7) (o8 := o8) (o9 := o9) (o10 := o10) (o11 := o11) hW p
  have B2 := bag_gr B1 g2
  obtain ⟨a, h3, e4, a0, a1, B3, b3, _⟩ := take_call (W := W) lb (n := n + 19) (m := ((toldL t).length : Int) + 1) B2 (by omega) (by omega)
  obtain ⟨a, rfl⟩ := Int.eq_ofNat_of_zero_le a0
  obtain ⟨y, h4, e5, m5, B4, b4, _⟩ := some_call (W := W) lb (n := n + 18) (xs := putL) B3 (by simp) (by decide)
  obtain ⟨mo, rfl, okm, lm, cm⟩ := put_ok m5
  have e6 := t6_ok (W := W) (n := n + 20) (h := h4) (o0 := o0) (o1 := some (.ref k)) (o2 := o2) (o3 := some t) (o7 := o7) (o8 := o8) (o9 := o9) (o10 := o10) (o11 := o11) (l := toldL t) (mo := mo) (a := a) hl okm lm
  have okb := bent_okL (a := a) ok okm
  have lb' := bent_len (a := a) hl lm
  have cb := bent_cnt (a := a) (told_cnt 3 t p) cm
  obtain ⟨r, v⟩ := (V.ex (x := bentL (toldL t) mo a) (bentL (toldL t) mo a).length 0 (by omega)).1
  rw [List.drop_zero] at v
  obtain ⟨h5, e7, g5⟩ := at_ok (W := W) okb lb' v (by omega) (Nat.zero_le _) (n + 20) h4 (by omega)
  have e7 : callN D W (n + 20) 10 [.str (Sx (bentL (toldL t) mo a)), .int 0] h4 = .ok (resT r) h5 := e7
  obtain ⟨u, z, hr⟩ : ∃ u z, resT r = .tup [u, .int z] := by cases r with
    | ok u p => exact ⟨u, _, rfl⟩
    | err p => exact ⟨.non, _, rfl⟩
  obtain ⟨o10', h6, e8, g6⟩ := t8_ok (W := W) (n := n) (h := h5) (o0 := o0) (o1 := some (.ref k)) (o2 := o2) (o3 := some t) (o4 := some (.str (Sx (toldL t)))) (o5 := some (.int (a : Int))) (o6 := some (.str (Sx mo))) (o10 := o10) (o11 := o11) hW okb lb' cb v hr
  rw [hr] at e7
  have hz : (toldL t).length ≤ 1000000 := by omega
  have e1 : callN D W (n + 20) 2 [.ref k, .int 3] h = .ok t h1 := e1
  refine ⟨some t, some (.str (Sx (toldL t))), some (.int (a : Int)), some (.str (Sx mo)), some (.str (Sx (bentL (toldL t) mo a))), some u, some (.int z), o10', h6, ?_, bag_gr (bag_gr B4 g5) g6⟩
  simp [turnB, e1, e2, e3, e4, e5, e6, e7, e8, Sx_len, hz, bindG, bindTs]
end
end K10
end

section
set_option Elab.async false
set_option linter.all false
set_option maxRecDepth 10000
/-! K10q6: the law answers. -/
namespace K10
open PySem Fs Fp
theorem bag_fn : D.fns[1]? = some ⟨none, "_law_bag", 1, 2, f__law_bag⟩ := rfl
theorem law_fn : D.fns[0]? = some ⟨none, "law", 1, 12, f_law⟩ := rfl
theorem bag_ok {W n : Nat} {ns : List Int} {h : Hs} (hl : ns.length ≤ 63) : ∃ h', callN D W (n + 1) 1 [.scr ns] h = .ok (.ref h.length) h' ∧ Bag h' h.length := by
  have hc := cut_len ns none (some 63)
  refine ⟨h ++ [bagO 0 1234567891 0 ((cutL ns none (some 63)).map fun i => if i < 0 then -i else i)], ?_, ⟨0, 1234567891, 0, (cutL ns none (some 63)).map fun i => if i < 0 then -i else i, by simp, by decide, ?_, by rw [List.length_map]; omega⟩⟩
  · rw [callN_eq bag_fn rfl (by decide)]
    have cc := ev_compM (D := D) (cl := callN D W n) (env := [some (T.scr ns), none]) (h := h) (h1 := h) (i := 1) (it := .seq (.sl (.var 0) (.absent) (.int 63))) (e := .bi .abs (.cons (.var 1) (.nil))) (vs := [1]) (xs := (cutL ns none (some 63)).map T.int) (g := fun x => match x with
        | .int i => .int (if i < 0 then -i else i)
        | _ => .non) (by simp [slT]) (by rw [List.length_map]; simp only [lim_eq]; omega) (fun x hx => by
          obtain ⟨i, hi, rfl⟩ := List.mem_map.mp hx
          simp [wipeT])
    rw [List.map_map] at cc
    have e : (cutL ns none (some 63)).map ((fun x => match x with
        | .int i => T.int (if i < 0 then -i else i)
        | _ => .non) ∘ T.int) = ((cutL ns none (some 63)).map fun i => if i < 0 then -i else i).map T.int := by
      rw [List.map_map]
      rfl
    rw [e] at cc
    generalize ((cutL ns none (some 63)).map fun i => if i < 0 then -i else i) = cells at cc
    simp [f__law_bag, cc, bagO]
  · intro x hx
    obtain ⟨i, hi, rfl⟩ := List.mem_map.mp hx
    split <;> omega
theorem turns {W n k : Nat} {o0 o11 : Option T} (hW : 5001 ≤ W) : ∀ (L : List T) (h : Hs) (o2 o3 o4 o5 o6 o7 o8 o9 o10 : Option T), Bag h k →
    ∃ o2' o3' o4' o5' o6' o7' o8' o9' o10' h', forL (.nm 2) (fun env2 h2 => evSs D W (callN D W (n + 20)) turnB env2 h2) L [o0, some (.ref k), o2, o3, o4, o5, o6, o7, o8, o9, o10, o11] h = .nx [o0, some (.ref k), o2', o3', o4', o5', o6', o7', o8', o9', o10', o11] h' ∧ Bag h' k
  | [], h, o2, o3, o4, o5, o6, o7, o8, o9, o10, B => ⟨o2, o3, o4, o5, o6, o7, o8, o9, o10, h, rfl, B⟩
  | t :: L, h, o2, o3, o4, o5, o6, o7, o8, o9, o10, B => by
    obtain ⟨p3, p4, p5, p6, p7, p8, p9, p10, h1, e1, B1⟩ := turn_ok (W := W) (n := n) (h := h) (o0 := o0) (o2 := some t) (o3 := o3) (o4 := o4) (o5 := o5) (o6 := o6) (o7 := o7) (o8 := o8) (o9 := o9) (o10 := o10) (o11 := o11) hW B
    obtain ⟨q2, q3, q4, q5, q6, q7, q8, q9, q10, h2, e2, B2⟩ := turns (W := W) (n := n) (k := k) (o0 := o0) (o11 := o11) hW L h1 (some t) p3 p4 p5 p6 p7 p8 p9 p10 B1
    exact ⟨q2, q3, q4, q5, q6, q7, q8, q9, q10, h2, by rw [forL_nx (env2 := [o0, some (.ref k), some t, p3, p4, p5, p6, p7, p8, p9, p10, o11]) (h2 := h1) e1]; exact e2, B2⟩
theorem law_ok (ns : List Int) (hl : ns.length ≤ 63) : ∃ h', callN D 5001 60 0 [.scr ns] [] = .ok (.bl true) h' := by
  obtain ⟨h1, e1, B1⟩ := bag_ok (W := 5001) (n := 58) (h := []) hl
  obtain ⟨o2, o3, o4, o5, o6, o7, o8, o9, o10, h2, e2, B2⟩ := turns (W := 5001) (n := 39) (k := 0) (o0 := some (.scr ns)) (o11 := none) (by decide) ((List.range (14 : Int).toNat).map fun i : Nat => T.int (i : Int)) h1 none none none none none none none none none B1
  obtain ⟨env', e3⟩ := odd_loop (W := 5001) (n := 54) (h := h2) oddL [some (.scr ns), some (.ref 0), o2, o3, o4, o5, o6, o7, o8, o9, o10, none] (fun t ht => ht) (by simp)
  refine ⟨h2, ?_⟩
  rw [callN_eq law_fn rfl (by decide), law_body]
  have f1 : evS D 5001 (callN D 5001 59) (.for_ (.nm 2) (.rng (.int 14)) turnB) [some (.scr ns), some (.ref 0), none, none, none, none, none, none, none, none, none, none] h1 = .nx [some (.scr ns), some (.ref 0), o2, o3, o4, o5, o6, o7, o8, o9, o10, none] h2 := by
    rw [evS_for, rng_ok (i := 14) (h1 := h1) (by simp) (rangeT_nat (by decide) (by decide)), R.toS_ok]
    exact e2
  have f2 : evS D 5001 (callN D 5001 59) (.for_ (.nm 11) (.seq (.tup (.cons (.bl true) (.cons (.lstI (.cons (.int 1) (.nil))) (.cons (.tup (.cons (.str "A") (.nil))) (.cons (.tup (.cons (.str "1a") (.nil))) (.cons (.bin .pow (.int 10) (.int 40)) (.cons (.neg (.bin .pow (.int 10) (.int 40))) (.cons (.lstI (.cons (.non) (.nil))) (.cons (.tup (.cons (.str "") (.nil))) (.nil))))))))))) oddB) [some (.scr ns), some (.ref 0), o2, o3, o4, o5, o6, o7, o8, o9, o10, none] h2 = .nx env' h2 := by
    have hi : evI D (callN D 5001 59) (.seq (.tup (.cons (.bl true) (.cons (.lstI (.cons (.int 1) (.nil))) (.cons (.tup (.cons (.str "A") (.nil))) (.cons (.tup (.cons (.str "1a") (.nil))) (.cons (.bin .pow (.int 10) (.int 40)) (.cons (.neg (.bin .pow (.int 10) (.int 40))) (.cons (.lstI (.cons (.non) (.nil))) (.cons (.tup (.cons (.str "") (.nil))) (.nil))))))))))) [some (.scr ns), some (.ref 0), o2, o3, o4, o5, o6, o7, o8, o9, o10, none] h2 = .ok oddL h2 := by
      simp [oddL]
    rw [evS_for, hi, R.toS_ok]
    exact e3
  have e1 : callN D 5001 59 1 [.scr ns] [] = .ok (.ref 0) h1 := e1
  simp [e1, f1, f2]
end K10
end

section
set_option Elab.async false
set_option linter.all false
set_option maxRecDepth 100000
set_option maxHeartbeats 0
/-! K10h: the head's run. -/
namespace K10
open PySem Fs
abbrev R : PySem.W.OpenRow := PySem.W.OpenLaw.row PySem.Challenge.rw_fewslots_k10_values_told_as_texts
abbrev hk : PySem.W.Hook := hookX 6 D dd xs
def ob (s : PySem.W.SharedT) : Ob2 := obsXG 6 D dd xs (HandSHeadRun.getT s)
theorem ob_eq (s : PySem.W.SharedT) : ob s = hk.obs s.abs := obsXG_eq (HandSHeadRun.getT_eq s)
abbrev loose : List Str := ["_wall", "__name__", "SlotError", "BadText", "Nothing", "LETTERS", "DIGITS", "is_number", "MOST_LEVELS", "MOST_FIGURES", "is_word", "is_plain", "is_plain_value", "shown", "value_text", "figures_value", "run_value", "Values", "read_value", "_law_take", "_law_some", "_law_bag", "_law_alike", "_law_value_of", "_law_told", "_law_atom", "_law_at"]
theorem run (w : World) : HandSHeadRun.RunEq R (PySem.W.view R.prog [30]) hk ob 6000 loose w := by
  intro os
  kernel_rfl
end K10
end

section
set_option Elab.async false
set_option linter.all false
set_option maxRecDepth 100000
set_option maxHeartbeats 0
/-! K10f: the law holds if its term answers. -/
open PySem PySem.W PySem.Calls PyProof.Rows
theorem k10_holds {wn : Nat} (ans : ∀ ns : List Int, ns.length ≤ 63 → ∃ h', Fs.callN K10.D wn 60 0 [.scr ns] [] = .ok (.bl true) h') : PySem.Challenge.rw_fewslots_k10_values_told_as_texts.Holds := by
  w_on; o_law
  refine HandSHeadRun.head_any (r := K10.R) (q := view K10.R.prog [30]) (H := K10.hk) (ob := K10.ob) (M := 6000) (loose := K10.loose) (d := HandSHeadRun.topDef K10.R.prog 30) (kwd := []) K10.ob_eq
    (by kernel_rfl) (fun s => by kernel_rfl) K10.run (by kernel_rfl) (by kernel_rfl) (by kernel_rfl) (by rfl) (by first | assumption | decide +kernel) (by decide +kernel) ⟨rfl, rfl, rfl, rfl, rfl, by decide +kernel⟩ ?hw ?hc
  case hw => w_witness2
  case hc =>
    exact Fs.walk_go (l := PySem.Challenge.rw_fewslots_k10_values_told_as_texts) (most := 63) (n := 60) (wn := wn) (fl := 0) (sc := 6) (D := K10.D) (dd := K10.dd) (xs := K10.xs) (dl := K10.d0) rfl (by decide) (by kernel_rfl) ⟨rfl, by decide, by decide⟩ rfl (by kernel_rfl) (by decide) K10.tAll K10.bAll K10.xAll (by kernel_rfl) (by kernel_rfl) ans
end

section
/-! K10z: the law holds. -/
theorem k10_all : PySem.Challenge.rw_fewslots_k10_values_told_as_texts.Holds := k10_holds K10.law_ok
end

set_option maxRecDepth 100000 in
set_option maxHeartbeats 0 in
theorem PySem.Challenge.cw_fewslots_k10_values_told_as_texts_holds : PySem.Challenge.rw_fewslots_k10_values_told_as_texts.Holds := by
  exact k10_all
