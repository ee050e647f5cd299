import PyProof.Rows.All
import Wide.All
import OpenK.AllK
import Wide.FinOn
import HandS.ForMost
import HandS.TupLe
import HandS.TupMul
import HandS.Deep
import PyProof.Rows.SumAny
import HandS.Flow
import HandS.Style
import HandS.IsInst
import HandS.Conv
import HandS.FStr
import HandS.TupAny
import HandS.RaiseMore
import HandS.Exc
import HandS.ExcOwn
import HandS.HeadWalk
import PyProof.ReprRoads
import HandS.Text
import HandS.List
import HandS.WordsDict
import HandS.Iter
import HandS.Comp
import HandS.TryMany
import HandS.ExcField
import HandS.DictComp
import HandS.TryOnly
import HandS.Ends
import HandS.Defaults
import HandS.HeadHook2
import HandS.Codes
import HandS.Head0
import HandS.Head1
import HandS.Head2
import HandS.HeadEnd
import KE.KExcSuper
import HandS.ExcInit
import PyProof.P3Eq
import PySem.Challenge.RW_fewslots_k06_trackers_that_are_kinded
section
set_option Elab.async false
set_option linter.all false
/-! Fs0: a small language of our own (E, S), tree values T, a heap of numbered objects, and what programs of it do. -/
namespace Fs
open PySem

/-- values: tuples and lists that nobody changes are trees; what changes is an object with a number -/
inductive T where
  | non | bl (b : Bool) | int (i : Int) | str (s : Str)
  | tup (ts : List T) | lst (ts : List T) | scr (ns : List Int)
  | ref (k : Nat) | fn (f : Nat)
  /-- a dict that nobody changes: its keys, its values -/
  | dct (ks : List L2.Key) (ts : List T)
instance : Inhabited T := ⟨.non⟩

inductive Ob where
  | gone | lst (ts : List T) | dct (kvs : List (L2.Key × T)) | ins (c : Nat) (fs : List (Str × T))
abbrev Hs := List Ob
abbrev En := List (Option T)

inductive R (α : Type) where
  | ok (a : α) (h : Hs) | exc (c : Nat) (xs : List T) (h : Hs) | bad
namespace R
def bind {α β : Type} (r : R α) (k : α → Hs → R β) : R β := match r with
  | ok a h => k a h
  | exc c xs h => exc c xs h
  | bad => bad
/-- no exception may leave -/
def nox {α : Type} (r : R α) : R α := match r with
  | ok a h => ok a h
  | _ => bad
def ofO {α : Type} (o : Option α) (h : Hs) : R α := match o with
  | some a => ok a h
  | none => bad
@[simp] theorem bind_ok {α β : Type} (a : α) (h : Hs) (k : α → Hs → R β) : (ok a h).bind k = k a h := rfl
@[simp] theorem bind_exc {α β : Type} (c : Nat) (xs : List T) (h : Hs) (k : α → Hs → R β) : (exc c xs h : R α).bind k = exc c xs h := rfl
@[simp] theorem bind_bad {α β : Type} (k : α → Hs → R β) : (bad : R α).bind k = bad := rfl
theorem bind_assoc {α β γ : Type} (r : R α) (f : α → Hs → R β) (g : β → Hs → R γ) : (r.bind f).bind g = r.bind fun a h => (f a h).bind g := by
  cases r <;> rfl
theorem ofO_map {α β : Type} (o : Option α) (f : α → β) (h : Hs) : (ofO o h).bind (fun a h1 => .ok (f a) h1) = ofO (o.map f) h := by
  cases o <;> rfl
@[simp] theorem nox_ok {α : Type} (a : α) (h : Hs) : (ok a h).nox = ok a h := rfl
@[simp] theorem ofO_some {α : Type} (a : α) (h : Hs) : ofO (some a) h = ok a h := rfl
@[simp] theorem ofO_none {α : Type} (h : Hs) : (ofO none h : R α) = bad := rfl
end R

inductive Bk where | add | sub | mul | fdiv | mod | pow
inductive Ck where | eq | ne | lt | le | gt | ge | is | nis | inn | nin
inductive Kd where | non | bl | int | str | tup | lst | dct
/-- built-in functions, types called -/
inductive Bi where | abs | all | any | int | len | list | max1 | max2 | min1 | min2 | repr | str | sum | sumL | tuple | isinst (k : Kd)
/-- built-in methods -/
inductive Bm where | append | join | pop | extend | index | split

mutual
inductive E where
  | non | bl (b : Bool) | int (i : Int) | str (s : Str)
  | var (i : Nat) | glob (g : Nat) | fnv (f : Nat)
  | bin (o : Bk) (a b : E) | neg (a : E)
  | nott (a : E) | andv (xs : Es) | orv (xs : Es)
  | cmp (o : Ck) (a b : E) | cmp2 (o o2 : Ck) (a b c : E)
  | ite (c a b : E)
  | tup (xs : Es) | lstI (xs : Es) | lstM (xs : Es)
  | ix (a i : E) | sl (a lo hi : E) | absent
  | call (f : Nat) (xs : Es) | callV (i : Nat) (xs : Es) | meth (f : Nat) (o : E) (xs : Es) | new (c : Nat) (xs : Es)
  | bi (b : Bi) (xs : Es) | bm (m : Bm) (o : E) (xs : Es)
  | attr (o : E) (f : Str)
  /-- a field of the exception at hand -/
  | exf (f : Str)
  | comp (m : Bool) (t : Tg) (it : It) (c : E) (e : E) (vs : List Nat)
  | dcomp (t : Tg) (it : It) (c : E) (k : E) (e : E) (vs : List Nat)
  | fstr (xs : Es)
  /-- a list that is changed no more: its items as a tree -/
  | frz (e : E)
inductive Es where | nil | cons (a : E) (r : Es)
inductive It where | seq (e : E) | rng (e : E) | rng2 (a b : E) | enum (e : E) | zip (a b : E)
inductive Tg where | nm (i : Nat) | tp (ns : List Nat)
end

mutual
inductive S where
  | set (i : Nat) (e : E) | setT (ns : List Nat) (e : E) | par (ns : List Nat) (xs : Es)
  | setIx (o i e : E) | setAt (o : E) (f : Str) (e : E) | aug (i : Nat) (b : Bk) (e : E) | augIx (o i : E) (b : Bk) (e : E)
  | ex (e : E) | ret (e : E) | retN
  | ifs (c : E) (a b : Ss) | for_ (t : Tg) (it : It) (b : Ss) | whil (c : E) (b : Ss)
  | rais (c : Nat) (xs : Es) | tryy (b : Ss) (hs : Hd)
  | brk | cont | pass
inductive Ss where | nil | cons (s : S) (r : Ss)
/-- except clauses: the classes, the name's place, the suite -/
inductive Hd where | nil | cons (cs : List Nat) (i : Option Nat) (b : Ss) (r : Hd)
end

structure Fn where
  cls : Option Nat
  nm : Str
  ps : Nat
  nN : Nat
  body : Ss
inductive Cl where
  | plain (nm : Str) (init : Nat) (fl : List Str)
  /-- an exception: its fields, as its arguments stand; the classes that it is, itself too -/
  | exc (nm : Str) (fl : List Str) (up : List Nat)
structure Tb where
  fns : List Fn
  cls : List Cl
  cns : List (Str × T)

/-! ### values -/
mutual
def toD : T → Option PyData
  | .non => some .none
  | .bl b => some (.bool b)
  | .int i => some (.int i)
  | .str s => some (.str s)
  | .tup ts => (toDs ts).map PyData.tuple
  | .lst ts => (toDs ts).map PyData.list
  | _ => none
def toDs : List T → Option (List PyData)
  | [] => some []
  | t :: r => (toD t).bind fun d => (toDs r).map fun ds => d :: ds
end
def toDh (h : Hs) : T → Option PyData
  | .ref k => match h[k]? with
    | some (.lst ts) => (toDs ts).map PyData.list
    | _ => none
  | t => toD t
def eqT (h : Hs) (x y : T) : Option Bool := (toDh h x).bind fun d => (toDh h y).bind fun e =>
  if SeqAt.shaped d && SeqAt.shaped e then some (PyData.eqv d e) else none
def truT (h : Hs) : T → Option Bool
  | .non => some false
  | .bl b => some b
  | .int i => some (i != 0)
  | .str s => if s.length ≤ 1000000 then some (s.length != 0) else none
  | .tup ts => some (!ts.isEmpty)
  | .lst ts => some (!ts.isEmpty)
  | .ref k => match h[k]? with
    | some (.lst ts) => some (!ts.isEmpty)
    | _ => none
  | _ => none
def lim : Nat := 1000000
def addT : T → T → Option T
  | .int i, .int j => some (.int (i + j))
  | .str x, .str y => if x.length + y.length ≤ lim then some (.str (x ++ y)) else none
  | .tup x, .tup y => if x.length + y.length ≤ lim then some (.tup (x ++ y)) else none
  | .lst x, .lst y => if x.length + y.length ≤ lim then some (.lst (x ++ y)) else none
  | _, _ => none
def mulOk (i j : Int) : Bool := (decide (-(2 ^ 64) < i) && decide (i < 2 ^ 64)) || (decide (-(2 ^ 64) < j) && decide (j < 2 ^ 64))
def binT (b : Bk) (x y : T) : Option T := match b with
  | .add => addT x y
  | .sub => match x, y with
    | .int i, .int j => some (.int (i - j))
    | _, _ => none
  | .mul => match x, y with
    | .int i, .int j => if mulOk i j then some (.int (i * j)) else none
    | .str x, .int n => if decide (0 ≤ n) && (decide (n ≤ 1000) && decide (x.length ≤ 1000)) then some (.str (Txt.mul x n)) else none
    | .tup x, .int n => if (decide (2 ≤ n) && decide (n ≤ 1000)) && (decide (x.length ≤ 1000) && !x.isEmpty) then some (.tup (List.replicate n.toNat x).flatten) else none
    | _, _ => none
  | .fdiv => match x, y with
    | .int i, .int j => if decide (0 < j) && decide (j < 1073741824) then some (.int (i / j)) else none
    | _, _ => none
  | .mod => match x, y with
    | .int i, .int j => if decide (0 < j) then some (.int (i % j)) else none
    | _, _ => none
  | .pow => match x, y with
    | .int i, .int j => if decide (0 ≤ j) && (decide (j ≤ 1000000) && decide (i.natAbs < 2 ^ 64)) then some (.int (i ^ j.toNat)) else none
    | _, _ => none
def intsT : List T → Option (List Int)
  | [] => some []
  | .int i :: r => (intsT r).map (i :: ·)
  | _ :: _ => none
/-- t > u of tuples of ints -/
def gtL (ns ms : List Int) : Bool := Ob.lexAt (fun j => decide (ns.getD j 0 = ms.getD j 0)) (fun j => decide (ms.getD j 0 < ns.getD j 0)) (decide (ms.length < ns.length)) 0 (min ns.length ms.length)
def flatT : T → Bool
  | .non | .bl _ | .int _ | .str _ => true
  | _ => false
def eqF : T → T → Bool
  | .non, .non => true
  | .bl a, .bl b => a == b
  | .bl a, .int j => (if a then 1 else 0) == j
  | .int i, .bl b => i == (if b then 1 else 0)
  | .int i, .int j => i == j
  | .str x, .str y => decide (x = y)
  | _, _ => false
/-- x in y -/
def inDeep (x : T) (ts : List T) : Option Bool := (toD x).bind fun d => (toDs ts).bind fun ds => if SeqAt.shaped d && SeqAt.shaped (.list ds) then some (ds.any fun z => PyData.eqv z d) else none
def inT (h : Hs) (x y : T) : Option Bool := match y with
  | .str z => match x with
    | .str s => match s.cps.toList with
      | [c] => some (decide (c ∈ z.cps.toList))
      | _ => none
    | _ => none
  | .tup ts => if flatT x && ts.all flatT then some (ts.any fun y => eqF y x) else none
  | .lst ts => if flatT x && ts.all flatT then some (ts.any fun y => eqF y x) else inDeep x ts
  | .ref k => match h[k]? with
    | some (.lst ts) => if flatT x && ts.all flatT then some (ts.any fun y => eqF y x) else none
    | _ => none
  | _ => none
def isLive (h : Hs) (k : Nat) : Bool := match h[k]? with
  | some .gone => false
  | some _ => true
  | none => false
def isT (h : Hs) : T → T → Option Bool
  | x, .non => match x with
    | .non => some true
    | .ref k => if isLive h k then some false else none
    | _ => some false
  | .bl a, .bl b => some (decide (a = b))
  | _, _ => none
def cmpT (c : Ck) (h : Hs) (x y : T) : Option Bool := match c with
  | .eq => eqT h x y
  | .ne => (eqT h x y).map (!·)
  | .lt => match x, y with
    | .int i, .int j => some (decide (i < j))
    | _, _ => none
  | .le => match x, y with
    | .int i, .int j => some (decide (i ≤ j))
    | _, _ => none
  | .gt => match x, y with
    | .int i, .int j => some (decide (j < i))
    | .tup xs, .tup ys => (intsT xs).bind fun ns => (intsT ys).map fun ms => gtL ns ms
    | _, _ => none
  | .ge => match x, y with
    | .int i, .int j => some (decide (j ≤ i))
    | _, _ => none
  | .is => isT h x y
  | .nis => (isT h x y).map (!·)
  | .inn => inT h x y
  | .nin => (inT h x y).map (!·)
def sgn (c : Nat) : T := .str ⟨#[c]⟩
def ixT (h : Hs) (x i : T) : Option T := match i with
  | .int i => match x with
    | .tup ts => L2.atI ts i
    | .lst ts => L2.atI ts i
    | .str z => if z.length ≤ lim then (L2.atI z.cps.toList i).map sgn else none
    | .ref k => match h[k]? with
      | some (.lst ts) => L2.atI ts i
      | _ => none
    | _ => none
  | _ => none
def cutL {α : Type} (xs : List α) (lo hi : Option Int) : List α := (xs.drop (HT.sIx xs.length 0 lo)).take (HT.sIx xs.length xs.length hi - HT.sIx xs.length 0 lo)
def slT (x : T) (lo hi : Option Int) : Option T := match x with
  | .tup ts => some (.tup (cutL ts lo hi))
  | .lst ts => some (.lst (cutL ts lo hi))
  | .scr ns => some (.lst ((cutL ns lo hi).map T.int))
  | .str z => if z.length ≤ lim then some (.str (L2.cutS z lo hi)) else none
  | _ => none
def items : T → Option (List T)
  | .tup ts => some ts
  | .lst ts => some ts
  | .str z => some (z.cps.toList.map sgn)
  | _ => none
def bools : List T → Option (List Bool)
  | [] => some []
  | .bl i :: r => (bools r).map (i :: ·)
  | _ :: _ => none
def texts : List T → Option (List Str)
  | [] => some []
  | .str i :: r => (texts r).map (i :: ·)
  | _ :: _ => none
/-- a value of the first kind is one of the second -/
def Kd.is : Kd → Kd → Bool
  | .non, .non | .bl, .bl | .bl, .int | .int, .int | .str, .str | .tup, .tup | .lst, .lst | .dct, .dct => true
  | _, _ => false
def kind (h : Hs) : T → Option Kd
  | .non => some .non
  | .bl _ => some .bl
  | .int _ => some .int
  | .str _ => some .str
  | .tup _ => some .tup
  | .lst _ => some .lst
  | .ref k => match h[k]? with
    | some (.lst _) => some .lst
    | some (.dct _) => some .dct
    | _ => none
  | _ => none
def maxL : List Int → Option Int
  | [] => none
  | a :: r => some (r.foldl (fun m x => if x > m then x else m) a)
def minL : List Int → Option Int
  | [] => none
  | a :: r => some (r.foldl (fun m x => if x < m then x else m) a)
def lenT (h : Hs) : T → Option Nat
  | .tup ts => some ts.length
  | .lst ts => some ts.length
  | .dct ks _ => some ks.length
  | .str s => if s.length ≤ lim then some s.length else none
  | .ref k => match h[k]? with
    | some (.lst ts) => some ts.length
    | _ => none
  | _ => none
def reprT (h : Hs) (x : T) : Option T := (toDh h x).bind fun d => if SeqAt.shaped d && (d.showable && decide (d.shown.length ≤ lim)) then some (.str d.shown) else none
def toInt : T → Option T
  | .int i => some (.int i)
  | .bl b => some (.int (if b then 1 else 0))
  | .str s => if s.length ≤ 640 then (intText? s).map T.int else none
  | _ => none
def toStr : T → Option T
  | .str s => some (.str s)
  | .int i => if i.natAbs.log2 < 1920 then some (.str (toString i)) else none
  | _ => none
def toLst : T → Option T
  | .tup ts => some (.lst ts)
  | .lst ts => some (.lst ts)
  | _ => none
def toTup (h : Hs) : T → Option T
  | .tup ts => some (.tup ts)
  | .lst ts => some (.tup ts)
  | .ref k => match h[k]? with
    | some (.lst ts) => some (.tup ts)
    | _ => none
  | _ => none
def one : List T → Option T
  | [x] => some x
  | _ => none
def intT : T → Option Int
  | .int i => some i
  | _ => none
def two : List T → Option (Int × Int)
  | [x, y] => match x, y with
    | .int i, .int j => some (i, j)
    | _, _ => none
  | _ => none
def lstsT : List T → Option (List (List T))
  | [] => some []
  | .lst i :: r => (lstsT r).map (i :: ·)
  | _ :: _ => none
def lstOf : List T → Option (List T)
  | [x] => match x with
    | .lst ts => some ts
    | _ => none
  | _ => none
/-- sum(lists, []) -/
def sumLT : List T → Option T
  | [x, y] => match x, y with
    | .lst ts, .lst us => if us.isEmpty then (lstsT ts).bind fun tss => if tss.flatten.length ≤ lim then some (.lst tss.flatten) else none else none
    | _, _ => none
  | _ => none
def biT (b : Bi) (h : Hs) (xs : List T) : Option T := match b with
  | .abs => (one xs).bind fun x => (intT x).map fun i => .int (if i < 0 then -i else i)
  | .all => (lstOf xs).bind fun ts => (bools ts).map fun bs => .bl (bs.all id)
  | .any => (lstOf xs).bind fun ts => (bools ts).map fun bs => .bl (bs.any id)
  | .int => (one xs).bind toInt
  | .len => (one xs).bind fun x => (lenT h x).map fun (n : Nat) => T.int (n : Int)
  | .list => (one xs).bind toLst
  | .max2 => (two xs).map fun p => .int (if p.2 > p.1 then p.2 else p.1)
  | .min2 => (two xs).map fun p => .int (if p.2 < p.1 then p.2 else p.1)
  | .max1 => (lstOf xs).bind fun ts => (intsT ts).bind fun ns => (maxL ns).map T.int
  | .min1 => (lstOf xs).bind fun ts => (intsT ts).bind fun ns => (minL ns).map T.int
  | .repr => (one xs).bind (reprT h)
  | .str => (one xs).bind toStr
  | .sum => (lstOf xs).bind fun ts => (intsT ts).map fun ns => .int ns.sum
  | .sumL => sumLT xs
  | .tuple => (one xs).bind (toTup h)
  | .isinst n => (one xs).bind fun x => (kind h x).map fun k => .bl (k.is n)
def glueOk (a : Str) (ys : List Str) : Bool := decide ((ys.map (·.length)).sum + ys.length * a.length ≤ lim)
/-- a method of a value; the object may change -/
def bmT (m : Bm) (h : Hs) (o : T) (xs : List T) : Option (T × Hs) := match m, o, xs with
  | .append, .ref k, [x] => match h[k]? with
    | some (.lst ts) => if ts.length < lim then some (.non, h.set k (.lst (ts ++ [x]))) else none
    | _ => none
  | .extend, .ref k, [.lst us] => match h[k]? with
    | some (.lst ts) => if ts.length + us.length ≤ lim then some (.non, h.set k (.lst (ts ++ us))) else none
    | _ => none
  | .join, .str a, [.lst ts] => (texts ts).bind fun ys => if glueOk a ys then some (.str (Str.join a ys), h) else none
  | _, _, _ => none
/-- what has such a method -/
def bmOk (m : Bm) (h : Hs) (o : T) : Bool := match m, o with
  | .append, .ref k => match h[k]? with
    | some (.lst _) => true
    | _ => false
  | .extend, .ref k => match h[k]? with
    | some (.lst _) => true
    | _ => false
  | .join, .str _ => true
  | _, _ => false
def fmtT : T → Option Str
  | .str s => if s.length ≤ lim then some s else none
  | .int i => if i.natAbs.log2 < 1920 then some (toString i : String) else none
  | _ => none
def wipeT (env : En) : List Nat → En
  | [] => env
  | v :: vs => (wipeT env vs).set v none
def bindTs : List Nat → List T → En → Option En
  | [], [], env => some env
  | i :: is, x :: xs, env => bindTs is xs (env.set i (some x))
  | _, _, _ => none
def bindG (t : Tg) (x : T) (env : En) : Option En := match t with
  | .nm i => some (env.set i (some x))
  | .tp is => match x with
    | .tup ts => bindTs is ts env
    | _ => none
def rangeT (lo hi : Int) : Option (List T) :=
  if decide (-(2 ^ 62) ≤ lo) && (decide (lo < 2 ^ 62) && (decide (-(2 ^ 62) ≤ hi) && decide (hi < 2 ^ 62))) then some ((List.range (hi - lo).toNat).map fun i : Nat => T.int (lo + (i : Int))) else none
def enumT (n : Nat) : List T → List T
  | [] => []
  | x :: r => .tup [.int n, x] :: enumT (n + 1) r
def zipT : List T → List T → List T
  | x :: xs, y :: ys => .tup [x, y] :: zipT xs ys
  | _, _ => []
def putFs (f : Str) (v : T) : List (Str × T) → List (Str × T)
  | [] => [(f, v)]
  | (g, w) :: r => if g = f then (g, v) :: r else (g, w) :: putFs f v r
/-- the class c has the field f -/
def hasF (D : Tb) (c : Nat) (f : Str) : Bool := match D.cls[c]? with
  | some (.plain _ _ fl) => fl.contains f
  | _ => false
def fieldOf (D : Tb) (h : Hs) (x : T) (f : Str) : Option T := match x with
  | .ref k => match h[k]? with
    | some (.ins c fs) => if hasF D c f then fs.lookup f else none
    | _ => none
  | _ => none

def keyT : T → Option L2.Key
  | .int i => some (.inl i)
  | .str s => some (.inr s)
  | _ => none
/-- a key's value put into a dict, keys and values apart -/
def putD (k : L2.Key) (v : T) (ks : List L2.Key) (ts : List T) : List L2.Key × List T :=
  if (ks.any fun q => decide (q = k)) = true then (ks, List.zipWith (fun q w => if q = k then v else w) ks ts) else (ks ++ [k], ts ++ [v])
/-! ### what expressions do -/
def E.isAbs : E → Bool
  | .absent => true
  | _ => false
/-- as a value, as a test -/
structure RV where
  v : R T
  t : R Bool
def mkV (v : R T) : RV := ⟨v, v.bind fun x h => R.ofO (truT h x) h⟩
def mkB (b : R Bool) : RV := ⟨b.bind fun x h => .ok (.bl x) h, b⟩
abbrev Cal := Nat → List T → Hs → R T
/-- a comprehension's loop -/
def compL (f : T → Hs → R (Option T)) : List T → Hs → R (List T)
  | [], h => .ok [] h
  | x :: r, h => (f x h).bind fun o h1 => (compL f r h1).bind fun ys h2 => match o with
    | some y => .ok (y :: ys) h2
    | none => .ok ys h2
/-- a dict comprehension's loop -/
def dcL (f : T → Hs → R (Option (L2.Key × T))) : List T → List L2.Key → List T → Hs → R (List L2.Key × List T)
  | [], ks, ts, h => .ok (ks, ts) h
  | x :: r, ks, ts, h => (f x h).bind fun o h1 => match o with
    | some (q, z) => dcL f r (putD q z ks ts).1 (putD q z ks ts).2 h1
    | none => dcL f r ks ts h1
def listT : T → Option (List T)
  | .lst ts => some ts
  | _ => none
def frzT (h : Hs) (x : T) : R T := match x with
  | .ref k => match h[k]? with
    | some (.lst ts) => .ok (.lst ts) (h.set k .gone)
    | _ => .bad
  | .lst ts => .ok (.lst ts) h
  | _ => .bad
section
variable (D : Tb)
/-- o stands at k, an instance of the class of the method f, which has no field of the method's name -/
def methOk (h : Hs) (f : Nat) (x : T) : Bool := match x with
  | .ref k => match h[k]?, D.fns[f]? with
    | some (.ins c fs), some fn => match fn.cls with
      | some c' => decide (c = c') && (fs.lookup fn.nm).isNone
      | none => false
    | _, _ => false
  | _ => false
def initOf (c : Nat) : Option Nat := match D.cls[c]? with
  | some (.plain _ i _) => some i
  | _ => none
mutual
def ev (cl : Cal) : E → En → Hs → RV
  | .non, _, h => mkV (.ok .non h)
  | .bl b, _, h => mkV (.ok (.bl b) h)
  | .int i, _, h => mkV (.ok (.int i) h)
  | .str s, _, h => mkV (.ok (.str s) h)
  | .var i, env, h => mkV (match env[i]? with
    | some (some t) => .ok t h
    | _ => .bad)
  | .glob g, _, h => mkV (R.ofO (D.cns[g]?.map (·.2)) h)
  | .fnv f, _, h => mkV (.ok (.fn f) h)
  | .bin o a b, env, h => mkV ((ev cl a env h).v.bind fun x h1 => (ev cl b env h1).v.bind fun y h2 => R.ofO (binT o x y) h2)
  | .neg a, env, h => mkV ((ev cl a env h).v.bind fun x h1 => R.ofO ((intT x).map fun i => .int (-i)) h1)
  | .nott a, env, h => ⟨(ev cl a env h).v.bind fun x h1 => R.ofO ((truT h1 x).map fun b => .bl (!b)) h1, (ev cl a env h).t.bind fun b h1 => .ok (!b) h1⟩
  | .andv xs, env, h => evA cl xs env h
  | .orv xs, env, h => evO cl xs env h
  | .cmp o a b, env, h => mkB ((ev cl a env h).v.bind fun x h1 => (ev cl b env h1).v.bind fun y h2 => R.ofO (cmpT o h2 x y) h2)
  | .cmp2 o o2 a b c, env, h => mkB ((ev cl a env h).v.bind fun x h1 => (ev cl b env h1).v.bind fun y h2 => (R.ofO (cmpT o h2 x y) h2).bind fun k h3 =>
      if k = true then (ev cl c env h3).v.bind fun z h4 => R.ofO (cmpT o2 h4 y z) h4 else .ok false h3)
  | .ite c a b, env, h => ⟨(ev cl c env h).t.bind fun k h1 => if k = true then (ev cl a env h1).v else (ev cl b env h1).v,
      (ev cl c env h).t.bind fun k h1 => if k = true then (ev cl a env h1).t else (ev cl b env h1).t⟩
  | .tup xs, env, h => mkV ((evL cl xs env h).bind fun ts h1 => if ts.length ≤ lim then .ok (.tup ts) h1 else .bad)
  | .lstI xs, env, h => mkV ((evL cl xs env h).bind fun ts h1 => if ts.length ≤ lim then .ok (.lst ts) h1 else .bad)
  | .lstM xs, env, h => mkV ((evL cl xs env h).bind fun ts h1 => if ts.length ≤ lim then .ok (.ref h1.length) (h1 ++ [.lst ts]) else .bad)
  | .ix a i, env, h => mkV ((ev cl a env h).v.bind fun x h1 => (ev cl i env h1).v.bind fun y h2 => R.ofO (ixT h2 x y) h2)
  | .sl a lo hi, env, h => mkV ((ev cl a env h).v.bind fun x h1 =>
      (if lo.isAbs then .ok none h1 else (ev cl lo env h1).v.bind fun y h2 => R.ofO ((intT y).map some) h2).bind fun l h2 =>
      (if hi.isAbs then .ok none h2 else (ev cl hi env h2).v.bind fun y h3 => R.ofO ((intT y).map some) h3).bind fun u h3 => R.ofO (slT x l u) h3)
  | .absent, _, _ => mkV .bad
  | .call f xs, env, h => mkV ((evL cl xs env h).bind fun ts h1 => cl f ts h1)
  | .callV i xs, env, h => mkV (match env[i]? with
    | some (some (.fn f)) => if f < D.fns.length then (evL cl xs env h).bind fun ts h1 => cl f ts h1 else .bad
    | _ => .bad)
  | .meth f o xs, env, h => mkV ((ev cl o env h).v.bind fun x h1 => if methOk D h1 f x = true then (evL cl xs env h1).bind fun ts h2 => cl f (x :: ts) h2 else .bad)
  | .new c xs, env, h => mkV ((evL cl xs env h).bind fun ts h1 => match initOf D c with
    | some i => (cl i (.ref h1.length :: ts) (h1 ++ [.ins c []])).bind fun r h2 => match r with
      | .non => .ok (.ref h1.length) h2
      | _ => .bad
    | none => .bad)
  | .bi b xs, env, h => mkV ((evL cl xs env h).bind fun ts h1 => R.ofO (biT b h1 ts) h1)
  | .bm m o xs, env, h => mkV ((ev cl o env h).v.bind fun x h1 => if bmOk m h1 x = true then (evL cl xs env h1).bind fun ts h2 => match bmT m h2 x ts with
    | some (y, h3) => .ok y h3
    | none => .bad
    else .bad)
  | .attr o f, env, h => mkV ((ev cl o env h).v.bind fun x h1 => R.ofO (fieldOf D h1 x f) h1)
  | .exf f, _, h => mkV (cl 0 [.str f] h)
  | .comp m t it c e vs, env, h => mkV (((evI cl it env h).bind fun xs h1 => (compL (fun x h2 => match bindG t x (wipeT env vs) with
      | none => .bad
      | some env1 => (if c.isAbs then .ok true h2 else (ev cl c env1 h2).t).bind fun k h3 =>
        if k = true then (ev cl e env1 h3).v.bind fun y h4 => .ok (some y) h4 else .ok none h3) xs h1).nox).bind fun ys h5 =>
      if ys.length ≤ lim then (if m = true then .ok (.ref h5.length) (h5 ++ [.lst ys]) else .ok (.lst ys) h5) else .bad)
  | .dcomp t it c k e vs, env, h => mkV (((evI cl it env h).bind fun xs h1 => if xs.length ≤ lim then (dcL (fun x h2 => match bindG t x (wipeT env vs) with
      | none => .bad
      | some env1 => (if c.isAbs then .ok true h2 else (ev cl c env1 h2).t).bind fun b h3 =>
        if b = true then (ev cl k env1 h3).v.bind fun y h4 => (ev cl e env1 h4).v.bind fun z h5 => (R.ofO (keyT y) h5).bind fun q h6 => .ok (some (q, z)) h6 else .ok none h3) xs [] [] h1).nox else .bad).bind fun p h5 => .ok (.dct p.1 p.2) h5)
  | .fstr xs, env, h => mkV ((evF cl xs Str.empty env h).bind fun s h1 => .ok (.str s) h1)
  | .frz e, env, h => ⟨(ev cl e env h).v.bind fun x h1 => frzT h1 x, .bad⟩
def evL (cl : Cal) : Es → En → Hs → R (List T)
  | .nil, _, h => .ok [] h
  | .cons a r, env, h => (ev cl a env h).v.bind fun x h1 => (evL cl r env h1).bind fun xs h2 => .ok (x :: xs) h2
def evF (cl : Cal) : Es → Str → En → Hs → R Str
  | .nil, acc, _, h => .ok acc h
  | .cons a r, acc, env, h => (ev cl a env h).v.bind fun x h1 => match fmtT x with
    | some s => if (acc ++ s).length ≤ lim then evF cl r (acc ++ s) env h1 else .bad
    | none => .bad
def evA (cl : Cal) : Es → En → Hs → RV
  | .nil, _, _ => mkV .bad
  | .cons a .nil, env, h => ⟨(ev cl a env h).v, (ev cl a env h).t⟩
  | .cons a r, env, h => ⟨(ev cl a env h).v.bind fun x h1 => (R.ofO (truT h1 x) h1).bind fun k h2 => if k = true then (evA cl r env h2).v else .ok x h2,
      (ev cl a env h).t.bind fun k h1 => if k = true then (evA cl r env h1).t else .ok false h1⟩
def evO (cl : Cal) : Es → En → Hs → RV
  | .nil, _, _ => mkV .bad
  | .cons a .nil, env, h => ⟨(ev cl a env h).v, (ev cl a env h).t⟩
  | .cons a r, env, h => ⟨(ev cl a env h).v.bind fun x h1 => (R.ofO (truT h1 x) h1).bind fun k h2 => if k = true then .ok x h2 else (evO cl r env h2).v,
      (ev cl a env h).t.bind fun k h1 => if k = true then .ok true h1 else (evO cl r env h1).t⟩
def evI (cl : Cal) : It → En → Hs → R (List T)
  | .seq e, env, h => (ev cl e env h).v.bind fun x h1 => R.ofO (items x) h1
  | .rng e, env, h => (ev cl e env h).v.bind fun x h1 => R.ofO ((intT x).bind fun n => rangeT 0 n) h1
  | .rng2 a b, env, h => (ev cl a env h).v.bind fun x h1 => (ev cl b env h1).v.bind fun y h2 => R.ofO ((intT x).bind fun i => (intT y).bind fun j => rangeT i j) h2
  | .enum e, env, h => (ev cl e env h).v.bind fun x h1 => R.ofO ((listT x).map (enumT 0)) h1
  | .zip a b, env, h => (ev cl a env h).v.bind fun x h1 => (ev cl b env h1).v.bind fun y h2 => R.ofO ((listT x).bind fun xs => (listT y).map fun ys => zipT xs ys) h2
end
end

/-! ### what statements do -/
inductive SR where
  | nx (env : En) (h : Hs) | ret (v : T) (h : Hs) | brk (env : En) (h : Hs) | cont (env : En) (h : Hs) | exc (c : Nat) (xs : List T) (env : En) (h : Hs) | bad
def R.toS {α : Type} (r : R α) (env : En) (k : α → Hs → SR) : SR := match r with
  | .ok a h => k a h
  | .exc c xs h => .exc c xs env h
  | .bad => .bad
@[simp] theorem R.toS_ok {α : Type} (a : α) (h : Hs) (env : En) (k : α → Hs → SR) : (R.ok a h).toS env k = k a h := rfl
@[simp] theorem R.toS_bad {α : Type} (env : En) (k : α → Hs → SR) : (R.bad : R α).toS env k = .bad := rfl
@[simp] theorem R.toS_exc {α : Type} (c : Nat) (xs : List T) (h : Hs) (env : En) (k : α → Hs → SR) : (R.exc c xs h : R α).toS env k = .exc c xs env h := rfl
def SR.andThen (r : SR) (k : En → Hs → SR) : SR := match r with
  | .nx env h => k env h
  | r => r
def forL (t : Tg) (body : En → Hs → SR) : List T → En → Hs → SR
  | [], env, h => .nx env h
  | x :: r, env, h => match bindG t x env with
    | none => .bad
    | some env1 => match body env1 h with
      | .nx env2 h2 => forL t body r env2 h2
      | .cont env2 h2 => forL t body r env2 h2
      | .brk env2 h2 => .nx env2 h2
      | q => q
def whileL (c : En → Hs → R Bool) (body : En → Hs → SR) : Nat → En → Hs → SR
  | 0, _, _ => .bad
  | n + 1, env, h => (c env h).toS env fun k h1 => if k = true then (match body env h1 with
      | .nx env2 h2 => whileL c body n env2 h2
      | .cont env2 h2 => whileL c body n env2 h2
      | .brk env2 h2 => .nx env2 h2
      | q => q) else .nx env h1
/-- behind an except suite: the name goes, no exception leaves -/
def SR.offName (i : Option Nat) (r : SR) : SR :=
  let off : En → En := fun env => match i with
    | some j => env.set j none
    | none => env
  match r with
  | .nx env h => .nx (off env) h
  | .ret v h => .ret v h
  | .brk env h => .brk (off env) h
  | .cont env h => .cont (off env) h
  | _ => .bad
def augT (b : Bk) (x y : T) : Option T := match b, x, y with
  | .add, .int i, .int j => some (.int (i + j))
  | .sub, .int i, .int j => some (.int (i - j))
  | _, _, _ => none
def refIx (h : Hs) (y z : T) : Option T := match y with
  | .ref _ => ixT h y z
  | _ => none
def setIxT (h : Hs) (o i v : T) : Option Hs := match o, i with
  | .ref k, .int j => match h[k]? with
    | some (.lst ts) => (L2.ixN ts.length j).map fun m => h.set k (.lst (ts.set m v))
    | _ => none
  | _, _ => none
def setAtT (D : Tb) (h : Hs) (o : T) (f : Str) (v : T) : Option Hs := match o with
  | .ref k => match h[k]? with
    | some (.ins c fs) => if hasF D c f && decide (fs.length < 900) then some (h.set k (.ins c (putFs f v fs))) else none
    | _ => none
  | _ => none
section
variable (D : Tb) (W : Nat)
def excOk (c : Nat) (ts : List T) : Bool := match D.cls[c]? with
  | some (.exc _ fl _) => decide (fl.length = ts.length)
  | _ => false
def isExc (c : Nat) (cs : List Nat) : Bool := match D.cls[c]? with
  | some (.exc _ _ up) => cs.any fun d => up.contains d
  | _ => false
/-- in an except suite nothing is called: the exception's fields stand there -/
def xCal (D : Tb) (c : Nat) (xs : List T) : Cal := fun _ ts h => match ts with
  | [.str f] => match D.cls[c]? with
    | some (.exc _ fl _) => R.ofO ((fl.zip xs).lookup f) h
    | _ => .bad
  | _ => .bad
mutual
def evS (cl : Cal) : S → En → Hs → SR
  | .set i e, env, h => (ev D cl e env h).v.toS env fun x h1 => .nx (env.set i (some x)) h1
  | .setT ns e, env, h => (ev D cl e env h).v.toS env fun x h1 => match bindG (.tp ns) x env with
    | some env1 => .nx env1 h1
    | none => .bad
  | .par ns xs, env, h => (evL D cl xs env h).toS env fun ts h1 => match bindTs ns ts env with
    | some env1 => .nx env1 h1
    | none => .bad
  | .setIx o i e, env, h => (ev D cl e env h).v.toS env fun x h1 => (ev D cl o env h1).v.toS env fun y h2 => (ev D cl i env h2).v.toS env fun z h3 => match setIxT h3 y z x with
    | some h4 => .nx env h4
    | none => .bad
  | .setAt o f e, env, h => (ev D cl e env h).v.toS env fun x h1 => (ev D cl o env h1).v.toS env fun y h2 => match setAtT D h2 y f x with
    | some h3 => .nx env h3
    | none => .bad
  | .aug i b e, env, h => match env[i]? with
    | some (some x) => (ev D cl e env h).v.toS env fun y h1 => match augT b x y with
      | some z => .nx (env.set i (some z)) h1
      | none => .bad
    | _ => .bad
  | .augIx o i b e, env, h => (ev D cl o env h).v.toS env fun y h1 => (ev D cl i env h1).v.toS env fun z h2 => match refIx h2 y z with
    | some x => (ev D cl e env h2).v.toS env fun u h3 => match augT b x u with
      | some q => match setIxT h3 y z q with
        | some h4 => .nx env h4
        | none => .bad
      | none => .bad
    | none => .bad
  | .ex e, env, h => (ev D cl e env h).v.toS env fun _ h1 => .nx env h1
  | .ret e, env, h => (ev D cl e env h).v.toS env fun x h1 => .ret x h1
  | .retN, _, h => .ret .non h
  | .ifs c a b, env, h => (ev D cl c env h).t.toS env fun k h1 => if k = true then evSs cl a env h1 else evSs cl b env h1
  | .for_ t it b, env, h => (evI D cl it env h).toS env fun xs h1 => forL t (fun env2 h2 => evSs cl b env2 h2) xs env h1
  | .whil c b, env, h => whileL (fun env2 h2 => (ev D cl c env2 h2).t) (fun env2 h2 => evSs cl b env2 h2) W env h
  | .rais c xs, env, h => (evL D cl xs env h).toS env fun ts h1 => if excOk D c ts = true then .exc c ts env h1 else .bad
  | .tryy b hs, env, h => match evSs cl b env h with
    | .exc c xs env1 h1 => evH hs c xs env1 h1
    | q => q
  | .brk, env, h => .brk env h
  | .cont, env, h => .cont env h
  | .pass, env, h => .nx env h
def evSs (cl : Cal) : Ss → En → Hs → SR
  | .nil, env, h => .nx env h
  | .cons s r, env, h => (evS cl s env h).andThen fun env1 h1 => evSs cl r env1 h1
def evH : Hd → Nat → List T → En → Hs → SR
  | .nil, c, xs, env, h => .exc c xs env h
  | .cons cs i b r, c, xs, env, h => if isExc D c cs = true then (evSs (xCal D c xs) b (match i with
      | some j => env.set j none
      | none => env) h).offName i else evH r c xs env h
end
def SR.fin : SR → R T
  | .nx _ h => .ok .non h
  | .ret v h => .ok v h
  | .exc c xs _ h => .exc c xs h
  | _ => .bad
/-- the def number f, called: n bounds how deep calls go -/
def callN : Nat → Cal
  | 0, _, _, _ => .bad
  | n + 1, f, ts, h => match D.fns[f]? with
    | some fn => if ts.length = fn.ps ∧ fn.ps ≤ fn.nN then (evSs D W (callN n) fn.body (ts.map some ++ List.replicate (fn.nN - ts.length) none) h).fin else .bad
    | none => .bad
end
end Fs
end

section
set_option Elab.async false
set_option linter.all false
set_option maxRecDepth 100000
/-! FsA: sum(lists, []) : the lists' items, one behind another. -/
namespace PySem
open Sem (wp)
namespace F
theorem args_sum2 (a b : Value) : argsOk "sum" ⟨[a, b], []⟩ := by unfold argsOk; kernel_rfl
end F
abbrev slObj (its : List Value) (c : Nat) : Obj := { cls := .type "list", dict := none, data := .seq its.toArray c, slots := #[] }
def slPre (con : Nat → List Value) : Nat → List Value
  | 0 => []
  | j + 1 => slPre con j ++ con j
section
variable {prog : Program} {w : World} {A : Around} {R : Result → Shared → Prop} {I : Addr} {fp wr : List Addr} {n : Nat} {P : Nat → Value → Prop} {St : Nat → Heap → Prop}
theorem codeAny_sum_lists (W : Walks prog w A.in1 I fp wr n P St) (val : Nat → Addr) (con : Nat → List Value) (hval : ∀ i v, P i v → v = .ref (val i)) (hfit : ∀ j, j ≤ n → (slPre con j).length ≤ sizeLine) (S : Addr) (hSf : S ∉ fp) :
    ∀ (k i : Nat) (s : Shared) (T : Addr) (c d : Nat), n - i = k → i ≤ n → St i s.heap → s.heap.get? S = some { cls := .type "list", dict := none, data := .seq #[.ref T] c, slots := #[] } →
    s.heap.get? T = some (slObj (slPre con i) d) → T ∉ wr → T ≠ S → (∀ j, j < n → val j ∉ wr ∧ val j ≠ S ∧ ∃ e, s.heap.get? (val j) = some (slObj (con j) e)) → (∀ b ∈ wr, b < S) →
    (∀ h' tk T' d', (∀ b o, b ∉ wr → b ≠ S → s.heap.get? b = some o → h'.get? b = some o) → (T' = T ∧ i = n ∨ i < n ∧ S < T') → h'.get? T' = some (slObj (slPre con n) d') → R (.ok (.ret (.ref T'))) { s with heap := h', toks := tk }) →
    codeAny (model prog w) A (.builtin "sum.loop" ⟨[.ref I, .ref S, rawInt 2, rawInt 0], []⟩) R s := by
  have hSw : S ∉ wr := fun h => hSf (W.sub _ h)
  intro k
  induction k with
  | zero =>
    intro i s T c d hk hi hst hS hT hTw hTS hv hwr hR
    have hin : i = n := by omega
    subst hin
    refine codeAny_builtin F.entry_sum_loop ?_
    rw [Around.under_plainId F.plain_sum_loop _]
    show wpAny _ A.in1 (seqItems? (.ref S) >>= _) _ _ s
    refine wpAny_bind (wpAny_seqItems hS rfl ?_)
    show wpAny _ A.in1 (tryCatch (pyNext (.ref I)) _ >>= _) _ _ s
    refine wpAny_bind (wpAny_tryCatch (W.done s _ _ hst fun h' tk hk' => ?_))
    exact wpAny_pure (hR h' tk T d (fun b o hbw _ e => hk' b o hbw e) (.inl ⟨rfl, rfl⟩) (hk' T _ hTw hT))
  | succ k ih =>
    intro i s T c d hk hi hst hS hT hTw hTS hv hwr hR
    have hlt : i < n := by omega
    refine codeAny_builtin F.entry_sum_loop ?_
    rw [Around.under_plainId F.plain_sum_loop _]
    show wpAny _ A.in1 (seqItems? (.ref S) >>= _) _ _ s
    refine wpAny_bind (wpAny_seqItems hS rfl ?_)
    show wpAny _ A.in1 (tryCatch (pyNext (.ref I)) _ >>= _) _ _ s
    refine wpAny_bind (wpAny_tryCatch (W.item i s _ _ hlt hst fun v h' tk hP hst' hk' => ?_))
    obtain rfl := hval i v hP
    have hS' := hk' S _ hSw hS
    have hT' := hk' T _ hTw hT
    obtain ⟨v1, v2, e, hve⟩ := hv i hlt
    have hV' := hk' (val i) _ v1 hve
    have hz := hfit (i + 1) hlt
    show wpAny _ A.in1 ((holding [Value.ref (val i)] (binaryOp .Add (.ref T) (.ref (val i)))).attempt >>= _) _ _ _
    refine wpAny_bind (wpAny_attempt (wpAny_holding (PySem.P.add_list hT' hV' ?_ ?_)))
    · show wpAny _ A.in1 (updateSeq S (fun _ => #[.ref h'.objs.size]) >>= _) _ _ _
      have sS : S < h'.objs.size := Heap.lt_size hS'
      have gS := Heap.get?_push_of_some { cls := .type "list", data := .seq ((slPre con i).toArray ++ (con i).toArray) } hS'
      refine wpAny_bind ?_
      refine wpAny_updateSeq gS rfl ?_
      have hS2 := Heap.get?_update_self (Obj.mapSeq fun _ => #[Value.ref h'.objs.size]) gS rfl
      refine wpAny_bind (wpAny_letGo ?_)
      refine wpAny_bind ?_
      have keep : ∀ b o, b ≠ S → h'.get? b = some o → (((h'.push { cls := .type "list", data := .seq ((slPre con i).toArray ++ (con i).toArray) }).update S (Obj.mapSeq fun _ => #[Value.ref h'.objs.size])).update S (Obj.mapSeq fun _ => #[Value.ref h'.objs.size])).get? b = some o := fun b o hb q =>
        (Heap.get?_update_other _ _ (Ne.symm hb)).trans ((Heap.get?_update_other _ _ (Ne.symm hb)).trans (Heap.get?_push_of_some _ q))
      have newT : (((h'.push { cls := .type "list", data := .seq ((slPre con i).toArray ++ (con i).toArray) }).update S (Obj.mapSeq fun _ => #[Value.ref h'.objs.size])).update S (Obj.mapSeq fun _ => #[Value.ref h'.objs.size])).get? h'.objs.size = some (slObj (slPre con (i + 1)) 0) := by
        rw [Heap.get?_update_other _ _ (Nat.ne_of_lt sS), Heap.get?_update_other _ _ (Nat.ne_of_lt sS), Heap.get?_push_size _ rfl]
        simp [slObj, slPre]
      refine wpAny_updateSeq hS2 rfl (wpAny_pure ⟨plainId_quiet F.plain_sum_loop _, ih (i + 1) _ h'.objs.size _ 0 (by omega) hlt (W.frame _ _ _ hst' fun b hb o q => keep b o (fun z => hSf (z ▸ hb)) q) (Heap.get?_update_self _ hS2 rfl) newT (fun z => Nat.lt_irrefl _ (Nat.lt_trans sS (hwr _ z))) (Nat.ne_of_gt sS) (fun j hj => ?_) hwr fun h'' tk'' T'' d'' hk'' ht'' q'' => ?_⟩)
      · obtain ⟨a1, a2, e', a3⟩ := hv j hj
        exact ⟨a1, a2, e', keep _ _ a2 (hk' _ _ a1 a3)⟩
      · refine hR h'' tk'' T'' d'' (fun b o hbw hbS q => hk'' b o hbw hbS (keep b o hbS (hk' b o hbw q))) ?_ q''
        rcases ht'' with ⟨rfl, _⟩ | ⟨_, ht''⟩
        · exact .inr ⟨hlt, sS⟩
        · exact .inr ⟨hlt, ht''⟩
    · rw [List.size_toArray, List.size_toArray]
      have : (slPre con (i + 1)).length = (slPre con i).length + (con i).length := by simp [slPre]
      omega
end
section
variable {prog : Program} {w : World} {A : Around} {E : Value → Shared → Prop} {s : Shared}
theorem sub_list_str : isSubtype (.type "list") (.type "str") = pure false := by rw [isSubtype_type]; kernel_rfl
theorem sub_list_bytes : isSubtype (.type "list") (.type "bytes") = pure false := by rw [isSubtype_type]; kernel_rfl
theorem sub_list_bytearray : isSubtype (.type "list") (.type "bytearray") = pure false := by rw [isSubtype_type]; kernel_rfl
theorem sum_lists_raw {l T : Addr} {as : List Addr} {c : Nat} {con : Nat → List Value} {Q : Value → Shared → Prop} (hh : A.handled = none) (hl : s.heap.IsList l (as.map Value.ref).toArray) (hT : s.heap.get? T = some (slObj [] c))
    (hv : ∀ j a, as[j]? = some a → ∃ e, s.heap.get? a = some (slObj (con j) e)) (hfit : ∀ j, j ≤ as.length → (slPre con j).length ≤ sizeLine)
    (h : ∀ h' tk T' d', (∀ b o, s.heap.get? b = some o → h'.get? b = some o) → (T' = T ∧ as = [] ∨ as ≠ [] ∧ s.heap.objs.size ≤ T') → h'.get? T' = some (slObj (slPre con as.length) d') → Q (.ref T') { s with heap := h', toks := tk }) :
    wpAny (model prog w) A (call (.builtin "sum") [.ref l, .ref T]) Q E s := by
  refine call_function_tree F.kind_sum F.plain_sum F.entry_sum (F.args_sum2 _ _) ?_
  unfold Builtin.«sum»
  simp only [List.length_cons, List.length_nil]
  rw [if_neg (by decide)]
  refine wpAny_bind (wpAny_of_eq (show Builtin.Builtins.bindParams "sum" ["start"] 0 ⟨[.ref T], []⟩ = pure [some (.ref T)] from rfl) ?_)
  have hlt : l < s.heap.objs.size := by obtain ⟨_, e, _⟩ := hl; exact Heap.lt_size e
  refine wpAny_bind (wpAny_pyIter_list hl ?_)
  have hT1 := Heap.get?_push_of_some { cls := .type "list_iterator", data := .fields #[.ref l, .int 0 0] } hT
  refine wpAny_bind (wpAny_pure ?_)
  simp only [List.forIn_cons, List.forIn_nil]
  refine wpAny_bind (wpAny_bind (wpAny_bind (wpAny_isInstance (T := "list") (b := false) ⟨_, hT1, rfl⟩ sub_list_str ?_)))
  simp only [Bool.false_eq_true, if_false]
  refine wpAny_pure (wpAny_bind (wpAny_bind (wpAny_isInstance (T := "list") (b := false) ⟨_, hT1, rfl⟩ sub_list_bytes ?_)))
  simp only [Bool.false_eq_true, if_false]
  refine wpAny_pure (wpAny_bind (wpAny_bind (wpAny_isInstance (T := "list") (b := false) ⟨_, hT1, rfl⟩ sub_list_bytearray ?_)))
  simp only [Bool.false_eq_true, if_false]
  refine wpAny_pure (wpAny_pure ?_)
  refine wpAny_bind (wpAny_newObj_type ?_)
  have sz : (s.heap.push { cls := .type "list_iterator", data := .fields #[.ref l, .int 0 0] }).objs.size = s.heap.objs.size + 1 := by simp [Heap.push]
  have W := Walks.list (prog := prog) (w := w) (A := A.in1) hh s.heap.objs.size l (Nat.ne_of_lt hlt) (as.map Value.ref).toArray
  have kp : ∀ b o, s.heap.get? b = some o → ((s.heap.push { cls := .type "list_iterator", data := .fields #[.ref l, .int 0 0] }).push { cls := .type "list", data := .seq #[.ref T] }).get? b = some o := fun b o q => Heap.get?_push_of_some _ (Heap.get?_push_of_some _ q)
  have n_eq : (as.map Value.ref).toArray.size = as.length := by simp
  rw [n_eq] at W
  have ltS : s.heap.objs.size < (s.heap.push { cls := .type "list_iterator", data := .fields #[.ref l, .int 0 0] }).objs.size := by
    rw [sz]
    exact Nat.lt_succ_self _
  have sm : ∀ b, b < s.heap.objs.size → b < (s.heap.push { cls := .type "list_iterator", data := .fields #[.ref l, .int 0 0] }).objs.size := fun b h => Nat.lt_trans h ltS
  have nI : ∀ b, b < s.heap.objs.size → b ∉ [s.heap.objs.size] := fun b h z => by
    rcases List.mem_cons.mp z with z | z
    · exact Nat.ne_of_lt h z
    · cases z
  refine wpAny_pure ⟨plainId_quiet F.plain_sum_loop _, codeAny_sum_lists W (fun i => as.getD i 0) con (fun i v hP => ?_) hfit (s.heap.push { cls := .type "list_iterator", data := .fields #[.ref l, .int 0 0] }).objs.size (fun z => ?_) as.length 0 _ T 0 c rfl (Nat.zero_le _) ⟨?_, ?_⟩ ?_ (kp _ _ hT) ?_ ?_ (fun j hj => ?_) (fun b z => ?_) fun h' tk T' d' hk ht q => ?_⟩
  · rw [List.getElem?_toArray, List.getElem?_map] at hP
    cases e : as[i]? with
    | none => rw [e] at hP; cases hP
    | some a =>
      rw [e] at hP
      cases hP
      show Value.ref a = .ref (as.getD i 0)
      rw [List.getD_eq_getElem?_getD, e]
      rfl
  · rcases List.mem_cons.mp z with z | z
    · exact Nat.ne_of_gt ltS z
    · rcases List.mem_cons.mp z with z | z
      · exact Nat.ne_of_gt (sm l hlt) z
      · cases z
  · exact ⟨_, Heap.get?_push_of_some _ (Heap.get?_push_size _ rfl), rfl, rfl⟩
  · exact (hl.push _).push _
  · exact Heap.get?_push_size _ rfl
  · exact nI _ (Heap.lt_size hT)
  · exact Nat.ne_of_lt (sm _ (Heap.lt_size hT))
  · obtain ⟨e, q⟩ := hv j (as.getD j 0) (by rw [List.getD_eq_getElem?_getD, List.getElem?_eq_getElem hj]; rfl)
    exact ⟨nI _ (Heap.lt_size q), Nat.ne_of_lt (sm _ (Heap.lt_size q)), e, kp _ _ q⟩
  · rcases List.mem_cons.mp z with rfl | z
    · exact ltS
    · cases z
  · refine h h' tk T' d' (fun b o q => hk b o (nI _ (Heap.lt_size q)) (Nat.ne_of_lt (sm _ (Heap.lt_size q))) (kp b o q)) ?_ q
    rcases ht with ⟨e1, e2⟩ | ⟨e1, ht⟩
    · exact .inl ⟨e1, List.eq_nil_of_length_eq_zero e2.symm⟩
    · exact .inr ⟨fun z => by rw [z] at e1; exact Nat.lt_irrefl _ e1, Nat.le_of_lt (Nat.lt_trans ltS ht)⟩
end
end PySem
namespace L2
open PySem
/-- sum(xs, []), the items of xs lists of their own -/
def rSumL (K : PySem.W.Frag) : List V → Hp → VK → Prop := fun vs H Q => ∃ (a b : Addr) (as : List Addr) (xss : List (List V)), vs = [V.ref a, V.ref b] ∧ SqL K H a (as.map V.ref) ∧ H b = some (.lst []) ∧
  as.length = xss.length ∧ (∀ (j : Nat) (l : Addr) (zs : List V), as[j]? = some l → xss[j]? = some zs → H l = some (.lst zs)) ∧ xss.flatten.length ≤ sizeLine ∧ (as = [] → Q (.ref b) H) ∧ (as ≠ [] → ∀ p, H p = none → Q (.ref p) (upd H p (.lst xss.flatten)))
theorem slRefs : ∀ {as : List Addr} {its : List Value}, Vals (as.map V.ref) its → its = as.map Value.ref
  | [], its, h => by cases h; rfl
  | a :: as, its, h => by
    cases h with
    | cons r rs =>
      cases r
      rw [slRefs rs]
      rfl
def slCon (h : Heap) (a : Addr) : List Value := match h.get? a with
  | some o => match o.data with
    | .seq arr _ => arr.toList
    | _ => []
  | none => []
theorem cr_sumL {X : Cx} (hc : X.calm = true) : CallR X (.builtin "sum") (rSumL X.K) := by
  intro pins s σ H vs us Q I r h
  obtain ⟨a, b, as, xss, rfl, hs, hb, hn, hx, hz, q0, q1⟩ := h
  obtain ⟨its, rv, hl, _⟩ := I.list hs
  have e := slRefs rv
  subst e
  obtain ⟨u1, u2, rfl, r1, r2⟩ : ∃ u1 u2, us = [u1, u2] ∧ RelV (V.ref a) u1 ∧ RelV (V.ref b) u2 := by
    cases r with
    | cons r1 rs =>
      cases rs with
      | cons r2 rn =>
        cases rn
        exact ⟨_, _, rfl, r1, r2⟩
  cases r1
  cases r2
  obtain ⟨_, ib, nb, rb, hlb, eb⟩ := I.lstM hb
  cases rb
  have at_ : ∀ (j : Nat) (l : Addr), as[j]? = some l → ∃ zs c, xss[j]? = some zs ∧ Vals zs (slCon s.heap l) ∧ s.heap.get? l = some (slObj (slCon s.heap l) c) := fun j l hj => by
    have hj2 : j < xss.length := by rw [← hn]; exact (List.getElem?_eq_some_iff.mp hj).1
    have ez : xss[j]? = some xss[j] := List.getElem?_eq_getElem hj2
    obtain ⟨_, its, n, rr, _, e⟩ := I.lstM (hx j l _ hj ez)
    have ec : slCon s.heap l = its := by
      unfold slCon
      rw [e]
    rw [ec]
    exact ⟨_, n, ez, rr, e⟩
  have pre : ∀ k, k ≤ as.length → Vals (xss.take k).flatten (slPre (fun j => slCon s.heap (as.getD j 0)) k) := by
    intro k
    induction k with
    | zero => intro _; simp [slPre]; exact .nil
    | succ k ih =>
      intro hk
      have hk' : k < as.length := by omega
      obtain ⟨zs, c, ez, rz, _⟩ := at_ k as[k] (List.getElem?_eq_getElem hk')
      have eg : as.getD k 0 = as[k] := by rw [List.getD_eq_getElem?_getD, List.getElem?_eq_getElem hk']; rfl
      obtain ⟨hk2, ez2⟩ := List.getElem?_eq_some_iff.mp ez
      rw [List.take_succ_eq_append_getElem hk2, List.flatten_append, ez2]
      simp only [slPre, List.flatten_cons, List.flatten_nil, List.append_nil]
      rw [eg]
      exact (ih (by omega)).append rz
  have full := pre as.length (Nat.le_refl _)
  rw [List.take_of_length_le (by omega)] at full
  refine sum_lists_raw (c := nb) (con := fun j => slCon s.heap (as.getD j 0)) (I.ok.hd hc) hl.isList eb (fun j a' hj => ?_) (fun j hj => ?_) fun h' tk T' d' hk ht q => ?_
  · obtain ⟨zs, c, _, _, e⟩ := at_ j a' hj
    have eg : as.getD j 0 = a' := by rw [List.getD_eq_getElem?_getD, hj]; rfl
    exact ⟨c, by rw [eg]; exact e⟩
  · have := (pre j hj).length
    rw [← this]
    refine Nat.le_trans ?_ hz
    have t : xss.flatten = (xss.take j).flatten ++ (xss.drop j).flatten := by rw [← List.flatten_append, List.take_append_drop]
    rw [t, List.length_append]
    exact Nat.le_add_right _ _
  · rcases ht with ⟨rfl, h0⟩ | ⟨h0, hp⟩
    · exact ⟨.ref _, H, I.kept hk, rfl, q0 h0⟩
    · exact ⟨.ref T', _, I.laid (o := .lst xss.flatten) hk hp ⟨hz, _, d', full, q⟩, rfl, q1 h0 T' (I.hok.fresh hp)⟩
end L2
end

section
set_option Elab.async false
set_option linter.all false
set_option maxRecDepth 100000
/-! Fs1: how trees and numbered objects lie in the layer's abstract heap; what may change. -/
namespace Fs
open PySem L2

/-- where the numbered objects stand; lists that are being made (nobody sees them) -/
structure Rho where
  l : List (Option Addr)
  rs : List Addr
def Rho.push (ρ : Rho) (p : Addr) : Rho := ⟨ρ.l ++ [some p], ρ.rs⟩
def Rho.off (ρ : Rho) (k : Nat) : Rho := ⟨ρ.l.set k none, ρ.rs⟩
/-- what is fixed: the written part, where defs and classes stand, the table; the exception at hand in an except suite -/
structure Gx where
  K : PySem.W.Frag
  fa : Nat → Addr
  ca : Nat → Addr
  D : Tb
def Gx.fl (G : Gx) (c : Nat) : List Str := match G.D.cls[c]? with
  | some (.exc _ fl _) => fl
  | _ => []

mutual
def Rv (G : Gx) (ρ : Rho) (H : Hp) : T → V → Prop
  | .non, v => v = .non
  | .bl b, v => v = .bl b
  | .int i, v => v = .int i
  | .str s, v => v = .str s
  | .tup ts, v => ∃ a xs, v = .ref a ∧ SqT G.K H a xs ∧ RvL G ρ H ts xs
  | .lst ts, v => ∃ a xs, v = .ref a ∧ H a = some (.lst xs) ∧ RvL G ρ H ts xs ∧ (some a ∉ ρ.l ∧ a ∉ ρ.rs)
  | .scr ns, v => ∃ a, v = .ref a ∧ ((∃ o, H a = some (.frz o (.lst (ns.map V.int)))) ∨ (∀ H', SqL G.K H' a (ns.map V.int)))
  | .ref k, v => ∃ o, ρ.l[k]? = some o ∧ ∀ a, o = some a → v = .ref a
  | .fn f, v => v = .ref (G.fa f)
  | .dct ks ts, v => ∃ a kvs, v = .ref a ∧ H a = some (.dK kvs) ∧ kvs.map (·.1) = ks ∧ RvL G ρ H ts (kvs.map (·.2)) ∧ (some a ∉ ρ.l ∧ a ∉ ρ.rs)
def RvL (G : Gx) (ρ : Rho) (H : Hp) : List T → List V → Prop
  | [], xs => xs = []
  | t :: ts, xs => ∃ v vs, xs = v :: vs ∧ Rv G ρ H t v ∧ RvL G ρ H ts vs
end
/-- the fields fl with the values ts, as they stand in fs -/
def RvF (G : Gx) (ρ : Rho) (H : Hp) : List Str → List T → List (Str × V) → Prop
  | f :: fl, t :: ts, fs => (∃ v, fs.lookup f = some v ∧ Rv G ρ H t v) ∧ RvF G ρ H fl ts fs
  | _, _, _ => True
def isMut : HO → Bool
  | .lst _ => true
  | .dK _ => true
  | .ins _ _ _ => true
  | _ => false
structure Stp (ρ : Rho) (H : Hp) (ρ' : Rho) (H' : Hp) : Prop where
  keep : ∀ a o, H a = some o → some a ∉ ρ.l → H' a = some o
  len : ρ.l.length ≤ ρ'.l.length
  at_ : ∀ (k : Nat) (o : Option Addr), ρ.l[k]? = some o → ρ'.l[k]? = some o ∨ ρ'.l[k]? = some none
  new : ∀ a, some a ∈ ρ'.l → some a ∈ ρ.l ∨ H a = none
  rse : ρ'.rs = ρ.rs
/-- the live ones stand, and can change -/
def Live (ρ : Rho) (H : Hp) : Prop := ∀ a, some a ∈ ρ.l → ∃ o, H a = some o ∧ isMut o = true
abbrev Ext (H H' : Hp) : Prop := ∀ a o, H a = some o → H' a = some o

theorem Stp.refl {ρ : Rho} {H : Hp} : Stp ρ H ρ H := ⟨fun _ _ h _ => h, Nat.le_refl _, fun _ _ h => .inl h, fun _ h => .inl h, rfl⟩
theorem Stp.ext {ρ : Rho} {H H' : Hp} (e : Ext H H') : Stp ρ H ρ H' := ⟨fun a o h _ => e a o h, Nat.le_refl _, fun _ _ h => .inl h, fun _ h => .inl h, rfl⟩
theorem Stp.trans {ρ ρ1 ρ2 : Rho} {H H1 H2 : Hp} (a : Stp ρ H ρ1 H1) (b : Stp ρ1 H1 ρ2 H2) : Stp ρ H ρ2 H2 where
  rse := b.rse.trans a.rse
  keep := fun x o h n => b.keep x o (a.keep x o h n) fun z => by
    rcases a.new x z with q | q
    · exact n q
    · rw [h] at q; cases q
  len := Nat.le_trans a.len b.len
  at_ := fun k o h => by
    rcases a.at_ k o h with q | q
    · exact b.at_ k o q
    · rcases b.at_ k none q with z | z <;> exact .inr z
  new := fun x h => by
    rcases b.new x h with q | q
    · exact a.new x q
    · by_cases z : some x ∈ ρ.l
      · exact .inl z
      · refine .inr ?_
        cases e : H x with
        | none => rfl
        | some o =>
          rw [a.keep x o e z] at q
          cases q
theorem ext_upd {H : Hp} {p : Addr} {o : HO} (h : H p = none) : Ext H (upd H p o) := fun a u e => by
  rw [upd_ne (ne_of_none e h)]
  exact e
theorem Ext.trans {H H1 H2 : Hp} (a : Ext H H1) (b : Ext H1 H2) : Ext H H2 := fun x o h => b x o (a x o h)
theorem rd_mut {ρ : Rho} {H : Hp} {a : Addr} {o : HO} (L : Live ρ H) (h : H a = some o) (m : isMut o = false) : some a ∉ ρ.l := fun z => by
  obtain ⟨u, e, q⟩ := L a z
  rw [h] at e
  cases e
  rw [m] at q
  cases q

/-- a step that may also change the lists that are being made -/
structure StpR (ρ : Rho) (H : Hp) (ρ' : Rho) (H' : Hp) : Prop where
  keep : ∀ a o, H a = some o → some a ∉ ρ.l → a ∉ ρ.rs → H' a = some o
  keepR : ∀ a o, H a = some o → isMut o = false → H' a = some o
  at_ : ∀ (k : Nat) (o : Option Addr), ρ.l[k]? = some o → ρ'.l[k]? = some o ∨ ρ'.l[k]? = some none
  out : ∀ a, (some a ∈ ρ'.l ∨ a ∈ ρ'.rs) → (some a ∈ ρ.l ∨ a ∈ ρ.rs) ∨ H a = none
theorem Stp.toR {ρ ρ' : Rho} {H H' : Hp} (S : Stp ρ H ρ' H') (L : Live ρ H) : StpR ρ H ρ' H' :=
  ⟨fun a o h n _ => S.keep a o h n, fun a o h m => S.keep a o h (rd_mut L h m), S.at_, fun a h => by
    rcases h with h | h
    · rcases S.new a h with q | q
      · exact .inl (.inl q)
      · exact .inr q
    · exact .inl (.inr (by rw [← S.rse]; exact h))⟩

theorem StpR.trans {ρ ρ1 ρ2 : Rho} {H H1 H2 : Hp} (a : StpR ρ H ρ1 H1) (b : StpR ρ1 H1 ρ2 H2) : StpR ρ H ρ2 H2 where
  keep := fun x o h n n' => by
    have no : ¬ (some x ∈ ρ1.l ∨ x ∈ ρ1.rs) := fun z => by
      rcases a.out x z with (q | q) | q
      · exact n q
      · exact n' q
      · rw [h] at q; cases q
    exact b.keep x o (a.keep x o h n n') (fun z => no (.inl z)) (fun z => no (.inr z))
  keepR := fun x o h m => b.keepR x o (a.keepR x o h m) m
  at_ := fun k o h => by
    rcases a.at_ k o h with q | q
    · exact b.at_ k o q
    · rcases b.at_ k none q with z | z <;> exact .inr z
  out := fun x h => by
    rcases b.out x h with q | q
    · exact a.out x q
    · by_cases z : some x ∈ ρ.l ∨ x ∈ ρ.rs
      · exact .inl z
      · refine .inr ?_
        cases e : H x with
        | none => rfl
        | some o =>
          rw [a.keep x o e (fun y => z (.inl y)) (fun y => z (.inr y))] at q
          cases q
section
variable {G : Gx} {ρ ρ' : Rho} {H H' : Hp}
theorem sqT_step (S : StpR ρ H ρ' H') {a : Addr} {xs : List V} (h : SqT G.K H a xs) : SqT G.K H' a xs := by
  rcases h with (h | ⟨o, h⟩) | h
  · exact .inl (.inl (S.keepR _ _ h rfl))
  · exact .inl (.inr ⟨o, S.keepR _ _ h rfl⟩)
  · exact .inr h
mutual
theorem Rv.stepR (S : StpR ρ H ρ' H') : ∀ (t : T) (v : V), Rv G ρ H t v → Rv G ρ' H' t v
  | .non, v, h => by unfold Rv at h ⊢; exact h
  | .bl b, v, h => by unfold Rv at h ⊢; exact h
  | .int i, v, h => by unfold Rv at h ⊢; exact h
  | .str s, v, h => by unfold Rv at h ⊢; exact h
  | .fn f, v, h => by unfold Rv at h ⊢; exact h
  | .tup ts, v, h => by
    unfold Rv at h ⊢
    obtain ⟨a, xs, e, q, r⟩ := h
    exact ⟨a, xs, e, sqT_step S q, RvL.stepR S ts xs r⟩
  | .lst ts, v, h => by
    unfold Rv at h ⊢
    obtain ⟨a, xs, e, q, r, n⟩ := h
    have no : ¬ (some a ∈ ρ'.l ∨ a ∈ ρ'.rs) := fun z => by
      rcases S.out a z with (y | y) | y
      · exact n.1 y
      · exact n.2 y
      · rw [q] at y; cases y
    exact ⟨a, xs, e, S.keep _ _ q n.1 n.2, RvL.stepR S ts xs r, fun z => no (.inl z), fun z => no (.inr z)⟩
  | .dct ks ts, v, h => by
    unfold Rv at h ⊢
    obtain ⟨a, kvs, e, q, ek, r, n⟩ := h
    have no : ¬ (some a ∈ ρ'.l ∨ a ∈ ρ'.rs) := fun z => by
      rcases S.out a z with (y | y) | y
      · exact n.1 y
      · exact n.2 y
      · rw [q] at y; cases y
    exact ⟨a, kvs, e, S.keep _ _ q n.1 n.2, ek, RvL.stepR S ts _ r, fun z => no (.inl z), fun z => no (.inr z)⟩
  | .scr ns, v, h => by
    unfold Rv at h ⊢
    obtain ⟨a, e, q⟩ := h
    refine ⟨a, e, ?_⟩
    rcases q with ⟨o, q⟩ | q
    · exact .inl ⟨o, S.keepR _ _ q rfl⟩
    · exact .inr q
  | .ref k, v, h => by
    unfold Rv at h ⊢
    obtain ⟨o, e, q⟩ := h
    rcases S.at_ k o e with z | z
    · exact ⟨o, z, q⟩
    · exact ⟨none, z, fun a y => nomatch y⟩
theorem RvL.stepR (S : StpR ρ H ρ' H') : ∀ (ts : List T) (vs : List V), RvL G ρ H ts vs → RvL G ρ' H' ts vs
  | [], vs, h => by unfold RvL at h ⊢; exact h
  | t :: ts, vs, h => by
    unfold RvL at h ⊢
    obtain ⟨v, ws, e, q, r⟩ := h
    exact ⟨v, ws, e, Rv.stepR S t v q, RvL.stepR S ts ws r⟩
end
theorem RvF.stepR (S : StpR ρ H ρ' H') : ∀ (fl : List Str) (ts : List T) (fs : List (Str × V)), RvF G ρ H fl ts fs → RvF G ρ' H' fl ts fs
  | [], _, _, _ => by simp [RvF]
  | _ :: _, [], _, _ => by simp [RvF]
  | f :: fl, t :: ts, fs, h => by
    simp only [RvF] at h ⊢
    obtain ⟨⟨v, e, q⟩, r⟩ := h
    exact ⟨⟨v, e, Rv.stepR S t v q⟩, RvF.stepR S fl ts fs r⟩
theorem Rv.step (L : Live ρ H) (S : Stp ρ H ρ' H') (t : T) (v : V) (h : Rv G ρ H t v) : Rv G ρ' H' t v := Rv.stepR (S.toR L) t v h
theorem RvL.step (L : Live ρ H) (S : Stp ρ H ρ' H') (ts : List T) (vs : List V) (h : RvL G ρ H ts vs) : RvL G ρ' H' ts vs := RvL.stepR (S.toR L) ts vs h
theorem RvF.step (L : Live ρ H) (S : Stp ρ H ρ' H') (fl : List Str) (ts : List T) (fs : List (Str × V)) (h : RvF G ρ H fl ts fs) : RvF G ρ' H' fl ts fs := RvF.stepR (S.toR L) fl ts fs h
end

/-! ### lists of values -/
section
variable {G : Gx} {ρ : Rho} {H : Hp}
theorem RvL.len : ∀ {ts : List T} {vs : List V}, RvL G ρ H ts vs → vs.length = ts.length
  | [], vs, h => by simp only [RvL] at h; subst h; rfl
  | t :: ts, vs, h => by
    simp only [RvL] at h
    obtain ⟨v, ws, rfl, _, r⟩ := h
    simp [r.len]
theorem RvL.get : ∀ {ts : List T} {vs : List V} {i : Nat} {t : T}, RvL G ρ H ts vs → ts[i]? = some t → ∃ v, vs[i]? = some v ∧ Rv G ρ H t v
  | t :: ts, vs, 0, u, h, e => by
    simp only [RvL] at h
    obtain ⟨v, ws, rfl, q, r⟩ := h
    simp at e
    subst e
    exact ⟨v, rfl, q⟩
  | t :: ts, vs, i + 1, u, h, e => by
    simp only [RvL] at h
    obtain ⟨v, ws, rfl, q, r⟩ := h
    obtain ⟨w, e1, e2⟩ := RvL.get (i := i) r (by simpa using e)
    exact ⟨w, by simpa using e1, e2⟩
theorem RvL.app : ∀ {ts us : List T} {vs ws : List V}, RvL G ρ H ts vs → RvL G ρ H us ws → RvL G ρ H (ts ++ us) (vs ++ ws)
  | [], us, vs, ws, h, h' => by simp only [RvL] at h; subst h; exact h'
  | t :: ts, us, vs, ws, h, h' => by
    simp only [RvL] at h
    obtain ⟨v, w, rfl, q, r⟩ := h
    show RvL G ρ H (t :: (ts ++ us)) (v :: (w ++ ws))
    simp only [RvL]
    exact ⟨v, _, rfl, q, r.app h'⟩
theorem RvL.drop : ∀ {ts : List T} {vs : List V} (n : Nat), RvL G ρ H ts vs → RvL G ρ H (ts.drop n) (vs.drop n)
  | ts, vs, 0, h => h
  | [], vs, n + 1, h => by simp only [RvL] at h; subst h; simp [RvL]
  | t :: ts, vs, n + 1, h => by
    simp only [RvL] at h
    obtain ⟨v, w, rfl, q, r⟩ := h
    exact RvL.drop n r
theorem RvL.take : ∀ {ts : List T} {vs : List V} (n : Nat), RvL G ρ H ts vs → RvL G ρ H (ts.take n) (vs.take n)
  | ts, vs, 0, h => by simp [RvL]
  | [], vs, n + 1, h => by simp only [RvL] at h; subst h; simp [RvL]
  | t :: ts, vs, n + 1, h => by
    simp only [RvL] at h
    obtain ⟨v, w, rfl, q, r⟩ := h
    show RvL G ρ H (t :: ts.take n) (v :: w.take n)
    simp only [RvL]
    exact ⟨v, _, rfl, q, RvL.take n r⟩
theorem RvL.set : ∀ {ts : List T} {vs : List V} {t : T} {v : V} (n : Nat), RvL G ρ H ts vs → Rv G ρ H t v → RvL G ρ H (ts.set n t) (vs.set n v)
  | [], vs, t, v, n, h, q => by simp only [RvL] at h; subst h; simp [RvL]
  | u :: ts, vs, t, v, 0, h, q => by
    simp only [RvL] at h
    obtain ⟨w, ws, rfl, _, r⟩ := h
    show RvL G ρ H (t :: ts) (v :: ws)
    simp only [RvL]
    exact ⟨v, ws, rfl, q, r⟩
  | u :: ts, vs, t, v, n + 1, h, q => by
    simp only [RvL] at h
    obtain ⟨w, ws, rfl, q0, r⟩ := h
    show RvL G ρ H (u :: ts.set n t) (w :: ws.set n v)
    simp only [RvL]
    exact ⟨w, _, rfl, q0, RvL.set n r q⟩
theorem RvL.of_map {α : Type} {f : α → T} {g : α → V} (h : ∀ a, Rv G ρ H (f a) (g a)) : ∀ l : List α, RvL G ρ H (l.map f) (l.map g)
  | [] => by simp [RvL]
  | a :: r => by
    show RvL G ρ H (f a :: r.map f) (g a :: r.map g)
    simp only [RvL]
    exact ⟨_, _, rfl, h a, RvL.of_map h r⟩
theorem RvL.one {t : T} {v : V} (h : Rv G ρ H t v) : RvL G ρ H [t] [v] := by
  simp only [RvL]
  exact ⟨v, [], rfl, h, rfl⟩
theorem RvL.rep {ts : List T} {vs : List V} (r : RvL G ρ H ts vs) : ∀ n : Nat, RvL G ρ H (List.replicate n ts).flatten (List.replicate n vs).flatten
  | 0 => by simp [RvL]
  | n + 1 => by
    rw [List.replicate_succ, List.replicate_succ, List.flatten_cons, List.flatten_cons]
    exact r.app (r.rep n)
theorem RvL.nil_iff {ts : List T} {vs : List V} (r : RvL G ρ H ts vs) : vs = [] ↔ ts = [] := by
  have e := r.len
  constructor
  · intro z; subst z; exact List.length_eq_zero_iff.mp e.symm
  · intro z; subst z; exact List.length_eq_zero_iff.mp e
theorem RvL.intsT : ∀ {ts : List T} {vs : List V} {ns : List Int}, RvL G ρ H ts vs → intsT ts = some ns → vs = ns.map V.int
  | [], vs, ns, h, e => by simp only [RvL] at h; simp only [Fs.intsT] at e; cases e; exact h
  | t :: ts, vs, ns, h, e => by
    simp only [RvL] at h
    obtain ⟨v, w, rfl, q, r⟩ := h
    cases t with
    | int i =>
      simp only [Fs.intsT, Option.map_eq_some_iff] at e
      obtain ⟨ms, e1, rfl⟩ := e
      simp only [Rv] at q
      rw [q, r.intsT e1]
      rfl
    | _ => simp [Fs.intsT] at e
theorem RvL.bools : ∀ {ts : List T} {vs : List V} {ns : List Bool}, RvL G ρ H ts vs → bools ts = some ns → vs = ns.map V.bl
  | [], vs, ns, h, e => by simp only [RvL] at h; simp only [Fs.bools] at e; cases e; exact h
  | t :: ts, vs, ns, h, e => by
    simp only [RvL] at h
    obtain ⟨v, w, rfl, q, r⟩ := h
    cases t with
    | bl i =>
      simp only [Fs.bools, Option.map_eq_some_iff] at e
      obtain ⟨ms, e1, rfl⟩ := e
      simp only [Rv] at q
      rw [q, r.bools e1]
      rfl
    | _ => simp [Fs.bools] at e
theorem RvL.texts : ∀ {ts : List T} {vs : List V} {ns : List Str}, RvL G ρ H ts vs → texts ts = some ns → vs = ns.map V.str
  | [], vs, ns, h, e => by simp only [RvL] at h; simp only [Fs.texts] at e; cases e; exact h
  | t :: ts, vs, ns, h, e => by
    simp only [RvL] at h
    obtain ⟨v, w, rfl, q, r⟩ := h
    cases t with
    | str i =>
      simp only [Fs.texts, Option.map_eq_some_iff] at e
      obtain ⟨ms, e1, rfl⟩ := e
      simp only [Rv] at q
      rw [q, r.texts e1]
      rfl
    | _ => simp [Fs.texts] at e
theorem RvL.flat : ∀ {ts : List T} {vs : List V}, RvL G ρ H ts vs → ts.all flatT = true → vs.all flatV = true
  | [], vs, h, _ => by simp only [RvL] at h; subst h; rfl
  | t :: ts, vs, h, e => by
    simp only [RvL] at h
    obtain ⟨v, w, rfl, q, r⟩ := h
    simp only [List.all_cons, Bool.and_eq_true] at e ⊢
    refine ⟨?_, r.flat e.2⟩
    cases t <;> simp only [flatT] at e <;> first | (simp only [Rv] at q; subst q; rfl) | (exact absurd e.1 (by simp))
theorem flat_one {t : T} {v : V} (q : Rv G ρ H t v) (e : flatT t = true) : flatV v = true := by
  cases t <;> simp only [flatT] at e <;> first | (simp only [Rv] at q; subst q; rfl) | (exact absurd e (by simp))
theorem eqF_one {t u : T} {v w : V} (q : Rv G ρ H t v) (r : Rv G ρ H u w) (e : flatT t = true) (e' : flatT u = true) : eqV v w = eqF t u := by
  cases t <;> first | (cases e; done) | skip
  all_goals cases u <;> first | (cases e'; done) | (simp only [Rv] at q r; subst q r; first | rfl | (simp [eqV, eqF]; done))
theorem RvL.eqF : ∀ {ts : List T} {vs : List V} {x : T} {y : V}, RvL G ρ H ts vs → Rv G ρ H x y → flatT x = true → ts.all flatT = true → (vs.any fun z => eqV z y) = ts.any fun z => Fs.eqF z x
  | [], vs, x, y, h, _, _, _ => by simp only [RvL] at h; subst h; rfl
  | t :: ts, vs, x, y, h, hx, e, e' => by
    simp only [RvL] at h
    obtain ⟨v, w, rfl, q, r⟩ := h
    simp only [List.all_cons, Bool.and_eq_true] at e'
    simp only [List.any_cons]
    rw [eqF_one q hx e'.1 e, r.eqF hx e e'.2]
end

/-! ### the numbered objects -/
def FsR (G : Gx) (ρ : Rho) (H : Hp) : List (Str × T) → List (Str × V) → Prop
  | [], ys => ys = []
  | p :: r, ys => ∃ v ws, ys = (p.1, v) :: ws ∧ Rv G ρ H p.2 v ∧ FsR G ρ H r ws
def KsR (G : Gx) (ρ : Rho) (H : Hp) : List (Key × T) → List (Key × V) → Prop
  | [], ys => ys = []
  | p :: r, ys => ∃ v ws, ys = (p.1, v) :: ws ∧ Rv G ρ H p.2 v ∧ KsR G ρ H r ws
def ObR (G : Gx) (ρ : Rho) (H : Hp) (a : Addr) : Ob → Prop
  | .gone => False
  | .lst ts => ∃ xs, H a = some (.lst xs) ∧ RvL G ρ H ts xs
  | .dct kvs => ∃ ys, H a = some (.dK ys) ∧ KsR G ρ H kvs ys
  | .ins c fs => ∃ dx ys, H a = some (.ins (G.ca c) dx ys) ∧ FsR G ρ H fs ys
structure HR (G : Gx) (ρ : Rho) (hs : Hs) (H : Hp) : Prop where
  len : ρ.l.length = hs.length
  rsv : ∀ a, a ∈ ρ.rs → some a ∉ ρ.l ∧ ∃ o, H a = some o ∧ isMut o = true
  inj : ∀ (i j : Nat) (a : Addr), ρ.l[i]? = some (some a) → ρ.l[j]? = some (some a) → i = j
  ob : ∀ (k : Nat) (a : Addr) (o : Ob), ρ.l[k]? = some (some a) → hs[k]? = some o → ObR G ρ H a o
  live : ∀ (k : Nat) (o : Ob), hs[k]? = some o → o ≠ .gone → ∃ a, ρ.l[k]? = some (some a)
section
variable {G : Gx} {ρ ρ' : Rho} {H H' : Hp} {hs : Hs}
theorem FsR.stepR (S : StpR ρ H ρ' H') : ∀ {fs : List (Str × T)} {ys : List (Str × V)}, FsR G ρ H fs ys → FsR G ρ' H' fs ys
  | [], _, h => h
  | p :: r, _, h => by
    obtain ⟨v, ws, e, q, z⟩ := h
    exact ⟨v, ws, e, Rv.stepR S _ _ q, FsR.stepR S z⟩
theorem KsR.stepR (S : StpR ρ H ρ' H') : ∀ {fs : List (Key × T)} {ys : List (Key × V)}, KsR G ρ H fs ys → KsR G ρ' H' fs ys
  | [], _, h => h
  | p :: r, _, h => by
    obtain ⟨v, ws, e, q, z⟩ := h
    exact ⟨v, ws, e, Rv.stepR S _ _ q, KsR.stepR S z⟩
theorem FsR.step (L : Live ρ H) (S : Stp ρ H ρ' H') {fs : List (Str × T)} {ys : List (Str × V)} (h : FsR G ρ H fs ys) : FsR G ρ' H' fs ys := h.stepR (S.toR L)
theorem KsR.step (L : Live ρ H) (S : Stp ρ H ρ' H') {fs : List (Key × T)} {ys : List (Key × V)} (h : KsR G ρ H fs ys) : KsR G ρ' H' fs ys := h.stepR (S.toR L)
/-- an object, behind a step that leaves it as it is -/
theorem ObR.stepR (S : StpR ρ H ρ' H') {a : Addr} {o : Ob} (h : ObR G ρ H a o) (k : H' a = H a) : ObR G ρ' H' a o := by
  cases o with
  | gone => exact h
  | lst ts => obtain ⟨xs, z, r⟩ := h; exact ⟨xs, k.trans z, RvL.stepR S _ _ r⟩
  | dct kvs => obtain ⟨xs, z, r⟩ := h; exact ⟨xs, k.trans z, r.stepR S⟩
  | ins c fs => obtain ⟨dx, ys, z, r⟩ := h; exact ⟨dx, ys, k.trans z, r.stepR S⟩
theorem ObR.mut {a : Addr} {o : Ob} (h : ObR G ρ H a o) : ∃ u, H a = some u ∧ isMut u = true := by
  cases o with
  | gone => exact h.elim
  | lst ts => obtain ⟨xs, e, _⟩ := h; exact ⟨_, e, rfl⟩
  | dct kvs => obtain ⟨xs, e, _⟩ := h; exact ⟨_, e, rfl⟩
  | ins c fs => obtain ⟨dx, ys, e, _⟩ := h; exact ⟨_, e, rfl⟩
theorem HR.Live (R : HR G ρ hs H) : Live ρ H := fun a ha => by
  obtain ⟨k, hk, e⟩ := List.mem_iff_getElem.mp ha
  have e1 : ρ.l[k]? = some (some a) := by rw [List.getElem?_eq_getElem hk, e]
  have hk2 : k < hs.length := by rw [← R.len]; exact hk
  exact (R.ob k a hs[k] e1 (List.getElem?_eq_getElem hk2)).mut
/-- the abstract heap has grown -/
theorem HR.ext (R : HR G ρ hs H) (e : Ext H H') : HR G ρ hs H' where
  rsv := fun a h => by
    obtain ⟨h1, xs, h2, h3⟩ := R.rsv a h
    exact ⟨h1, xs, e _ _ h2, h3⟩
  len := R.len
  inj := R.inj
  live := R.live
  ob := fun k a o h1 h2 => by
    have L := R.Live
    have S : Stp ρ H ρ H' := .ext e
    have q := R.ob k a o h1 h2
    cases o with
    | gone => exact q
    | lst ts => obtain ⟨xs, z, r⟩ := q; exact ⟨xs, e _ _ z, RvL.step L S _ _ r⟩
    | dct kvs => obtain ⟨xs, z, r⟩ := q; exact ⟨xs, e _ _ z, r.step L S⟩
    | ins c fs => obtain ⟨dx, ys, z, r⟩ := q; exact ⟨dx, ys, e _ _ z, r.step L S⟩
theorem mem_rho {k : Nat} {a : Addr} (h : ρ.l[k]? = some (some a)) : some a ∈ ρ.l := List.mem_of_getElem? h
/-- the object at a is changed -/
theorem Stp.mut {a : Addr} {o : HO} (h : some a ∈ ρ.l) : Stp ρ H ρ (upd H a o) := ⟨fun b u e n => by
  rw [upd_ne (fun z => n (by rw [z]; exact h))]
  exact e, Nat.le_refl _, fun _ _ h => .inl h, fun _ h => .inl h, rfl⟩
theorem HR.mut {k : Nat} {a : Addr} {o : HO} {u : Ob} (R : HR G ρ hs H) (hk : ρ.l[k]? = some (some a)) (n : u ≠ .gone) (new : ObR G ρ (upd H a o) a u) : HR G ρ (hs.set k u) (upd H a o) where
  rsv := fun b h => by
    obtain ⟨h1, xs, h2⟩ := R.rsv b h
    refine ⟨h1, xs, ?_⟩
    rw [upd_ne fun z => h1 (by rw [z]; exact mem_rho hk)]
    exact h2
  len := by rw [List.length_set]; exact R.len
  inj := R.inj
  live := fun j w h1 h2 => by
    by_cases e : k = j
    · subst e; exact ⟨a, hk⟩
    · rw [List.getElem?_set_ne e] at h1
      exact R.live j w h1 h2
  ob := fun j b w h1 h2 => by
    by_cases e : k = j
    · subst e
      rw [hk] at h1
      cases h1
      have hlt : k < hs.length := by rw [← R.len]; exact (List.getElem?_eq_some_iff.mp hk).1
      rw [List.getElem?_set_self hlt] at h2
      cases h2
      exact new
    · rw [List.getElem?_set_ne e] at h2
      have ne : b ≠ a := fun z => by subst z; exact e (R.inj _ _ _ hk h1)
      have L := R.Live
      have S : Stp ρ H ρ (upd H a o) := .mut (mem_rho hk)
      have q := R.ob j b w h1 h2
      cases w with
      | gone => exact q
      | lst ts => obtain ⟨xs, z, r⟩ := q; exact ⟨xs, by rw [upd_ne ne]; exact z, RvL.step L S _ _ r⟩
      | dct kvs => obtain ⟨xs, z, r⟩ := q; exact ⟨xs, by rw [upd_ne ne]; exact z, r.step L S⟩
      | ins c fs => obtain ⟨dx, ys, z, r⟩ := q; exact ⟨dx, ys, by rw [upd_ne ne]; exact z, r.step L S⟩
/-- the lists that are being made change, come or go -/
theorem HR.stepR (R : HR G ρ hs H) (S : StpR ρ H ρ' H') (hl : ρ'.l = ρ.l) (k : ∀ a, some a ∈ ρ.l → H' a = H a) (rs : ∀ a, a ∈ ρ'.rs → some a ∉ ρ.l ∧ ∃ o, H' a = some o ∧ isMut o = true) : HR G ρ' hs H' where
  len := by rw [hl]; exact R.len
  inj := by rw [hl]; exact R.inj
  live := by rw [hl]; exact R.live
  rsv := by rw [hl]; exact rs
  ob := fun j a o h1 h2 => by
    rw [hl] at h1
    exact (R.ob j a o h1 h2).stepR S (k a (mem_rho h1))
/-- a list that was being made gets a number -/
theorem HR.take {l : List (Option Addr)} {rs : List Addr} {D : Addr} {acc : List V} {Y : List T} (R : HR G ⟨l, D :: rs⟩ hs H) (nD : D ∉ rs) (hD : H D = some (.lst acc)) (rl : RvL G ⟨l, D :: rs⟩ H Y acc) :
    HR G ⟨l ++ [some D], rs⟩ (hs ++ [.lst Y]) H ∧ Rv G ⟨l ++ [some D], rs⟩ H (.ref hs.length) (.ref D) := by
  have hl : l.length = hs.length := R.len
  have S : StpR ⟨l, D :: rs⟩ H ⟨l ++ [some D], rs⟩ H := ⟨fun _ _ h _ _ => h, fun _ _ h _ => h, fun k o h => .inl (by
    change l[k]? = some o at h
    show (l ++ [some D])[k]? = some o
    rw [List.getElem?_append_left (List.getElem?_eq_some_iff.mp h).1]
    exact h), fun a h => by
    rcases h with h | h
    · rcases List.mem_append.mp h with q | q
      · exact .inl (.inl q)
      · have : a = D := by simpa using q
        exact .inl (.inr (by rw [this]; exact List.mem_cons_self))
    · exact .inl (.inr (List.mem_cons_of_mem _ h))⟩
  have nl : some D ∉ l := (R.rsv D List.mem_cons_self).1
  refine ⟨⟨?_, fun a h => ?_, fun i j a h1 h2 => ?_, fun k a o h1 h2 => ?_, fun k o h1 h2 => ?_⟩, ?_⟩
  · show (l ++ [some D]).length = _
    simp [hl]
  · obtain ⟨h1, xs, h2⟩ := R.rsv a (List.mem_cons_of_mem _ h)
    refine ⟨fun z => ?_, xs, h2⟩
    rcases List.mem_append.mp z with q | q
    · exact h1 q
    · have : a = D := by simpa using q
      exact nD (by rw [← this]; exact h)
  · have key : ∀ {i : Nat}, (l ++ [some D])[i]? = some (some a) → (i < l.length ∧ l[i]? = some (some a)) ∨ (i = l.length ∧ a = D) := fun {i} h => by
      by_cases z : i < l.length
      · rw [List.getElem?_append_left z] at h; exact .inl ⟨z, h⟩
      · rw [List.getElem?_append_right (Nat.le_of_not_lt z)] at h
        have hz : i - l.length = 0 := by
          rcases Nat.eq_zero_or_pos (i - l.length) with y | y
          · exact y
          · rw [List.getElem?_eq_none (by simp; omega)] at h; cases h
        rw [hz] at h
        have : D = a := by simpa using h
        exact .inr ⟨by omega, this.symm⟩
    rcases key h1 with ⟨_, q1⟩ | ⟨e1, a1⟩
    · rcases key h2 with ⟨_, q2⟩ | ⟨e2, a2⟩
      · exact R.inj _ _ _ q1 q2
      · subst a2; exact (nl (List.mem_of_getElem? q1)).elim
    · rcases key h2 with ⟨_, q2⟩ | ⟨e2, a2⟩
      · subst a1; exact (nl (List.mem_of_getElem? q2)).elim
      · omega
  · change (l ++ [some D])[k]? = _ at h1
    by_cases z : k < hs.length
    · rw [List.getElem?_append_left z] at h2
      rw [List.getElem?_append_left (by omega)] at h1
      exact (R.ob k a o h1 h2).stepR S rfl
    · have hk : k = hs.length := by
        have := (List.getElem?_eq_some_iff.mp h2).1
        simp at this
        omega
      subst hk
      rw [← hl] at h1
      have e1 : D = a := by simpa using h1
      have e2 : Ob.lst Y = o := by simpa using h2
      subst e1 e2
      exact ⟨acc, hD, RvL.stepR S _ _ rl⟩
  · by_cases z : k < hs.length
    · rw [List.getElem?_append_left z] at h1
      obtain ⟨a, q⟩ := R.live k o h1 h2
      change l[k]? = _ at q
      exact ⟨a, by show (l ++ [some D])[k]? = _; rw [List.getElem?_append_left (by omega)]; exact q⟩
    · have hk : k = hs.length := by
        have := (List.getElem?_eq_some_iff.mp h1).1
        simp at this
        omega
      subst hk
      exact ⟨D, by show (l ++ [some D])[hs.length]? = _; rw [← hl]; simp⟩
  · simp only [Rv]
    refine ⟨some D, ?_, fun a e => by cases e; rfl⟩
    show (l ++ [some D])[hs.length]? = _
    rw [← hl]
    simp
/-- a new one -/
theorem Stp.push {p : Addr} (h : H p = none) (e : Ext H H') : Stp ρ H (ρ.push p) H' := ⟨fun a o z _ => e a o z, by simp [Rho.push], fun k o z => by
    refine .inl ?_
    show (ρ.l ++ [some p])[k]? = some o
    rw [List.getElem?_append_left (List.getElem?_eq_some_iff.mp z).1]
    exact z, fun a z => by
    rcases List.mem_append.mp z with q | q
    · exact .inl q
    · have : a = p := by simpa using q
      rw [this]
      exact .inr h, rfl⟩
theorem HR.push {p : Addr} {u : Ob} (R : HR G ρ hs H) (hp : H p = none) (e : Ext H H') (n : u ≠ .gone) (new : ObR G (ρ.push p) H' p u) : HR G (ρ.push p) (hs ++ [u]) H' where
  len := by
    show (ρ.l ++ [some p]).length = _
    simp [R.len]
  rsv := fun b h => by
    obtain ⟨h1, xs, h2, h3⟩ := R.rsv b h
    refine ⟨fun z => ?_, xs, e _ _ h2, h3⟩
    rcases List.mem_append.mp z with q | q
    · exact h1 q
    · have : b = p := by simpa using q
      rw [this, hp] at h2
      cases h2
  inj := fun i j a h1 h2 => by
    have key : ∀ {i : Nat}, (ρ.l ++ [some p])[i]? = some (some a) → (i < ρ.l.length ∧ ρ.l[i]? = some (some a)) ∨ (i = ρ.l.length ∧ a = p) := fun {i} h => by
      by_cases z : i < ρ.l.length
      · rw [List.getElem?_append_left z] at h; exact .inl ⟨z, h⟩
      · rw [List.getElem?_append_right (Nat.le_of_not_lt z)] at h
        have hz : i - ρ.l.length = 0 := by
          rcases Nat.eq_zero_or_pos (i - ρ.l.length) with y | y
          · exact y
          · rw [List.getElem?_eq_none (by simp; omega)] at h; cases h
        rw [hz] at h
        have : p = a := by simpa using h
        exact .inr ⟨by omega, this.symm⟩
    have np : ∀ {i : Nat}, ρ.l[i]? = some (some p) → False := fun {i} h => by
      obtain ⟨o, q, _⟩ := R.Live p (mem_rho h)
      rw [hp] at q; cases q
    rcases key h1 with ⟨_, q1⟩ | ⟨e1, a1⟩
    · rcases key h2 with ⟨_, q2⟩ | ⟨e2, a2⟩
      · exact R.inj _ _ _ q1 q2
      · subst a2; exact (np q1).elim
    · rcases key h2 with ⟨_, q2⟩ | ⟨e2, a2⟩
      · subst a1; exact (np q2).elim
      · omega
  live := fun k o h1 h2 => by
    by_cases z : k < hs.length
    · rw [List.getElem?_append_left z] at h1
      obtain ⟨a, q⟩ := R.live k o h1 h2
      exact ⟨a, by show (ρ.l ++ [some p])[k]? = _; rw [List.getElem?_append_left (by rw [R.len]; exact z)]; exact q⟩
    · have hk : k = hs.length := by
        have := (List.getElem?_eq_some_iff.mp h1).1
        simp at this
        omega
      subst hk
      exact ⟨p, by show (ρ.l ++ [some p])[hs.length]? = _; rw [← R.len]; simp⟩
  ob := fun k a o h1 h2 => by
    change (ρ.l ++ [some p])[k]? = _ at h1
    by_cases z : k < hs.length
    · rw [List.getElem?_append_left z] at h2
      rw [List.getElem?_append_left (by rw [R.len]; exact z)] at h1
      have L := R.Live
      have S : Stp ρ H (ρ.push p) H' := .push hp e
      have q := R.ob k a o h1 h2
      cases o with
      | gone => exact q
      | lst ts => obtain ⟨xs, y, r⟩ := q; exact ⟨xs, e _ _ y, RvL.step L S _ _ r⟩
      | dct kvs => obtain ⟨xs, y, r⟩ := q; exact ⟨xs, e _ _ y, r.step L S⟩
      | ins c fs => obtain ⟨dx, ys, y, r⟩ := q; exact ⟨dx, ys, e _ _ y, r.step L S⟩
    · have hk : k = hs.length := by
        have := (List.getElem?_eq_some_iff.mp h2).1
        simp at this
        omega
      subst hk
      rw [← R.len] at h1
      have e1 : p = a := by simpa using h1
      have e2 : u = o := by simpa using h2
      subst e1 e2
      exact new
/-- the number k is let go: what stands there changes no more -/
theorem Stp.off {k : Nat} : Stp ρ H (ρ.off k) H := ⟨fun _ _ h _ => h, by simp [Rho.off], fun j o h => by
    show (ρ.l.set k none)[j]? = _ ∨ (ρ.l.set k none)[j]? = _
    by_cases e : k = j
    · subst e
      exact .inr (List.getElem?_set_self (List.getElem?_eq_some_iff.mp h).1)
    · exact .inl (by rw [List.getElem?_set_ne e]; exact h), fun a h => by
    rcases List.mem_or_eq_of_mem_set h with q | q
    · exact .inl q
    · (cases q), rfl⟩
theorem HR.off {k : Nat} (R : HR G ρ hs H) : HR G (ρ.off k) (hs.set k .gone) H where
  len := by
    show (ρ.l.set k none).length = _
    simp [R.len]
  rsv := fun b h => by
    obtain ⟨h1, xs, h2⟩ := R.rsv b h
    refine ⟨fun z => ?_, xs, h2⟩
    rcases List.mem_or_eq_of_mem_set z with q | q
    · exact h1 q
    · cases q
  inj := fun i j a h1 h2 => by
    have key : ∀ {i : Nat}, (ρ.l.set k none)[i]? = some (some a) → ρ.l[i]? = some (some a) := fun {i} h => by
      by_cases e : k = i
      · subst e
        by_cases z : k < ρ.l.length
        · rw [List.getElem?_set_self z] at h; cases h
        · rw [List.getElem?_eq_none (by simp; omega)] at h; cases h
      · rw [List.getElem?_set_ne e] at h; exact h
    exact R.inj i j a (key h1) (key h2)
  live := fun j o h1 h2 => by
    by_cases e : k = j
    · subst e
      by_cases z : k < hs.length
      · rw [List.getElem?_set_self z] at h1; cases h1; exact (h2 rfl).elim
      · rw [List.getElem?_eq_none (by simp; omega)] at h1; cases h1
    · rw [List.getElem?_set_ne e] at h1
      obtain ⟨a, q⟩ := R.live j o h1 h2
      exact ⟨a, by show (ρ.l.set k none)[j]? = _; rw [List.getElem?_set_ne e]; exact q⟩
  ob := fun j a o h1 h2 => by
    change (ρ.l.set k none)[j]? = _ at h1
    by_cases e : k = j
    · subst e
      by_cases z : k < ρ.l.length
      · rw [List.getElem?_set_self z] at h1; cases h1
      · rw [List.getElem?_eq_none (by simp; omega)] at h1; cases h1
    · rw [List.getElem?_set_ne e] at h1 h2
      have L := R.Live
      have S : Stp ρ H (ρ.off k) H := .off
      have q := R.ob j a o h1 h2
      cases o with
      | gone => exact q
      | lst ts => obtain ⟨xs, y, r⟩ := q; exact ⟨xs, y, RvL.step L S _ _ r⟩
      | dct kvs => obtain ⟨xs, y, r⟩ := q; exact ⟨xs, y, r.step L S⟩
      | ins c fs => obtain ⟨dx, ys, y, r⟩ := q; exact ⟨dx, ys, y, r.step L S⟩
/-- what stands at a number -/
theorem HR.at_ {k : Nat} {o : Ob} {v : V} (R : HR G ρ hs H) (h : hs[k]? = some o) (n : o ≠ .gone) (r : Rv G ρ H (.ref k) v) : ∃ a, v = .ref a ∧ ρ.l[k]? = some (some a) ∧ ObR G ρ H a o := by
  obtain ⟨a, e⟩ := R.live k o h n
  simp only [Rv] at r
  obtain ⟨u, e2, q⟩ := r
  rw [e] at e2
  cases e2
  exact ⟨a, q a rfl, e, R.ob k a o e h⟩
end

/-! ### the names -/
/-- the exception at hand: where it stands, its dict, its class, its name's place, its fields' values -/
structure Xa where
  a : Addr
  d : Option Addr
  c : Nat
  i : Option Nat
  xs : List T
def XaOk (G : Gx) (ρ : Rho) (H : Hp) (q : Xa) (σ : St) : Prop := (∀ i, q.i = some i → i < σ.length → σ[i]? = some (some (.ref q.a))) ∧ (G.fl q.c = [] ∨ ∃ dd fs, q.d = some dd ∧ H dd = some (.xd fs) ∧ RvF G ρ H (G.fl q.c) q.xs fs)
structure EnR (G : Gx) (xa : Option Xa) (ρ : Rho) (H : Hp) (env : En) (σ : St) : Prop where
  len : env.length = σ.length
  xao : ∀ q, xa = some q → XaOk G ρ H q σ
  at_ : ∀ (i : Nat) (t : T), env[i]? = some (some t) → ∃ v, σ[i]? = some (some v) ∧ Rv G ρ H t v
section
variable {G : Gx} {xa : Option Xa} {ρ ρ' : Rho} {H H' : Hp} {env : En} {σ : St}
/-- the exception's name is not there -/
def notXi (xa : Option Xa) (i : Nat) : Prop := ∀ q, xa = some q → q.i ≠ some i
theorem XaOk.set {q : Xa} {i : Nat} {o : Option V} (h : XaOk G ρ H q σ) (n : q.i ≠ some i) : XaOk G ρ H q (σ.set i o) := ⟨fun j e hl => by
  have hj : i ≠ j := fun z => n (by rw [z]; exact e)
  rw [List.getElem?_set_ne hj]
  exact h.1 j e (by rw [List.length_set] at hl; exact hl), h.2⟩
theorem EnR.step (e : EnR G xa ρ H env σ) (L : Live ρ H) (S : Stp ρ H ρ' H') : EnR G xa ρ' H' env σ := ⟨e.len, fun q hq => by
  obtain ⟨h1, h2⟩ := e.xao q hq
  refine ⟨h1, ?_⟩
  rcases h2 with h2 | ⟨dd, fs, e1, e2, r⟩
  · exact .inl h2
  · exact .inr ⟨dd, fs, e1, S.keep _ _ e2 (rd_mut L e2 rfl), RvF.step L S _ _ _ r⟩, fun i t h => by
  obtain ⟨v, h1, h2⟩ := e.at_ i t h
  exact ⟨v, h1, Rv.step L S t v h2⟩⟩
theorem EnR.stepR (e : EnR G xa ρ H env σ) (S : StpR ρ H ρ' H') : EnR G xa ρ' H' env σ := ⟨e.len, fun q hq => by
  obtain ⟨h1, h2⟩ := e.xao q hq
  refine ⟨h1, ?_⟩
  rcases h2 with h2 | ⟨dd, fs, e1, e2, r⟩
  · exact .inl h2
  · exact .inr ⟨dd, fs, e1, S.keepR _ _ e2 rfl, RvF.stepR S _ _ _ r⟩, fun i t h => by
  obtain ⟨v, h1, h2⟩ := e.at_ i t h
  exact ⟨v, h1, Rv.stepR S t v h2⟩⟩
theorem EnR.set {t : T} {v : V} (e : EnR G xa ρ H env σ) (i : Nat) (n : notXi xa i) (r : Rv G ρ H t v) : EnR G xa ρ H (env.set i (some t)) (σ.set i (some v)) := ⟨by simp [e.len], fun q hq => (e.xao q hq).set (n q hq), fun j u h => by
  by_cases z : i = j
  · subst z
    by_cases y : i < env.length
    · rw [List.getElem?_set_self y] at h
      cases h
      exact ⟨v, List.getElem?_set_self (by rw [← e.len]; exact y), r⟩
    · rw [List.getElem?_eq_none (by simp; omega)] at h; cases h
  · rw [List.getElem?_set_ne z] at h ⊢
    exact e.at_ j u h⟩
theorem EnR.unset (e : EnR G xa ρ H env σ) (i : Nat) (n : notXi xa i) : EnR G xa ρ H (env.set i none) (σ.set i none) := ⟨by simp [e.len], fun q hq => (e.xao q hq).set (n q hq), fun j u h => by
  by_cases z : i = j
  · subst z
    by_cases y : i < env.length
    · rw [List.getElem?_set_self y] at h; cases h
    · rw [List.getElem?_eq_none (by simp; omega)] at h; cases h
  · rw [List.getElem?_set_ne z] at h ⊢
    exact e.at_ j u h⟩
theorem EnR.wipe (e : EnR G xa ρ H env σ) : ∀ vs : List Nat, (∀ i ∈ vs, notXi xa i) → EnR G xa ρ H (wipeT env vs) (wipe σ vs)
  | [], _ => e
  | v :: vs, n => (e.wipe vs fun i h => n i (List.mem_cons_of_mem _ h)).unset v (n v List.mem_cons_self)
/-- an exception is at hand: its name's place is hidden -/
theorem EnR.open_ (e : EnR G none ρ H env σ) (q : Xa) (i : Nat) (hi : q.i = some i) (x : G.fl q.c = [] ∨ ∃ dd fs, q.d = some dd ∧ H dd = some (.xd fs) ∧ RvF G ρ H (G.fl q.c) q.xs fs) : EnR G (some q) ρ H (env.set i none) (σ.set i (some (.ref q.a))) := ⟨by simp [e.len], fun q' hq => by
  cases hq
  refine ⟨fun j hj hl => ?_, x⟩
  rw [hi] at hj
  cases hj
  rw [List.length_set] at hl
  exact List.getElem?_set_self hl, fun j u h => by
  by_cases z : i = j
  · subst z
    by_cases y : i < env.length
    · rw [List.getElem?_set_self y] at h; cases h
    · rw [List.getElem?_eq_none (by simp; omega)] at h; cases h
  · rw [List.getElem?_set_ne z] at h ⊢
    exact e.at_ j u h⟩
theorem EnR.openN (e : EnR G none ρ H env σ) (q : Xa) (hi : q.i = none) (x : G.fl q.c = [] ∨ ∃ dd fs, q.d = some dd ∧ H dd = some (.xd fs) ∧ RvF G ρ H (G.fl q.c) q.xs fs) : EnR G (some q) ρ H env σ := ⟨e.len, fun q' hq => by
  cases hq
  exact ⟨fun j hj => (by rw [hi] at hj; cases hj), x⟩, e.at_⟩
theorem EnR.close (e : EnR G xa ρ H env σ) : EnR G none ρ H env σ := ⟨e.len, (fun q hq => by cases hq), e.at_⟩
/-- what stood at i is hidden, the state's own place may be anything -/
theorem EnR.hide (e : EnR G none ρ H env σ) (i : Nat) (o : Option V) : EnR G none ρ H (env.set i none) (σ.set i o) := ⟨by simp [e.len], (fun q hq => by cases hq), fun j u h => by
  by_cases z : i = j
  · subst z
    by_cases y : i < env.length
    · rw [List.getElem?_set_self y] at h; cases h
    · rw [List.getElem?_eq_none (by simp; omega)] at h; cases h
  · rw [List.getElem?_set_ne z] at h ⊢
    exact e.at_ j u h⟩
end

/-! ### ends -/
/-- what is wanted of an exception at a heap -/
abbrev XW := Value → Option Addr → Hp → Prop
def ExR (G : Gx) (ρ : Rho) (H : Hp) (c : Nat) (xs : List T) (cls : Value) (d : Option Addr) : Prop :=
  (∃ nm up, G.D.cls[c]? = some (.exc nm (G.fl c) up)) ∧ cls = .ref (G.ca c) ∧ (G.fl c).length = xs.length ∧ (G.fl c = [] ∨ ∃ dd fs, d = some dd ∧ H dd = some (.xd fs) ∧ RvF G ρ H (G.fl c) xs fs)
def Post {α β : Type} (G : Gx) (RA : Rho → Hp → α → β → Prop) (ρ : Rho) (H : Hp) (W : XW) (r : R α) (Q : β → Hp → Prop) : Prop := match r with
  | .ok a hs => ∀ ρ' H' b, Stp ρ H ρ' H' → HR G ρ' hs H' → RA ρ' H' a b → Q b H'
  | .exc c xs hs => ∀ ρ' H' cls d, Stp ρ H ρ' H' → HR G ρ' hs H' → ExR G ρ' H' c xs cls d → W cls d H'
  | .bad => False
section
variable {α β γ δ : Type} {G : Gx} {RA : Rho → Hp → α → β → Prop} {RB : Rho → Hp → γ → δ → Prop} {ρ ρ' : Rho} {H H' : Hp} {W W' : XW} {r : R α} {k : α → Hs → R γ}
theorem Post.base {Q : β → Hp → Prop} (S : Stp ρ H ρ' H') (h : Post G RA ρ H W r Q) : Post G RA ρ' H' W r Q := by
  cases r with
  | ok a hs => exact fun ρ2 H2 b s1 hr ra => h ρ2 H2 b (S.trans s1) hr ra
  | exc c xs hs => exact fun ρ2 H2 cls d s1 hr ra => h ρ2 H2 cls d (S.trans s1) hr ra
  | bad => exact h
theorem Post.mono {Q Q' : β → Hp → Prop} (f : ∀ b H', Q b H' → Q' b H') (h : Post G RA ρ H W r Q) : Post G RA ρ H W r Q' := by
  cases r with
  | ok a hs => exact fun ρ2 H2 b s1 hr ra => f _ _ (h ρ2 H2 b s1 hr ra)
  | exc c xs hs => exact h
  | bad => exact h
theorem Post.bind {Q : δ → Hp → Prop} (h : Post G RB ρ H W (r.bind k) Q) :
    Post G RA ρ H W r (fun b H' => ∃ ρ' hs a, Stp ρ H ρ' H' ∧ HR G ρ' hs H' ∧ RA ρ' H' a b ∧ Post G RB ρ' H' W (k a hs) Q) := by
  cases r with
  | ok a hs => exact fun ρ2 H2 b s1 hr ra => ⟨ρ2, hs, a, s1, hr, ra, Post.base s1 h⟩
  | exc c xs hs => exact h
  | bad => exact h
theorem Post.ofO {o : Option α} {hs : Hs} {Q : β → Hp → Prop} (h : Post G RA ρ H W (R.ofO o hs) Q) : ∃ a, o = some a ∧ ∀ ρ' H' b, Stp ρ H ρ' H' → HR G ρ' hs H' → RA ρ' H' a b → Q b H' := by
  cases o with
  | none => exact h.elim
  | some a => exact ⟨a, rfl, h⟩
end
end Fs
end

section
set_option Elab.async false
set_option linter.all false
set_option maxRecDepth 100000
/-! Fs2: when a term of ours is the text's; the small rules. -/
namespace Fs
open PySem L2

/-! ### when a term is the text's -/
/-- what is known of a def's body, of a comprehension's block (og: its scope as written), of an except suite (hot) -/
structure Cs where
  N : List Str
  sc : Scope
  og : Option Scope
  hot : Bool
  /-- the exception's name -/
  xi : Option Nat := none
  D : Tb
def visK (k : Option NameKind) : Bool := match k with
  | some .local => true
  | some .cell => true
  | some .free => true
  | _ => false
def Cs.isVar (Γ : Cs) (i : Nat) (y : Str) : Bool := decide (Γ.N[i]? = some y) && (visK (Γ.sc.names.lookup y) && (!(y == ("__debug__" : Str)) && !(y == ("__classdict__" : Str))))
def Cs.isGlob (Γ : Cs) (y : Str) : Bool := decide (Γ.sc.names.lookup y = some .globalImplicit) && (!(y == ("__debug__" : Str)) && !(y == ("__name__" : Str)))
def Cs.isTgt (Γ : Cs) (i : Nat) (y : Str) : Bool := (decide (Γ.N[i]? = some y) && !(decide (Γ.xi = some i))) && (match Γ.sc.names.lookup y with
  | some .local => true
  | some .cell => (match Γ.og with
    | none => true
    | some s => s.names.lookup y == some .cell)
  | _ => false)
def okB : Bk → Operator → Bool
  | .add, .Add => true
  | .sub, .Sub => true
  | .mul, .Mult => true
  | .fdiv, .FloorDiv => true
  | .mod, .Mod => true
  | .pow, .Pow => true
  | _, _ => false
def okC : Ck → CmpOp → Bool
  | .eq, .Eq => true
  | .ne, .NotEq => true
  | .lt, .Lt => true
  | .le, .LtE => true
  | .gt, .Gt => true
  | .ge, .GtE => true
  | .is, .Is => true
  | .nis, .IsNot => true
  | .inn, .In => true
  | .nin, .NotIn => true
  | _, _ => false
/-- no zero-argument call of a name (super ..) -/
def notSup : Expr → Bool
  | .Call (.Name _ _) [] [] _ => false
  | _ => true
def biNm : Bi → Str
  | .abs => "abs"
  | .all => "all"
  | .any => "any"
  | .int => "int"
  | .len => "len"
  | .list => "list"
  | .max1 => "max"
  | .max2 => "max"
  | .min1 => "min"
  | .min2 => "min"
  | .repr => "repr"
  | .str => "str"
  | .sum => "sum"
  | .sumL => "sum"
  | .tuple => "tuple"
  | .isinst _ => "isinstance"
/-- what may be called in an except suite -/
def biHot : Bi → Bool
  | .len => true
  | .abs => true
  | _ => false
def kdNm : Kd → Str
  | .non => "NoneType"
  | .bl => "bool"
  | .int => "int"
  | .str => "str"
  | .tup => "tuple"
  | .lst => "list"
  | .dct => "dict"
def kdOk : Kd → Bool
  | .non => false
  | _ => true
def bmNm : Bm → Str
  | .append => "append"
  | .join => "join"
  | .pop => "pop"
  | .extend => "extend"
  | .index => "index"
  | .split => "split"
def okM : Bm → Bool
  | .append => true
  | .extend => true
  | .join => true
  | _ => false
def Tg.slots : Tg → List Nat
  | .nm i => [i]
  | .tp is => is
def chkTn (Γ : Cs) : List Nat → List Expr → Bool
  | [], [] => true
  | i :: is, x :: xs => (match x with
    | .Name y _ => Γ.isTgt i y
    | _ => false) && chkTn Γ is xs
  | _, _ => false
def chkT (Γ : Cs) : Tg → Expr → Bool
  | .nm i, x => match x with
    | .Name y _ => Γ.isTgt i y
    | _ => false
  | .tp is, x => match x with
    | .Tuple xs _ _ => chkTn Γ is xs && (!Γ.hot)
    | _ => false
def ownOf (N : List Str) (vs : List Nat) : List (Str × Nat) := vs.filterMap fun i => (N[i]?).map fun y => (y, i)
def Cs.blk (Γ : Cs) (scope : Scope) : Cs := { Γ with sc := relS scope Γ.sc, og := some scope }
mutual
def chkE (Γ : Cs) : E → Expr → Bool
  | .non, x => match x with
    | .Constant .none _ _ => true
    | _ => false
  | .bl b, x => match x with
    | .Constant (.bool c) _ _ => decide (b = c)
    | _ => false
  | .int i, x => match x with
    | .Constant (.int j) _ _ => decide (i = j)
    | _ => false
  | .str s, x => match x with
    | .Constant (.str z) _ _ => decide (s = z)
    | _ => false
  | .var i, x => match x with
    | .Name y _ => Γ.isVar i y
    | _ => false
  | .glob g, x => match x with
    | .Name y _ => Γ.isGlob y && (match Γ.D.cns[g]? with
      | some p => decide (p.1 = y)
      | none => false)
    | _ => false
  | .fnv f, x => match x with
    | .Name y _ => Γ.isGlob y && (match Γ.D.fns[f]? with
      | some fn => decide (fn.nm = y) && fn.cls.isNone
      | none => false)
    | _ => false
  | .bin o a b, x => match x with
    | .BinOp l op r _ => okB o op && (chkE Γ a l && chkE Γ b r)
    | _ => false
  | .neg a, x => match x with
    | .UnaryOp .USub y _ => chkE Γ a y
    | _ => false
  | .nott a, x => match x with
    | .UnaryOp .Not y _ => chkE Γ a y
    | _ => false
  | .andv xs, x => match x with
    | .BoolOp .And ys _ => chkL Γ xs ys
    | _ => false
  | .orv xs, x => match x with
    | .BoolOp .Or ys _ => chkL Γ xs ys
    | _ => false
  | .cmp o a b, x => match x with
    | .Compare l [op] [r] _ => okC o op && (chkE Γ a l && chkE Γ b r)
    | _ => false
  | .cmp2 o o2 a b c, x => match x with
    | .Compare l [op, op2] [r, q] _ => (okC o op && okC o2 op2) && (chkE Γ a l && (chkE Γ b r && chkE Γ c q))
    | _ => false
  | .ite c a b, x => match x with
    | .IfExp t p q _ => chkE Γ c t && (chkE Γ a p && chkE Γ b q)
    | _ => false
  | .tup xs, x => match x with
    | .Tuple ys _ _ => chkL Γ xs ys
    | _ => false
  | .lstI xs, x => match x with
    | .List ys _ => chkL Γ xs ys
    | _ => false
  | .lstM xs, x => match x with
    | .List ys _ => chkL Γ xs ys
    | _ => false
  | .ix a i, x => match x with
    | .Subscript l r _ => chkE Γ a l && chkE Γ i r
    | _ => false
  | .sl a lo hi, x => match x with
    | .Subscript l (.Slice p q none _) _ => chkE Γ a l && ((match p with
      | none => lo.isAbs
      | some y => !lo.isAbs && chkE Γ lo y) && (match q with
      | none => hi.isAbs
      | some y => !hi.isAbs && chkE Γ hi y))
    | _ => false
  | .absent, _ => false
  | .call f xs, x => match x with
    | .Call (.Name y _) ys [] _ => (!Γ.hot && Γ.isGlob y) && ((match Γ.D.fns[f]? with
      | some fn => decide (fn.nm = y) && fn.cls.isNone
      | none => false) && chkL Γ xs ys)
    | _ => false
  | .callV i xs, x => match x with
    | .Call (.Name y _) ys [] _ => (!Γ.hot && Γ.isVar i y) && (!ys.isEmpty && chkL Γ xs ys)
    | _ => false
  | .meth f o xs, x => match x with
    | .Call (.Attribute ob m apos) ys [] pos => (!Γ.hot && (notSup ob && ((apos.endLine == pos.line) && decide (ys.length < 20)))) && ((match Γ.D.fns[f]? with
      | some fn => decide (fn.nm = m) && fn.cls.isSome
      | none => false) && (chkE Γ o ob && chkL Γ xs ys))
    | _ => false
  | .new c xs, x => match x with
    | .Call (.Name y _) ys [] _ => (!Γ.hot && Γ.isGlob y) && ((match Γ.D.cls[c]? with
      | some (.plain nm _ _) => decide (nm = y)
      | _ => false) && chkL Γ xs ys)
    | _ => false
  | .bi b xs, x => match x with
    | .Call (.Name y _) ys [] _ => ((biHot b || !Γ.hot) && (Γ.isGlob y && decide (y = biNm b))) && (match b with
      | .isinst k => (match xs, ys with
        | .cons a .nil, [p, .Name z _] => chkE Γ a p && (Γ.isGlob z && (decide (z = kdNm k) && kdOk k))
        | _, _ => false)
      | _ => !ys.isEmpty && chkL Γ xs ys)
    | _ => false
  | .bm m o xs, x => match x with
    | .Call (.Attribute ob y apos) ys [] pos => ((okM m && !Γ.hot) && (decide (y = bmNm m) && (notSup ob && ((apos.endLine == pos.line) && decide (ys.length < 20))))) && ((!ys.isEmpty) && (chkE Γ o ob && chkL Γ xs ys))
    | _ => false
  | .attr o f, x => match x with
    | .Attribute ob y _ => (decide (f = y) && notSup ob) && chkE Γ o ob
    | _ => false
  | .exf f, x => match x with
    | .Attribute (.Name y p) g _ => (Γ.hot && decide (f = g)) && (match Γ.xi with
      | some i => Γ.isVar i y && notSup (.Name y p)
      | none => false)
    | _ => false
  | .comp m t it c e vs, x => match x with
    | .ListComp elt [⟨tg, iter, ifs, 0⟩] scope _ => (!Γ.hot && (decide ((ownOf Γ.N vs).map (·.2) = vs) && (blkC Γ.N Γ.sc scope (ownOf Γ.N vs) && t.slots.all fun i => decide (i ∈ vs)))) &&
        (chkI Γ it tg iter && (chkT (Γ.blk scope) t tg && ((match ifs with
          | [] => c.isAbs
          | [y] => !c.isAbs && chkE (Γ.blk scope) c y
          | _ => false) && chkE (Γ.blk scope) e elt)))
    | _ => false
  | .dcomp t it c k e vs, x => match x with
    | .DictComp kx vx [⟨tg, iter, ifs, 0⟩] scope _ => (!Γ.hot && (decide ((ownOf Γ.N vs).map (·.2) = vs) && (blkC Γ.N Γ.sc scope (ownOf Γ.N vs) && t.slots.all fun i => decide (i ∈ vs)))) &&
        (chkI Γ it tg iter && (chkT (Γ.blk scope) t tg && ((match ifs with
          | [] => c.isAbs
          | [y] => !c.isAbs && chkE (Γ.blk scope) c y
          | _ => false) && (chkE (Γ.blk scope) k kx && chkE (Γ.blk scope) e vx))))
    | _ => false
  | .fstr xs, x => match x with
    | .JoinedStr ys _ => chkF Γ xs ys && !ys.isEmpty
    | _ => false
  | .frz e, x => chkE Γ e x
def chkL (Γ : Cs) : Es → List Expr → Bool
  | .nil, xs => xs.isEmpty
  | .cons a r, xs => match xs with
    | x :: ys => chkE Γ a x && chkL Γ r ys
    | [] => false
def chkF (Γ : Cs) : Es → List Expr → Bool
  | .nil, xs => xs.isEmpty
  | .cons a r, xs => match xs with
    | x :: ys => (match x with
      | .Constant (.str z) _ _ => (match a with
        | .str s => decide (s = z)
        | _ => false)
      | .FormattedValue y i none _ => decide (i = -1) && chkE Γ a y
      | _ => false) && chkF Γ r ys
    | [] => false
def chkI (Γ : Cs) : It → Expr → Expr → Bool
  | .seq e, _, x => chkE Γ e x
  | .rng e, _, x => match x with
    | .Call (.Name y _) [p] [] _ => (Γ.isGlob y && decide (y = ("range" : Str))) && chkE Γ e p
    | _ => false
  | .rng2 a b, _, x => match x with
    | .Call (.Name y _) [p, q] [] _ => (Γ.isGlob y && decide (y = ("range" : Str))) && (chkE Γ a p && chkE Γ b q)
    | _ => false
  | .enum e, tg, x => match x with
    | .Call (.Name y _) [p] [] _ => (match tg with
      | .Tuple _ _ _ => true
      | _ => false) && ((Γ.isGlob y && decide (y = ("enumerate" : Str))) && chkE Γ e p)
    | _ => false
  | .zip _ _, _, _ => false
end

/-! ### shapes of the text -/
/-- no star, no set, no slice, no comprehension of sets or dicts: what chkE takes -/
def plainX : Expr → Bool
  | .Starred _ _ => false
  | .Set _ _ _ => false
  | .Slice _ _ _ _ => false
  | .SetComp _ _ _ _ => false
  | _ => true
theorem chkE_plain {Γ : Cs} : ∀ {e : E} {x : Expr}, chkE Γ e x = true → plainX x = true := by
  intro e
  induction e using E.rec (motive_2 := fun _ => True) (motive_3 := fun _ => True) (motive_4 := fun _ => True) with
  | frz e ih => intro x h; simp only [chkE] at h; exact ih h
  | _ =>
    first
    | trivial
    | (intro x h; cases x <;> first | rfl | (simp [chkE] at h))
theorem star_cons {x : Expr} {xs : List Expr} {env : Env} (h : plainX x = true) : starEach (x :: xs) env = (false, eval x env) :: starEach xs env := by
  cases x <;> first | rfl | cases h
theorem star_all {env : Env} : ∀ {xs : List Expr}, xs.all plainX = true → starEach xs env = xs.map fun x => (false, eval x env)
  | [], _ => rfl
  | x :: xs, h => by
    simp only [List.all_cons, Bool.and_eq_true] at h
    rw [star_cons h.1, star_all h.2]
    rfl
theorem back_any {env : Env} {pos : Pos} {xs : List Expr} (h : xs.all plainX = true) : (backTo pos (starEach xs env)).any (·.1) = false := by
  rw [star_all h]
  unfold backTo
  simp [List.any_eq_false]
theorem back_all {env : Env} {pos : Pos} {xs : List Expr} (h : xs.all plainX = true) : (backTo pos (starEach xs env)).all (fun x => !x.1) = true := by
  rw [star_all h]
  unfold backTo
  simp
theorem chkL_plain {Γ : Cs} : ∀ {xs : Es} {ys : List Expr}, chkL Γ xs ys = true → ys.all plainX = true
  | .nil, ys, h => by
    simp only [chkL] at h
    cases ys with
    | nil => rfl
    | cons _ _ => cases h
  | .cons a r, ys, h => by
    simp only [chkL] at h
    cases ys with
    | nil => cases h
    | cons x ys =>
      simp only [Bool.and_eq_true] at h
      simp only [List.all_cons, Bool.and_eq_true]
      exact ⟨chkE_plain h.1, chkL_plain h.2⟩
theorem base_of {x : Expr} {f : Str} {env : Env} (h : notSup x = true) : attributeBase x f env (eval x env) = eval x env := by
  unfold attributeBase
  split
  · cases h
  · rfl
theorem marks_of {x : Expr} (op : CmpOp) (h : plainX x = true) : behindInMarks op x = false := by
  cases x <;> first | rfl | cases h
theorem plainIx_of {x : Expr} (h : plainX x = true) : PlainIx x := fun o i => by
  cases x <;> first | rfl | cases h
theorem folded_of {x : Expr} {env : Env} (h : plainX x = true) (v : Value) : foldedSetIterable x env v = pure v := by
  cases x <;> first | rfl | cases h
end Fs
end

section
set_option Elab.async false
set_option linter.all false
set_option maxRecDepth 100000
/-! Fs3: readings by what our terms do; operations on values. -/
namespace Fs
open PySem L2

/-! ### readings -/
section
variable (G : Gx) (xa : Option Xa) (W : WX)
def tV (f : En → Hs → R T) : TE := fun σ H Q => ∃ ρ env hs, EnR G xa ρ H env σ ∧ HR G ρ hs H ∧ Post G (Rv G) ρ H (fun c d H' => W c d σ H') (f env hs) Q
def RBo : Rho → Hp → Bool → Bool → Prop := fun _ _ a b => a = b
def tK (f : En → Hs → R Bool) : TT := fun σ H Q => ∃ ρ env hs, EnR G xa ρ H env σ ∧ HR G ρ hs H ∧ Post G RBo ρ H (fun c d H' => W c d σ H') (f env hs) Q
def tL (f : En → Hs → R (List T)) : TA := fun σ H Q => ∃ ρ env hs, EnR G xa ρ H env σ ∧ HR G ρ hs H ∧ Post G (RvL G) ρ H (fun c d H' => W c d σ H') (f env hs) Q
end
section
variable {X : Cx} {x : Expr} {xs : List Expr}
theorem pe_imp {t t' : TE} (h : PE X x t) (i : ∀ σ H Q, t' σ H Q → t σ H Q) : PE X x t' := ⟨fun pins s σ H Q I q => h.run pins s σ H Q I (i σ H Q q)⟩
theorem pt_imp {t t' : TT} (h : PT X x t) (i : ∀ σ H Q, t' σ H Q → t σ H Q) : PT X x t' := ⟨fun pins s σ H Q I q => h.run pins s σ H Q I (i σ H Q q)⟩
theorem pw_imp {t t' : TT} (h : PW X x t) (i : ∀ σ H Q, t' σ H Q → t σ H Q) : PW X x t' := ⟨fun w pins s σ H Q I q => h.run w pins s σ H Q I (i σ H Q q)⟩
theorem pa_imp {t t' : TA} (h : PA X xs t) (i : ∀ σ H Q, t' σ H Q → t σ H Q) : PA X xs t' := ⟨fun pos pins s σ H Q I q => h.run pos pins s σ H Q I (i σ H Q q)⟩
theorem ps_imp {st : Stmt} {t t' : TS} (h : PS X st t) (i : ∀ D σ H, t' D σ H → t D σ H) : PS X st t' := ⟨fun pins s σ H D I q => h.run pins s σ H D I (i D σ H q)⟩
end
section
variable {G : Gx} {xa : Option Xa} {W : WX} {ρ ρ' : Rho} {H H' : Hp} {hs : Hs} {env : En} {σ : St}
/-- what a value is, behind other things -/
theorem tV_of {f : En → Hs → R T} {Q : VK} (er : EnR G xa ρ H env σ) (hr : HR G ρ hs H) (h : Post G (Rv G) ρ H (fun c d H' => W c d σ H') (f env hs) Q) : tV G xa W f σ H Q := ⟨ρ, env, hs, er, hr, h⟩
/-- one thing, then another -/
theorem tV_bind {α δ : Type} {RB : Rho → Hp → α → δ → Prop} {f : En → Hs → R T} {k : T → Hs → R α} {Q : δ → Hp → Prop} {R : VK} (er : EnR G xa ρ H env σ) (hr : HR G ρ hs H)
    (h : Post G RB ρ H (fun c d H' => W c d σ H') ((f env hs).bind k) Q)
    (g : ∀ ρ' hs' H' t v, EnR G xa ρ' H' env σ → HR G ρ' hs' H' → Rv G ρ' H' t v → Stp ρ H ρ' H' → Post G RB ρ' H' (fun c d H2 => W c d σ H2) (k t hs') Q → R v H') : tV G xa W f σ H R :=
  tV_of er hr (Post.mono (fun v H' ⟨ρ', hs', t, st, hr', rv, p⟩ => g ρ' hs' H' t v (er.step hr.Live st) hr' rv st p) (Post.bind (RA := Rv G) h))
theorem tK_bind {α δ : Type} {RB : Rho → Hp → α → δ → Prop} {f : En → Hs → R Bool} {k : Bool → Hs → R α} {Q : δ → Hp → Prop} {R : Bool → Hp → Prop} (er : EnR G xa ρ H env σ) (hr : HR G ρ hs H)
    (h : Post G RB ρ H (fun c d H' => W c d σ H') ((f env hs).bind k) Q)
    (g : ∀ ρ' hs' H' b, EnR G xa ρ' H' env σ → HR G ρ' hs' H' → Stp ρ H ρ' H' → Post G RB ρ' H' (fun c d H2 => W c d σ H2) (k b hs') Q → R b H') : tK G xa W f σ H R :=
  ⟨ρ, env, hs, er, hr, Post.mono (fun v H' ⟨ρ', hs', t, st, hr', rv, p⟩ => by
    have e : t = v := rv
    subst e
    exact g ρ' hs' H' t (er.step hr.Live st) hr' st p) (Post.bind (RA := RBo) h)⟩
theorem tL_bind {α δ : Type} {RB : Rho → Hp → α → δ → Prop} {f : En → Hs → R (List T)} {k : List T → Hs → R α} {Q : δ → Hp → Prop} {R : List V → Hp → Prop} (er : EnR G xa ρ H env σ) (hr : HR G ρ hs H)
    (h : Post G RB ρ H (fun c d H' => W c d σ H') ((f env hs).bind k) Q)
    (g : ∀ ρ' hs' H' t v, EnR G xa ρ' H' env σ → HR G ρ' hs' H' → RvL G ρ' H' t v → Stp ρ H ρ' H' → Post G RB ρ' H' (fun c d H2 => W c d σ H2) (k t hs') Q → R v H') : tL G xa W f σ H R :=
  ⟨ρ, env, hs, er, hr, Post.mono (fun v H' ⟨ρ', hs', t, st, hr', rv, p⟩ => g ρ' hs' H' t v (er.step hr.Live st) hr' rv st p) (Post.bind (RA := RvL G) h)⟩
/-- an end without an exception, at the heap as it is -/
theorem Post.here {α β : Type} {RA : Rho → Hp → α → β → Prop} {XW : XW} {a : α} {b : β} {Q : β → Hp → Prop} (hr : HR G ρ hs H) (h : Post G RA ρ H XW (.ok a hs) Q) (r : RA ρ H a b) : Q b H := h ρ H b .refl hr r
/-- .. at a grown heap -/
theorem Post.grown {α β : Type} {RA : Rho → Hp → α → β → Prop} {XW : XW} {a : α} {b : β} {Q : β → Hp → Prop} (hr : HR G ρ hs H) (h : Post G RA ρ H XW (.ok a hs) Q) (e : Ext H H') (r : RA ρ H' a b) : Q b H' := h ρ H' b (.ext e) (hr.ext e) r
theorem new_out {p : Addr} (hr : HR G ρ hs H) (h : H p = none) : some p ∉ ρ.l ∧ p ∉ ρ.rs := ⟨fun z => by
  obtain ⟨o, e, _⟩ := hr.Live p z
  rw [h] at e
  (cases e), fun z => by
  obtain ⟨_, xs, e, _⟩ := hr.rsv p z
  rw [h] at e
  cases e⟩
theorem rv_newT {p : Addr} {ts : List T} {xs : List V} (hr : HR G ρ hs H) (h : H p = none) (r : RvL G ρ H ts xs) : Rv G ρ (upd H p (.tup xs)) (.tup ts) (.ref p) := by
  simp only [Rv]
  exact ⟨p, xs, rfl, .inl (.inl upd_same), RvL.step hr.Live (.ext (ext_upd h)) _ _ r⟩
theorem rv_newL {p : Addr} {ts : List T} {xs : List V} (hr : HR G ρ hs H) (h : H p = none) (r : RvL G ρ H ts xs) : Rv G ρ (upd H p (.lst xs)) (.lst ts) (.ref p) := by
  simp only [Rv]
  exact ⟨p, xs, rfl, upd_same, RvL.step hr.Live (.ext (ext_upd h)) _ _ r, new_out hr h⟩
end

/-! ### truth, data -/
section
variable {G : Gx} {ρ : Rho} {H : Hp} {hs : Hs}
theorem empty_of {ts : List T} {xs : List V} (r : RvL G ρ H ts xs) : (!ts.isEmpty) = !xs.isEmpty := by
  cases ts with
  | nil => simp only [RvL] at r; subst r; rfl
  | cons t r' => simp only [RvL] at r; obtain ⟨v, ws, rfl, _⟩ := r; rfl
theorem lim_line {n : Nat} (h : n ≤ 1000000) : n ≤ sizeLine := Nat.le_trans h (by rw [sizeLine_eq]; decide)
theorem truV_of {t : T} {v : V} {k : Bool} (hr : HR G ρ hs H) (r : Rv G ρ H t v) (h : truT hs t = some k) : TruV G.K v H k := by
  cases t with
  | non => simp only [truT] at h; cases h; simp only [Rv] at r; subst r; rfl
  | bl b => simp only [truT] at h; cases h; simp only [Rv] at r; subst r; rfl
  | int i => simp only [truT] at h; cases h; simp only [Rv] at r; subst r; rfl
  | str s =>
    simp only [truT] at h
    split at h
    · rename_i hl
      cases h
      simp only [Rv] at r
      subst r
      refine ⟨lim_line hl, ?_⟩
      cases e : s.length with
      | zero => simp
      | succ n =>
        have : ((n + 1 : Nat) : Int) ≠ 0 := by omega
        simp
        omega
    · cases h
  | tup ts =>
    simp only [truT] at h; cases h; simp only [Rv] at r
    obtain ⟨a, xs, rfl, q, z⟩ := r
    exact .inr (.inl ⟨xs, q, empty_of z⟩)
  | lst ts =>
    simp only [truT] at h; cases h; simp only [Rv] at r
    obtain ⟨a, xs, rfl, q, z, _⟩ := r
    exact .inl ⟨xs, SqL.of q, empty_of z⟩
  | ref n =>
    simp only [truT] at h
    split at h
    · rename_i ts e
      cases h
      obtain ⟨a, rfl, _, xs, q, z⟩ := hr.at_ e (by simp) r
      exact .inl ⟨xs, SqL.of q, empty_of z⟩
    · cases h
  | scr ns => simp [truT] at h
  | fn f => simp [truT] at h
  | dct ks ts => simp [truT] at h
mutual
theorem toD_dp : ∀ (t : T) (v : V) (d : PyData), Rv G ρ H t v → toD t = some d → Dp G.K H v d
  | .non, v, d, r, h => by simp only [toD] at h; cases h; simp only [Rv] at r; subst r; exact .non
  | .bl b, v, d, r, h => by simp only [toD] at h; cases h; simp only [Rv] at r; subst r; exact .bl _
  | .int i, v, d, r, h => by simp only [toD] at h; cases h; simp only [Rv] at r; subst r; exact .int _
  | .str s, v, d, r, h => by simp only [toD] at h; cases h; simp only [Rv] at r; subst r; exact .str _
  | .tup ts, v, d, r, h => by
    simp only [toD, Option.map_eq_some_iff] at h
    obtain ⟨ds, e, rfl⟩ := h
    simp only [Rv] at r
    obtain ⟨a, xs, rfl, q, z⟩ := r
    exact .tup q (toDs_dp ts xs ds z e)
  | .lst ts, v, d, r, h => by
    simp only [toD, Option.map_eq_some_iff] at h
    obtain ⟨ds, e, rfl⟩ := h
    simp only [Rv] at r
    obtain ⟨a, xs, rfl, q, z, _⟩ := r
    exact .lst (SqL.of q) (toDs_dp ts xs ds z e)
  | .scr _, _, _, _, h => by simp [toD] at h
  | .ref _, _, _, _, h => by simp [toD] at h
  | .fn _, _, _, _, h => by simp [toD] at h
theorem toDs_dp : ∀ (ts : List T) (vs : List V) (ds : List PyData), RvL G ρ H ts vs → toDs ts = some ds → DpAll G.K H vs ds
  | [], vs, ds, r, h => by simp only [toDs] at h; cases h; simp only [RvL] at r; subst r; exact .nil
  | t :: ts, vs, ds, r, h => by
    simp only [toDs, Option.bind_eq_some_iff, Option.map_eq_some_iff] at h
    obtain ⟨d, e1, es, e2, rfl⟩ := h
    simp only [RvL] at r
    obtain ⟨v, ws, rfl, q, z⟩ := r
    exact .cons (toD_dp t v d q e1) (toDs_dp ts ws es z e2)
end
theorem toDh_dp {t : T} {v : V} {d : PyData} (hr : HR G ρ hs H) (r : Rv G ρ H t v) (h : toDh hs t = some d) : Dp G.K H v d := by
  cases t with
  | ref n =>
    simp only [toDh] at h
    split at h
    · rename_i ts e
      simp only [Option.map_eq_some_iff] at h
      obtain ⟨ds, e2, rfl⟩ := h
      obtain ⟨a, rfl, _, xs, q, z⟩ := hr.at_ e (by simp) r
      exact .lst (SqL.of q) (toDs_dp ts xs ds z e2)
    · cases h
  | _ => exact toD_dp _ _ _ r h
end

/-! ### operations -/
/-- an operation on two values that gives a value or nothing, and changes nothing that stands -/
def rG2 (G : Gx) (g : Hs → T → T → Option T) : R2 := fun x y H Q => ∃ ρ hs t u z, HR G ρ hs H ∧ Rv G ρ H t x ∧ Rv G ρ H u y ∧ g hs t u = some z ∧ ∀ ρ' H' v, Stp ρ H ρ' H' → HR G ρ' hs H' → Rv G ρ' H' z v → Q v H'
def rG1 (G : Gx) (g : Hs → T → Option T) : V → Hp → VK → Prop := fun x H Q => ∃ ρ hs t z, HR G ρ hs H ∧ Rv G ρ H t x ∧ g hs t = some z ∧ ∀ ρ' H' v, Stp ρ H ρ' H' → HR G ρ' hs H' → Rv G ρ' H' z v → Q v H'
def rGL (G : Gx) (g : Hs → List T → Option T) : List V → Hp → VK → Prop := fun xs H Q => ∃ ρ hs ts z, HR G ρ hs H ∧ RvL G ρ H ts xs ∧ g hs ts = some z ∧ ∀ ρ' H' v, Stp ρ H ρ' H' → HR G ρ' hs H' → Rv G ρ' H' z v → Q v H'
section
variable {G : Gx} {xa : Option Xa} {X : Cx} {W : WX}
theorem tOp_of {g : Hs → T → T → Option T} {fa fb : En → Hs → R T} {σ : St} {H : Hp} {Q : VK} (h : tV G xa W (fun env h => (fa env h).bind fun x h1 => (fb env h1).bind fun y h2 => R.ofO (g h2 x y) h2) σ H Q) :
    tOp (rG2 G g) (tV G xa W fa) (tV G xa W fb) σ H Q := by
  obtain ⟨ρ, env, hs, er, hr, p⟩ := h
  refine tV_bind er hr p fun ρ1 hs1 H1 t x er1 hr1 rx _ p1 => ?_
  refine tV_bind er1 hr1 p1 fun ρ2 hs2 H2 u y er2 hr2 ry st p2 => ?_
  obtain ⟨z, e, k⟩ := Post.ofO p2
  exact ⟨ρ2, hs2, t, u, z, hr2, Rv.step hr1.Live st _ _ rx, ry, e, k⟩
theorem tUn_of {g : Hs → T → Option T} {fa : En → Hs → R T} {σ : St} {H : Hp} {Q : VK} (h : tV G xa W (fun env h => (fa env h).bind fun x h1 => R.ofO (g h1 x) h1) σ H Q) : tUn (rG1 G g) (tV G xa W fa) σ H Q := by
  obtain ⟨ρ, env, hs, er, hr, p⟩ := h
  refine tV_bind er hr p fun ρ1 hs1 H1 t x er1 hr1 rx _ p1 => ?_
  obtain ⟨z, e, k⟩ := Post.ofO p1
  exact ⟨ρ1, hs1, t, z, hr1, rx, e, k⟩
theorem tCB_of {g : Hs → List T → Option T} {fa : En → Hs → R (List T)} {σ : St} {H : Hp} {Q : VK} (h : tV G xa W (fun env h => (fa env h).bind fun x h1 => R.ofO (g h1 x) h1) σ H Q) : tCB (rGL G g) (tL G xa W fa) σ H Q := by
  obtain ⟨ρ, env, hs, er, hr, p⟩ := h
  refine tL_bind er hr p fun ρ1 hs1 H1 t x er1 hr1 rx _ p1 => ?_
  obtain ⟨z, e, k⟩ := Post.ofO p1
  exact ⟨ρ1, hs1, t, z, hr1, rx, e, k⟩
/-- a test that gives its answer as a value -/
theorem tK_val {f : En → Hs → R Bool} {σ : St} {H : Hp} {Q : Bool → Hp → Prop} (h : tK G xa W f σ H Q) : tV G xa W (fun env h => (f env h).bind fun b h1 => .ok (.bl b) h1) σ H (fun x H' => ∃ k, x = .bl k ∧ Q k H') := by
  obtain ⟨ρ, env, hs, er, hr, p⟩ := h
  refine ⟨ρ, env, hs, er, hr, ?_⟩
  show Post G (Rv G) ρ H (fun c d H' => W c d σ H') ((f env hs).bind fun b h1 => .ok (.bl b) h1) _
  cases e : f env hs with
  | ok b h1 =>
    rw [e] at p
    intro ρ' H' v st hr' rv
    have rv' : v = .bl b := by simpa only [Rv] using rv
    exact ⟨b, rv', p ρ' H' b st hr' rfl⟩
  | exc c xs h1 => rw [e] at p; exact p
  | bad => rw [e] at p; exact p

/-! ### + - * // % ** -/
theorem int_of {ρ : Rho} {H : Hp} {i : Int} {v : V} (r : Rv G ρ H (.int i) v) : v = .int i := by simpa only [Rv] using r
theorem str_of {ρ : Rho} {H : Hp} {i : Str} {v : V} (r : Rv G ρ H (.str i) v) : v = .str i := by simpa only [Rv] using r
theorem rv_int {ρ : Rho} {H : Hp} {i : Int} : Rv G ρ H (.int i) (.int i) := by simp only [Rv]
theorem rv_str {ρ : Rho} {H : Hp} {i : Str} : Rv G ρ H (.str i) (.str i) := by simp only [Rv]
theorem rv_bl {ρ : Rho} {H : Hp} {i : Bool} : Rv G ρ H (.bl i) (.bl i) := by simp only [Rv]
theorem rv_non {ρ : Rho} {H : Hp} : Rv G ρ H .non .non := by simp only [Rv]
theorem opr_bin (eK : X.K = G.K) {o : Bk} {op : Operator} (h : okB o op = true) : OpR X (binaryOp op) (rG2 G fun _ x y => binT o x y) := by
  intro pins s σ H x y v u Q I rx ry hh
  obtain ⟨ρ, hs, t, w, z, hr, r1, r2, e, k⟩ := hh
  cases o <;> cases op <;> first | (cases h; done) | skip
  · -- add
    cases t <;> cases w <;> simp only [binT, addT] at e <;> first | (cases e; done) | skip
    · cases e
      cases int_of r1; cases int_of r2
      exact op_add pins s σ H _ _ v u Q I rx ry ⟨_, _, rfl, rfl, k ρ H _ .refl hr rv_int⟩
    · split at e
      · rename_i hl
        cases e
        cases str_of r1; cases str_of r2
        exact op_add_str pins s σ H _ _ v u Q I rx ry ⟨_, _, rfl, rfl, lim_line hl, k ρ H _ .refl hr rv_str⟩
      · cases e
    · split at e
      · rename_i hl
        cases e
        simp only [Rv] at r1 r2
        obtain ⟨a, xs, rfl, qa, ra⟩ := r1
        obtain ⟨b, ys, rfl, qb, rb⟩ := r2
        rw [← eK] at qa qb
        refine op_catA pins s σ H _ _ v u Q I rx ry ⟨a, b, xs, ys, rfl, rfl, qa, qb, ?_, ?_, ?_, ?_⟩
        · rw [ra.len, rb.len]; exact lim_line hl
        · intro z
          have e1 := ra.nil_iff.mp z
          subst e1
          refine k ρ H _ .refl hr ?_
          simp only [Rv]
          rw [eK] at qb
          exact ⟨b, ys, rfl, qb, rb⟩
        · intro _ z
          have e1 := rb.nil_iff.mp z
          subst e1
          refine k ρ H _ .refl hr ?_
          rw [List.append_nil]
          simp only [Rv]
          rw [eK] at qa
          exact ⟨a, xs, rfl, qa, ra⟩
        · intro _ _ p hp
          exact k ρ _ _ (.ext (ext_upd hp)) (hr.ext (ext_upd hp)) (rv_newT hr hp (ra.app rb))
      · cases e
    · split at e
      · rename_i hl
        cases e
        simp only [Rv] at r1 r2
        obtain ⟨a, xs, rfl, qa, ra, na⟩ := r1
        obtain ⟨b, ys, rfl, qb, rb, nb⟩ := r2
        refine op_cat pins s σ H _ _ v u Q I rx ry ⟨a, b, xs, ys, rfl, rfl, qa, qb, ?_, ?_⟩
        · rw [ra.len, rb.len]; exact lim_line hl
        · intro p hp
          exact k ρ _ _ (.ext (ext_upd hp)) (hr.ext (ext_upd hp)) (rv_newL hr hp (ra.app rb))
      · cases e
  · cases t <;> cases w <;> simp only [binT] at e <;> first | (cases e; done) | skip
    cases e
    cases int_of r1; cases int_of r2
    exact op_sub pins s σ H _ _ v u Q I rx ry ⟨_, _, rfl, rfl, k ρ H _ .refl hr rv_int⟩
  · cases t <;> cases w <;> simp only [binT] at e <;> first | (cases e; done) | skip
    split at e
    · rename_i hl
      cases e
      cases int_of r1; cases int_of r2
      refine op_mul pins s σ H _ _ v u Q I rx ry ⟨_, _, rfl, rfl, ?_, k ρ H _ .refl hr rv_int⟩
      simp only [mulOk, Bool.or_eq_true, Bool.and_eq_true, decide_eq_true_eq] at hl
      exact hl
    · cases e
    · split at e
      · rename_i x n hl
        cases e
        cases str_of r1; cases int_of r2
        simp only [Bool.and_eq_true, decide_eq_true_eq] at hl
        obtain ⟨l1, l2, l3⟩ := hl
        obtain ⟨t1, rfl⟩ := rx
        obtain ⟨t2, rfl⟩ := ry
        have fin := k ρ H _ .refl hr (rv_str (i := Txt.mul x n))
        refine PySem.SB.mul ⟨?_, fun h1 _ => ?_, fun h1 _ => ?_⟩ fun t' kk => ⟨.str _, H, I.tok _, ⟨_, rfl⟩, fin⟩
        · rw [decide_eq_false (by omega), decide_eq_false (by omega)]
          rfl
        · have e1 : (2 ^ 63 - 1 : Int) / n ≥ 1000000 := by
            have : (2 ^ 63 - 1 : Int) / n ≥ (2 ^ 63 - 1 : Int) / 1000 := by
              apply Int.le_ediv_of_mul_le (by omega)
              have h3 : (2 ^ 63 - 1 : Int) / 1000 * n ≤ (2 ^ 63 - 1 : Int) / 1000 * 1000 := Int.mul_le_mul_of_nonneg_left (by omega) (by decide)
              exact Int.le_trans h3 (by decide)
            have h4 : (2 ^ 63 - 1 : Int) / 1000 ≥ 1000000 := by decide
            omega
          omega
        · have e1 : x.length * n.toNat ≤ 1000 * 1000 := Nat.mul_le_mul l3 (by omega)
          have e2 : ¬ x.length * n.toNat > 2 ^ 24 := by omega
          simpa [Builtin.Str.tooLong, sizeLine] using e2
      · cases e
    · split at e
      · rename_i hl
        cases e
        simp only [Rv] at r1
        obtain ⟨a, xs, rfl, qa, ra⟩ := r1
        cases int_of r2
        simp only [Bool.and_eq_true, decide_eq_true_eq, Bool.not_eq_true', List.isEmpty_eq_false_iff] at hl
        obtain ⟨⟨l1, l2⟩, l3, l4⟩ := hl
        rw [← eK] at qa
        refine op_repT pins s σ H _ _ v u Q I rx ry ⟨a, _, xs, rfl, rfl, qa, fun z => l4 (ra.nil_iff.mp z), l1, l2, by rw [ra.len]; exact l3, fun p hp => ?_⟩
        exact k ρ _ _ (.ext (ext_upd hp)) (hr.ext (ext_upd hp)) (rv_newT hr hp (ra.rep _))
      · cases e
  · cases t <;> cases w <;> simp only [binT] at e <;> first | (cases e; done) | skip
    split at e
    · rename_i hl
      cases e
      cases int_of r1; cases int_of r2
      simp only [Bool.and_eq_true, decide_eq_true_eq] at hl
      exact op_fdiv pins s σ H _ _ v u Q I rx ry ⟨_, _, rfl, rfl, hl, k ρ H _ .refl hr rv_int⟩
    · cases e
  · cases t <;> cases w <;> simp only [binT] at e <;> first | (cases e; done) | skip
    split at e
    · rename_i hl
      cases e
      cases int_of r1; cases int_of r2
      simp only [decide_eq_true_eq] at hl
      exact op_mod pins s σ H _ _ v u Q I rx ry ⟨_, _, rfl, rfl, hl, k ρ H _ .refl hr rv_int⟩
    · cases e
  · cases t <;> cases w <;> simp only [binT] at e <;> first | (cases e; done) | skip
    split at e
    · rename_i hl
      cases e
      cases int_of r1; cases int_of r2
      simp only [Bool.and_eq_true, decide_eq_true_eq] at hl
      exact op_pow pins s σ H _ _ v u Q I rx ry ⟨_, _, rfl, rfl, hl, k ρ H _ .refl hr rv_int⟩
    · cases e
theorem un_negT : UnR X (unaryOp .USub) (rG1 G fun _ x => (intT x).map fun i => .int (-i)) := by
  intro pins s σ H x v Q I rx hh
  obtain ⟨ρ, hs, t, z, hr, r1, e, k⟩ := hh
  cases t <;> simp [intT] at e
  cases e
  cases int_of r1
  exact un_neg pins s σ H _ v Q I rx ⟨_, rfl, k ρ H _ .refl hr rv_int⟩

/-! ### comparisons -/
theorem in_seq {ρ : Rho} {H : Hp} {ts : List T} {xs : List V} {t : T} {x : V} (r : RvL G ρ H ts xs) (q : Rv G ρ H t x) (h : (flatT t && ts.all flatT) = true) : flatV x = true ∧ xs.all flatV = true ∧ inV x xs = ts.any fun y => eqF y t := by
  simp only [Bool.and_eq_true] at h
  exact ⟨flat_one q h.1, r.flat h.2, r.eqF q h.1 h.2⟩
theorem none_dec {ρ : Rho} {H : Hp} {hs : Hs} {t : T} {v : V} {b : Bool} (r : Rv G ρ H t v) (h : isT hs t .non = some b) (hr : HR G ρ hs H) : decide (v = V.non) = b := by
  cases t
  case ref k =>
    simp only [isT] at h
    split at h
    · rename_i hl
      cases h
      unfold isLive at hl
      split at hl
      · cases hl
      · rename_i o hn e
        obtain ⟨a, rfl, _⟩ := hr.at_ e (fun z => hn z) r
        simp
      · cases hl
    · cases h
  all_goals (simp only [isT] at h)
  all_goals first | (cases h; done) | skip
  all_goals cases h
  all_goals first
    | (simp only [Rv] at r; subst r; rfl)
    | (simp only [Rv] at r; obtain ⟨a, xs, rfl, _⟩ := r; simp; done)
    | (simp only [Rv] at r; obtain ⟨a, rfl, _⟩ := r; simp; done)
end
end Fs
end

section
set_option Elab.async false
set_option linter.all false
set_option maxRecDepth 100000
/-! Fs4: comparisons, subscripts, slices, built-in functions and methods by trees. -/
namespace Fs
open PySem L2

section
variable {G : Gx} {X : Cx}
theorem opt_map {α β : Type} {o : Option α} {f : α → β} {b : β} (h : o.map f = some b) : ∃ a, o = some a ∧ f a = b := Option.map_eq_some_iff.mp h
theorem opt_bind {α β : Type} {o : Option α} {f : α → Option β} {b : β} (h : o.bind f = some b) : ∃ a, o = some a ∧ f a = some b := Option.bind_eq_some_iff.mp h
def rGtT (K : PySem.W.Frag) : R2 := fun x y H Q => ∃ (a b : Addr) (ns ms : List Int), x = .ref a ∧ y = .ref b ∧ SqT K H a (ns.map V.int) ∧ SqT K H b (ms.map V.int) ∧ Q (.bl (gtL ns ms)) H
theorem op_gtT {X : Cx} (hu : X.A.units < cLine) : OpR X (compareOp .Gt) (rGtT X.K) := by
  intro pins s σ H x y v u Q I rx ry h
  obtain ⟨a, b, ns, ms, rfl, rfl, ha, hb, q⟩ := h
  cases rx
  cases ry
  obtain ⟨its, r1, p1, _⟩ := I.tuple ha
  obtain ⟨its2, r2, p2, _⟩ := I.tuple hb
  have i1 : PyProof.Rows.IntsAre its ns := Vals.ints r1
  have i2 : PyProof.Rows.IntsAre its2 ms := Vals.ints r2
  have e1 : its.toArray.size = ns.length := by rw [List.size_toArray]; exact i1.length
  have e2 : its2.toArray.size = ms.length := by rw [List.size_toArray]; exact i2.length
  have at1 : ∀ j (h1 : j < its.toArray.size), ∃ t, its.toArray[j] = .int (ns.getD j 0) t := fun j h1 => PyProof.Rows.IntsAre.int_at i1 _ _ (by simp at h1; simp [h1])
  have at2 : ∀ j (h1 : j < its2.toArray.size), ∃ t, its2.toArray[j] = .int (ms.getD j 0) t := fun j h1 => PyProof.Rows.IntsAre.int_at i2 _ _ (by simp at h1; simp [h1])
  have R := Ob.RcOp.tuples_gt (A := X.A) (s := s) (e := fun j => decide (ns.getD j 0 = ms.getD j 0)) (r := fun j => decide (ms.getD j 0 < ns.getD j 0)) p1 p2 hu (fun j h1 h2 => by
    obtain ⟨t, et⟩ := at1 j h1
    obtain ⟨t', et'⟩ := at2 j h2
    rw [et, et']
    have z : (ns.getD j 0 == ms.getD j 0) = decide (ns.getD j 0 = ms.getD j 0) := by
      by_cases q : ns.getD j 0 = ms.getD j 0
      · rw [decide_eq_true q]; exact beq_iff_eq.mpr q
      · rw [decide_eq_false q]; exact beq_eq_false_iff_ne.mpr q
    rw [← z]
    exact SeqAt.EqAt.int_int _ _ _ _) (fun j h1 h2 _ => by
    obtain ⟨t, et⟩ := at1 j h1
    obtain ⟨t', et'⟩ := at2 j h2
    rw [et, et']
    exact Ob.RcOp.gt_int _ _ _ _)
  rw [e1, e2] at R
  have z : wpAny (model X.prog X.w) X.A (compareOp .Gt (.ref a) (.ref b)) (EP X pins σ Q) X.xe s := R X.prog X.w X.xe (EP X pins σ Q) ⟨.bl _, H, I, rfl, q⟩
  exact z
theorem opr_cmp (eK : X.K = G.K) (hu : X.A.units + 65 < cLine) {o : Ck} {op : CmpOp} (h : okC o op = true) : OpR X (compareOp op) (rG2 G fun hs x y => (cmpT o hs x y).map T.bl) := by
  intro pins s σ H x y v u Q I rx ry hh
  obtain ⟨ρ, hs, t, w, z, hr, r1, r2, e, k⟩ := hh
  obtain ⟨b, e1, rfl⟩ := opt_map e
  clear e
  have fin : Q (.bl b) H := k ρ H _ .refl hr rv_bl
  have eqs : ∀ {c : Bool}, eqT hs t w = some c → ∃ d d2, Dp X.K H x d ∧ Dp X.K H y d2 ∧ SeqAt.shaped d = true ∧ SeqAt.shaped d2 = true ∧ PyData.eqv d d2 = c := fun {c} e => by
    unfold eqT at e
    obtain ⟨d, e1, e⟩ := opt_bind e
    obtain ⟨d2, e2, e⟩ := opt_bind e
    split at e
    · rename_i sh
      rw [Bool.and_eq_true] at sh
      cases e
      exact ⟨d, d2, by rw [eK]; exact toDh_dp hr r1 e1, by rw [eK]; exact toDh_dp hr r2 e2, sh.1, sh.2, rfl⟩
    · cases e
  have iss : ∀ {c : Bool}, isT hs t w = some c → (y = .non ∧ decide (x = .non) = c) ∨ ∃ a a2 : Bool, x = .bl a ∧ y = .bl a2 ∧ decide (a = a2) = c := fun {c} e => by
    cases w
    case non =>
      refine .inl ⟨by simpa only [Rv] using r2, none_dec r1 e hr⟩
    case bl a2 =>
      cases t <;> simp only [isT] at e <;> first | (cases e; done) | skip
      rename_i a
      cases e
      exact .inr ⟨a, a2, by simpa only [Rv] using r1, by simpa only [Rv] using r2, rfl⟩
    all_goals (cases t <;> simp only [isT] at e <;> cases e)
  have ins : ∀ {c : Bool}, inT hs t w = some c → (∃ (a : Nat) (z : Str), x = .str ⟨#[a]⟩ ∧ y = .str z ∧ decide (a ∈ z.cps.toList) = c) ∨
      (∃ p xs, y = .ref p ∧ (SqL X.K H p xs ∨ SqT X.K H p xs) ∧ flatV x = true ∧ xs.all flatV = true ∧ inV x xs = c) ∨
      ∃ d ds, Dp X.K H x d ∧ Dp X.K H y (.list ds) ∧ SeqAt.shaped d = true ∧ SeqAt.shaped (.list ds) = true ∧ (ds.any fun z => PyData.eqv z d) = c := fun {c} e => by
    cases w <;> simp only [inT] at e <;> first | (cases e; done) | skip
    · -- str
      rename_i z
      cases t <;> simp only at e <;> first | (cases e; done) | skip
      rename_i st
      split at e
      · rename_i a hl
        cases e
        refine .inl ⟨a, z, ?_, by simpa only [Rv] using r2, rfl⟩
        have e1 : st = ⟨#[a]⟩ := by
          have : st.cps = #[a] := by
            apply Array.toList_inj.mp
            rw [hl]
          cases st
          simp at this
          rw [this]
        subst e1
        simpa only [Rv] using r1
      · cases e
    · rename_i ts
      split at e
      · rename_i hf
        cases e
        simp only [Rv] at r2
        obtain ⟨a, xs, rfl, q, rl⟩ := r2
        obtain ⟨f1, f2, f3⟩ := in_seq rl r1 hf
        exact .inr (.inl ⟨a, xs, rfl, .inr (by rw [eK]; exact q), f1, f2, f3⟩)
      · cases e
    · rename_i ts
      split at e
      · rename_i hf
        cases e
        simp only [Rv] at r2
        obtain ⟨a, xs, rfl, q, rl, _⟩ := r2
        obtain ⟨f1, f2, f3⟩ := in_seq rl r1 hf
        exact .inr (.inl ⟨a, xs, rfl, .inl (SqL.of q), f1, f2, f3⟩)
      · unfold inDeep at e
        obtain ⟨d, e1, e⟩ := opt_bind e
        obtain ⟨ds, e2, e⟩ := opt_bind e
        split at e
        · rename_i sh
          rw [Bool.and_eq_true] at sh
          cases e
          exact .inr (.inr ⟨d, ds, by rw [eK]; exact toD_dp _ _ _ r1 e1, by rw [eK]; exact toD_dp (.lst ts) _ _ r2 (by simp [toD, e2]), sh.1, sh.2, rfl⟩)
        · cases e
    · rename_i n
      split at e
      · rename_i ts en
        split at e
        · rename_i hf
          cases e
          obtain ⟨a, rfl, _, xs, q, rl⟩ := hr.at_ en (by simp) r2
          obtain ⟨f1, f2, f3⟩ := in_seq rl r1 hf
          exact .inr (.inl ⟨a, xs, rfl, .inl (SqL.of q), f1, f2, f3⟩)
        · cases e
      · cases e
  revert e1
  intro e
  cases o <;> cases op <;> first | (cases h; done) | skip
  · obtain ⟨d, d2, h1, h2, h3, h4, rfl⟩ := eqs e
    exact op_eqD (by omega) pins s σ H x y v u Q I rx ry ⟨d, d2, h1, h2, h3, h4, fin⟩
  · obtain ⟨c, e', rfl⟩ := opt_map e
    clear e
    revert e'
    intro e
    obtain ⟨d, d2, h1, h2, h3, h4, rfl⟩ := eqs e
    exact op_neD (by omega) pins s σ H x y v u Q I rx ry ⟨d, d2, h1, h2, h3, h4, fin⟩
  · cases t <;> cases w <;> simp only [cmpT] at e <;> first | (cases e; done) | skip
    cases e
    cases int_of r1; cases int_of r2
    exact op_lt pins s σ H _ _ v u Q I rx ry ⟨_, _, rfl, rfl, fin⟩
  · cases t <;> cases w <;> simp only [cmpT] at e <;> first | (cases e; done) | skip
    cases e
    cases int_of r1; cases int_of r2
    exact op_le pins s σ H _ _ v u Q I rx ry ⟨_, _, rfl, rfl, fin⟩
  · cases t <;> cases w <;> simp only [cmpT] at e <;> first | (cases e; done) | skip
    · cases e
      cases int_of r1; cases int_of r2
      exact op_gt pins s σ H _ _ v u Q I rx ry ⟨_, _, rfl, rfl, fin⟩
    · obtain ⟨ns, e1, e2⟩ := opt_bind e
      obtain ⟨ms, e3, rfl⟩ := opt_map e2
      simp only [Rv] at r1 r2
      obtain ⟨a, xs, rfl, qa, ra⟩ := r1
      obtain ⟨a2, ys, rfl, qb, rb⟩ := r2
      have z1 := ra.intsT e1
      have z2 := rb.intsT e3
      subst z1 z2
      exact op_gtT (by omega) pins s σ H _ _ v u Q I rx ry ⟨a, a2, ns, ms, rfl, rfl, by rw [eK]; exact qa, by rw [eK]; exact qb, fin⟩
  · cases t <;> cases w <;> simp only [cmpT] at e <;> first | (cases e; done) | skip
    cases e
    cases int_of r1; cases int_of r2
    exact op_ge pins s σ H _ _ v u Q I rx ry ⟨_, _, rfl, rfl, fin⟩
  · rcases iss e with ⟨rfl, rfl⟩ | ⟨a, a2, rfl, rfl, rfl⟩
    · exact op_isN pins s σ H _ _ v u Q I rx ry ⟨rfl, fin⟩
    · exact op_isBl pins s σ H _ _ v u Q I rx ry ⟨_, _, rfl, rfl, fin⟩
  · obtain ⟨c, e', rfl⟩ := opt_map e
    clear e
    revert e'
    intro e
    rcases iss e with ⟨rfl, rfl⟩ | ⟨a, a2, rfl, rfl, rfl⟩
    · exact op_notN pins s σ H _ _ v u Q I rx ry ⟨rfl, fin⟩
    · exact op_notBl pins s σ H _ _ v u Q I rx ry ⟨_, _, rfl, rfl, fin⟩
  · rcases ins e with ⟨a, z, rfl, rfl, rfl⟩ | ⟨p, xs, rfl, q, f1, f2, rfl⟩ | ⟨d, ds, h1, h2, h3, h4, rfl⟩
    · exact op_in_sign pins s σ H _ _ v u Q I rx ry ⟨_, _, rfl, rfl, fin⟩
    · exact op_in_seq pins s σ H _ _ v u Q I rx ry ⟨_, _, rfl, q, f1, f2, fin⟩
    · exact op_inD hu pins s σ H _ _ v u Q I rx ry ⟨d, ds, h1, h2, h3, h4, fin⟩
  · obtain ⟨c, e', rfl⟩ := opt_map e
    clear e
    revert e'
    intro e
    rcases ins e with ⟨a, z, rfl, rfl, rfl⟩ | ⟨p, xs, rfl, q, f1, f2, rfl⟩ | ⟨d, ds, h1, h2, h3, h4, rfl⟩
    · exact op_notIn_sign pins s σ H _ _ v u Q I rx ry ⟨_, _, rfl, rfl, fin⟩
    · exact op_notIn_seq pins s σ H _ _ v u Q I rx ry ⟨_, _, rfl, q, f1, f2, fin⟩
    · exact op_notInD hu pins s σ H _ _ v u Q I rx ry ⟨d, ds, h1, h2, h3, h4, fin⟩

/-! ### subscripts -/
theorem RvL.atI {ρ : Rho} {H : Hp} {ts : List T} {vs : List V} {i : Int} {t : T} (r : RvL G ρ H ts vs) (h : L2.atI ts i = some t) : ∃ v, L2.atI vs i = some v ∧ Rv G ρ H t v := by
  unfold L2.atI at h ⊢
  rw [r.len]
  cases e : ixN ts.length i with
  | none => rw [e] at h; cases h
  | some j =>
    rw [e] at h
    obtain ⟨v, h1, h2⟩ := r.get h
    exact ⟨v, h1, h2⟩
theorem ixr (eK : X.K = G.K) : IxR X (rG2 G ixT) := by
  intro value slice pins s σ H x y v u Q I rx ry hh hs'
  obtain ⟨ρ, hs, t, w, z, hr, r1, r2, e, k⟩ := hh
  cases w <;> simp only [ixT] at e <;> first | (cases e; done) | skip
  rename_i i
  cases int_of r2
  cases t <;> simp only at e <;> first | (cases e; done) | skip
  · rename_i st
    split at e
    · rename_i hl
      obtain ⟨c, e', rfl⟩ := opt_map e
      clear e
      revert e'
      intro e
      cases str_of r1
      exact ix_str value slice pins s σ H _ _ v u Q I rx ry ⟨_, _, c, rfl, rfl, lim_line hl, e, k ρ H _ .refl hr rv_str⟩ hs'
    · cases e
  · simp only [Rv] at r1
    obtain ⟨a, xs, rfl, q, rl⟩ := r1
    obtain ⟨q1, q2, q3⟩ := rl.atI e
    exact ix_tup value slice pins s σ H _ _ v u Q I rx ry ⟨_, _, _, q1, rfl, rfl, by rw [eK]; exact q, q2, k ρ H _ .refl hr q3⟩ hs'
  · simp only [Rv] at r1
    obtain ⟨a, xs, rfl, q, rl, _⟩ := r1
    obtain ⟨q1, q2, q3⟩ := rl.atI e
    exact ix_list value slice pins s σ H _ _ v u Q I rx ry ⟨_, _, _, q1, rfl, rfl, SqL.of q, q2, k ρ H _ .refl hr q3⟩ hs'
  · split at e
    · rename_i ts en
      obtain ⟨a, rfl, _, xs, q, rl⟩ := hr.at_ en (by simp) r1
      obtain ⟨q1, q2, q3⟩ := rl.atI e
      exact ix_list value slice pins s σ H _ _ v u Q I rx ry ⟨_, _, _, q1, rfl, rfl, SqL.of q, q2, k ρ H _ .refl hr q3⟩ hs'
    · cases e

/-! ### slices -/
def rGS (G : Gx) : V → Option Int → Option Int → Hp → VK → Prop := fun x lo hi H Q => ∃ ρ hs t z, HR G ρ hs H ∧ Rv G ρ H t x ∧ slT t lo hi = some z ∧ ∀ ρ' H' v, Stp ρ H ρ' H' → HR G ρ' hs H' → Rv G ρ' H' z v → Q v H'
theorem RvL.cut {ρ : Rho} {H : Hp} {ts : List T} {vs : List V} (r : RvL G ρ H ts vs) (lo hi : Option Int) : RvL G ρ H (cutL ts lo hi) (cutV vs lo hi) := by
  unfold cutL cutV
  rw [r.len]
  exact (r.drop _).take _
theorem slr (eK : X.K = G.K) : SlR X (rGS G) := by
  intro pins s σ H x v vl vu lo hi sl Q I rx hs' pl pu hh
  obtain ⟨ρ, hs, t, z, hr, r1, e, k⟩ := hh
  cases t <;> simp only [slT] at e <;> first | (cases e; done) | skip
  · split at e
    · rename_i hl
      cases e
      cases str_of r1
      exact sl_str pins s σ H _ v vl vu lo hi sl Q I rx hs' pl pu ⟨_, rfl, lim_line hl, k ρ H _ .refl hr rv_str⟩
    · cases e
  · rename_i ts
    cases e
    simp only [Rv] at r1
    obtain ⟨a, xs, rfl, q, rl⟩ := r1
    refine sl_tupA pins s σ H _ v vl vu lo hi sl Q I rx hs' pl pu ⟨a, xs, rfl, by rw [eK]; exact q, fun ⟨h1, h2⟩ => ?_, fun _ p hp => ?_⟩
    · refine k ρ H _ .refl hr ?_
      have ec : cutL ts lo hi = ts := by
        unfold cutL
        rw [← rl.len, h1, h2, List.drop_zero]
        exact List.take_of_length_le (by rw [rl.len]; omega)
      rw [ec]
      simp only [Rv]
      exact ⟨a, xs, rfl, q, rl⟩
    · exact k ρ _ _ (.ext (ext_upd hp)) (hr.ext (ext_upd hp)) (rv_newT hr hp (rl.cut lo hi))
  · cases e
    simp only [Rv] at r1
    obtain ⟨a, xs, rfl, q, rl, _⟩ := r1
    exact sl_list pins s σ H _ v vl vu lo hi sl Q I rx hs' pl pu ⟨a, xs, rfl, SqL.of q, fun p hp => k ρ _ _ (.ext (ext_upd hp)) (hr.ext (ext_upd hp)) (rv_newL hr hp (rl.cut lo hi))⟩
  · rename_i ns
    cases e
    simp only [Rv] at r1
    obtain ⟨a, rfl, q⟩ := r1
    have ql : SqL X.K H a (ns.map V.int) := by
      rcases q with ⟨o, q⟩ | q
      · exact .inl (.inr ⟨o, q⟩)
      · rw [eK]; exact q H
    refine sl_list pins s σ H _ v vl vu lo hi sl Q I rx hs' pl pu ⟨a, _, rfl, ql, fun p hp => k ρ _ _ (.ext (ext_upd hp)) (hr.ext (ext_upd hp)) (rv_newL hr hp ?_)⟩
    have : cutV (ns.map V.int) lo hi = (cutL ns lo hi).map V.int := by
      unfold cutL cutV
      simp [List.map_drop, List.map_take]
    rw [this]
    exact RvL.of_map (fun i => rv_int) _

/-! ### built-in functions -/
theorem RvL.one_inv {ρ : Rho} {H : Hp} {xs : List T} {t : T} {vs : List V} (r : RvL G ρ H xs vs) (h : Fs.one xs = some t) : ∃ v, vs = [v] ∧ Rv G ρ H t v := by
  cases xs with
  | nil => cases h
  | cons x r' =>
    cases r' with
    | nil =>
      cases h
      simp only [RvL] at r
      obtain ⟨v, ws, rfl, q, rfl⟩ := r
      exact ⟨v, rfl, q⟩
    | cons _ _ => cases h
theorem RvL.two_inv {ρ : Rho} {H : Hp} {xs : List T} {p : Int × Int} {vs : List V} (r : RvL G ρ H xs vs) (h : two xs = some p) : vs = [.int p.1, .int p.2] := by
  unfold two at h
  split at h
  · split at h
    · cases h
      simp only [RvL] at r
      obtain ⟨v, ws, rfl, q, v2, w2, rfl, q2, rfl⟩ := r
      rw [int_of q, int_of q2]
    · cases h
  · cases h
theorem RvL.lst_inv {ρ : Rho} {H : Hp} {xs ts : List T} {vs : List V} (r : RvL G ρ H xs vs) (h : lstOf xs = some ts) : ∃ a ws, vs = [.ref a] ∧ H a = some (.lst ws) ∧ RvL G ρ H ts ws := by
  unfold lstOf at h
  split at h
  · split at h
    · cases h
      simp only [RvL] at r
      obtain ⟨v, ws, rfl, q, rfl⟩ := r
      simp only [Rv] at q
      obtain ⟨a, xs, rfl, q, rl, _⟩ := q
      exact ⟨a, xs, rfl, q, rl⟩
    · cases h
  · cases h
/-- what the built-in's name is bound to -/
def biV : Bi → Value
  | .abs => .builtin "abs"
  | .all => .builtin "all"
  | .any => .builtin "any"
  | .int => .type "int"
  | .len => .builtin "len"
  | .list => .type "list"
  | .max1 => .builtin "max"
  | .max2 => .builtin "max"
  | .min1 => .builtin "min"
  | .min2 => .builtin "min"
  | .repr => .builtin "repr"
  | .str => .type "str"
  | .sum => .builtin "sum"
  | .sumL => .builtin "sum"
  | .tuple => .type "tuple"
  | .isinst _ => .builtin "isinstance"
theorem maxL_ok {ns : List Int} {m : Int} (h : maxL ns = some m) : 0 < ns.length ∧ m ∈ ns ∧ ∀ y ∈ ns, y ≤ m := by
  cases ns with
  | nil => cases h
  | cons a r =>
    simp only [maxL] at h
    cases h
    refine ⟨by simp, ?_⟩
    have key : ∀ (l : List Int) (a : Int), (l.foldl (fun m x => if x > m then x else m) a = a ∨ l.foldl (fun m x => if x > m then x else m) a ∈ l) ∧ a ≤ l.foldl (fun m x => if x > m then x else m) a ∧ ∀ y ∈ l, y ≤ l.foldl (fun m x => if x > m then x else m) a := by
      intro l
      induction l with
      | nil => intro a; exact ⟨.inl rfl, Int.le_refl _, by simp⟩
      | cons b l ih =>
        intro a
        simp only [List.foldl_cons]
        obtain ⟨h1, h2, h3⟩ := ih (if b > a then b else a)
        refine ⟨?_, ?_, ?_⟩
        · rcases h1 with h1 | h1
          · rw [h1]
            by_cases hb : b > a
            · rw [if_pos hb]; exact .inr List.mem_cons_self
            · rw [if_neg hb]; exact .inl rfl
          · exact .inr (List.mem_cons_of_mem _ h1)
        · refine Int.le_trans ?_ h2
          by_cases hb : b > a
          · rw [if_pos hb]; omega
          · rw [if_neg hb]; omega
        · intro y hy
          rcases List.mem_cons.mp hy with rfl | hy
          · refine Int.le_trans ?_ h2
            by_cases hb : y > a
            · rw [if_pos hb]; omega
            · rw [if_neg hb]; omega
          · exact h3 y hy
    obtain ⟨h1, h2, h3⟩ := key r a
    refine ⟨?_, fun y hy => ?_⟩
    · rcases h1 with h1 | h1
      · rw [h1]; exact List.mem_cons_self
      · exact List.mem_cons_of_mem _ h1
    · rcases List.mem_cons.mp hy with rfl | hy
      · exact h2
      · exact h3 y hy
theorem minL_ok {ns : List Int} {m : Int} (h : minL ns = some m) : 0 < ns.length ∧ m ∈ ns ∧ ∀ y ∈ ns, m ≤ y := by
  cases ns with
  | nil => cases h
  | cons a r =>
    simp only [minL] at h
    cases h
    refine ⟨by simp, ?_⟩
    have key : ∀ (l : List Int) (a : Int), (l.foldl (fun m x => if x < m then x else m) a = a ∨ l.foldl (fun m x => if x < m then x else m) a ∈ l) ∧ l.foldl (fun m x => if x < m then x else m) a ≤ a ∧ ∀ y ∈ l, l.foldl (fun m x => if x < m then x else m) a ≤ y := by
      intro l
      induction l with
      | nil => intro a; exact ⟨.inl rfl, Int.le_refl _, by simp⟩
      | cons b l ih =>
        intro a
        simp only [List.foldl_cons]
        obtain ⟨h1, h2, h3⟩ := ih (if b < a then b else a)
        refine ⟨?_, ?_, ?_⟩
        · rcases h1 with h1 | h1
          · rw [h1]
            by_cases hb : b < a
            · rw [if_pos hb]; exact .inr List.mem_cons_self
            · rw [if_neg hb]; exact .inl rfl
          · exact .inr (List.mem_cons_of_mem _ h1)
        · refine Int.le_trans h2 ?_
          by_cases hb : b < a
          · rw [if_pos hb]; omega
          · rw [if_neg hb]; omega
        · intro y hy
          rcases List.mem_cons.mp hy with rfl | hy
          · refine Int.le_trans h2 ?_
            by_cases hb : y < a
            · rw [if_pos hb]; omega
            · rw [if_neg hb]; omega
          · exact h3 y hy
    obtain ⟨h1, h2, h3⟩ := key r a
    refine ⟨?_, fun y hy => ?_⟩
    · rcases h1 with h1 | h1
      · rw [h1]; exact List.mem_cons_self
      · exact List.mem_cons_of_mem _ h1
    · rcases List.mem_cons.mp hy with rfl | hy
      · exact h2
      · exact h3 y hy
end
end Fs
end

section
set_option Elab.async false
set_option linter.all false
set_option maxRecDepth 100000
/-! Fs5: built-in functions and methods by trees. -/
namespace Fs
open PySem L2
section
variable {G : Gx} {X : Cx}
theorem intT_of {ρ : Rho} {H : Hp} {t : T} {v : V} {i : Int} (h : intT t = some i) (r : Rv G ρ H t v) : v = .int i := by
  cases t <;> simp only [intT] at h <;> cases h
  exact int_of r
theorem RvL.lsts : ∀ {ts : List T} {vs : List V} {tss : List (List T)} {ρ : Rho} {H : Hp}, RvL G ρ H ts vs → lstsT ts = some tss → ∃ (as : List Addr) (xss : List (List V)), vs = as.map V.ref ∧ as.length = xss.length ∧
    (∀ (j : Nat) (l : Addr) (zs : List V), as[j]? = some l → xss[j]? = some zs → H l = some (.lst zs)) ∧ RvL G ρ H tss.flatten xss.flatten
  | [], vs, tss, ρ, H, r, e => by
    simp only [RvL] at r
    simp only [lstsT] at e
    cases e
    subst r
    exact ⟨[], [], rfl, rfl, fun j l zs h => by simp at h, by simp [RvL]⟩
  | t :: ts, vs, tss, ρ, H, r, e => by
    simp only [RvL] at r
    obtain ⟨v, ws, rfl, q, r⟩ := r
    cases t <;> simp only [lstsT] at e <;> first | (cases e; done) | skip
    obtain ⟨uss, e1, rfl⟩ := opt_map e
    simp only [Rv] at q
    obtain ⟨a, xs, rfl, qa, rl, _⟩ := q
    obtain ⟨as, xss, rfl, hn, hx, rf⟩ := RvL.lsts r e1
    refine ⟨a :: as, xs :: xss, rfl, by simp [hn], fun j l zs h1 h2 => ?_, ?_⟩
    · cases j with
      | zero => simp at h1 h2; subst h1 h2; exact qa
      | succ j => exact hx j l zs (by simpa using h1) (by simpa using h2)
    · rw [List.flatten_cons, List.flatten_cons]
      exact rl.app rf
theorem lenT_of {ρ : Rho} {H : Hp} {hs : Hs} {t : T} {v : V} {n : Nat} (hr : HR G ρ hs H) (h : lenT hs t = some n) (r : Rv G ρ H t v) (hd : ∀ ks ts, t ≠ .dct ks ts) : LenV G.K v H n := by
  cases t <;> simp only [lenT] at h <;> first | (cases h; done) | skip
  · split at h
    · rename_i hl
      cases h
      cases str_of r
      exact ⟨lim_line hl, rfl⟩
    · cases h
  · cases h
    simp only [Rv] at r
    obtain ⟨a, xs, rfl, q, rl⟩ := r
    exact .inr ⟨xs, q, rl.len.symm⟩
  · cases h
    simp only [Rv] at r
    obtain ⟨a, xs, rfl, q, rl, _⟩ := r
    exact .inl ⟨xs, SqL.of q, rl.len.symm⟩
  · split at h
    · rename_i ts en
      cases h
      obtain ⟨a, rfl, _, xs, q, rl⟩ := hr.at_ en (by simp) r
      exact .inl ⟨xs, SqL.of q, rl.len.symm⟩
    · cases h
  · exact absurd rfl (hd _ _)
/-- a type's name -/
def tyNm : Kd → String
  | .non => "NoneType"
  | .bl => "bool"
  | .int => "int"
  | .str => "str"
  | .tup => "tuple"
  | .lst => "list"
  | .dct => "dict"
theorem kit_kd {K : PySem.W.Frag} (k n : Kd) : PySem.W.kitOne K (.type (tyNm k)) (.type (tyNm n)) = some (k.is n) := by
  apply kit_ty
  cases k <;> cases n <;> decide +kernel
theorem kind_of {ρ : Rho} {H : Hp} {hs : Hs} {t : T} {v : V} {k : Kd} (hr : HR G ρ hs H) (h : kind hs t = some k) (r : Rv G ρ H t v) : TyX G.K H v (.type (tyNm k)) := by
  cases t <;> simp only [kind] at h <;> first | (cases h; done) | skip
  · cases h; simp only [Rv] at r; subst r; exact .base .non
  · cases h; simp only [Rv] at r; subst r; exact .base (.bl _)
  · cases h; cases int_of r; exact .base (.int _)
  · cases h; cases str_of r; exact .base (.str _)
  · cases h
    simp only [Rv] at r
    obtain ⟨a, xs, rfl, q, rl⟩ := r
    rcases q with (q | ⟨o, q⟩) | ⟨o, its, n, q1, q2, _⟩
    · exact .base (.tup q)
    · exact .fTuple q
    · exact .kTuple q1 q2
  · cases h
    simp only [Rv] at r
    obtain ⟨a, xs, rfl, q, rl, _⟩ := r
    exact .base (.lst q)
  · split at h
    · rename_i ts en
      cases h
      obtain ⟨a, rfl, _, xs, q, rl⟩ := hr.at_ en (by simp) r
      exact .base (.lst q)
    · rename_i ts en
      cases h
      obtain ⟨a, rfl, _, xs, q, rl⟩ := hr.at_ en (by simp) r
      exact .base (.dK q)
    · cases h
theorem repr_ok (eK : X.K = G.K) (hg : X.A.guards = some []) (hu : X.A.units + 66 < cLine) : CallR X (.builtin "repr") (rGL G fun hs ts => (one ts).bind (reprT hs)) := by
  intro pins s σ H xs us Q I r hh
  obtain ⟨ρ, hs, ts, z, hr, r1, e, k⟩ := hh
  obtain ⟨t, e1, e2⟩ := opt_bind e
  obtain ⟨v, rfl, rv⟩ := r1.one_inv e1
  obtain ⟨u, rfl, ru⟩ := vals1 r
  unfold reprT at e2
  obtain ⟨d, e3, e4⟩ := opt_bind e2
  split at e4
  · rename_i hc
    simp only [Bool.and_eq_true, decide_eq_true_eq] at hc
    obtain ⟨c1, c2, c3⟩ := hc
    cases e4
    have fin : Q (.str d.shown) H := k ρ H _ .refl hr rv_str
    have dp : Dp X.K H v d := by rw [eK]; exact toDh_dp hr rv e3
    have hsz := lim_line c3
    have hd := SeqAt.depth_of_shaped c1
    cases dp with
    | non => cases (show u = Value.none from ru); exact PySem.P.repr_of_none ⟨.str _, H, I.tok _, ⟨_, rfl⟩, fin⟩
    | bl b => cases (show u = Value.bool b from ru); exact PySem.P.repr_of_bool ⟨.str _, H, I.tok _, ⟨_, rfl⟩, fin⟩
    | int i =>
      obtain ⟨tk, rfl⟩ := (show ∃ t, u = Value.int i t from ru)
      exact PySem.P.repr_of_int (by simpa [PyData.showable] using c2) ⟨.str _, H, I.tok _, ⟨_, rfl⟩, fin⟩
    | str y =>
      obtain ⟨tk, rfl⟩ := (show ∃ t, u = Value.str y t from ru)
      exact PySem.P.repr_of_str ⟨.str _, H, I.tok _, ⟨_, rfl⟩, fin⟩ hsz
    | @lst a ws ds q ql =>
      cases (show u = Value.ref a from ru)
      obtain ⟨as, rd⟩ := Dp.reads I _ _ _ (Dp.lst q ql) (show RelV (.ref a) (.ref a) from rfl)
      exact repr_of_reads' rd c2 (PyData.noDict_hsm (PyData.hasDict_of_canLay _ (SeqAt.canLay_of_shaped c1))) hg (by omega) (fun _ _ e => e) (fun h' u' tk hk => ⟨.str _, H, I.kept hk, ⟨_, rfl⟩, fin⟩) hsz
    | @tup a ws ds q ql =>
      cases (show u = Value.ref a from ru)
      obtain ⟨as, rd⟩ := Dp.reads I _ _ _ (Dp.tup q ql) (show RelV (.ref a) (.ref a) from rfl)
      exact repr_of_reads' rd c2 (PyData.noDict_hsm (PyData.hasDict_of_canLay _ (SeqAt.canLay_of_shaped c1))) hg (by omega) (fun _ _ e => e) (fun h' u' tk hk => ⟨.str _, H, I.kept hk, ⟨_, rfl⟩, fin⟩) hsz
  · cases e4
def notIsi : Bi → Bool
  | .isinst _ => false
  | _ => true
theorem crB (eK : X.K = G.K) {b : Bi} (hn : notIsi b = true) (hc : biHot b = true ∨ X.calm = true) (hg : biHot b = true ∨ X.A.guards = some []) (hu : X.A.units + 66 < cLine) : CallR X (biV b) (rGL G fun hs ts => biT b hs ts) := by
  cases b with
  | abs =>
    intro pins s σ H xs us Q I r hh
    obtain ⟨ρ, hs, ts, z, hr, r1, e, k⟩ := hh
    simp only [biT] at e
    obtain ⟨t, e1, e2⟩ := opt_bind e
    obtain ⟨v, rfl, rv⟩ := r1.one_inv e1
    obtain ⟨i, e3, rfl⟩ := opt_map e2
    cases intT_of e3 rv
    exact call_abs pins s σ H _ us Q I r ⟨_, rfl, k ρ H _ .refl hr rv_int⟩
  | all =>
    intro pins s σ H xs us Q I r hh
    obtain ⟨ρ, hs, ts, z, hr, r1, e, k⟩ := hh
    simp only [biT] at e
    obtain ⟨t, e1, e2⟩ := opt_bind e
    obtain ⟨a, ws, rfl, q, rl⟩ := r1.lst_inv e1
    obtain ⟨bs, e3, rfl⟩ := opt_map e2
    have e4 := rl.bools e3
    subst e4
    exact cr_all (hc.resolve_left (by decide)) pins s σ H _ us Q I r ⟨a, bs, rfl, SqL.of q, k ρ H _ .refl hr rv_bl⟩
  | any =>
    intro pins s σ H xs us Q I r hh
    obtain ⟨ρ, hs, ts, z, hr, r1, e, k⟩ := hh
    simp only [biT] at e
    obtain ⟨t, e1, e2⟩ := opt_bind e
    obtain ⟨a, ws, rfl, q, rl⟩ := r1.lst_inv e1
    obtain ⟨bs, e3, rfl⟩ := opt_map e2
    have e4 := rl.bools e3
    subst e4
    exact cr_any (hc.resolve_left (by decide)) pins s σ H _ us Q I r ⟨a, bs, rfl, SqL.of q, k ρ H _ .refl hr rv_bl⟩
  | int =>
    intro pins s σ H xs us Q I r hh
    obtain ⟨ρ, hs, ts, z, hr, r1, e, k⟩ := hh
    simp only [biT] at e
    obtain ⟨t, e1, e2⟩ := opt_bind e
    obtain ⟨v, rfl, rv⟩ := r1.one_inv e1
    cases t <;> simp only [toInt] at e2 <;> first | (cases e2; done) | skip
    · rename_i b
      cases e2
      have ev : v = .bl b := by simpa only [Rv] using rv
      subst ev
      exact call_int1 pins s σ H _ us Q I r (.inr ⟨_, rfl, k ρ H _ .refl hr rv_int⟩)
    · cases e2
      cases int_of rv
      exact call_int1 pins s σ H _ us Q I r (.inl ⟨_, rfl, k ρ H _ .refl hr rv_int⟩)
    · split at e2
      · rename_i hl
        obtain ⟨n, e3, rfl⟩ := opt_map e2
        cases str_of rv
        exact call_int_str pins s σ H _ us Q I r ⟨_, _, rfl, e3, hl, k ρ H _ .refl hr rv_int⟩
      · cases e2
  | len =>
    intro pins s σ H xs us Q I r hh
    obtain ⟨ρ, hs, ts, z, hr, r1, e, k⟩ := hh
    simp only [biT] at e
    obtain ⟨t, e1, e2⟩ := opt_bind e
    obtain ⟨v, rfl, rv⟩ := r1.one_inv e1
    obtain ⟨n, e3, rfl⟩ := opt_map e2
    by_cases hd : ∃ ks ts, t = .dct ks ts
    · obtain ⟨ks, ts, rfl⟩ := hd
      simp only [lenT] at e3
      cases e3
      simp only [Rv] at rv
      obtain ⟨a, kvs, rfl, q, ek, rl, _⟩ := rv
      refine call_lenD pins s σ H _ us Q I r ⟨a, kvs, rfl, q, ?_⟩
      have : ks.length = kvs.length := by rw [← ek, List.length_map]
      rw [← this]
      exact k ρ H _ .refl hr rv_int
    · exact call_len pins s σ H _ us Q I r ⟨_, n, rfl, by rw [eK]; exact lenT_of hr e3 rv fun ks ts z => hd ⟨ks, ts, z⟩, k ρ H _ .refl hr rv_int⟩
  | list =>
    intro pins s σ H xs us Q I r hh
    obtain ⟨ρ, hs, ts, z, hr, r1, e, k⟩ := hh
    simp only [biT] at e
    obtain ⟨t, e1, e2⟩ := opt_bind e
    obtain ⟨v, rfl, rv⟩ := r1.one_inv e1
    cases t <;> simp only [toLst] at e2 <;> first | (cases e2; done) | skip
    · cases e2
      simp only [Rv] at rv
      obtain ⟨a, ws, rfl, q, rl⟩ := rv
      exact call_list_of pins s σ H _ us Q I r ⟨a, ws, rfl, .inr (by rw [eK]; exact q), fun p hp => k ρ _ _ (.ext (ext_upd hp)) (hr.ext (ext_upd hp)) (rv_newL hr hp rl)⟩
    · cases e2
      simp only [Rv] at rv
      obtain ⟨a, ws, rfl, q, rl, _⟩ := rv
      exact call_list_of pins s σ H _ us Q I r ⟨a, ws, rfl, .inl (SqL.of q), fun p hp => k ρ _ _ (.ext (ext_upd hp)) (hr.ext (ext_upd hp)) (rv_newL hr hp rl)⟩
  | max1 =>
    intro pins s σ H xs us Q I r hh
    obtain ⟨ρ, hs, ts, z, hr, r1, e, k⟩ := hh
    simp only [biT] at e
    obtain ⟨t, e1, e2⟩ := opt_bind e
    obtain ⟨a, ws, rfl, q, rl⟩ := r1.lst_inv e1
    obtain ⟨ns, e3, e4⟩ := opt_bind e2
    obtain ⟨m, e5, rfl⟩ := opt_map e4
    have e6 := rl.intsT e3
    subst e6
    obtain ⟨m1, m2, m3⟩ := maxL_ok e5
    refine cr_max (hc.resolve_left (by decide)) pins s σ H _ us Q I r ⟨a, ns, rfl, SqL.of q, m1, fun m' h1 h2 => ?_⟩
    have : m' = m := Int.le_antisymm (m3 _ h1) (h2 _ m2)
    subst this
    exact k ρ H _ .refl hr rv_int
  | min1 =>
    intro pins s σ H xs us Q I r hh
    obtain ⟨ρ, hs, ts, z, hr, r1, e, k⟩ := hh
    simp only [biT] at e
    obtain ⟨t, e1, e2⟩ := opt_bind e
    obtain ⟨a, ws, rfl, q, rl⟩ := r1.lst_inv e1
    obtain ⟨ns, e3, e4⟩ := opt_bind e2
    obtain ⟨m, e5, rfl⟩ := opt_map e4
    have e6 := rl.intsT e3
    subst e6
    obtain ⟨m1, m2, m3⟩ := minL_ok e5
    refine cr_min (hc.resolve_left (by decide)) pins s σ H _ us Q I r ⟨a, ns, rfl, SqL.of q, m1, fun m' h1 h2 => ?_⟩
    have : m' = m := Int.le_antisymm (h2 _ m2) (m3 _ h1)
    subst this
    exact k ρ H _ .refl hr rv_int
  | max2 =>
    intro pins s σ H xs us Q I r hh
    obtain ⟨ρ, hs, ts, z, hr, r1, e, k⟩ := hh
    simp only [biT] at e
    obtain ⟨p, e1, rfl⟩ := opt_map e
    have e2 := r1.two_inv e1
    subst e2
    exact call_max2 (hc.resolve_left (by decide)) pins s σ H _ us Q I r ⟨_, _, rfl, k ρ H _ .refl hr rv_int⟩
  | min2 =>
    intro pins s σ H xs us Q I r hh
    obtain ⟨ρ, hs, ts, z, hr, r1, e, k⟩ := hh
    simp only [biT] at e
    obtain ⟨p, e1, rfl⟩ := opt_map e
    have e2 := r1.two_inv e1
    subst e2
    exact call_min2 (hc.resolve_left (by decide)) pins s σ H _ us Q I r ⟨_, _, rfl, k ρ H _ .refl hr rv_int⟩
  | repr =>
    intro pins s σ H xs us Q I r hh
    exact repr_ok eK (hg.resolve_left (by decide)) hu pins s σ H xs us Q I r hh
  | str =>
    intro pins s σ H xs us Q I r hh
    obtain ⟨ρ, hs, ts, z, hr, r1, e, k⟩ := hh
    simp only [biT] at e
    obtain ⟨t, e1, e2⟩ := opt_bind e
    obtain ⟨v, rfl, rv⟩ := r1.one_inv e1
    cases t <;> simp only [toStr] at e2 <;> first | (cases e2; done) | skip
    · split at e2
      · rename_i hl
        cases e2
        cases int_of rv
        exact call_str_int pins s σ H _ us Q I r ⟨_, rfl, hl, k ρ H _ .refl hr rv_str⟩
      · cases e2
    · cases e2
      cases str_of rv
      exact SkE.call_str_str pins s σ H _ us Q I r ⟨_, rfl, k ρ H _ .refl hr rv_str⟩
  | sum =>
    intro pins s σ H xs us Q I r hh
    obtain ⟨ρ, hs, ts, z, hr, r1, e, k⟩ := hh
    simp only [biT] at e
    obtain ⟨t, e1, e2⟩ := opt_bind e
    obtain ⟨a, ws, rfl, q, rl⟩ := r1.lst_inv e1
    obtain ⟨ns, e3, rfl⟩ := opt_map e2
    have e6 := rl.intsT e3
    subst e6
    exact cr_sum (hc.resolve_left (by decide)) pins s σ H _ us Q I r ⟨a, ns, rfl, SqL.of q, k ρ H _ .refl hr rv_int⟩
  | sumL =>
    intro pins s σ H xs us Q I r hh
    obtain ⟨ρ, hs, ts, z, hr, r1, e, k⟩ := hh
    simp only [biT] at e
    unfold sumLT at e
    split at e <;> first | (cases e; done) | skip
    rename_i x y
    split at e <;> first | (cases e; done) | skip
    rename_i ts0 us0
    split at e <;> first | (cases e; done) | skip
    rename_i he
    obtain ⟨tss, e1, e2⟩ := opt_bind e
    split at e2 <;> first | (cases e2; done) | skip
    rename_i hl
    cases e2
    have hu0 : us0 = [] := List.isEmpty_iff.mp he
    subst hu0
    simp only [RvL] at r1
    obtain ⟨v1, w1, rfl, q1, v2, w2, rfl, q2, rfl⟩ := r1
    have q2' := q2
    simp only [Rv] at q1 q2
    obtain ⟨a, vs, rfl, qa, rl, _⟩ := q1
    obtain ⟨b, ws, rfl, qb, rb, _⟩ := q2
    have hws : ws = [] := by simpa only [RvL] using rb
    subst hws
    obtain ⟨as, xss, rfl, hn, hx, rf⟩ := rl.lsts e1
    refine cr_sumL (hc.resolve_left (by decide)) pins s σ H _ us Q I r ⟨a, b, as, xss, rfl, SqL.of qa, qb, hn, hx, by rw [rf.len]; exact lim_line hl, fun h0 => ?_, fun h0 p hp => ?_⟩
    · subst h0
      have hx0 : xss = [] := List.eq_nil_of_length_eq_zero hn.symm
      subst hx0
      have : tss.flatten = [] := rf.nil_iff.mp rfl
      rw [this] at k
      exact k ρ H _ .refl hr q2'
    · exact k ρ _ _ (.ext (ext_upd hp)) (hr.ext (ext_upd hp)) (rv_newL hr hp rf)
  | tuple =>
    intro pins s σ H xs us Q I r hh
    obtain ⟨ρ, hs, ts, z, hr, r1, e, k⟩ := hh
    simp only [biT] at e
    obtain ⟨t, e1, e2⟩ := opt_bind e
    obtain ⟨v, rfl, rv⟩ := r1.one_inv e1
    cases t <;> simp only [toTup] at e2 <;> first | (cases e2; done) | skip
    · cases e2
      have rv0 := rv
      simp only [Rv] at rv
      obtain ⟨a, ws, rfl, q, rl⟩ := rv
      exact call_tuple_of pins s σ H _ us Q I r ⟨a, ws, rfl, .inr ⟨by rw [eK]; exact q, k ρ H _ .refl hr rv0⟩⟩
    · cases e2
      simp only [Rv] at rv
      obtain ⟨a, ws, rfl, q, rl, _⟩ := rv
      exact call_tuple_of pins s σ H _ us Q I r ⟨a, ws, rfl, .inl ⟨SqL.of q, fun p hp => k ρ _ _ (.ext (ext_upd hp)) (hr.ext (ext_upd hp)) (rv_newT hr hp rl)⟩⟩
    · split at e2
      · rename_i ts' en
        cases e2
        obtain ⟨a, rfl, _, ws, q, rl⟩ := hr.at_ en (by simp) rv
        exact call_tuple_of pins s σ H _ us Q I r ⟨a, ws, rfl, .inl ⟨SqL.of q, fun p hp => k ρ _ _ (.ext (ext_upd hp)) (hr.ext (ext_upd hp)) (rv_newT hr hp rl)⟩⟩
      · cases e2
  | isinst n => cases hn

/-! ### methods of built-in types -/
def bmTy : Bm → String
  | .append => "list"
  | .join => "str"
  | .pop => "list"
  | .extend => "list"
  | .index => "list"
  | .split => "str"
def bmId : Bm → String
  | .append => "list.append"
  | .join => "str.join"
  | .pop => "list.pop"
  | .extend => "list.extend"
  | .index => "list.index"
  | .split => "str.split"
def rGM (G : Gx) (m : Bm) : V → List V → Hp → VK → Prop := fun x xs H Q => ∃ ρ hs t ts y hs', HR G ρ hs H ∧ Rv G ρ H t x ∧ RvL G ρ H ts xs ∧ bmT m hs t ts = some (y, hs') ∧ ∀ ρ' H' v, Stp ρ H ρ' H' → HR G ρ' hs' H' → Rv G ρ' H' y v → Q v H'
theorem bmOk_ty (eK : X.K = G.K) {m : Bm} {ρ : Rho} {H : Hp} {hs : Hs} {t : T} {v : V} (hr : HR G ρ hs H) (r : Rv G ρ H t v) (h : bmOk m hs t = true) : tyV X.K (bmTy m) v H := by
  unfold bmOk at h
  split at h
  · split at h
    · rename_i ts en
      obtain ⟨a, rfl, _, ws, q, rl⟩ := hr.at_ en (by simp) r
      exact .inl ⟨rfl, ws, SqL.of q⟩
    · cases h
  · split at h
    · rename_i ts en
      obtain ⟨a, rfl, _, ws, q, rl⟩ := hr.at_ en (by simp) r
      exact .inl ⟨rfl, ws, SqL.of q⟩
    · cases h
  · cases str_of r
    rfl
  · cases h
theorem mtr_extend : MtR X "list.extend" (rGM G .extend) := by
  intro pins s σ H x xs v us Q I rx rxs hh
  obtain ⟨ρ, hs, t, ts, y, hs', hr, r1, r2, e, k⟩ := hh
  unfold bmT at e
  split at e <;> first | (cases e; done) | skip
  · exact nomatch (show Bm.extend = Bm.append from ‹_›)
  · split at e
    · rename_i k' us' hm _ _ ls en
      split at e
      · rename_i hl
        cases e
        obtain ⟨a, rfl, hk, ws, q, rl⟩ := hr.at_ en (by simp) r1
        simp only [RvL] at r2
        obtain ⟨v', w', rfl, q2, rfl⟩ := r2
        simp only [Rv] at q2
        obtain ⟨b, zs, rfl, qb, rb, nb⟩ := q2
        refine mt_extend pins s σ H _ _ v us Q I rx rxs ⟨a, b, ws, zs, rfl, rfl, q, qb, ?_, ?_⟩
        · rw [rl.len, rb.len]
          exact lim_line hl
        · have st : Stp ρ H ρ (upd H a (.lst (ws ++ zs))) := .mut (mem_rho hk)
          exact k ρ _ _ st (hr.mut hk (by simp) ⟨_, upd_same, (RvL.step hr.Live st _ _ rl).app (RvL.step hr.Live st _ _ rb)⟩) rv_non
      · cases e
    · cases e
  · exact nomatch (show Bm.extend = Bm.join from ‹_›)
theorem mtr_append : MtR X "list.append" (rGM G .append) := by
  intro pins s σ H x xs v us Q I rx rxs hh
  obtain ⟨ρ, hs, t, ts, y, hs', hr, r1, r2, e, k⟩ := hh
  unfold bmT at e
  split at e <;> first | (cases e; done) | skip
  · split at e
    · rename_i k' x' hm _ _ ls en
      split at e
      · rename_i hl
        cases e
        obtain ⟨a, rfl, hk, ws, q, rl⟩ := hr.at_ en (by simp) r1
        simp only [RvL] at r2
        obtain ⟨v', w', rfl, q2, rfl⟩ := r2
        refine mt_append pins s σ H _ _ v us Q I rx rxs ⟨a, ws, v', rfl, rfl, q, ?_, ?_⟩
        · rw [rl.len]
          have := lim_line (Nat.le_of_lt hl)
          have h1 : sizeLine = 16777216 := sizeLine_eq
          have h2 : ls.length < 1000000 := hl
          omega
        · have st : Stp ρ H ρ (upd H a (.lst (ws ++ [v']))) := .mut (mem_rho hk)
          refine k ρ _ _ st (hr.mut hk (by simp) ⟨_, upd_same, (RvL.step hr.Live st _ _ rl).app (.one (Rv.step hr.Live st _ _ q2))⟩) rv_non
      · cases e
    · cases e
  · exact nomatch (show Bm.append = Bm.extend from ‹_›)
  · exact nomatch (show Bm.append = Bm.join from ‹_›)
theorem mtr_join (eK : X.K = G.K) : MtR X "str.join" (rGM G .join) := by
  intro pins s σ H x xs v us Q I rx rxs hh
  obtain ⟨ρ, hs, t, ts, y, hs', hr, r1, r2, e, k⟩ := hh
  unfold bmT at e
  split at e <;> first | (cases e; done) | skip
  · exact nomatch (show Bm.join = Bm.append from ‹_›)
  · exact nomatch (show Bm.join = Bm.extend from ‹_›)
  · rename_i a ls _
    obtain ⟨ys, e1, e2⟩ := opt_bind e
    split at e2
    · rename_i hg
      cases e2
      cases str_of r1
      simp only [RvL] at r2
      obtain ⟨v', w', rfl, q2, rfl⟩ := r2
      simp only [Rv] at q2
      obtain ⟨p, ws, rfl, q, rl, _⟩ := q2
      have e4 := rl.texts e1
      subst e4
      unfold glueOk at hg
      simp only [decide_eq_true_eq] at hg
      exact mt_join pins s σ H _ _ v us Q I rx rxs ⟨a, p, ys, rfl, rfl, .inl (SqL.of q), Nat.le_trans hg (by decide), by rw [show Txt.join a ys = Str.join a ys from StrLaws.glued_eq_join a ys]; exact k ρ H _ .refl hr rv_str⟩
    · cases e2
end
end Fs
end

section
set_option Elab.async false
set_option linter.all false
set_option maxRecDepth 100000
/-! Fs6: what is known of a body's surroundings; calls, methods, new instances; iteration. -/
namespace Fs
open PySem L2

/-- what the calls answer at this depth -/
structure CalOk (G : Gx) (cl : Cal) (k : Nat) (P : Program) (w : World) (mg : Str → Option Value) (base : Heap) : Prop where
  run : ∀ (f : Nat) (A : Around) (outer : List Env) (s : Shared) (H : Hp) (us : List Value) (vs : List V) (ts : List T) (hs : Hs) (ρ : Rho) (Q : VK) (E : XK), f < G.D.fns.length → Room k A → A.guards = some [] →
    Env0 P w G.K mg base A outer s H → Vals vs us → HR G ρ hs H → RvL G ρ H ts vs → Post G (Rv G) ρ H E (cl f ts hs) Q → codeAny (model P w) A (.call (.ref (G.fa f)) ⟨us, []⟩) (CR (L2.CX P w) outer P w H s Q E) s
/-- what the written part holds -/
structure Pr (G : Gx) (mg : Str → Option Value) : Prop where
  bn : ∀ b, mg (biNm b) = none
  kn : ∀ k, mg (kdNm k) = none
  rn : mg "range" = none
  en : mg "enumerate" = none
  cns : ∀ (g : Nat) (p : Str × T), G.D.cns[g]? = some p → ∃ v u, mg p.1 = some u ∧ RelV v u ∧ ∀ ρ hs H, HR G ρ hs H → Rv G ρ H p.2 v
  fnv : ∀ (f : Nat) (fn : Fn), G.D.fns[f]? = some fn → fn.cls = none → mg fn.nm = some (.ref (G.fa f))
  keep : ∀ (f : Nat) (fn : Fn), G.D.fns[f]? = some fn → PySem.W.keepIn G.K (.ref (G.fa f)) = true
  meth : ∀ (f : Nat) (fn : Fn) (c : Nat), G.D.fns[f]? = some fn → fn.cls = some c → Cls G.K (G.ca c) ∧ Meth G.K (G.ca c) fn.nm (G.fa f)
  new : ∀ (c : Nat) (nm : Str) (i : Nat) (fl : List Str), G.D.cls[c]? = some (.plain nm i fl) → mg nm = some (.ref (G.ca c)) ∧ Mk G.K (G.ca c) (G.fa i) ∧ i < G.D.fns.length
  flds : ∀ (c : Nat) (f : Str), hasF G.D c f = true → Cls G.K (G.ca c) ∧ NoAttr G.K (G.ca c) f
  exc : ∀ (c : Nat) (nm : Str) (fl : List Str) (up : List Nat), G.D.cls[c]? = some (.exc nm fl up) → XfC G.K (G.ca c) ∧ ∀ f ∈ fl, PySem.W.findIn G.K (.ref (G.ca c)) f = some none
/-- the exception at hand is pinned -/
def HotOk (G : Gx) (X : Cx) (q : Xa) : Prop := ∃ oe vs, (q.a, oe) ∈ X.pn ∧ Zc (.ref (G.ca q.c)) q.d oe ∧ oe.data = .fields vs
structure Ok (G : Gx) (Γ : Cs) (cl : Cal) (W : WX) (xa : Option Xa) (X : Cx) : Prop where
  pr : Pr G X.mg
  K : X.K = G.K
  N : X.N = Γ.N
  sc : X.env.scope = Γ.sc
  D : Γ.D = G.D
  nod : X.N.Nodup
  fnc : ∀ y, X.fn y = (match Γ.og with | none => true | some s => s.names.lookup y == some .cell)
  units : X.A.units + 200 < cLine
  cool : Γ.hot = false → X.calm = true ∧ X.A.guards = some [] ∧ xa = none ∧ ∃ k, Room (k + 1) X.A ∧ CalOk G cl k X.prog X.w X.mg X.base
  hotx : Γ.hot = true → ∃ q, xa = some q ∧ Γ.xi = q.i ∧ cl = xCal G.D q.c q.xs ∧ HotOk G X q
  tk : Takes X W

section
variable {G : Gx} {Γ : Cs} {cl : Cal} {W : WX} {xa : Option Xa} {X : Cx}
theorem Ok.noXi (ok : Ok G Γ cl W xa X) {i : Nat} (h : Γ.xi ≠ some i) : notXi xa i := fun q hq => by
  cases hh : Γ.hot with
  | false =>
    obtain ⟨_, _, e, _⟩ := ok.cool hh
    rw [e] at hq
    cases hq
  | true =>
    obtain ⟨q', e, e2, _⟩ := ok.hotx hh
    rw [e] at hq
    cases hq
    rw [← e2]
    exact h
theorem Ok.vis (ok : Ok G Γ cl W xa X) {i : Nat} {y : Str} (h : Γ.isVar i y = true) : X.N[i]? = some y ∧ Vis X.env.scope y ∧ (y == ("__debug__" : Str)) = false ∧ (y == ("__classdict__" : Str)) = false := by
  unfold Cs.isVar at h
  simp only [Bool.and_eq_true, decide_eq_true_eq, Bool.not_eq_true'] at h
  obtain ⟨h1, h2, h3, h4⟩ := h
  refine ⟨by rw [ok.N]; exact h1, ?_, h3, h4⟩
  rw [ok.sc]
  unfold visK at h2
  unfold Vis
  split at h2
  · rename_i e; exact .inl e
  · rename_i e; exact .inr (.inl e)
  · rename_i e; exact .inr (.inr e)
  · cases h2
theorem Ok.glob (ok : Ok G Γ cl W xa X) {y : Str} (h : Γ.isGlob y = true) : Gl X y ∧ (y == ("__debug__" : Str)) = false ∧ y ≠ "__name__" := by
  unfold Cs.isGlob at h
  simp only [Bool.and_eq_true, decide_eq_true_eq, Bool.not_eq_true'] at h
  obtain ⟨h1, h2, h3⟩ := h
  refine ⟨?_, h2, ?_⟩
  · show X.env.scope.names.lookup y = _
    rw [ok.sc]
    exact h1
  · intro z
    rw [z] at h3
    simp at h3
theorem Ok.tgt (ok : Ok G Γ cl W xa X) {i : Nat} {y : Str} (h : Γ.isTgt i y = true) : X.N[i]? = some y ∧ Loc X.env.scope y ∧ (X.fn y = true ∨ X.env.scope.names.lookup y = some .local) ∧ notXi xa i := by
  unfold Cs.isTgt at h
  simp only [Bool.and_eq_true, decide_eq_true_eq, Bool.not_eq_true', decide_eq_false_iff_not] at h
  obtain ⟨⟨h1, h2⟩, h3⟩ := h
  refine ⟨by rw [ok.N]; exact h1, ?_, ?_, ok.noXi h2⟩
  · rw [ok.sc]
    unfold L2.Loc
    split at h3
    · rename_i e; exact .inl e
    · rename_i e; exact .inr e
    · cases h3
  · rw [ok.sc]
    split at h3
    · rename_i e; exact .inr e
    · refine .inl ?_
      rw [ok.fnc y]
      split at h3
      · rename_i e; first | exact h3 | rw [e]
      · rename_i e; first | exact h3 | (rw [e]; exact h3)
    · cases h3

/-! ### calls -/
theorem pushG {A : Around} {C : Addr} {us : List Value} {kw : List (Str × Value)} (h : A.guards = some []) : (A.under (.builtin "type.__call__" ⟨.ref C :: us, kw⟩)).guards = some [] := by
  simp [Around.under, Code.guards, Code.isGuard, guardIds, pushGuards, h]
theorem call_run {pins : List (Addr × Obj)} {s : Shared} {σ : St} {H : Hp} {us : List Value} {vs : List V} {ts : List T} {hs : Hs} {ρ : Rho} {Q : VK} {f : Nat} (ok : Ok G Γ cl W xa X) (hh : Γ.hot = false) (hf : f < G.D.fns.length)
    (I : Inv X pins σ H s) (r : Vals vs us) (hr : HR G ρ hs H) (rl : RvL G ρ H ts vs) (p : Post G (Rv G) ρ H (fun c d H' => W c d σ H') (cl f ts hs) Q) : wpAny (model X.prog X.w) X.A (call (.ref (G.fa f)) us) (EP X pins σ Q) X.xe s := by
  obtain ⟨hc, hg, _, k, hk, ck⟩ := ok.cool hh
  have e0 := I.env0
  rw [ok.K] at e0
  refine wpAny_call (codeAny_mono (ck.run f X.A X.stack s H us vs ts hs ρ Q _ hf (hk.mono (Nat.le_succ _)) hg e0 r hr rl p) fun res s' hq => ?_)
  cases res with
  | error e => exact ok.tk _ _ (XE.of_call I (fun _ _ _ h => h) hq)
  | ok fl =>
    cases fl with
    | ret u => exact I.after hq
    | next => exact False.elim hq
    | brk => exact False.elim hq
    | cont => exact False.elim hq
/-- what a new instance of the class c is -/
def newR (cl : Cal) (c i : Nat) (ts : List T) (h1 : Hs) : R T := (cl i (.ref h1.length :: ts) (h1 ++ [.ins c []])).bind fun r h2 => match r with
  | .non => .ok (.ref h1.length) h2
  | _ => .bad
theorem new_run {pins : List (Addr × Obj)} {s : Shared} {σ : St} {H : Hp} {us : List Value} {vs : List V} {ts : List T} {hs : Hs} {ρ : Rho} {Q : VK} {c i : Nat} {nm : Str} {fl : List Str} (ok : Ok G Γ cl W xa X) (hh : Γ.hot = false) (hcl : G.D.cls[c]? = some (.plain nm i fl))
    (I : Inv X pins σ H s) (r : Vals vs us) (hr : HR G ρ hs H) (rl : RvL G ρ H ts vs) (p : Post G (Rv G) ρ H (fun c d H' => W c d σ H') (newR cl c i ts hs) Q) : wpAny (model X.prog X.w) X.A (call (.ref (G.ca c)) us) (EP X pins σ Q) X.xe s := by
  obtain ⟨hc, hg, _, k, hk, ck⟩ := ok.cool hh
  obtain ⟨_, M, hi⟩ := ok.pr.new c nm i fl hcl
  have I2 := Inv.made (C := G.ca c) I
  have n1 : H s.heap.objs.size = none := I.hok.fresh (Nat.le_refl _)
  have n2 : H (s.heap.objs.size + 1) = none := I.hok.fresh (Nat.le_succ _)
  have ne : s.heap.objs.size + 1 ≠ s.heap.objs.size := Nat.ne_of_gt (Nat.lt_succ_self _)
  have n3 : upd H s.heap.objs.size (.own (s.heap.objs.size + 1)) (s.heap.objs.size + 1) = none := by rw [upd_ne ne]; exact n2
  have ex : Ext H (upd (upd H s.heap.objs.size (.own (s.heap.objs.size + 1))) (s.heap.objs.size + 1) (.ins (G.ca c) s.heap.objs.size [])) := (ext_upd n1).trans (ext_upd n3)
  have st : Stp ρ H (ρ.push (s.heap.objs.size + 1)) (upd (upd H s.heap.objs.size (.own (s.heap.objs.size + 1))) (s.heap.objs.size + 1) (.ins (G.ca c) s.heap.objs.size [])) := .push n2 ex
  have hr2 := hr.push (u := .ins c []) n2 ex (by simp) ⟨s.heap.objs.size, [], upd_same, rfl⟩
  have rv2 : Rv G (ρ.push (s.heap.objs.size + 1)) (upd (upd H s.heap.objs.size (.own (s.heap.objs.size + 1))) (s.heap.objs.size + 1) (.ins (G.ca c) s.heap.objs.size [])) (.ref hs.length) (.ref (s.heap.objs.size + 1)) := by
    simp only [Rv]
    refine ⟨some (s.heap.objs.size + 1), ?_, fun a e => by cases e; rfl⟩
    show (ρ.l ++ [some (s.heap.objs.size + 1)])[hs.length]? = _
    rw [← hr.len]
    simp
  have rl2 : RvL G (ρ.push (s.heap.objs.size + 1)) (upd (upd H s.heap.objs.size (.own (s.heap.objs.size + 1))) (s.heap.objs.size + 1) (.ins (G.ca c) s.heap.objs.size [])) (.ref hs.length :: ts) (.ref (s.heap.objs.size + 1) :: vs) := by
    simp only [RvL]
    exact ⟨_, _, rfl, rv2, RvL.step hr.Live st _ _ rl⟩
  have q := Post.bind (RA := Rv G) (Post.base st p)
  have e0 := I2.env0.make (G.ca c) us []
  rw [ok.K] at e0
  have MX : Mk X.K (G.ca c) (G.fa i) := by rw [ok.K]; exact M
  refine wpAny_call (make_map (f := G.fa i) I.kIn MX.makes MX.init (beq_iff_eq.mp MX.fn) (codeAny_mono (ck.run i _ X.stack _ _ (.ref (s.heap.objs.size + 1) :: us) (.ref (s.heap.objs.size + 1) :: vs) _ _ _ _ _ hi (hk.make (G.ca c) us []) (pushG hg) e0 (.cons rfl r) hr2 rl2 q) fun res s' hq => ?_))
  cases res with
  | error e => exact ok.tk _ _ (XE.of_call I2 (fun _ _ _ h => h) hq)
  | ok fl =>
    cases fl with
    | ret u =>
      obtain ⟨v, H', I3, rv, ρ', hs', a, st', hr', ra, q3⟩ := I2.after hq
      cases a <;> first | exact q3.elim | skip
      have ev : v = .non := by simpa only [Rv] using ra
      subst ev
      refine ⟨rv, ⟨V.ref (s.heap.objs.size + 1), H', I3, rfl, ?_⟩⟩
      exact q3 ρ' H' _ .refl hr' (Rv.step hr2.Live st' _ _ rv2)
    | next => exact False.elim hq
    | brk => exact False.elim hq
    | cont => exact False.elim hq
/-! ### expressions that call -/
variable {y m : Str} {xs : List Expr} {pos p apos : Pos} {o : Expr} {fl' : En → Hs → R (List T)} {fo : En → Hs → R T}
theorem plain_star {x : Expr} {r : List Expr} {env : Env} (hp : (x :: r).all plainX = true) : starEach (x :: r) env = (false, eval x env) :: starEach r env := by
  simp only [List.all_cons, Bool.and_eq_true] at hp
  exact star_cons hp.1
theorem plain_back {x : Expr} {r : List Expr} {env : Env} {pos : Pos} (hp : (x :: r).all plainX = true) : (backTo pos (starEach r env)).any (·.1) = false := by
  simp only [List.all_cons, Bool.and_eq_true] at hp
  exact back_any hp.2
theorem rvl_nil {ρ : Rho} {H : Hp} : RvL G ρ H [] [] := by simp [RvL]
/-- f(..) -/
theorem pe_callF {f : Nat} {fn : Fn} (ok : Ok G Γ cl W xa X) (hh : Γ.hot = false) (hg : Γ.isGlob y = true) (hf : G.D.fns[f]? = some fn) (hc : fn.cls = none) (hn : fn.nm = y) (hp : xs.all plainX = true) (ha : PA X xs (tL G xa W fl')) (h0 : xs = [] → ∀ env h, fl' env h = .ok [] h) :
    PE X (.Call (.Name y p) xs [] pos) (tV G xa W fun env h => (fl' env h).bind fun ts h1 => cl f ts h1) := by
  refine ⟨fun pins s σ H Q I h => ?_⟩
  obtain ⟨g1, g2, g3⟩ := ok.glob hg
  have hm : X.mg y = some (.ref (G.fa f)) := by rw [← hn]; exact ok.pr.fnv f fn hf hc
  have hk : PySem.W.keepIn X.K (.ref (G.fa f)) = true := by rw [ok.K]; exact ok.pr.keep f fn hf
  have hl : f < G.D.fns.length := (List.getElem?_eq_some_iff.mp hf).1
  obtain ⟨ρ, env, hs, er, hr, q⟩ := h
  have q1 := Post.bind (RA := RvL G) q
  refine wpAny_Call_Name_kw (ld_glob I g1 hm ?_ g2)
  cases xs with
  | nil =>
    refine PySem.W.callWith_K0 I.kIn hk ?_
    change Post G (Rv G) ρ H _ ((fl' env hs).bind _) Q at q
    rw [h0 rfl] at q
    exact call_run (us := []) ok hh hl I .nil hr rvl_nil q
  | cons x r =>
    refine PySem.W.callWith_K (h₀ := X.base) I.ok.mod.kin hk (thn (ha.run pos pins s σ H _ I ⟨ρ, env, hs, er, hr, q1⟩) fun us s1 ⟨vs, H1, I1, r1, ρ1, hs1, ts, st, hr1, rl, q2⟩ => ⟨I1.kIn, ?_⟩) (plain_star hp) (plain_back hp)
    exact call_run ok hh hl I1 r1 hr1 rl q2
/-- C(..) -/
theorem pe_newF {c i : Nat} {fl : List Str} (ok : Ok G Γ cl W xa X) (hh : Γ.hot = false) (hg : Γ.isGlob y = true) (hcl : G.D.cls[c]? = some (.plain y i fl)) (hp : xs.all plainX = true) (ha : PA X xs (tL G xa W fl')) (h0 : xs = [] → ∀ env h, fl' env h = .ok [] h) :
    PE X (.Call (.Name y p) xs [] pos) (tV G xa W fun env h => (fl' env h).bind fun ts h1 => newR cl c i ts h1) := by
  refine ⟨fun pins s σ H Q I h => ?_⟩
  obtain ⟨g1, g2, g3⟩ := ok.glob hg
  obtain ⟨hm, M, hi⟩ := ok.pr.new c y i fl hcl
  have hk : PySem.W.keepIn X.K (.ref (G.ca c)) = true := by rw [ok.K]; exact M.kp
  obtain ⟨ρ, env, hs, er, hr, q⟩ := h
  have q1 := Post.bind (RA := RvL G) q
  refine wpAny_Call_Name_kw (ld_glob I g1 hm ?_ g2)
  cases xs with
  | nil =>
    refine PySem.W.callWith_K0 I.kIn hk ?_
    change Post G (Rv G) ρ H _ ((fl' env hs).bind _) Q at q
    rw [h0 rfl] at q
    exact new_run (us := []) ok hh hcl I .nil hr rvl_nil q
  | cons x r =>
    refine PySem.W.callWith_K (h₀ := X.base) I.ok.mod.kin hk (thn (ha.run pos pins s σ H _ I ⟨ρ, env, hs, er, hr, q1⟩) fun us s1 ⟨vs, H1, I1, r1, ρ1, hs1, ts, st, hr1, rl, q2⟩ => ⟨I1.kIn, ?_⟩) (plain_star hp) (plain_back hp)
    exact new_run ok hh hcl I1 r1 hr1 rl q2
theorem FsR.none_ {ρ : Rho} {H : Hp} {f : Str} : ∀ {fs : List (Str × T)} {ys : List (Str × V)}, FsR G ρ H fs ys → fs.lookup f = none → ys.lookup f = none
  | [], _, h, _ => by cases h; rfl
  | p :: r, _, h, e => by
    obtain ⟨v, ws, rfl, q, z⟩ := h
    rw [List.lookup_cons] at e ⊢
    cases hb : f == p.1 with
    | true => rw [hb] at e; cases e
    | false => rw [hb] at e; exact z.none_ e
theorem FsR.some_ {ρ : Rho} {H : Hp} {f : Str} {t : T} : ∀ {fs : List (Str × T)} {ys : List (Str × V)}, FsR G ρ H fs ys → fs.lookup f = some t → ∃ v, ys.lookup f = some v ∧ Rv G ρ H t v
  | [], _, h, e => by cases e
  | p :: r, _, h, e => by
    obtain ⟨v, ws, rfl, q, z⟩ := h
    rw [List.lookup_cons] at e ⊢
    cases hb : f == p.1 with
    | true =>
      rw [hb] at e
      cases e
      exact ⟨v, rfl, q⟩
    | false => rw [hb] at e; exact z.some_ e
theorem meth_at {f : Nat} {fn : Fn} {h : Hs} {x : T} (hf : G.D.fns[f]? = some fn) (e : methOk G.D h f x = true) : ∃ k c fs, x = .ref k ∧ h[k]? = some (.ins c fs) ∧ fn.cls = some c ∧ fs.lookup fn.nm = none := by
  unfold methOk at e
  split at e
  · rw [hf] at e
    split at e
    · rename_i k c fs fn' hk hfn
      cases hfn
      split at e
      · rename_i c' hc
        simp only [Bool.and_eq_true, decide_eq_true_eq, Option.isNone_iff_eq_none] at e
        obtain ⟨rfl, e2⟩ := e
        exact ⟨_, _, _, rfl, hk, hc, e2⟩
      · cases e
    · cases e
  · cases e
/-- o.m(..) -/
theorem pe_methF {f : Nat} {fn : Fn} (ok : Ok G Γ cl W xa X) (hh : Γ.hot = false) (hf : G.D.fns[f]? = some fn) (hn : fn.nm = m) (hs' : notSup o = true) (hline : (apos.endLine == pos.line) = true) (hlen : xs.length < 20)
    (hp : xs.all plainX = true) (ho : PE X o (tV G xa W fo)) (ha : PA X xs (tL G xa W fl')) (h0 : xs = [] → ∀ env h, fl' env h = .ok [] h) :
    PE X (.Call (.Attribute o m apos) xs [] pos) (tV G xa W fun env h => (fo env h).bind fun x h1 => if methOk G.D h1 f x = true then (fl' env h1).bind fun ts h2 => cl f (x :: ts) h2 else .bad) := by
  refine ⟨fun pins s σ H Q I h => ?_⟩
  have hl : f < G.D.fns.length := (List.getElem?_eq_some_iff.mp hf).1
  obtain ⟨ρ, env, hs, er, hr, q⟩ := h
  have q1 := Post.bind (RA := Rv G) q
  have form : methodCallForm (xs.length + ([] : List Keyword).length) (backTo pos (starEach xs X.env)) (backToKw pos (keywordEach [] X.env)) = true := by
    unfold methodCallForm
    rw [back_all hp]
    show (true && decide (xs.length + 0 + 0 < 30)) = true
    rw [decide_eq_true (by omega)] <;> rfl
  refine PySem.W.methodCall_KW (pl := plainOf o X.env) (thn (ho.run pins s σ H _ I ⟨ρ, env, hs, er, hr, q1⟩) fun u s1 ⟨x, H1, I1, rx, ρ1, hs1, t, st, hr1, rv, q2⟩ => ?_) ?_
  · by_cases hm : methOk G.D hs1 f t = true
    · rw [if_pos hm] at q2
      obtain ⟨k, c, fs, rfl, hk, hc, hno⟩ := meth_at hf hm
      obtain ⟨a, rfl, ha1, dx, ys, ea, fr⟩ := hr1.at_ hk (by simp) rv
      obtain rfl : u = Value.ref a := rx
      obtain ⟨cc, mm⟩ := ok.pr.meth f fn c hf hc
      rw [← ok.K] at cc mm
      rw [hn] at mm hno
      refine getmeth_ok I1 ea cc mm (fr.none_ hno) ?_
      have er1 := er.step hr.Live st
      cases xs with
      | nil =>
        refine PySem.W.callWith_K0 (first := [.ref a]) I1.kIn mm.kp ?_
        rw [h0 rfl] at q2
        exact call_run (us := [.ref a]) (vs := [.ref a]) ok hh hl I1 (.cons (show RelV (.ref a) (.ref a) from rfl) .nil) hr1 (.one rv) q2
      | cons x r =>
        have q3 := Post.bind (RA := RvL G) q2
        refine PySem.W.callWith_K (first := [.ref a]) (h₀ := X.base) I.ok.mod.kin mm.kp (thn (ha.run pos pins s1 σ H1 _ I1 ⟨ρ1, env, hs1, er1, hr1, q3⟩) fun us s2 ⟨vs, H2, I2, r2, ρ2, hs2, ts, st2, hr2, rl, q4⟩ => ⟨I2.kIn, ?_⟩) (plain_star hp) (plain_back hp)
        refine call_run (us := .ref a :: us) (vs := .ref a :: vs) ok hh hl I2 (.cons rfl r2) hr2 ?_ q4
        simp only [RvL]
        exact ⟨_, _, rfl, Rv.step hr1.Live st2 _ _ rv, rl⟩
    · rw [if_neg hm] at q2
      exact q2.elim
  · rw [arm_eval_Call, base_of hs']
    simp only [mcall_line form hline]
end
end Fs
end

section
set_option Elab.async false
set_option linter.all false
set_option maxRecDepth 100000
/-! Fs7: the rules of the other expressions. -/
namespace Fs
open PySem L2
section
variable {G : Gx} {Γ : Cs} {cl : Cal} {W : WX} {xa : Option Xa} {X : Cx} {x a b c : Expr} {xs : List Expr} {pos p : Pos} {y m f : Str} {fa fb fc : En → Hs → R T} {fk : En → Hs → R Bool} {fl' : En → Hs → R (List T)} {ga gb : En → Hs → R Bool}
/-- a value as a test -/
theorem pt_ofV (eK : X.K = G.K) (h : PE X x (tV G xa W fa)) (he : ∀ whole, isTrue x X.env whole = (do let v ← whole; standAt x.pos; holding [v] (truthy v))) : PT X x (tK G xa W fun env h => (fa env h).bind fun v h1 => R.ofO (truT h1 v) h1) := by
  refine pt_imp (pt_truth h he) fun σ H Q q => ?_
  obtain ⟨ρ, env, hs, er, hr, p⟩ := q
  refine tV_bind er hr p fun ρ1 hs1 H1 t v er1 hr1 rv st p1 => ?_
  obtain ⟨k, e, z⟩ := Post.ofO p1
  exact ⟨k, by rw [eK]; exact truV_of hr1 rv e, z ρ1 H1 k .refl hr1 rfl⟩
theorem pe_ofC {t : T} {v : V} (h : PE X x (tC v)) (hv : ∀ ρ H, Rv G ρ H t v) : PE X x (tV G xa W fun _ h => .ok t h) :=
  pe_imp h fun σ H Q q => by
    obtain ⟨ρ, env, hs, er, hr, p⟩ := q
    exact p ρ H v .refl hr (hv ρ H)
theorem pe_varF (ok : Ok G Γ cl W xa X) {i : Nat} (h : Γ.isVar i y = true) : PE X (.Name y pos) (tV G xa W fun env h => match env[i]? with
    | some (some t) => .ok t h
    | _ => .bad) := by
  obtain ⟨h1, h2, h3, h4⟩ := ok.vis h
  refine pe_imp (pe_var h1 h2 h3 h4) fun σ H Q q => ?_
  obtain ⟨ρ, env, hs, er, hr, p⟩ := q
  change Post G (Rv G) ρ H _ (match env[i]? with
    | some (some t) => .ok t hs
    | _ => .bad) Q at p
  split at p
  · rename_i t e
    obtain ⟨v, e1, rv⟩ := er.at_ i t e
    exact ⟨v, e1, p ρ H v .refl hr rv⟩
  · exact p.elim
/-- f(..), f a name of this body's own that holds a def -/
theorem pe_callVF {i : Nat} {e : Expr} {es : List Expr} {fl' : En → Hs → R (List T)} {p : Pos} (ok : Ok G Γ cl W xa X) (hh : Γ.hot = false) (h : Γ.isVar i y = true) (hp : (e :: es).all plainX = true) (ha : PA X (e :: es) (tL G xa W fl')) :
    PE X (.Call (.Name y p) (e :: es) [] pos) (tV G xa W fun env h => match env[i]? with
      | some (some (.fn f)) => if f < G.D.fns.length then (fl' env h).bind fun ts h1 => cl f ts h1 else .bad
      | _ => .bad) := by
  obtain ⟨h1, h2, h3, h4⟩ := ok.vis h
  refine ⟨fun pins s σ H Q I q => ?_⟩
  obtain ⟨ρ, env, hs, er, hr, q⟩ := q
  change Post G (Rv G) ρ H _ (match env[i]? with
      | some (some (.fn f)) => if f < G.D.fns.length then (fl' env hs).bind fun ts h1 => cl f ts h1 else .bad
      | _ => .bad) Q at q
  split at q
  · rename_i f ef
    split at q
    · rename_i hf
      obtain ⟨v, e1, rv⟩ := er.at_ i _ ef
      have ev : v = .ref (G.fa f) := by simpa only [Rv] using rv
      subst ev
      have hk : PySem.W.keepIn X.K (.ref (G.fa f)) = true := by rw [ok.K]; exact ok.pr.keep f _ (List.getElem?_eq_getElem hf)
      have q1 := Post.bind (RA := RvL G) q
      refine wpAny_Call_Name_kw (thn ((pe_var (pos := p) h1 h2 h3 h4).run pins s σ H (fun v H1 => v = .ref (G.fa f) ∧ H1 = H) I ⟨.ref (G.fa f), e1, rfl, rfl⟩) fun u s1 ⟨v, H1, I1, r1, q2⟩ => ?_)
      obtain ⟨rfl, rfl⟩ := q2
      cases r1
      refine PySem.W.callWith_K (h₀ := X.base) I.ok.mod.kin hk (thn (ha.run pos pins s1 σ _ _ I1 ⟨ρ, env, hs, er, hr, q1⟩) fun us s2 ⟨vs, H2, I2, r2, ρ1, hs1, ts, st, hr1, rl, q3⟩ => ⟨I2.kIn, ?_⟩) (plain_star hp) (plain_back hp)
      exact call_run ok hh hf I2 r2 hr1 rl q3
    · exact q.elim
  · exact q.elim
theorem pe_globF (ok : Ok G Γ cl W xa X) {g : Nat} {q : Str × T} (hg : Γ.isGlob y = true) (hq : G.D.cns[g]? = some q) (hn : q.1 = y) : PE X (.Name y pos) (tV G xa W fun _ h => R.ofO (G.D.cns[g]?.map (·.2)) h) := by
  obtain ⟨g1, g2, g3⟩ := ok.glob hg
  obtain ⟨v, u, hm, r, k⟩ := ok.pr.cns g q hq
  rw [hn] at hm
  refine pe_imp (pe_glob g1 hm r g2) fun σ H Q q' => ?_
  obtain ⟨ρ, env, hs, er, hr, p⟩ := q'
  rw [hq] at p
  exact p ρ H v .refl hr (k ρ hs H hr)
theorem pe_fnvF (ok : Ok G Γ cl W xa X) {f : Nat} {fn : Fn} (hg : Γ.isGlob y = true) (hf : G.D.fns[f]? = some fn) (hc : fn.cls = none) (hn : fn.nm = y) : PE X (.Name y pos) (tV G xa W fun _ h => .ok (.fn f) h) := by
  obtain ⟨g1, g2, g3⟩ := ok.glob hg
  have hm : X.mg y = some (.ref (G.fa f)) := by rw [← hn]; exact ok.pr.fnv f fn hf hc
  exact pe_ofC (pe_glob (v := .ref (G.fa f)) g1 hm rfl g2) fun ρ H => by simp only [Rv]
theorem pe_binF (eK : X.K = G.K) {o : Bk} {op : Operator} (ho : okB o op = true) (ha : PE X a (tV G xa W fa)) (hb : PE X b (tV G xa W fb)) :
    PE X (.BinOp a op b pos) (tV G xa W fun env h => (fa env h).bind fun x h1 => (fb env h1).bind fun y h2 => R.ofO (binT o x y) h2) :=
  pe_imp (pe_op (opr_bin eK ho) ha hb) fun σ H Q q => tOp_of q
theorem pe_negF (ha : PE X a (tV G xa W fa)) : PE X (.UnaryOp .USub a pos) (tV G xa W fun env h => (fa env h).bind fun x h1 => R.ofO ((intT x).map fun i => .int (-i)) h1) :=
  pe_imp (pe_un un_negT ha) fun σ H Q q => tUn_of q
theorem pe_notF (eK : X.K = G.K) (ha : PE X a (tV G xa W fa)) : PE X (.UnaryOp .Not a pos) (tV G xa W fun env h => (fa env h).bind fun x h1 => R.ofO ((truT h1 x).map fun b => .bl (!b)) h1) :=
  pe_imp (pe_notT ha) fun σ H Q q => by
    obtain ⟨ρ, env, hs, er, hr, p⟩ := q
    refine tV_bind er hr p fun ρ1 hs1 H1 t v er1 hr1 rv st p1 => ?_
    obtain ⟨z, e, z2⟩ := Post.ofO p1
    obtain ⟨k, e', rfl⟩ := opt_map e
    exact ⟨k, by rw [eK]; exact truV_of hr1 rv e', z2 ρ1 H1 _ .refl hr1 rv_bl⟩
theorem pt_notF (ha : PT X a (tK G xa W fk)) : PT X (.UnaryOp .Not a pos) (tK G xa W fun env h => (fk env h).bind fun b h1 => .ok (!b) h1) :=
  pt_imp (pt_not ha) fun σ H Q q => by
    obtain ⟨ρ, env, hs, er, hr, p⟩ := q
    exact tK_bind er hr p fun ρ1 hs1 H1 k er1 hr1 st p1 => p1 ρ1 H1 _ .refl hr1 rfl
theorem cmp_eq {o : Ck} (env : En) (h : Hs) : (((fa env h).bind fun x h1 => (fb env h1).bind fun y h2 => R.ofO (cmpT o h2 x y) h2).bind fun b h1 => (.ok (.bl b) h1 : R T)) =
    (fa env h).bind fun x h1 => (fb env h1).bind fun y h2 => R.ofO ((cmpT o h2 x y).map T.bl) h2 := by
  simp only [R.bind_assoc, R.ofO_map]
theorem tV_congr {f g : En → Hs → R T} (h : ∀ env hs, f env hs = g env hs) : tV G xa W f = tV G xa W g := by
  have : f = g := funext fun _ => funext fun _ => h _ _
  rw [this]
theorem pe_cmpF (eK : X.K = G.K) (hu : X.A.units + 65 < cLine) {o : Ck} {op : CmpOp} (ho : okC o op = true) (hp : plainX b = true) (ha : PE X a (tV G xa W fa)) (hb : PE X b (tV G xa W fb)) :
    PE X (.Compare a [op] [b] pos) (tV G xa W fun env h => ((fa env h).bind fun x h1 => (fb env h1).bind fun y h2 => R.ofO (cmpT o h2 x y) h2).bind fun b h1 => .ok (.bl b) h1) := by
  rw [tV_congr fun env h => cmp_eq env h]
  exact pe_imp (pe_cmpR (opr_cmp eK hu ho) ha hb (marks_of op hp)) fun σ H Q q => tOp_of q
theorem pt_cmpF (eK : X.K = G.K) (hu : X.A.units + 65 < cLine) {o : Ck} {op : CmpOp} (ho : okC o op = true) (hp : plainX b = true) (ha : PE X a (tV G xa W fa)) (hb : PE X b (tV G xa W fb)) :
    PT X (.Compare a [op] [b] pos) (tK G xa W fun env h => (fa env h).bind fun x h1 => (fb env h1).bind fun y h2 => R.ofO (cmpT o h2 x y) h2) :=
  pt_imp (pt_cmpR (opr_cmp eK hu ho) ha hb (marks_of op hp)) fun σ H Q q => by
    have z := tK_val q
    rw [tV_congr fun env h => cmp_eq env h] at z
    exact tOp_of z
/-- a chain -/
theorem tChain_of {o o2 : Ck} {σ : St} {H : Hp} {Q : VK} (h : tV G xa W (fun env h => ((fa env h).bind fun x h1 => (fb env h1).bind fun y h2 => (R.ofO (cmpT o h2 x y) h2).bind fun k h3 =>
      if k = true then (fc env h3).bind fun z h4 => R.ofO (cmpT o2 h4 y z) h4 else .ok false h3).bind fun b h1 => .ok (.bl b) h1) σ H Q) :
    tChain (rG2 G fun hs x y => (cmpT o hs x y).map T.bl) (rG2 G fun hs x y => (cmpT o2 hs x y).map T.bl) (tV G xa W fa) (tV G xa W fb) (tV G xa W fc) σ H Q := by
  obtain ⟨ρ, env, hs, er, hr, p⟩ := h
  simp only [R.bind_assoc] at p
  refine tV_bind er hr p fun ρ1 hs1 H1 t x er1 hr1 rx _ p1 => ?_
  refine tV_bind er1 hr1 p1 fun ρ2 hs2 H2 u y er2 hr2 ry st p2 => ?_
  cases e : cmpT o hs2 t u with
  | none => rw [e] at p2; exact p2.elim
  | some k =>
    rw [e] at p2
    refine ⟨ρ2, hs2, t, u, .bl k, hr2, Rv.step hr1.Live st _ _ rx, ry, by show (cmpT o hs2 t u).map T.bl = _; rw [e]; rfl, fun ρ3 H3 v st3 hr3 rv3 => ?_⟩
    refine ⟨k, by simpa only [Rv] using rv3, ?_⟩
    have p3 := Post.base st3 p2
    cases k with
    | false =>
      rw [if_neg (by decide)]
      exact p3 ρ3 H3 _ .refl hr3 rv_bl
    | true =>
      rw [if_pos rfl]
      change Post G (Rv G) ρ3 H3 _ (((fc env hs2).bind _).bind _) Q at p3
      rw [R.bind_assoc] at p3
      refine tV_bind (er2.step hr2.Live st3) hr3 p3 fun ρ4 hs4 H4 w z er4 hr4 rz st4 p4 => ?_
      have p4' : Post G (Rv G) ρ4 H4 (fun c d H2 => W c d σ H2) (R.ofO ((cmpT o2 hs4 u w).map T.bl) hs4) Q := by
        rw [← R.ofO_map]
        exact p4
      obtain ⟨q, e2, k2⟩ := Post.ofO p4'
      exact ⟨ρ4, hs4, u, w, q, hr4, Rv.step hr3.Live st4 _ _ (Rv.step hr2.Live st3 _ _ ry), rz, e2, k2⟩
theorem last_marks {op op2 : CmpOp} (h : plainX c = true) : lastMarks [op, op2] [b, c] = false := marks_of op2 h
theorem pe_cmp2F (eK : X.K = G.K) (hu : X.A.units + 65 < cLine) {o o2 : Ck} {op op2 : CmpOp} (ho : okC o op = true) (ho2 : okC o2 op2 = true) (hp : plainX c = true) (ha : PE X a (tV G xa W fa)) (hb : PE X b (tV G xa W fb)) (hc : PE X c (tV G xa W fc)) :
    PE X (.Compare a [op, op2] [b, c] pos) (tV G xa W fun env h => ((fa env h).bind fun x h1 => (fb env h1).bind fun y h2 => (R.ofO (cmpT o h2 x y) h2).bind fun k h3 =>
      if k = true then (fc env h3).bind fun z h4 => R.ofO (cmpT o2 h4 y z) h4 else .ok false h3).bind fun b h1 => .ok (.bl b) h1) :=
  pe_imp (pe_chain (opr_cmp eK hu ho) (opr_cmp eK hu ho2) ha hb hc (last_marks hp)) fun σ H Q q => tChain_of q
theorem pt_cmp2F (eK : X.K = G.K) (hu : X.A.units + 65 < cLine) {o o2 : Ck} {op op2 : CmpOp} (ho : okC o op = true) (ho2 : okC o2 op2 = true) (hp : plainX c = true) (ha : PE X a (tV G xa W fa)) (hb : PE X b (tV G xa W fb)) (hc : PE X c (tV G xa W fc)) :
    PT X (.Compare a [op, op2] [b, c] pos) (tK G xa W fun env h => (fa env h).bind fun x h1 => (fb env h1).bind fun y h2 => (R.ofO (cmpT o h2 x y) h2).bind fun k h3 =>
      if k = true then (fc env h3).bind fun z h4 => R.ofO (cmpT o2 h4 y z) h4 else .ok false h3) :=
  pt_imp (pt_chain (opr_cmp eK hu ho) (opr_cmp eK hu ho2) ha hb hc (last_marks hp)) fun σ H Q q => tChain_of (tK_val q)
theorem pe_iteF (hc : PT X c (tK G xa W fk)) (ha : PE X a (tV G xa W fa)) (hb : PE X b (tV G xa W fb)) : PE X (.IfExp c a b pos) (tV G xa W fun env h => (fk env h).bind fun k h1 => if k = true then fa env h1 else fb env h1) :=
  pe_imp (pe_ifExp hc ha hb) fun σ H Q q => by
    obtain ⟨ρ, env, hs, er, hr, p⟩ := q
    refine tK_bind er hr p fun ρ1 hs1 H1 k er1 hr1 st p1 => ?_
    cases k with
    | true => rw [if_pos rfl] at p1 ⊢; exact tV_of er1 hr1 p1
    | false => rw [if_neg (by decide)] at p1 ⊢; exact tV_of er1 hr1 p1
theorem pt_iteF (hc : PT X c (tK G xa W fk)) (ha : PT X a (tK G xa W ga)) (hb : PT X b (tK G xa W gb)) : PT X (.IfExp c a b pos) (tK G xa W fun env h => (fk env h).bind fun k h1 => if k = true then ga env h1 else gb env h1) := by
  refine ⟨fun pins s σ H Q I q => ?_⟩
  obtain ⟨ρ, env, hs, er, hr, p⟩ := q
  rw [arm_isTrue_IfExp]
  have q1 : tK G xa W fk σ H fun k H1 => ∃ ρ1 hs1, EnR G xa ρ1 H1 env σ ∧ HR G ρ1 hs1 H1 ∧ Post G RBo ρ1 H1 (fun c d H2 => W c d σ H2) (if k = true then ga env hs1 else gb env hs1) Q :=
    tK_bind er hr p fun ρ1 hs1 H1 k er1 hr1 st p1 => ⟨ρ1, hs1, er1, hr1, p1⟩
  refine wpAny_bind (thn (hc.run pins s σ H _ I q1) fun k s1 ⟨H1, I1, ρ1, hs1, er1, hr1, p1⟩ => ?_)
  cases k with
  | true => rw [if_pos rfl] at p1 ⊢; exact ha.run pins s1 σ H1 Q I1 ⟨ρ1, env, hs1, er1, hr1, p1⟩
  | false => rw [if_neg (by decide)] at p1 ⊢; exact hb.run pins s1 σ H1 Q I1 ⟨ρ1, env, hs1, er1, hr1, p1⟩
/-! ### displays -/
theorem pa_nilF : PA X [] (tL G xa W fun _ h => .ok [] h) := pa_imp pa_nil fun σ H Q q => by
  obtain ⟨ρ, env, hs, er, hr, p⟩ := q
  exact p ρ H [] .refl hr rvl_nil
theorem pa_consF (hp : plainX x = true) (ha : PE X x (tV G xa W fa)) (hr' : PA X xs (tL G xa W fl')) : PA X (x :: xs) (tL G xa W fun env h => (fa env h).bind fun y h1 => (fl' env h1).bind fun ys h2 => .ok (y :: ys) h2) :=
  pa_imp (pa_cons ha hr' (star_cons hp)) fun σ H Q q => by
    obtain ⟨ρ, env, hs, er, hr, p⟩ := q
    refine tV_bind er hr p fun ρ1 hs1 H1 t v er1 hr1 rv _ p1 => ?_
    refine tL_bind er1 hr1 p1 fun ρ2 hs2 H2 ts vs er2 hr2 rl st p2 => ?_
    refine p2 ρ2 H2 _ .refl hr2 ?_
    simp only [RvL]
    exact ⟨_, _, rfl, Rv.step hr1.Live st _ _ rv, rl⟩
theorem pe_tupF {k : Nat} (h : PA X xs (tL G xa W fl')) : PE X (.Tuple xs k pos) (tV G xa W fun env h => (fl' env h).bind fun ts h1 => if ts.length ≤ lim then .ok (.tup ts) h1 else .bad) :=
  pe_imp (pe_tup h) fun σ H Q q => by
    obtain ⟨ρ, env, hs, er, hr, p⟩ := q
    refine tL_bind er hr p fun ρ1 hs1 H1 ts vs er1 hr1 rl _ p1 => ?_
    split at p1
    · rename_i hl
      refine ⟨by rw [rl.len]; exact lim_line hl, fun q hq => ?_⟩
      exact p1 ρ1 _ _ (.ext (ext_upd hq)) (hr1.ext (ext_upd hq)) (rv_newT hr1 hq rl)
    · exact p1.elim
theorem pe_lstIF (h : PA X xs (tL G xa W fl')) : PE X (.List xs pos) (tV G xa W fun env h => (fl' env h).bind fun ts h1 => if ts.length ≤ lim then .ok (.lst ts) h1 else .bad) :=
  pe_imp (pe_lst h) fun σ H Q q => by
    obtain ⟨ρ, env, hs, er, hr, p⟩ := q
    refine tL_bind er hr p fun ρ1 hs1 H1 ts vs er1 hr1 rl _ p1 => ?_
    split at p1
    · rename_i hl
      refine ⟨by rw [rl.len]; exact lim_line hl, fun q hq => ?_⟩
      exact p1 ρ1 _ _ (.ext (ext_upd hq)) (hr1.ext (ext_upd hq)) (rv_newL hr1 hq rl)
    · exact p1.elim
/-- a new list that may change gets a number -/
theorem push_lst {ρ : Rho} {H : Hp} {hs : Hs} {ts : List T} {vs : List V} {q : Addr} (hr : HR G ρ hs H) (hq : H q = none) (rl : RvL G ρ H ts vs) :
    Stp ρ H (ρ.push q) (upd H q (.lst vs)) ∧ HR G (ρ.push q) (hs ++ [.lst ts]) (upd H q (.lst vs)) ∧ Rv G (ρ.push q) (upd H q (.lst vs)) (.ref hs.length) (.ref q) := by
  have st : Stp ρ H (ρ.push q) (upd H q (.lst vs)) := .push hq (ext_upd hq)
  refine ⟨st, hr.push hq (ext_upd hq) (by simp) ⟨vs, upd_same, RvL.step hr.Live st _ _ rl⟩, ?_⟩
  simp only [Rv]
  refine ⟨some q, ?_, fun a e => by cases e; rfl⟩
  show (ρ.l ++ [some q])[hs.length]? = _
  rw [← hr.len]
  simp
theorem pe_lstMF (h : PA X xs (tL G xa W fl')) : PE X (.List xs pos) (tV G xa W fun env h => (fl' env h).bind fun ts h1 => if ts.length ≤ lim then .ok (.ref h1.length) (h1 ++ [.lst ts]) else .bad) :=
  pe_imp (pe_lst h) fun σ H Q q => by
    obtain ⟨ρ, env, hs, er, hr, p⟩ := q
    refine tL_bind er hr p fun ρ1 hs1 H1 ts vs er1 hr1 rl _ p1 => ?_
    split at p1
    · rename_i hl
      refine ⟨by rw [rl.len]; exact lim_line hl, fun q hq => ?_⟩
      obtain ⟨z1, z2, z3⟩ := push_lst hr1 hq rl
      exact p1 _ _ _ z1 z2 z3
    · exact p1.elim
/-! ### subscripts, fields -/
theorem pe_ixF (eK : X.K = G.K) (hp : plainX b = true) (ha : PE X a (tV G xa W fa)) (hb : PE X b (tV G xa W fb)) : PE X (.Subscript a b pos) (tV G xa W fun env h => (fa env h).bind fun x h1 => (fb env h1).bind fun y h2 => R.ofO (ixT h2 x y) h2) :=
  pe_imp (pe_ix (ixr eK) ha hb (plainIx_of hp)) fun σ H Q q => tOp_of q
def rPart (G : Gx) : Rho → Hp → Option Int → Option Int → Prop := fun _ _ a b => a = b
def tP (G : Gx) (xa : Option Xa) (W : WX) (f : En → Hs → R (Option Int)) : TO := fun σ H Q => ∃ ρ env hs, EnR G xa ρ H env σ ∧ HR G ρ hs H ∧ Post G (rPart G) ρ H (fun c d H' => W c d σ H') (f env hs) Q
theorem po_imp {o : Option Expr} {t t' : TO} (h : PO X o t) (i : ∀ σ H Q, t' σ H Q → t σ H Q) : PO X o t' := ⟨fun pins s σ H Q I q => h.run pins s σ H Q I (i σ H Q q)⟩
theorem po_noneF : PO X none (tP G xa W fun _ h => .ok none h) := po_imp po_none fun σ H Q q => by
  obtain ⟨ρ, env, hs, er, hr, p⟩ := q
  exact p ρ H none .refl hr rfl
theorem po_someF (h : PE X x (tV G xa W fa)) : PO X (some x) (tP G xa W fun env h => (fa env h).bind fun y h2 => R.ofO ((intT y).map some) h2) := po_imp (po_some h) fun σ H Q q => by
  obtain ⟨ρ, env, hs, er, hr, p⟩ := q
  refine tV_bind er hr p fun ρ1 hs1 H1 t v er1 hr1 rv _ p1 => ?_
  obtain ⟨z, e, k⟩ := Post.ofO p1
  obtain ⟨i, e', rfl⟩ := opt_map e
  exact ⟨i, intT_of e' rv, k ρ1 H1 _ .refl hr1 rfl⟩
theorem pe_slF (eK : X.K = G.K) {lo hi : Option Expr} {p2 : Pos} {fl fh : En → Hs → R (Option Int)} (ha : PE X a (tV G xa W fa)) (hl : PO X lo (tP G xa W fl)) (hh : PO X hi (tP G xa W fh)) :
    PE X (.Subscript a (.Slice lo hi none p2) pos) (tV G xa W fun env h => (fa env h).bind fun x h1 => (fl env h1).bind fun l h2 => (fh env h2).bind fun u h3 => R.ofO (slT x l u) h3) :=
  pe_imp (pe_slice (slr eK) ha hl hh) fun σ H Q q => by
    obtain ⟨ρ, env, hs, er, hr, p⟩ := q
    refine tV_bind er hr p fun ρ1 hs1 H1 t v er1 hr1 rv _ p1 => ?_
    refine ⟨ρ1, env, hs1, er1, hr1, Post.mono (fun l H2 ⟨ρ2, hs2, l', st2, hr2, el, p2⟩ => ?_) (Post.bind (RA := rPart G) p1)⟩
    have el' : l' = l := el
    subst el'
    refine ⟨ρ2, env, hs2, er1.step hr1.Live st2, hr2, Post.mono (fun u H3 ⟨ρ3, hs3, u', st3, hr3, eu, p3⟩ => ?_) (Post.bind (RA := rPart G) p2)⟩
    have eu' : u' = u := eu
    subst eu'
    obtain ⟨z, e, k⟩ := Post.ofO p3
    exact ⟨ρ3, hs3, t, z, hr3, Rv.step hr2.Live st3 _ _ (Rv.step hr1.Live st2 _ _ rv), e, k⟩
theorem pe_attrF (ok : Ok G Γ cl W xa X) (hs' : notSup a = true) (ha : PE X a (tV G xa W fa)) : PE X (.Attribute a f pos) (tV G xa W fun env h => (fa env h).bind fun x h1 => R.ofO (fieldOf G.D h1 x f) h1) :=
  pe_imp (pe_fld ha (base_of hs')) fun σ H Q q => by
    obtain ⟨ρ, env, hs, er, hr, p⟩ := q
    refine tV_bind er hr p fun ρ1 hs1 H1 t v er1 hr1 rv _ p1 => ?_
    obtain ⟨z, e, k⟩ := Post.ofO p1
    unfold fieldOf at e
    split at e
    · rename_i n
      split at e
      · rename_i c fs en
        split at e
        · rename_i hf
          obtain ⟨a, rfl, _, dx, ys, ea, fr⟩ := hr1.at_ en (by simp) rv
          obtain ⟨w, e1, rw'⟩ := fr.some_ e
          obtain ⟨c1, c2⟩ := ok.pr.flds c f hf
          rw [← ok.K] at c1 c2
          exact ⟨a, _, dx, ys, w, rfl, ea, c1, c2, e1, k ρ1 H1 w .refl hr1 rw'⟩
        · cases e
      · cases e
    · cases e
theorem RvF.get {ρ : Rho} {H : Hp} {t : T} : ∀ {fl : List Str} {ts : List T} {fs : List (Str × V)}, RvF G ρ H fl ts fs → (fl.zip ts).lookup f = some t → f ∈ fl ∧ ∃ v, fs.lookup f = some v ∧ Rv G ρ H t v
  | [], _, _, _, e => by cases e
  | _ :: _, [], _, _, e => by cases e
  | g :: fl, u :: ts, fs, h, e => by
    simp only [RvF] at h
    obtain ⟨⟨v, e1, q⟩, r⟩ := h
    rw [List.zip_cons_cons, List.lookup_cons] at e
    cases hb : f == g with
    | true =>
      rw [hb] at e
      cases e
      have eg : f = g := by simpa using hb
      subst eg
      exact ⟨List.mem_cons_self, v, e1, q⟩
    | false =>
      rw [hb] at e
      obtain ⟨h1, h2⟩ := RvF.get r e
      exact ⟨List.mem_cons_of_mem _ h1, h2⟩
/-- a field of the exception at hand -/
theorem pe_exfF (ok : Ok G Γ cl W xa X) (hh : Γ.hot = true) {i : Nat} (hx : Γ.xi = some i) (hv : Γ.isVar i y = true) (hs' : notSup (.Name y p) = true) : PE X (.Attribute (.Name y p) f pos) (tV G xa W fun _ h => cl 0 [.str f] h) := by
  refine ⟨fun pins s σ H Q I q => ?_⟩
  obtain ⟨ρ, env, hs, er, hr, z⟩ := q
  obtain ⟨q, hq, hi, hcl, oe, vs, hp, hz, hd⟩ := ok.hotx hh
  obtain ⟨h1, h2, h3, h4⟩ := ok.vis hv
  obtain ⟨x1, x2⟩ := er.xao q hq
  have x1 := x1 i (by rw [← hi]; exact hx) (by rw [I.len]; exact (List.getElem?_eq_some_iff.mp h1).1)
  rw [hcl] at z
  unfold xCal at z
  dsimp only at z
  split at z
  · rename_i nm fl up hc
    obtain ⟨t, e, k⟩ := Post.ofO z
    have efl : G.fl q.c = fl := by unfold Gx.fl; rw [hc]
    rw [efl] at x2
    rcases x2 with x2 | ⟨dd, fs, ed, ea, rf⟩
    · rw [x2] at e; cases e
    · obtain ⟨hm, v, ev, rv⟩ := rf.get e
      obtain ⟨T1, T2⟩ := ok.pr.exc q.c nm fl up hc
      rw [← ok.K] at T1
      have hno := T2 f hm
      rw [← ok.K] at hno
      refine attr_of (base_of hs') (thn ((pe_var h1 h2 h3 h4).run pins s σ H (fun v H1 => v = .ref q.a ∧ H1 = H) I ⟨_, x1, rfl, rfl⟩) fun u s1 hu => ?_)
      obtain ⟨v', H1, I1, rx, e1, e2⟩ := hu
      subst e1 e2
      obtain rfl : u = Value.ref q.a := rx
      obtain ⟨ha, _⟩ := I1.pin (q.a, oe) (List.mem_append_left _ hp)
      have hx : ObjOk X.prog X.w H1 s1.heap dd (.xd fs) := I1.hok dd _ ea
      obtain ⟨mA, hns, hrr⟩ := hx
      obtain ⟨od, ho, hl⟩ := lookIn_ns hns
      obtain ⟨u, hu, ru⟩ := RelO.some_of (v := v) (o := mA f) (by rw [← ev]; exact hrr f)
      have J : PySem.W.InstAt s1.heap q.a oe (G.ca q.c) (some od) := ⟨ha, hz.1, by unfold PySem.W.notCls; rw [hd] <;> rfl, by rw [hz.2, ed]; exact ho⟩
      exact HandSPX.exc_get I1.kIn J T1.ga T1.gg T1.exC (PySem.W.findObj_own T1.hdC hno rfl (by rw [hl, hu])) (handed_of ru) ⟨v, H1, I1.tok _, ru, k ρ H1 v .refl hr rv⟩
  · exact z.elim
end
end Fs
end

section
set_option Elab.async false
set_option linter.all false
set_option maxRecDepth 100000
/-! Fs8: built-in calls, formatted texts, and / or, iteration, comprehensions. -/
namespace Fs
open PySem L2
section
variable {G : Gx} {Γ : Cs} {cl : Cal} {W : WX} {xa : Option Xa} {X : Cx} {x a b c o : Expr} {xs r : List Expr} {pos p apos : Pos} {y m f : Str} {fa fb fc fo : En → Hs → R T} {fk : En → Hs → R Bool} {fl' : En → Hs → R (List T)} {ga gb : En → Hs → R Bool}
theorem hot_or (ok : Ok G Γ cl W xa X) {h : Bool} (hh : (h || !Γ.hot) = true) : (h = true ∨ X.calm = true) ∧ (h = true ∨ X.A.guards = some []) := by
  cases h with
  | true => exact ⟨.inl rfl, .inl rfl⟩
  | false =>
    have : Γ.hot = false := by simpa using hh
    obtain ⟨h1, h2, _⟩ := ok.cool this
    exact ⟨.inr h1, .inr h2⟩
theorem units64 (ok : Ok G Γ cl W xa X) : X.A.units + 65 < cLine := by have := ok.units; omega
/-- b(e, ..) of a built-in function or type -/
theorem pe_biF {bi : Bi} (ok : Ok G Γ cl W xa X) (hn : notIsi bi = true) (hh : (biHot bi || !Γ.hot) = true) (hg : Γ.isGlob (biNm bi) = true) (hp : (x :: r).all plainX = true) (ha : PA X (x :: r) (tL G xa W fl')) :
    PE X (.Call (.Name (biNm bi) p) (x :: r) [] pos) (tV G xa W fun env h => (fl' env h).bind fun ts h1 => R.ofO (biT bi h1 ts) h1) := by
  obtain ⟨g1, g2, g3⟩ := ok.glob hg
  obtain ⟨h1, h2⟩ := hot_or ok hh
  have hm := ok.pr.bn bi
  have cr := crB (G := G) ok.K hn h1 h2 (by have := ok.units; omega)
  have e1 := plain_star (env := X.env) hp
  have e2 := plain_back (env := X.env) (pos := pos) hp
  have key : PE X (.Call (.Name (biNm bi) p) (x :: r) [] pos) (tCB (rGL G fun hs ts => biT bi hs ts) (tL G xa W fl')) := by
    cases bi <;> first
      | exact pe_callB cr g1 hm rfl ha g3 g2 e1 e2
      | exact pe_callTy cr g1 hm rfl ha g3 g2 e1 e2
      | cases hn
  exact pe_imp key fun σ H Q q => tCB_of q
/-- isinstance(e, T) -/
theorem pe_isiF {k : Kd} (ok : Ok G Γ cl W xa X) (hn : k ≠ .non) (hg : Γ.isGlob "isinstance" = true) (hg2 : Γ.isGlob (kdNm k) = true) (hp : plainX a = true) (ha : PE X a (tV G xa W fa)) :
    PE X (.Call (.Name "isinstance" p) [a, .Name (kdNm k) apos] [] pos) (tV G xa W fun env h => (fa env h).bind fun x h1 => R.ofO (biT (.isinst k) h1 [x]) h1) := by
  obtain ⟨g1, g2, g3⟩ := ok.glob hg
  obtain ⟨k1, k2, k3⟩ := ok.glob hg2
  have hm : X.mg "isinstance" = none := ok.pr.bn (.isinst k)
  have hk := ok.pr.kn k
  have pn : PE X (.Name (kdNm k) apos) (tC (.ty (tyNm k))) := by
    cases k <;> first
      | exact pe_bltn k1 hk rfl rfl k3 k2
      | exact (hn rfl).elim
  refine pe_imp (pe_callB call_isi g1 hm rfl (pa_cons ha (pa_cons pn pa_nil rfl) (star_cons hp)) g3 g2 (star_cons hp) rfl) fun σ H Q q => ?_
  obtain ⟨ρ, env, hs, er, hr, p⟩ := q
  refine tV_bind er hr p fun ρ1 hs1 H1 t v er1 hr1 rv st p1 => ?_
  obtain ⟨z, e, z2⟩ := Post.ofO p1
  simp only [biT, one, Option.bind_some] at e
  obtain ⟨kk, e', rfl⟩ := opt_map e
  refine ⟨v, .ty (tyNm k), _, _, _, rfl, .ty _, by rw [ok.K]; exact kind_of hr1 e' rv, ?_, z2 ρ1 H1 _ .refl hr1 rv_bl⟩
  exact kit_kd kk k
/-- o.m(e, ..) of a list, a text -/
theorem pe_bmF {bm : Bm} (ok : Ok G Γ cl W xa X) (hk : okM bm = true) (hs' : notSup o = true) (hline : (apos.endLine == pos.line) = true) (hlen : (x :: r).length < 20) (hp : (x :: r).all plainX = true)
    (ho : PE X o (tV G xa W fo)) (ha : PA X (x :: r) (tL G xa W fl')) :
    PE X (.Call (.Attribute o (bmNm bm) apos) (x :: r) [] pos) (tV G xa W fun env h => (fo env h).bind fun x h1 => if bmOk bm h1 x = true then (fl' env h1).bind fun ts h2 => match bmT bm h2 x ts with
      | some (y, h3) => .ok y h3
      | none => .bad
      else .bad) := by
  have few : ((backTo pos (starEach (x :: r) X.env)).all (fun x => !x.1) && (backToKw pos (keywordEach [] X.env)).all (fun x => x.1.isSome) && decide ((x :: r).length + ([] : List Keyword).length + (if ([] : List Keyword).isEmpty then 0 else 1) < 30)) = true := by
    rw [back_all hp]
    show (true && true && decide ((x :: r).length + 0 + 0 < 30)) = true
    rw [decide_eq_true (by omega)] <;> rfl
  have key : ∀ {id : String} (pa : PlainAttrs (bmTy bm)) (slot : Slot (bmTy bm) (bmNm bm) id) (hty : typeOf (.builtin id) = pure (.type "method_descriptor")) (hm : MtR X id (rGM G bm)),
      PE X (.Call (.Attribute o (bmNm bm) apos) (x :: r) [] pos) (tBM X.K (bmTy bm) (rGM G bm) (tV G xa W fo) (tL G xa W fl')) :=
    fun pa slot hty hm => pe_bm pa slot hty hm ho ha (base_of hs') few hline (plain_star hp) (plain_back hp)
  have key2 : PE X (.Call (.Attribute o (bmNm bm) apos) (x :: r) [] pos) (tBM X.K (bmTy bm) (rGM G bm) (tV G xa W fo) (tL G xa W fl')) := by
    cases bm <;> first | (cases hk; done) | skip
    · exact key PySem.F.plainAttrs_list PySem.F.slot_list_append PySem.F.type_list_append mtr_append
    · exact key PySem.F.plainAttrs_str PySem.F.slot_str_join PySem.F.type_str_join (mtr_join ok.K)
    · exact key PySem.F.plainAttrs_list PySem.F.slot_list_extend PySem.F.type_list_extend mtr_extend
  refine pe_imp key2 fun σ H Q q => ?_
  obtain ⟨ρ, env, hs, er, hr, p⟩ := q
  refine tV_bind er hr p fun ρ1 hs1 H1 t v er1 hr1 rv st p1 => ?_
  by_cases hb : bmOk bm hs1 t = true
  · rw [if_pos hb] at p1
    refine ⟨bmOk_ty ok.K hr1 rv hb, ?_⟩
    refine tL_bind er1 hr1 p1 fun ρ2 hs2 H2 ts vs er2 hr2 rl st2 p2 => ?_
    cases e : bmT bm hs2 t ts with
    | none => rw [e] at p2; exact p2.elim
    | some q =>
      obtain ⟨y, h3⟩ := q
      rw [e] at p2
      exact ⟨ρ2, hs2, t, ts, y, h3, hr2, Rv.step hr1.Live st2 _ _ rv, rl, e, p2⟩
  · rw [if_neg hb] at p1
    exact p1.elim
/-! ### and, or -/
theorem pe_andF (eK : X.K = G.K) (ha : PE X a (tV G xa W fa)) (hb : PE X (.BoolOp .And (b :: r) pos) (tV G xa W fb)) :
    PE X (.BoolOp .And (a :: b :: r) pos) (tV G xa W fun env h => (fa env h).bind fun x h1 => (R.ofO (truT h1 x) h1).bind fun k h2 => if k = true then fb env h2 else .ok x h2) :=
  pe_imp (pe_andT ha hb) fun σ H Q q => by
    obtain ⟨ρ, env, hs, er, hr, p⟩ := q
    refine tV_bind er hr p fun ρ1 hs1 H1 t v er1 hr1 rv st p1 => ?_
    cases e : truT hs1 t with
    | none => rw [e] at p1; exact p1.elim
    | some k =>
      rw [e] at p1
      refine ⟨k, by rw [eK]; exact truV_of hr1 rv e, ?_⟩
      change Post G (Rv G) ρ1 H1 _ (if k = true then fb env hs1 else .ok t hs1) Q at p1
      cases k with
      | true => rw [if_pos rfl] at p1 ⊢; exact tV_of er1 hr1 p1
      | false => rw [if_neg (by decide)] at p1 ⊢; exact p1 ρ1 H1 v .refl hr1 rv
theorem pe_orF (eK : X.K = G.K) (ha : PE X a (tV G xa W fa)) (hb : PE X (.BoolOp .Or (b :: r) pos) (tV G xa W fb)) :
    PE X (.BoolOp .Or (a :: b :: r) pos) (tV G xa W fun env h => (fa env h).bind fun x h1 => (R.ofO (truT h1 x) h1).bind fun k h2 => if k = true then .ok x h2 else fb env h2) :=
  pe_imp (pe_orT ha hb) fun σ H Q q => by
    obtain ⟨ρ, env, hs, er, hr, p⟩ := q
    refine tV_bind er hr p fun ρ1 hs1 H1 t v er1 hr1 rv st p1 => ?_
    cases e : truT hs1 t with
    | none => rw [e] at p1; exact p1.elim
    | some k =>
      rw [e] at p1
      refine ⟨k, by rw [eK]; exact truV_of hr1 rv e, ?_⟩
      change Post G (Rv G) ρ1 H1 _ (if k = true then .ok t hs1 else fb env hs1) Q at p1
      cases k with
      | false => rw [if_neg (by decide)] at p1 ⊢; exact tV_of er1 hr1 p1
      | true => rw [if_pos rfl] at p1 ⊢; exact p1 ρ1 H1 v .refl hr1 rv
theorem pw_andF (ha : PT X a (tK G xa W ga)) (hb : PW X (.BoolOp .And (b :: r) pos) (tK G xa W gb)) :
    PW X (.BoolOp .And (a :: b :: r) pos) (tK G xa W fun env h => (ga env h).bind fun k h1 => if k = true then gb env h1 else .ok false h1) :=
  pw_imp (pw_and ha hb) fun σ H Q q => by
    obtain ⟨ρ, env, hs, er, hr, p⟩ := q
    refine tK_bind er hr p fun ρ1 hs1 H1 k er1 hr1 st p1 => ?_
    cases k with
    | true => rw [if_pos rfl] at p1 ⊢; exact ⟨ρ1, env, hs1, er1, hr1, p1⟩
    | false => rw [if_neg (by decide)] at p1 ⊢; exact p1 ρ1 H1 _ .refl hr1 rfl
theorem pw_orF (ha : PT X a (tK G xa W ga)) (hb : PW X (.BoolOp .Or (b :: r) pos) (tK G xa W gb)) :
    PW X (.BoolOp .Or (a :: b :: r) pos) (tK G xa W fun env h => (ga env h).bind fun k h1 => if k = true then .ok true h1 else gb env h1) :=
  pw_imp (pw_or ha hb) fun σ H Q q => by
    obtain ⟨ρ, env, hs, er, hr, p⟩ := q
    refine tK_bind er hr p fun ρ1 hs1 H1 k er1 hr1 st p1 => ?_
    cases k with
    | false => rw [if_neg (by decide)] at p1 ⊢; exact ⟨ρ1, env, hs1, er1, hr1, p1⟩
    | true => rw [if_pos rfl] at p1 ⊢; exact p1 ρ1 H1 _ .refl hr1 rfl
/-! ### formatted texts -/
def rStr : Rho → Hp → Str → Str → Prop := fun _ _ a b => a = b
/-- the parts' reading -/
def JOk (G : Gx) (xa : Option Xa) (W : WX) (X : Cx) (ys : List Expr) (f : Str → En → Hs → R Str) : Prop :=
  ∃ ts, PJ X ys ts ∧ ∀ (acc : Str) (σ : St) (H : Hp) (Q : Str → Hp → Prop) (ρ : Rho) (env : En) (hs : Hs), EnR G xa ρ H env σ → HR G ρ hs H → Post G rStr ρ H (fun c d H' => W c d σ H') (f acc env hs) Q → tJs ts acc σ H Q
theorem jok_nil : JOk G xa W X [] (fun acc _ h => .ok acc h) := ⟨[], .nil, fun acc σ H Q ρ env hs er hr p => p ρ H acc .refl hr rfl⟩
theorem fmtT_of {ρ : Rho} {H : Hp} {t : T} {v : V} {s : Str} (rv : Rv G ρ H t v) (e : fmtT t = some s) {Q : VK} (q : Q (.str s) H) :
    (∃ y : Str, v = .str y ∧ y.length ≤ sizeLine ∧ Q (.str y) H) ∨ ∃ i : Int, v = .int i ∧ i.natAbs.log2 < 1920 ∧ Q (.str (toString i)) H := by
  cases t <;> simp only [fmtT] at e <;> first | (cases e; done) | skip
  · split at e
    · rename_i hl
      cases e
      cases int_of rv
      exact .inr ⟨_, rfl, hl, q⟩
    · cases e
  · split at e
    · rename_i hl
      cases e
      cases str_of rv
      exact .inl ⟨_, rfl, lim_line hl, q⟩
    · cases e
theorem tJ_step {g : Str → En → Hs → R Str} {ts : List TE} {acc : Str} {σ : St} {Q : Str → Hp → Prop} {ρ1 : Rho} {hs1 : Hs} {H1 : Hp} {env : En} {t : T}
    (h2 : ∀ (acc : Str) (σ : St) (H : Hp) (Q : Str → Hp → Prop) (ρ : Rho) (env : En) (hs : Hs), EnR G xa ρ H env σ → HR G ρ hs H → Post G rStr ρ H (fun c d H' => W c d σ H') (g acc env hs) Q → tJs ts acc σ H Q)
    (er1 : EnR G xa ρ1 H1 env σ) (hr1 : HR G ρ1 hs1 H1) (p1 : Post G rStr ρ1 H1 (fun c d H' => W c d σ H') (match fmtT t with
    | some s => if (acc ++ s).length ≤ lim then g (acc ++ s) env hs1 else .bad
    | none => .bad) Q) : ∃ s, fmtT t = some s ∧ (acc ++ s).length ≤ sizeLine ∧ tJs ts (acc ++ s) σ H1 Q := by
  split at p1
  · rename_i s e
    split at p1
    · rename_i hl
      exact ⟨s, e, lim_line hl, h2 _ _ _ _ _ _ _ er1 hr1 p1⟩
    · exact p1.elim
  · exact p1.elim
theorem jok_cons {g : Str → En → Hs → R Str} {ys : List Expr} (hx : PE X x (tV G xa W fa)) (hr' : JOk G xa W X ys g) :
    JOk G xa W X (.FormattedValue x (-1) none pos :: ys) (fun acc env h => (fa env h).bind fun y h1 => match fmtT y with
    | some s => if (acc ++ s).length ≤ lim then g (acc ++ s) env h1 else .bad
    | none => .bad) := by
  obtain ⟨ts, h1, h2⟩ := hr'
  refine ⟨tFmt (tV G xa W fa) :: ts, .cons (pe_fmt hx) h1, fun acc σ H Q ρ env hs er hr p => ?_⟩
  refine tV_bind (RB := rStr) er hr p fun ρ1 hs1 H1 t v er1 hr1 rv st p1 => ?_
  obtain ⟨s, e, hl, z⟩ := tJ_step h2 er1 hr1 p1
  exact fmtT_of (Q := fun x H1 => ∃ y : Str, x = .str y ∧ (acc ++ y).length ≤ sizeLine ∧ tJs ts (acc ++ y) σ H1 Q) rv e ⟨s, rfl, hl, z⟩
theorem jok_str {g : Str → En → Hs → R Str} {ys : List Expr} {z : Str} {k : Nat} (hr' : JOk G xa W X ys g) :
    JOk G xa W X (.Constant (.str z) k pos :: ys) (fun acc env h => (R.ok (T.str z) h).bind fun y h1 => match fmtT y with
    | some s => if (acc ++ s).length ≤ lim then g (acc ++ s) env h1 else .bad
    | none => .bad) := by
  obtain ⟨ts, h1, h2⟩ := hr'
  refine ⟨tC (.str z) :: ts, .cons pe_str h1, fun acc σ H Q ρ env hs er hr p => ?_⟩
  obtain ⟨s, e, hl, z'⟩ := tJ_step h2 er hr p
  have es : s = z := by
    simp only [fmtT] at e
    split at e <;> cases e
    rfl
  subst es
  exact ⟨s, rfl, hl, z'⟩
theorem empty_app (s : Str) : Str.empty ++ s = s := by
  cases s with
  | mk a =>
    show Str.mk (#[] ++ a) = _
    simp
theorem pe_fstrF {g : Str → En → Hs → R Str} (hne : xs ≠ []) (h : JOk G xa W X xs g) : PE X (.JoinedStr xs pos) (tV G xa W fun env h => (g Str.empty env h).bind fun s h1 => .ok (.str s) h1) := by
  obtain ⟨ts, h1, h2⟩ := h
  have go : ∀ σ H Q, tV G xa W (fun env h => (g Str.empty env h).bind fun s h1 => .ok (.str s) h1) σ H Q → tJs ts Str.empty σ H fun out H1 => Q (.str out) H1 := fun σ H Q q => by
    obtain ⟨ρ, env, hs, er, hr, p⟩ := q
    refine h2 _ _ _ _ ρ env hs er hr (Post.mono (fun s H1 ⟨ρ1, hs1, s', st, hr1, es, p1⟩ => ?_) (Post.bind (RA := rStr) p))
    have es' : s' = s := es
    subst es'
    exact p1 ρ1 H1 _ .refl hr1 rv_str
  cases h1 with
  | nil => exact (hne rfl).elim
  | @cons e t es ts' he hr' =>
    cases hr' with
    | nil =>
      refine ⟨fun pins s σ H Q I q => ?_⟩
      refine wpAny_mono ((pe_joined1 he).run pins s σ H _ I (go σ H Q q)) (fun u s1 ⟨v, H1, I1, r1, y, ev, hl, q1⟩ => ?_) (fun _ _ z => z)
      subst ev
      have q1' : Q (.str (Str.empty ++ y)) H1 := q1
      rw [empty_app] at q1'
      exact ⟨.str y, H1, I1, r1, q1'⟩
    | @cons e2 t2 es2 ts2 he2 hr2 => exact pe_imp (pe_joined (.cons he (.cons he2 hr2))) go
end
end Fs
end

section
set_option Elab.async false
set_option linter.all false
set_option maxRecDepth 100000
/-! Fs9: iteration, targets, comprehensions. -/
namespace Fs
open PySem L2
/-- the iterator J yields the trees xs, whatever else happens -/
structure JIt (G : Gx) (ρ : Rho) (H : Hp) (xs : List T) (J : L2.It) : Prop where
  stop : ∀ i ρ' H', StpR ρ H ρ' H' → xs.length ≤ i → J.stop i H'
  go : ∀ i ρ' H', StpR ρ H ρ' H' → i < xs.length → J.go i H'
  yld : ∀ (i : Nat) x ρ' H' H'' t, StpR ρ H ρ' H' → xs[i]? = some t → J.yld i H' x H'' → Ext H' H'' ∧ Rv G ρ' H'' t x
theorem jsame {G : Gx} {ρ' : Rho} {H' H'' : Hp} {t : T} {x : V} (h : H'' = H' ∧ Rv G ρ' H' t x) : Ext H' H'' ∧ Rv G ρ' H'' t x := by
  obtain ⟨rfl, r⟩ := h
  exact ⟨fun _ _ q => q, r⟩
def tI (G : Gx) (xa : Option Xa) (W : WX) (f : En → Hs → R (List T)) : TI := fun σ H Q => ∃ ρ env hs, EnR G xa ρ H env σ ∧ HR G ρ hs H ∧ Post G (JIt G) ρ H (fun c d H' => W c d σ H') (f env hs) Q
section
variable {G : Gx} {Γ : Cs} {cl : Cal} {W : WX} {xa : Option Xa} {X : Cx} {x a b c o tg : Expr} {xs r : List Expr} {pos p apos : Pos} {y m f : Str} {fa fb fc fo : En → Hs → R T} {fk : En → Hs → R Bool} {fl' : En → Hs → R (List T)} {ga gb : En → Hs → R Bool}
theorem pi_imp {wi wi' : TI} (h : PI X tg x wi) (i : ∀ σ H R, wi' σ H R → wi σ H R) : PI X tg x wi' := ⟨fun pins s σ H R I q => h.run pins s σ H R I (i σ H R q)⟩
theorem jit_list (eK : X.K = G.K) {ρ : Rho} {H : Hp} {ts : List T} {ws : List V} {a : Addr} (q : H a = some (.lst ws)) (rl : RvL G ρ H ts ws) (n : some a ∉ ρ.l ∧ a ∉ ρ.rs) : JIt G ρ H ts (Itl X.K a) where
  stop := fun i ρ' H' S h => ⟨ws, SqL.of (S.keep _ _ q n.1 n.2), by rw [rl.len]; exact h⟩
  go := fun i ρ' H' S h => by
    have hlt : i < ws.length := by rw [rl.len]; exact h
    exact ⟨ws, ws[i], SqL.of (S.keep _ _ q n.1 n.2), List.getElem?_eq_getElem hlt⟩
  yld := fun i x ρ' H' H'' t S e h => by
    obtain ⟨e1, e2⟩ := h
    refine jsame ⟨e1, ?_⟩
    obtain ⟨v, hv, rv⟩ := rl.get e
    have := e2 ws (SqL.of (S.keep _ _ q n.1 n.2))
    rw [hv] at this
    cases this
    exact Rv.stepR S _ _ rv
theorem jit_tup (eK : X.K = G.K) {ρ : Rho} {H : Hp} {ts : List T} {ws : List V} {a : Addr} (q : SqT G.K H a ws) (rl : RvL G ρ H ts ws) : JIt G ρ H ts (Itt X.K a) where
  stop := fun i ρ' H' S h => ⟨ws, by rw [eK]; exact sqT_step S q, by rw [rl.len]; exact h⟩
  go := fun i ρ' H' S h => by
    have hlt : i < ws.length := by rw [rl.len]; exact h
    exact ⟨ws, ws[i], by rw [eK]; exact sqT_step S q, List.getElem?_eq_getElem hlt⟩
  yld := fun i x ρ' H' H'' t S e h => by
    obtain ⟨e1, e2⟩ := h
    refine jsame ⟨e1, ?_⟩
    obtain ⟨v, hv, rv⟩ := rl.get e
    have := e2 ws (by rw [eK]; exact sqT_step S q)
    rw [hv] at this
    cases this
    exact Rv.stepR S _ _ rv
theorem jit_str {ρ : Rho} {H : Hp} {z : Str} : JIt G ρ H (z.cps.toList.map sgn) (Its z) where
  stop := fun i ρ' H' S h => by
    show z.cps.size ≤ i
    simpa using h
  go := fun i ρ' H' S h => by
    show i < z.cps.size
    simpa using h
  yld := fun i x ρ' H' H'' t S e h => by
    obtain ⟨e1, c, hc, rfl⟩ := h
    refine jsame ⟨e1, ?_⟩
    simp only [List.getElem?_map, Array.getElem?_toList, hc, Option.map_some] at e
    cases e
    exact rv_str
theorem jit_rng {ρ : Rho} {H : Hp} {lo : Int} {n : Nat} : JIt G ρ H ((List.range n).map fun i : Nat => T.int (lo + (i : Int))) (Itr lo n) where
  stop := fun i ρ' H' S h => by
    show n ≤ i
    simpa using h
  go := fun i ρ' H' S h => by
    show i < n
    simpa using h
  yld := fun i x ρ' H' H'' t S e h => by
    obtain ⟨e1, rfl⟩ := h
    refine jsame ⟨e1, ?_⟩
    rw [List.getElem?_map] at e
    obtain ⟨j, hj, rfl⟩ := opt_map e
    have : j = i := by
      have := (List.getElem?_eq_some_iff.mp hj).2
      simpa using this.symm
    subst this
    exact rv_int
/-- the text's iterable is a list, a tuple, a text -/
theorem pi_seqF (eK : X.K = G.K) (h : PE X x (tV G xa W fa)) : PI X tg x (tI G xa W fun env h => (fa env h).bind fun v h1 => R.ofO (items v) h1) := by
  refine ⟨fun pins s σ H Rr I q => ?_⟩
  obtain ⟨ρ, env, hs, er, hr, p⟩ := q
  change Post G (JIt G) ρ H _ ((fa env hs).bind _) Rr at p
  cases e : fa env hs with
  | bad => rw [e] at p; exact p.elim
  | exc c zs h1 =>
    rw [e] at p
    refine (pi_list h).run pins s σ H Rr I ⟨ρ, env, hs, er, hr, ?_⟩
    rw [e]
    exact p
  | ok t h1 =>
    rw [e] at p
    change Post G (JIt G) ρ H _ (R.ofO (items t) h1) Rr at p
    cases t <;> first | exact p.elim | skip
    · rename_i z
      refine (pi_str h).run pins s σ H Rr I ⟨ρ, env, hs, er, hr, ?_⟩
      rw [e]
      intro ρ' H' v st hr' rv
      cases str_of rv
      exact ⟨z, rfl, p ρ' H' _ st hr' jit_str⟩
    · rename_i ts
      refine (pi_tup h).run pins s σ H Rr I ⟨ρ, env, hs, er, hr, ?_⟩
      rw [e]
      intro ρ' H' v st hr' rv
      simp only [Rv] at rv
      obtain ⟨a, ws, rfl, q, rl⟩ := rv
      exact ⟨a, rfl, ⟨ws, by rw [eK]; exact q⟩, p ρ' H' _ st hr' (jit_tup eK q rl)⟩
    · rename_i ts
      refine (pi_list h).run pins s σ H Rr I ⟨ρ, env, hs, er, hr, ?_⟩
      rw [e]
      intro ρ' H' v st hr' rv
      simp only [Rv] at rv
      obtain ⟨a, ws, rfl, q, rl, n⟩ := rv
      exact ⟨a, rfl, ⟨ws, SqL.of q⟩, p ρ' H' _ st hr' (jit_list eK q rl n)⟩
theorem rangeT_of {lo hi : Int} {ts : List T} (h : rangeT lo hi = some ts) : (-(2 ^ 62) ≤ lo ∧ lo < 2 ^ 62 ∧ -(2 ^ 62) ≤ hi ∧ hi < 2 ^ 62) ∧ ts = (List.range (hi - lo).toNat).map fun i : Nat => T.int (lo + (i : Int)) := by
  unfold rangeT at h
  split at h
  · rename_i hc
    simp only [Bool.and_eq_true, decide_eq_true_eq] at hc
    cases h
    exact ⟨hc, rfl⟩
  · cases h
theorem pi_rng1F (ok : Ok G Γ cl W xa X) (hg : Γ.isGlob "range" = true) (hp : plainX a = true) (ha : PE X a (tV G xa W fa)) :
    PI X tg (.Call (.Name "range" p) [a] [] pos) (tI G xa W fun env h => (fa env h).bind fun x h1 => R.ofO ((intT x).bind fun n => rangeT 0 n) h1) := by
  obtain ⟨g1, g2, g3⟩ := ok.glob hg
  refine pi_imp (pi_range1 g1 ok.pr.rn (pa_cons ha pa_nil (star_cons hp)) (star_cons hp)) fun σ H Rr q => ?_
  obtain ⟨ρ, env, hs, er, hr, p⟩ := q
  refine tV_bind er hr p fun ρ1 hs1 H1 t v er1 hr1 rv st p1 => ?_
  obtain ⟨ts, e, k⟩ := Post.ofO p1
  obtain ⟨n, e1, e2⟩ := opt_bind e
  obtain ⟨⟨h1, h2, h3, h4⟩, rfl⟩ := rangeT_of e2
  refine ⟨n, by rw [intT_of e1 rv], h3, h4, ?_⟩
  have z := k ρ1 H1 (Itr 0 (n - 0).toNat) .refl hr1 jit_rng
  rw [show (n - 0) = n by omega] at z
  exact z
theorem enumT_get : ∀ (ts : List T) (n i : Nat) (u : T), (enumT n ts)[i]? = some u → ∃ t, ts[i]? = some t ∧ u = .tup [.int ((n + i : Nat) : Int), t]
  | [], n, i, u, h => by simp [enumT] at h
  | t :: ts, n, 0, u, h => by
    simp [enumT] at h
    exact ⟨t, rfl, by subst h; rfl⟩
  | t :: ts, n, i + 1, u, h => by
    obtain ⟨t', e1, e2⟩ := enumT_get ts (n + 1) i u (by simpa [enumT] using h)
    refine ⟨t', by simpa using e1, ?_⟩
    rw [e2, show n + 1 + i = n + (i + 1) by omega]
theorem enumT_len : ∀ (ts : List T) (n : Nat), (enumT n ts).length = ts.length
  | [], _ => rfl
  | t :: ts, n => by simp [enumT, enumT_len ts (n + 1)]
theorem jit_enum (eK : X.K = G.K) {ρ : Rho} {H : Hp} {ts : List T} {ws : List V} {a : Addr} (q : H a = some (.lst ws)) (rl : RvL G ρ H ts ws) (n : some a ∉ ρ.l ∧ a ∉ ρ.rs) : JIt G ρ H (enumT 0 ts) (Ite X.K a) where
  stop := fun i ρ' H' S h => ⟨ws, SqL.of (S.keep _ _ q n.1 n.2), by rw [rl.len]; rw [enumT_len] at h; exact h⟩
  go := fun i ρ' H' S h => by
    rw [enumT_len] at h
    have hlt : i < ws.length := by rw [rl.len]; exact h
    exact ⟨ws, ws[i], SqL.of (S.keep _ _ q n.1 n.2), List.getElem?_eq_getElem hlt⟩
  yld := fun i x ρ' H' H'' t S e h => by
    obtain ⟨T', y, rfl, hT, rfl, e2⟩ := h
    refine ⟨ext_upd hT, ?_⟩
    obtain ⟨t', e3, rfl⟩ := enumT_get ts 0 i t e
    obtain ⟨v, hv, rv⟩ := rl.get e3
    have := e2 ws (SqL.of (S.keep _ _ q n.1 n.2))
    rw [hv] at this
    cases this
    have S2 : StpR ρ H ρ' (upd H' T' (.tup [.int ((i : Nat) : Int), y])) := S.trans ⟨fun b o hb _ _ => ext_upd hT b o hb, fun b o hb _ => ext_upd hT b o hb, fun k o hk => .inl hk, fun b hb => .inl hb⟩
    simp only [Rv]
    refine ⟨T', _, rfl, .inl (.inl upd_same), ?_⟩
    simp only [RvL]
    refine ⟨_, _, rfl, ?_, y, [], rfl, Rv.stepR S2 _ _ rv, rfl⟩
    rw [Nat.zero_add]
    simp only [Rv]
theorem pi_enumF {elts : List Expr} {kk : Nat} {tpos : Pos} (ok : Ok G Γ cl W xa X) (hg : Γ.isGlob "enumerate" = true) (hp : plainX a = true) (ha : PE X a (tV G xa W fa)) :
    PI X (.Tuple elts kk tpos) (.Call (.Name "enumerate" p) [a] [] pos) (tI G xa W fun env h => (fa env h).bind fun x h1 => R.ofO ((listT x).map (enumT 0)) h1) := by
  obtain ⟨g1, g2, g3⟩ := ok.glob hg
  refine pi_imp (pi_enum g1 ok.pr.en (pa_cons ha pa_nil (star_cons hp)) (star_cons hp)) fun σ H Rr q => ?_
  obtain ⟨ρ, env, hs, er, hr, p⟩ := q
  refine tV_bind er hr p fun ρ1 hs1 H1 t v er1 hr1 rv st p1 => ?_
  obtain ⟨ts, e, k⟩ := Post.ofO p1
  obtain ⟨us, e1, rfl⟩ := opt_map e
  cases t <;> simp only [listT] at e1 <;> first | (cases e1; done) | skip
  cases e1
  simp only [Rv] at rv
  obtain ⟨l, ws, rfl, q, rl, n⟩ := rv
  exact ⟨l, ws, rfl, SqL.of q, k ρ1 H1 (Ite X.K l) .refl hr1 (jit_enum ok.K q rl n)⟩
theorem pi_rng2F (ok : Ok G Γ cl W xa X) (hg : Γ.isGlob "range" = true) (hp : plainX a = true) (hp2 : plainX b = true) (ha : PE X a (tV G xa W fa)) (hb : PE X b (tV G xa W fb)) :
    PI X tg (.Call (.Name "range" p) [a, b] [] pos) (tI G xa W fun env h => (fa env h).bind fun x h1 => (fb env h1).bind fun y h2 => R.ofO ((intT x).bind fun i => (intT y).bind fun j => rangeT i j) h2) := by
  obtain ⟨g1, g2, g3⟩ := ok.glob hg
  refine pi_imp (pi_range2 g1 ok.pr.rn (pa_cons ha (pa_cons hb pa_nil (star_cons hp2)) (star_cons hp)) (by rw [star_cons hp, star_cons hp2]; rfl) (star_cons hp2)) fun σ H Rr q => ?_
  obtain ⟨ρ, env, hs, er, hr, p⟩ := q
  refine tV_bind er hr p fun ρ1 hs1 H1 t v er1 hr1 rv _ p1 => ?_
  refine tV_bind er1 hr1 p1 fun ρ2 hs2 H2 u w er2 hr2 rw' st p2 => ?_
  obtain ⟨ts, e, k⟩ := Post.ofO p2
  obtain ⟨i, e1, e2⟩ := opt_bind e
  obtain ⟨j, e3, e4⟩ := opt_bind e2
  obtain ⟨h4, rfl⟩ := rangeT_of e4
  exact ⟨i, j, by rw [intT_of e1 rv, intT_of e3 rw'], h4, k ρ2 H2 _ .refl hr2 jit_rng⟩

/-! ### targets -/
theorem wipe_in {σ : St} {i : Nat} {o : Option V} : ∀ {vs : List Nat}, i ∈ vs → wipe (σ.set i o) vs = wipe σ vs
  | v :: vs, h => by
    unfold wipe
    by_cases e : i ∈ vs
    · rw [wipe_in e]
    · have ei : i = v := by
        rcases List.mem_cons.mp h with q | q
        · exact q
        · exact (e q).elim
      subst ei
      have key : ∀ {us : List Nat}, i ∉ us → wipe (σ.set i o) us = (wipe σ us).set i o := fun {us} => by
        induction us with
        | nil => intro _; rfl
        | cons u us ih =>
          intro n
          simp only [List.mem_cons, not_or] at n
          unfold wipe
          rw [ih n.2, List.set_comm _ _ n.1]
      rw [key e, List.set_set]
/-- outside the target's places nothing changes -/
def Outs (ns : List Nat) (σ σ1 : St) : Prop := ∀ vs, (∀ i ∈ ns, i ∈ vs) → wipe σ1 vs = wipe σ vs
def gT (G : Gx) (xa : Option Xa) (t : Tg) : TG := fun v σ H Q => ∃ ρ env u env1, EnR G xa ρ H env σ ∧ Rv G ρ H u v ∧ bindG t u env = some env1 ∧ ∀ σ1, EnR G xa ρ H env1 σ1 → Outs t.slots σ σ1 → Q σ1 H
def gTs (G : Gx) (xa : Option Xa) (ns : List Nat) : TGs := fun vs σ H Q => ∃ ρ env us env1, EnR G xa ρ H env σ ∧ RvL G ρ H us vs ∧ bindTs ns us env = some env1 ∧ ∀ σ1, EnR G xa ρ H env1 σ1 → Outs ns σ σ1 → Q σ1 H
theorem pg_imp {g g' : TG} (h : PG X x g) (i : ∀ v σ H Q, g' v σ H Q → g v σ H Q) : PG X x g' := ⟨fun pins s σ H v u Q I r q => h.run pins s σ H v u Q I r (i v σ H Q q)⟩
theorem pgs_imp {g g' : TGs} (h : PGs X xs g) (i : ∀ v σ H Q, g' v σ H Q → g v σ H Q) : PGs X xs g' := ⟨fun pins s σ H v u Q I r q => h.run pins s σ H v u Q I r (i v σ H Q q)⟩
theorem pg_nameF (ok : Ok G Γ cl W xa X) {i : Nat} (h : Γ.isTgt i y = true) : PG X (.Name y pos) (gT G xa (.nm i)) := by
  obtain ⟨h1, h2, h3, h4⟩ := ok.tgt h
  refine pg_imp (pg_name ok.nod h1 h2 h3) fun v σ H Q q => ?_
  obtain ⟨ρ, env, u, env1, er, rv, e, k⟩ := q
  simp only [bindG] at e
  cases e
  exact k _ (er.set i h4 rv) fun vs hv => wipe_in (hv i (by simp [Tg.slots]))
theorem pgs_namesF (ok : Ok G Γ cl W xa X) : ∀ {ns : List Nat} {xs : List Expr}, chkTn Γ ns xs = true → PGs X xs (gTs G xa ns) ∧ (assignEach xs X.env).length = ns.length ∧ (assignEach xs X.env).findIdx? (·.1) = none
  | [], [], _ => ⟨pgs_imp pgs_nil fun vs σ H Q q => by
      obtain ⟨ρ, env, us, env1, er, rl, e, k⟩ := q
      cases us with
      | nil =>
        simp only [RvL] at rl
        simp only [bindTs] at e
        cases e
        exact ⟨rl, k σ er fun _ _ => rfl⟩
      | cons _ _ => simp [bindTs] at e, rfl, rfl⟩
  | [], _ :: _, h => by simp [chkTn] at h
  | _ :: _, [], h => by simp [chkTn] at h
  | i :: ns, x :: xs, h => by
    simp only [chkTn, Bool.and_eq_true] at h
    obtain ⟨h1, h2⟩ := h
    split at h1
    · rename_i y pos
      obtain ⟨r1, r2, r3⟩ := pgs_namesF ok h2
      obtain ⟨t1, t2, t3, t4⟩ := ok.tgt h1
      refine ⟨pgs_imp (pgs_cons (pg_name ok.nod t1 t2 t3) r1 rfl) fun vs σ H Q q => ?_, ?_, ?_⟩
      · obtain ⟨ρ, env, us, env1, er, rl, e, k⟩ := q
        cases us with
        | nil => simp [bindTs] at e
        | cons u us =>
          simp only [RvL] at rl
          obtain ⟨v, ws, rfl, rv, rl⟩ := rl
          simp only [bindTs] at e
          refine ⟨v, ws, rfl, ρ, _, us, env1, er.set i t4 rv, rl, e, fun σ1 er1 ho => k σ1 er1 fun vs hv => ?_⟩
          rw [ho vs fun j hj => hv j (List.mem_cons_of_mem _ hj)]
          exact wipe_in (hv i List.mem_cons_self)
      · show (assignEach xs X.env).length + 1 = ns.length + 1
        rw [r2]
      · show List.findIdx? (·.1) ((false, assign (.Name y pos) X.env) :: assignEach xs X.env) = none
        rw [List.findIdx?_cons, r3]
        rfl
    · cases h1
theorem pg_tgF (ok : Ok G Γ cl W xa X) {t : Tg} (h : chkT Γ t x = true) : PG X x (gT G xa t) := by
  cases t with
  | nm i =>
    simp only [chkT] at h
    split at h
    · exact pg_nameF ok h
    · cases h
  | tp ns =>
    simp only [chkT] at h
    split at h
    · rename_i xs k pos
      rw [Bool.and_eq_true] at h
      obtain ⟨h1, h2⟩ := h
      have hh : Γ.hot = false := by simpa using h2
      obtain ⟨hc, _⟩ := ok.cool hh
      obtain ⟨r1, r2, r3⟩ := pgs_namesF ok h1
      refine pg_imp (pg_tup hc r1 rfl r3) fun v σ H Q q => ?_
      obtain ⟨ρ, env, u, env1, er, rv, e, k⟩ := q
      simp only [bindG] at e
      split at e
      · rename_i ts
        simp only [Rv] at rv
        obtain ⟨a, ws, rfl, q, rl⟩ := rv
        refine ⟨a, ws, rfl, by rw [ok.K]; exact q, ?_, ρ, env, ts, env1, er, rl, e, k⟩
        rw [r2, rl.len]
        have key : ∀ {ns : List Nat} {ts : List T} {env env1 : En}, bindTs ns ts env = some env1 → ts.length = ns.length := by
          intro ns
          induction ns with
          | nil => intro ts env env1 e; cases ts with
            | nil => rfl
            | cons _ _ => simp [bindTs] at e
          | cons n ns ih => intro ts env env1 e; cases ts with
            | nil => simp [bindTs] at e
            | cons t ts => simp only [bindTs] at e; simp [ih e]
        exact key e
      · cases e
    · cases h
end
end Fs
end

section
set_option Elab.async false
set_option linter.all false
set_option maxRecDepth 100000
/-! Fs10: list comprehensions. -/
namespace Fs
open PySem L2
theorem wipe_get {σ : St} {i : Nat} : ∀ {vs : List Nat}, (wipe σ vs)[i]? = if i ∈ vs then (σ[i]?).map (fun _ => none) else σ[i]?
  | [] => by simp [wipe]
  | v :: vs => by
    unfold wipe
    by_cases e : v = i
    · subst e
      rw [if_pos List.mem_cons_self, List.getElem?_set]
      rw [wipe_length]
      by_cases hl : v < σ.length
      · simp [hl]
      · simp [hl]
    · rw [List.getElem?_set_ne e, wipe_get]
      have : (i ∈ v :: vs) ↔ i ∈ vs := by
        rw [List.mem_cons]
        exact ⟨fun h => h.resolve_left fun z => e z.symm, .inr⟩
      simp only [this]
theorem wipe_idem (σ : St) (vs : List Nat) : wipe (wipe σ vs) vs = wipe σ vs := by
  apply List.ext_getElem?
  intro i
  rw [wipe_get, wipe_get]
  split
  · cases σ[i]? <;> rfl
  · rfl
def W0 : WX := fun _ _ _ _ => False
theorem Stp.chain {ρ1 ρ' ρ'' : Rho} {H1 H' H'' : Hp} (a : Stp ρ1 H1 ⟨ρ'.l, ρ1.rs⟩ H') (b : Stp ρ' H' ρ'' H'') : Stp ρ1 H1 ⟨ρ''.l, ρ1.rs⟩ H'' :=
  a.trans ⟨b.keep, b.len, b.at_, b.new, rfl⟩
theorem Stp.reR {ρ1 ρ' : Rho} {H1 H' : Hp} {D : Addr} (a : Stp ρ1 H1 ⟨ρ'.l, ρ1.rs⟩ H') (L : Live ρ1 H1) (h : ρ'.rs = D :: ρ1.rs) (hD : H1 D = none) : StpR ρ1 H1 ρ' H' :=
  ⟨(a.toR L).keep, (a.toR L).keepR, a.at_, fun x hx => by
    rcases hx with hx | hx
    · exact (a.toR L).out x (.inl hx)
    · rw [h] at hx
      rcases List.mem_cons.mp hx with rfl | hx
      · exact .inr hD
      · exact .inl (.inr hx)⟩
theorem stp_fill {ρ1 : Rho} {l : List (Option Addr)} {H1 H' : Hp} {D : Addr} {o : HO} (a : Stp ρ1 H1 ⟨l, ρ1.rs⟩ H') (hD : H1 D = none) : Stp ρ1 H1 ⟨l, ρ1.rs⟩ (upd H' D o) :=
  ⟨fun x u e n => by
    rw [upd_ne fun z => by rw [z, hD] at e; cases e]
    exact a.keep x u e n, a.len, a.at_, a.new, rfl⟩
theorem stpR_fill {ρ : Rho} {H : Hp} {D : Addr} {acc acc' : List V} (h : D ∈ ρ.rs) (e : H D = some (.lst acc)) : StpR ρ H ρ (upd H D (.lst acc')) :=
  ⟨fun x u q _ n => by
    rw [upd_ne fun z => n (by rw [z]; exact h)]
    exact q, fun x u q m => by
    rw [upd_ne fun z => by
      rw [z, e] at q
      cases q
      cases m]
    exact q, fun _ _ q => .inl q, fun _ q => .inl q⟩
theorem hr_fill {G : Gx} {ρ : Rho} {H : Hp} {hs : Hs} {D : Addr} {acc acc' : List V} (R : HR G ρ hs H) (h : D ∈ ρ.rs) (e : H D = some (.lst acc)) : HR G ρ hs (upd H D (.lst acc')) := by
  refine R.stepR (stpR_fill h e) rfl (fun a ha => ?_) fun a ha => ?_
  · exact upd_ne fun z => (R.rsv D h).1 (by rw [← z]; exact ha)
  · obtain ⟨h1, xs, h2, h3⟩ := R.rsv a ha
    refine ⟨h1, ?_⟩
    by_cases z : a = D
    · subst z; exact ⟨_, upd_same, rfl⟩
    · exact ⟨xs, by rw [upd_ne z]; exact h2, h3⟩
section
variable {G : Gx} {Γ : Cs} {cl : Cal} {W : WX} {xa : Option Xa} {X : Cx} {tg iter elt : Expr} {ifs : List Expr} {scope : Scope} {pos : Pos} {fi : En → Hs → R (List T)} {fc : En → Hs → R Bool} {fe : En → Hs → R T}
def bodyL (t : Tg) (vs : List Nat) (fc : En → Hs → R Bool) (fe : En → Hs → R T) (env : En) (x : T) (h2 : Hs) : R (Option T) := match bindG t x (wipeT env vs) with
  | none => .bad
  | some env1 => (fc env1 h2).bind fun k h3 => if k = true then (fe env1 h3).bind fun y h4 => .ok (some y) h4 else .ok none h3
theorem tLc_of {m : Bool} {t : Tg} {vs : List Nat} (hsl : ∀ i ∈ t.slots, i ∈ vs) {σ : St} {H : Hp} {Q : VK} (q : tV G none W (fun env h => ((fi env h).bind fun xs h1 => (compL (bodyL t vs fc fe env) xs h1).nox).bind fun ys h5 =>
      if ys.length ≤ lim then (if m = true then .ok (.ref h5.length) (h5 ++ [.lst ys]) else .ok (.lst ys) h5) else .bad) σ H Q) : tLc (tI G none W fi) (gT G none t) (tK G none W0 fc) (tV G none W0 fe) vs σ H Q := by
  obtain ⟨ρ, env, hs, er, hr, p⟩ := q
  change Post G (Rv G) ρ H _ (((fi env hs).bind _).bind _) Q at p
  rw [R.bind_assoc] at p
  refine ⟨ρ, env, hs, er, hr, Post.mono (fun J H1 ⟨ρ1, hs1, xs, st1, hr1, jit, p1⟩ D hD => ?_) (Post.bind (RA := JIt G) p)⟩
  cases e : compL (bodyL t vs fc fe env) xs hs1 with
  | exc c zs h => rw [e] at p1; exact p1.elim
  | bad => rw [e] at p1; exact p1.elim
  | ok Y h5 =>
    rw [e] at p1
    change Post G (Rv G) ρ1 H1 _ (if Y.length ≤ lim then (if m = true then .ok (.ref h5.length) (h5 ++ [.lst Y]) else .ok (.lst Y) h5) else .bad) Q at p1
    by_cases hl : Y.length ≤ lim
    · rw [if_pos hl] at p1
      have lim1 : lim < sizeLine := by rw [sizeLine_eq]; decide
      have nD : some D ∉ ρ1.l ∧ D ∉ ρ1.rs := new_out hr1 hD
      refine ⟨fun i m H' => ∃ ρ' hs' acc A, m = xs.length - i ∧ i ≤ xs.length ∧ ρ'.rs = D :: ρ1.rs ∧ Stp ρ1 H1 ⟨ρ'.l, ρ1.rs⟩ H' ∧ HR G ρ' hs' H' ∧ H' D = some (.lst acc) ∧ RvL G ρ' H' A acc ∧
        ∃ ys, compL (bodyL t vs fc fe env) (xs.drop i) hs' = .ok ys h5 ∧ A ++ ys = Y, ?_, ?_⟩
      · have sr : StpR ρ1 H1 ⟨ρ1.l, D :: ρ1.rs⟩ (upd H1 D (.lst [])) := Stp.reR (ρ' := ⟨ρ1.l, D :: ρ1.rs⟩) (.ext (ext_upd hD)) hr1.Live rfl hD
        refine ⟨xs.length, ⟨ρ1.l, D :: ρ1.rs⟩, hs1, [], [], by simp, Nat.zero_le _, rfl, .ext (ext_upd hD), ?_, upd_same, rvl_nil, Y, by simpa using e, rfl⟩
        refine hr1.stepR sr rfl (fun a ha => upd_ne fun z => nD.1 (by rw [← z]; exact ha)) fun a ha => ?_
        rcases List.mem_cons.mp ha with rfl | ha
        · exact ⟨nD.1, _, upd_same, rfl⟩
        · obtain ⟨h1, xs, h2, h3⟩ := hr1.rsv a ha
          exact ⟨h1, xs, ext_upd hD _ _ h2, h3⟩
      · intro i n H' ⟨ρ', hs', acc, A, hn, hle, hrs, st, hr', hacc, rl, ys, ec, eY⟩
        have sr : StpR ρ1 H1 ρ' H' := st.reR hr1.Live hrs hD
        have lenA : acc.length = A.length := rl.len
        have lenY : A.length + ys.length = Y.length := by rw [← eY, List.length_append]
        by_cases hi' : i = xs.length
        · subst hi'
          rw [List.drop_length] at ec
          cases ec
          rw [List.append_nil] at eY
          subst eY
          refine .inl ⟨jit.stop _ ρ' H' sr (Nat.le_refl _), ?_⟩
          obtain ⟨l, rs⟩ := ρ'
          change rs = D :: ρ1.rs at hrs
          subst hrs
          cases m with
          | true =>
            rw [if_pos rfl] at p1
            obtain ⟨z1, z2⟩ := hr'.take nD.2 hacc rl
            refine p1 ⟨l ++ [some D], ρ1.rs⟩ H' _ ⟨st.keep, ?_, fun k o h => ?_, fun a h => ?_, rfl⟩ z1 z2
            · show _ ≤ (l ++ [some D]).length
              rw [List.length_append]
              exact Nat.le_trans st.len (Nat.le_add_right _ _)
            · show (l ++ [some D])[k]? = _ ∨ (l ++ [some D])[k]? = _
              rcases st.at_ k o h with q | q
              all_goals
                change l[k]? = _ at q
                have hk := (List.getElem?_eq_some_iff.mp q).1
                rw [List.getElem?_append_left hk]
              · exact .inl q
              · exact .inr q
            · rcases List.mem_append.mp h with q | q
              · exact st.new a q
              · have : a = D := by simpa using q
                exact .inr (by rw [this]; exact hD)
          | false =>
            rw [if_neg (by decide)] at p1
            have dr : StpR ⟨l, D :: ρ1.rs⟩ H' ⟨l, ρ1.rs⟩ H' := ⟨fun _ _ h _ _ => h, fun _ _ h _ => h, fun _ _ h => .inl h, fun a h => .inl (by
              rcases h with h | h
              · exact .inl h
              · exact .inr (List.mem_cons_of_mem _ h))⟩
            refine p1 ⟨l, ρ1.rs⟩ H' _ st (hr'.stepR dr rfl (fun _ _ => rfl) fun a h => hr'.rsv a (List.mem_cons_of_mem _ h)) ?_
            simp only [Rv]
            exact ⟨D, acc, rfl, hacc, RvL.stepR dr _ _ rl, (hr'.rsv D List.mem_cons_self).1, nD.2⟩
        · have hlt : i < xs.length := by omega
          rw [List.drop_eq_getElem_cons hlt] at ec
          have exi : xs[i]? = some xs[i] := List.getElem?_eq_getElem hlt
          refine .inr ⟨jit.go i ρ' H' sr hlt, _, fun H2 h2 => ⟨xs.length - (i + 1), by omega, h2⟩, fun x H'' hy => ?_⟩
          obtain ⟨ex, rv⟩ := jit.yld i x ρ' H' H'' _ sr exi hy
          have rl := RvL.step hr'.Live (Stp.ext ex) _ _ rl
          have hacc := ex _ _ hacc
          have sr := sr.trans ((Stp.ext ex).toR hr'.Live)
          have st := st.trans (Stp.ext ex)
          have hr' := hr'.ext ex
          generalize xs[i] = tt at ec rv
          have er' : EnR G none ρ' H'' (wipeT env vs) (wipe σ vs) := ((er.step hr.Live st1).stepR sr).wipe _ fun i _ q hq => by cases hq
          simp only [compL, bodyL] at ec
          cases eb : bindG t tt (wipeT env vs) with
          | none => rw [eb] at ec; cases ec
          | some env1 =>
            rw [eb] at ec
            dsimp only at ec
            refine ⟨ρ', _, tt, env1, er', rv, eb, fun σ1 er1 ho => ⟨by rw [ho _ hsl, wipe_idem], ?_⟩⟩
            cases ecd : fc env1 hs' with
            | exc c zs h => rw [ecd] at ec; cases ec
            | bad => rw [ecd] at ec; cases ec
            | ok k h3 =>
              rw [ecd] at ec
              refine ⟨ρ', env1, hs', er1, hr', ?_⟩
              rw [ecd]
              intro ρ3 H3 b st3 hr3 hb
              have hb' : k = b := hb
              subst hb'
              have hrs3 : ρ3.rs = D :: ρ1.rs := st3.rse.trans hrs
              have memD : D ∈ ρ'.rs := by rw [hrs]; exact List.mem_cons_self
              have hacc3 : H3 D = some (.lst acc) := st3.keep _ _ hacc (hr'.rsv D memD).1
              have stA := st.chain st3
              have rl3 := RvL.step hr'.Live st3 _ _ rl
              cases k with
              | false =>
                rw [if_neg (by decide)]
                change (compL (bodyL t vs fc fe env) (xs.drop (i + 1)) h3).bind (fun ys h2 => .ok ys h2) = .ok ys h5 at ec
                refine ⟨ρ3, h3, acc, A, rfl, by omega, hrs3, stA, hr3, hacc3, rl3, ys, ?_, eY⟩
                cases e2 : compL (bodyL t vs fc fe env) (xs.drop (i + 1)) h3 with
                | exc c zs h => rw [e2] at ec; cases ec
                | bad => rw [e2] at ec; cases ec
                | ok z1 z2 => rw [e2] at ec; exact ec
              | true =>
                rw [if_pos rfl]
                change (((fe env1 h3).bind fun y h4 => .ok (some y) h4).bind _) = .ok ys h5 at ec
                cases ee : fe env1 h3 with
                | exc c zs h => rw [ee] at ec; cases ec
                | bad => rw [ee] at ec; cases ec
                | ok y h4 =>
                  rw [ee] at ec
                  refine ⟨ρ3, env1, h3, er1.step hr'.Live st3, hr3, ?_⟩
                  rw [ee]
                  intro ρ4 H4 v st4 hr4 rv4
                  have memD3 : D ∈ ρ3.rs := by rw [hrs3]; exact List.mem_cons_self
                  have hacc4 : H4 D = some (.lst acc) := st4.keep _ _ hacc3 (hr3.rsv D memD3).1
                  have hrs4 : ρ4.rs = D :: ρ1.rs := st4.rse.trans hrs3
                  have memD4 : D ∈ ρ4.rs := by rw [hrs4]; exact List.mem_cons_self
                  change (compL (bodyL t vs fc fe env) (xs.drop (i + 1)) h4).bind (fun ys h2 => .ok (y :: ys) h2) = .ok ys h5 at ec
                  cases e2 : compL (bodyL t vs fc fe env) (xs.drop (i + 1)) h4 with
                  | exc c zs h => rw [e2] at ec; cases ec
                  | bad => rw [e2] at ec; cases ec
                  | ok z1 z2 =>
                    rw [e2] at ec
                    cases ec
                    refine ⟨acc, hacc4, ?_, ρ4, h4, acc ++ [v], A ++ [y], rfl, by omega, hrs4, stp_fill (stA.chain st4) hD, hr_fill hr4 memD4 hacc4, upd_same, ?_, z1, e2, by rw [← eY]; simp⟩
                    · rw [List.length_cons] at lenY
                      omega
                    · exact RvL.stepR (stpR_fill memD4 hacc4) _ _ ((RvL.step hr3.Live st4 _ _ rl3).app (.one rv4))
    · rw [if_neg hl] at p1
      exact p1.elim
theorem pe_compF {m : Bool} {t : Tg} {own : List (Str × Nat)} {vs : List Nat} (ok : Ok G Γ cl W xa X) (hh : Γ.hot = false) (hi : PI X tg iter (tI G xa W fi)) (bok : BlkOk X.N X.env.scope scope own) (hv : own.map (·.2) = vs) (hsl : ∀ i ∈ t.slots, i ∈ vs)
    (hg : ∀ (s : Shared) (H : Hp) (C : Addr) (cl : List (Str × Addr)) (fp : List Addr), PG (X.blk s H scope (compEnvC scope cl C X.env) fp) tg (gT G none t))
    (ht : ∀ (s : Shared) (H : Hp) (C : Addr) (cl : List (Str × Addr)) (fp : List Addr), PTs (X.blk s H scope (compEnvC scope cl C X.env) fp) ifs (tK G none W0 fc))
    (he : ∀ (s : Shared) (H : Hp) (C : Addr) (cl : List (Str × Addr)) (fp : List Addr), PE (X.blk s H scope (compEnvC scope cl C X.env) fp) elt (tV G none W0 fe)) (hs' : ∀ x, foldedSetIterable iter X.env x = pure x) :
    PE X (.ListComp elt [⟨tg, iter, ifs, 0⟩] scope pos) (tV G xa W fun env h => ((fi env h).bind fun xs h1 => (compL (bodyL t vs fc fe env) xs h1).nox).bind fun ys h5 =>
      if ys.length ≤ lim then (if m = true then .ok (.ref h5.length) (h5 ++ [.lst ys]) else .ok (.lst ys) h5) else .bad) := by
  obtain ⟨hc, _, hxa, _⟩ := ok.cool hh
  subst hxa
  subst hv
  exact pe_imp (pe_lc hc ok.nod hi bok hg ht he hs') fun σ H Q q => tLc_of hsl q
end
end Fs
end

section
set_option Elab.async false
set_option linter.all false
set_option maxRecDepth 100000
/-! FsB: dict comprehensions. -/
namespace Fs
open PySem L2
theorem stpR_fillO {ρ : Rho} {H : Hp} {D : Addr} {o o' : HO} (h : D ∈ ρ.rs) (e : H D = some o) (m : isMut o = true) : StpR ρ H ρ (upd H D o') :=
  ⟨fun x u q _ n => by
    rw [upd_ne fun z => n (by rw [z]; exact h)]
    exact q, fun x u q m' => by
    rw [upd_ne fun z => by
      rw [z, e] at q
      cases q
      rw [m] at m'
      cases m']
    exact q, fun _ _ q => .inl q, fun _ q => .inl q⟩
theorem hr_fillO {G : Gx} {ρ : Rho} {H : Hp} {hs : Hs} {D : Addr} {o o' : HO} (R : HR G ρ hs H) (h : D ∈ ρ.rs) (e : H D = some o) (m : isMut o = true) (m' : isMut o' = true) : HR G ρ hs (upd H D o') := by
  refine R.stepR (stpR_fillO h e m) rfl (fun a ha => ?_) fun a ha => ?_
  · exact upd_ne fun z => (R.rsv D h).1 (by rw [← z]; exact ha)
  · obtain ⟨h1, xs, h2, h3⟩ := R.rsv a ha
    refine ⟨h1, ?_⟩
    by_cases z : a = D
    · subst z; exact ⟨_, upd_same, m'⟩
    · exact ⟨xs, by rw [upd_ne z]; exact h2, h3⟩
theorem put_any (kvs : List (Key × V)) (k : Key) : (kvs.any fun kv => decide (kv.1 = k)) = ((kvs.map (·.1)).any fun q => decide (q = k)) := by
  rw [List.any_map]
  rfl
theorem put_keys {kvs : List (Key × V)} {k : Key} {v : V} {t : T} {ts : List T} : (putK kvs k v).map (·.1) = (putD k t (kvs.map (·.1)) ts).1 := by
  unfold putK putD
  rw [put_any]
  split
  · rw [List.map_map]
    apply List.map_congr_left
    intro kv _
    show (if kv.1 = k then (kv.1, v) else kv).1 = kv.1
    split <;> rfl
  · simp
theorem put_zip {G : Gx} {ρ : Rho} {H : Hp} {k : Key} {v : V} {t : T} (q : Rv G ρ H t v) : ∀ (kvs : List (Key × V)) (ts : List T), RvL G ρ H ts (kvs.map (·.2)) →
    RvL G ρ H (List.zipWith (fun q w => if q = k then t else w) (kvs.map (·.1)) ts) ((kvs.map fun kv => if kv.1 = k then (kv.1, v) else kv).map (·.2))
  | [], ts, r => by simp [RvL]
  | kv :: r, [], h => by
    simp only [RvL] at h
    cases h
  | kv :: r, u :: us, h => by
    simp only [RvL, List.map_cons] at h
    obtain ⟨x, xs, e, q2, h2⟩ := h
    cases e
    have ih := put_zip (k := k) q r us h2
    simp only [List.map_cons, List.zipWith_cons_cons, RvL]
    refine ⟨_, _, rfl, ?_, ih⟩
    by_cases hk : kv.1 = k
    · rw [if_pos hk, if_pos hk]
      exact q
    · rw [if_neg hk, if_neg hk]
      exact q2
theorem put_vals {G : Gx} {ρ : Rho} {H : Hp} {kvs : List (Key × V)} {k : Key} {v : V} {t : T} {ts : List T} (q : Rv G ρ H t v) (r : RvL G ρ H ts (kvs.map (·.2))) : RvL G ρ H (putD k t (kvs.map (·.1)) ts).2 ((putK kvs k v).map (·.2)) := by
  unfold putK putD
  rw [put_any]
  split
  · exact put_zip q kvs ts r
  · rw [List.map_append]
    exact r.app (.one q)
theorem put_le (kvs : List (Key × V)) (k : Key) (v : V) : (putK kvs k v).length ≤ kvs.length + 1 := by
  unfold putK
  split
  · rw [List.length_map]; exact Nat.le_succ _
  · simp
section
variable {G : Gx} {Γ : Cs} {cl : Cal} {W : WX} {xa : Option Xa} {X : Cx} {tg iter kx vx : Expr} {ifs : List Expr} {scope : Scope} {pos : Pos} {fi : En → Hs → R (List T)} {fc : En → Hs → R Bool} {fk fe : En → Hs → R T}
theorem keyT_of {ρ : Rho} {H : Hp} {t : T} {v : V} {q : Key} (r : Rv G ρ H t v) (h : keyT t = some q) : v = kV q := by
  cases t <;> simp only [keyT] at h <;> first | (cases h; done) | skip
  · cases h
    exact int_of r
  · cases h
    exact str_of r
def bodyD (t : Tg) (vs : List Nat) (fc : En → Hs → R Bool) (fk fe : En → Hs → R T) (env : En) (x : T) (h2 : Hs) : R (Option (Key × T)) := match bindG t x (wipeT env vs) with
  | none => .bad
  | some env1 => (fc env1 h2).bind fun b h3 => if b = true then (fk env1 h3).bind fun y h4 => (fe env1 h4).bind fun z h5 => (R.ofO (keyT y) h5).bind fun q h6 => .ok (some (q, z)) h6 else .ok none h3
theorem tDc_of {t : Tg} {vs : List Nat} (hsl : ∀ i ∈ t.slots, i ∈ vs) {σ : St} {H : Hp} {Q : VK} (q : tV G none W (fun env h => ((fi env h).bind fun xs h1 => if xs.length ≤ lim then (dcL (bodyD t vs fc fk fe env) xs [] [] h1).nox else .bad).bind fun p h5 =>
      .ok (.dct p.1 p.2) h5) σ H Q) : tDc (tI G none W fi) (gT G none t) (tK G none W0 fc) (tV G none W0 fk) (tV G none W0 fe) vs σ H Q := by
  obtain ⟨ρ, env, hs, er, hr, p⟩ := q
  change Post G (Rv G) ρ H _ (((fi env hs).bind _).bind _) Q at p
  rw [R.bind_assoc] at p
  refine ⟨ρ, env, hs, er, hr, Post.mono (fun J H1 ⟨ρ1, hs1, xs, st1, hr1, jit, p1⟩ D hD => ?_) (Post.bind (RA := JIt G) p)⟩
  by_cases hlim : xs.length ≤ lim
  case neg =>
    rw [if_neg hlim] at p1
    exact p1.elim
  rw [if_pos hlim] at p1
  cases e : dcL (bodyD t vs fc fk fe env) xs [] [] hs1 with
  | exc c zs h => rw [e] at p1; exact p1.elim
  | bad => rw [e] at p1; exact p1.elim
  | ok Y h5 =>
    rw [e] at p1
    change Post G (Rv G) ρ1 H1 _ (.ok (.dct Y.1 Y.2) h5) Q at p1
    have lim1 : lim < sizeLine := by rw [sizeLine_eq]; decide
    have nD : some D ∉ ρ1.l ∧ D ∉ ρ1.rs := new_out hr1 hD
    refine ⟨fun i m H' => ∃ ρ' hs' kvs ts, m = xs.length - i ∧ i ≤ xs.length ∧ kvs.length ≤ i ∧ ρ'.rs = D :: ρ1.rs ∧ Stp ρ1 H1 ⟨ρ'.l, ρ1.rs⟩ H' ∧ HR G ρ' hs' H' ∧ H' D = some (.dK kvs) ∧ RvL G ρ' H' ts (kvs.map (·.2)) ∧
        dcL (bodyD t vs fc fk fe env) (xs.drop i) (kvs.map (·.1)) ts hs' = .ok Y h5, ?_, ?_⟩
    · have sr : StpR ρ1 H1 ⟨ρ1.l, D :: ρ1.rs⟩ (upd H1 D (.dK [])) := Stp.reR (ρ' := ⟨ρ1.l, D :: ρ1.rs⟩) (.ext (ext_upd hD)) hr1.Live rfl hD
      refine ⟨xs.length, ⟨ρ1.l, D :: ρ1.rs⟩, hs1, [], [], by simp, Nat.zero_le _, Nat.zero_le _, rfl, .ext (ext_upd hD), ?_, upd_same, rvl_nil, by simpa using e⟩
      refine hr1.stepR sr rfl (fun a ha => upd_ne fun z => nD.1 (by rw [← z]; exact ha)) fun a ha => ?_
      rcases List.mem_cons.mp ha with rfl | ha
      · exact ⟨nD.1, _, upd_same, rfl⟩
      · obtain ⟨h1, xs, h2, h3⟩ := hr1.rsv a ha
        exact ⟨h1, xs, ext_upd hD _ _ h2, h3⟩
    · intro i n H' ⟨ρ', hs', kvs, ts, hn, hle, hkl, hrs, st, hr', hacc, rl, ec⟩
      have sr : StpR ρ1 H1 ρ' H' := st.reR hr1.Live hrs hD
      by_cases hi' : i = xs.length
      · subst hi'
        rw [List.drop_length] at ec
        cases ec
        refine .inl ⟨jit.stop _ ρ' H' sr (Nat.le_refl _), ?_⟩
        obtain ⟨l, rs⟩ := ρ'
        change rs = D :: ρ1.rs at hrs
        subst hrs
        have dr : StpR ⟨l, D :: ρ1.rs⟩ H' ⟨l, ρ1.rs⟩ H' := ⟨fun _ _ h _ _ => h, fun _ _ h _ => h, fun _ _ h => .inl h, fun a h => .inl (by
          rcases h with h | h
          · exact .inl h
          · exact .inr (List.mem_cons_of_mem _ h))⟩
        refine p1 ⟨l, ρ1.rs⟩ H' _ st (hr'.stepR dr rfl (fun _ _ => rfl) fun a h => hr'.rsv a (List.mem_cons_of_mem _ h)) ?_
        simp only [Rv]
        exact ⟨D, kvs, rfl, hacc, rfl, RvL.stepR dr _ _ rl, (hr'.rsv D List.mem_cons_self).1, nD.2⟩
      · have hlt : i < xs.length := by omega
        rw [List.drop_eq_getElem_cons hlt] at ec
        have exi : xs[i]? = some xs[i] := List.getElem?_eq_getElem hlt
        refine .inr ⟨jit.go i ρ' H' sr hlt, _, fun H2 h2 => ⟨xs.length - (i + 1), by omega, h2⟩, fun x H'' hy => ?_⟩
        obtain ⟨ex, rv⟩ := jit.yld i x ρ' H' H'' _ sr exi hy
        have rl := RvL.step hr'.Live (Stp.ext ex) _ _ rl
        have hacc := ex _ _ hacc
        have sr := sr.trans ((Stp.ext ex).toR hr'.Live)
        have st := st.trans (Stp.ext ex)
        have hr' := hr'.ext ex
        generalize xs[i] = tt at ec rv
        have er' : EnR G none ρ' H'' (wipeT env vs) (wipe σ vs) := ((er.step hr.Live st1).stepR sr).wipe _ fun i _ q hq => by cases hq
        simp only [dcL, bodyD] at ec
        cases eb : bindG t tt (wipeT env vs) with
        | none => rw [eb] at ec; cases ec
        | some env1 =>
          rw [eb] at ec
          dsimp only at ec
          refine ⟨ρ', _, tt, env1, er', rv, eb, fun σ1 er1 ho => ⟨by rw [ho _ hsl, wipe_idem], ?_⟩⟩
          cases ecd : fc env1 hs' with
          | exc c zs h => rw [ecd] at ec; cases ec
          | bad => rw [ecd] at ec; cases ec
          | ok k h3 =>
            rw [ecd] at ec
            refine ⟨ρ', env1, hs', er1, hr', ?_⟩
            rw [ecd]
            intro ρ3 H3 b st3 hr3 hb
            have hb' : k = b := hb
            subst hb'
            have hrs3 : ρ3.rs = D :: ρ1.rs := st3.rse.trans hrs
            have memD : D ∈ ρ'.rs := by rw [hrs]; exact List.mem_cons_self
            have hacc3 : H3 D = some (.dK kvs) := st3.keep _ _ hacc (hr'.rsv D memD).1
            have stA := st.chain st3
            have rl3 := RvL.step hr'.Live st3 _ _ rl
            cases k with
            | false =>
              rw [if_neg (by decide)]
              exact ⟨ρ3, h3, kvs, ts, rfl, by omega, by omega, hrs3, stA, hr3, hacc3, rl3, ec⟩
            | true =>
              rw [if_pos rfl]
              change (((fk env1 h3).bind fun y h4 => (fe env1 h4).bind fun z h5 => (R.ofO (keyT y) h5).bind fun q h6 => .ok (some (q, z)) h6).bind _) = .ok Y h5 at ec
              cases ek : fk env1 h3 with
              | exc c zs h => rw [ek] at ec; cases ec
              | bad => rw [ek] at ec; cases ec
              | ok y h4 =>
                rw [ek] at ec
                change (((fe env1 h4).bind fun z h5 => (R.ofO (keyT y) h5).bind fun q h6 => .ok (some (q, z)) h6).bind _) = .ok Y h5 at ec
                refine ⟨ρ3, env1, h3, er1.step hr'.Live st3, hr3, ?_⟩
                rw [ek]
                intro ρ4 H4 v st4 hr4 rv4
                have er4 := (er1.step hr'.Live st3).step hr3.Live st4
                have rl4 := RvL.step hr3.Live st4 _ _ rl3
                have memD3 : D ∈ ρ3.rs := by rw [hrs3]; exact List.mem_cons_self
                have hacc4 : H4 D = some (.dK kvs) := st4.keep _ _ hacc3 (hr3.rsv D memD3).1
                have hrs4 : ρ4.rs = D :: ρ1.rs := st4.rse.trans hrs3
                have memD4 : D ∈ ρ4.rs := by rw [hrs4]; exact List.mem_cons_self
                cases ee : fe env1 h4 with
                | exc c zs h => rw [ee] at ec; cases ec
                | bad => rw [ee] at ec; cases ec
                | ok z h6 =>
                  rw [ee] at ec
                  change (((R.ofO (keyT y) h6).bind fun q h6 => .ok (some (q, z)) h6).bind _) = .ok Y h5 at ec
                  cases ekt : keyT y with
                  | none => rw [ekt] at ec; cases ec
                  | some kq =>
                    rw [ekt] at ec
                    change dcL (bodyD t vs fc fk fe env) (xs.drop (i + 1)) (putD kq z (kvs.map (·.1)) ts).1 (putD kq z (kvs.map (·.1)) ts).2 h6 = .ok Y h5 at ec
                    refine ⟨ρ4, env1, h4, er4, hr4, ?_⟩
                    rw [ee]
                    intro ρ5 H5 w st5 hr5 rv5
                    have hacc5 : H5 D = some (.dK kvs) := st5.keep _ _ hacc4 (hr4.rsv D memD4).1
                    have hrs5 : ρ5.rs = D :: ρ1.rs := st5.rse.trans hrs4
                    have memD5 : D ∈ ρ5.rs := by rw [hrs5]; exact List.mem_cons_self
                    have sf : StpR ρ5 H5 ρ5 (upd H5 D (.dK (putK kvs kq w))) := stpR_fillO memD5 hacc5 rfl
                    have rl5 := RvL.stepR sf _ _ (RvL.step hr4.Live st5 _ _ rl4)
                    refine ⟨kvs, kq, keyT_of rv4 ekt, hacc5, by omega, ρ5, h6, putK kvs kq w, (putD kq z (kvs.map (·.1)) ts).2, rfl, by omega, ?_, hrs5, stp_fill ((stA.chain st4).chain st5) hD, hr_fillO hr5 memD5 hacc5 rfl rfl, upd_same, ?_, ?_⟩
                    · have := put_le kvs kq w
                      omega
                    · exact put_vals (Rv.stepR sf _ _ rv5) rl5
                    · rw [put_keys (t := z) (ts := ts)]
                      exact ec
theorem pe_dcompF {t : Tg} {own : List (Str × Nat)} {vs : List Nat} (ok : Ok G Γ cl W xa X) (hh : Γ.hot = false) (hi : PI X tg iter (tI G xa W fi)) (bok : BlkOk X.N X.env.scope scope own) (hv : own.map (·.2) = vs) (hsl : ∀ i ∈ t.slots, i ∈ vs)
    (hg : ∀ (s : Shared) (H : Hp) (C : Addr) (cl : List (Str × Addr)) (fp : List Addr), PG (X.blk s H scope (compEnvC scope cl C X.env) fp) tg (gT G none t))
    (ht : ∀ (s : Shared) (H : Hp) (C : Addr) (cl : List (Str × Addr)) (fp : List Addr), PTs (X.blk s H scope (compEnvC scope cl C X.env) fp) ifs (tK G none W0 fc))
    (hk : ∀ (s : Shared) (H : Hp) (C : Addr) (cl : List (Str × Addr)) (fp : List Addr), PE (X.blk s H scope (compEnvC scope cl C X.env) fp) kx (tV G none W0 fk))
    (he : ∀ (s : Shared) (H : Hp) (C : Addr) (cl : List (Str × Addr)) (fp : List Addr), PE (X.blk s H scope (compEnvC scope cl C X.env) fp) vx (tV G none W0 fe)) (hs' : ∀ x, foldedSetIterable iter X.env x = pure x) :
    PE X (.DictComp kx vx [⟨tg, iter, ifs, 0⟩] scope pos) (tV G xa W fun env h => ((fi env h).bind fun xs h1 => if xs.length ≤ lim then (dcL (bodyD t vs fc fk fe env) xs [] [] h1).nox else .bad).bind fun p h5 =>
      .ok (.dct p.1 p.2) h5) := by
  obtain ⟨hc, _, hxa, _⟩ := ok.cool hh
  subst hxa
  subst hv
  exact pe_imp (pe_dc hc ok.nod hi bok hg ht hk he hs') fun σ H Q q => tDc_of hsl q
end
end Fs
end

section
set_option Elab.async false
set_option linter.all false
set_option maxRecDepth 100000
/-! Fs11: an expression of the text does what its term does. -/
namespace Fs
open PySem L2
theorem Ok.blk {G : Gx} {Γ : Cs} {cl : Cal} {W : WX} {xa : Option Xa} {X : Cx} (ok : Ok G Γ cl W xa X) (hh : Γ.hot = false) (scope : Scope) (s : Shared) (H : Hp) (C : Addr) (cl' : List (Str × Addr)) (fp : List Addr) :
    Ok G (Γ.blk scope) cl W0 none (X.blk s H scope (compEnvC scope cl' C X.env) fp) where
  pr := ok.pr
  K := ok.K
  N := ok.N
  sc := by
    show relabel scope X.env = relS scope Γ.sc
    rw [← ok.sc]
    rfl
  D := ok.D
  nod := ok.nod
  fnc := fun y => rfl
  units := ok.units
  cool := fun _ => by
    obtain ⟨h1, h2, h3, h4⟩ := ok.cool hh
    exact ⟨h1, h2, rfl, h4⟩
  hotx := fun z => by
    have : Γ.hot = true := z
    rw [hh] at this
    cases this
  tk := fun u s' ⟨_, _, _, _, _, _, _, _, _, _, _, _, _, _, _, _, w⟩ => w.elim
theorem frz_rv {G : Gx} {ρ : Rho} {H : Hp} {hs : Hs} {k : Nat} {ts : List T} {v : V} (hr : HR G ρ hs H) (e : hs[k]? = some (.lst ts)) (rv : Rv G ρ H (.ref k) v) : Rv G (ρ.off k) H (.lst ts) v := by
  obtain ⟨a, rfl, hk, xs, q, rl⟩ := hr.at_ e (by simp) rv
  simp only [Rv]
  refine ⟨a, xs, rfl, q, RvL.step hr.Live .off _ _ rl, fun z => ?_, fun z => (hr.rsv a z).1 (mem_rho hk)⟩
  obtain ⟨j, hj, ej⟩ := List.mem_iff_getElem.mp z
  have ej' : (ρ.l.set k none)[j]? = some (some a) := by
    have hj' : j < (ρ.l.set k none).length := hj
    rw [List.getElem?_eq_getElem hj']
    exact congrArg some ej
  by_cases y : k = j
  · subst y
    rw [List.getElem?_set_self (List.getElem?_eq_some_iff.mp hk).1] at ej'
    cases ej'
  · rw [List.getElem?_set_ne y] at ej'
    exact y (hr.inj _ _ _ hk ej')
theorem pt_bad {G : Gx} {xa : Option Xa} {W : WX} {X : Cx} {x : Expr} : PT X x (tK G xa W fun _ _ => .bad) := ⟨fun _ _ _ _ _ _ q => by
  obtain ⟨ρ, env, hs, er, hr, p⟩ := q
  exact p.elim⟩
theorem pts_yes {G : Gx} {xa : Option Xa} {W : WX} {X : Cx} : PTs X [] (tK G xa W fun _ h => .ok true h) := ⟨fun pins s σ H Q I q => by
  obtain ⟨ρ, env, hs, er, hr, p⟩ := q
  exact pts_nil.run pins s σ H Q I (p ρ H true .refl hr rfl)⟩
section
variable (G : Gx) (cl : Cal)
mutual
theorem soundE : ∀ (e : E) {Γ : Cs} {W : WX} {xa : Option Xa} {X : Cx} {x : Expr}, Ok G Γ cl W xa X → chkE Γ e x = true →
    PE X x (tV G xa W fun env h => (ev G.D cl e env h).v) ∧ PT X x (tK G xa W fun env h => (ev G.D cl e env h).t)
  | .non, Γ, W, xa, X, x, ok, h => by
    simp only [chkE] at h
    split at h
    · have v := pe_ofC (G := G) (xa := xa) (W := W) (t := .non) (pe_non (X := X) (j := ‹_›) (pos := ‹_›)) (fun _ _ => rv_non)
      exact ⟨v, pt_ofV ok.K v fun _ => rfl⟩
    · cases h
  | .bl b, Γ, W, xa, X, x, ok, h => by
    simp only [chkE] at h
    split at h
    · have e := of_decide_eq_true h
      subst e
      have v := pe_ofC (G := G) (xa := xa) (W := W) (t := .bl b) (pe_bl (X := X) (b := b) (j := ‹_›) (pos := ‹_›)) (fun _ _ => rv_bl)
      exact ⟨v, pt_ofV ok.K v fun _ => rfl⟩
    · cases h
  | .int i, Γ, W, xa, X, x, ok, h => by
    simp only [chkE] at h
    split at h
    · have e := of_decide_eq_true h
      subst e
      have v := pe_ofC (G := G) (xa := xa) (W := W) (t := .int i) (pe_int (X := X) (i := i) (j := ‹_›) (pos := ‹_›)) (fun _ _ => rv_int)
      exact ⟨v, pt_ofV ok.K v fun _ => rfl⟩
    · cases h
  | .str s, Γ, W, xa, X, x, ok, h => by
    simp only [chkE] at h
    split at h
    · have e := of_decide_eq_true h
      subst e
      have v := pe_ofC (G := G) (xa := xa) (W := W) (t := .str s) (pe_str (X := X) (x := s) (j := ‹_›) (pos := ‹_›)) (fun _ _ => rv_str)
      exact ⟨v, pt_ofV ok.K v fun _ => rfl⟩
    · cases h
  | .var i, Γ, W, xa, X, x, ok, h => by
    simp only [chkE] at h
    split at h
    · rename_i y pos
      have v := pe_varF (pos := pos) ok h
      exact ⟨v, pt_ofV ok.K v fun _ => rfl⟩
    · cases h
  | .glob g, Γ, W, xa, X, x, ok, h => by
    simp only [chkE] at h
    split at h
    · rename_i y pos
      rw [Bool.and_eq_true] at h
      obtain ⟨h1, h2⟩ := h
      rw [ok.D] at h2
      split at h2
      · rename_i q hq
        have v := pe_globF (pos := pos) ok h1 hq (of_decide_eq_true h2)
        exact ⟨v, pt_ofV ok.K v fun _ => rfl⟩
      · cases h2
    · cases h
  | .fnv f, Γ, W, xa, X, x, ok, h => by
    simp only [chkE] at h
    split at h
    · rename_i y pos
      rw [Bool.and_eq_true] at h
      obtain ⟨h1, h2⟩ := h
      rw [ok.D] at h2
      split at h2
      · rename_i fn hf
        rw [Bool.and_eq_true] at h2
        have v := pe_fnvF (pos := pos) ok h1 hf (Option.isNone_iff_eq_none.mp h2.2) (of_decide_eq_true h2.1)
        exact ⟨v, pt_ofV ok.K v fun _ => rfl⟩
      · cases h2
    · cases h
  | .bin o a b, Γ, W, xa, X, x, ok, h => by
    simp only [chkE] at h
    split at h
    · simp only [Bool.and_eq_true] at h
      obtain ⟨h1, h2, h3⟩ := h
      have v := pe_binF (pos := ‹_›) ok.K h1 (soundE a ok h2).1 (soundE b ok h3).1
      exact ⟨v, pt_ofV ok.K v fun _ => rfl⟩
    · cases h
  | .neg a, Γ, W, xa, X, x, ok, h => by
    simp only [chkE] at h
    split at h
    · have v := pe_negF (pos := ‹_›) (soundE a ok h).1
      exact ⟨v, pt_ofV ok.K v fun _ => rfl⟩
    · cases h
  | .nott a, Γ, W, xa, X, x, ok, h => by
    simp only [chkE] at h
    split at h
    · exact ⟨pe_notF ok.K (soundE a ok h).1, pt_notF (soundE a ok h).2⟩
    · cases h
  | .andv xs, Γ, W, xa, X, x, ok, h => by
    simp only [chkE] at h
    split at h
    · rename_i ys pos
      obtain ⟨_, k⟩ := soundL xs ok h
      by_cases hy : ys = []
      · subst hy
        cases xs with
        | nil => exact ⟨⟨fun _ _ _ _ _ _ q => by obtain ⟨ρ, env, hs, er, hr, p⟩ := q; exact p.elim⟩, pt_bad⟩
        | cons _ _ => simp [chkL] at h
      · obtain ⟨h1, h2, _⟩ := k pos hy
        exact ⟨h1, h2.pt⟩
    · cases h
  | .orv xs, Γ, W, xa, X, x, ok, h => by
    simp only [chkE] at h
    split at h
    · rename_i ys pos
      obtain ⟨_, k⟩ := soundL xs ok h
      by_cases hy : ys = []
      · subst hy
        cases xs with
        | nil => exact ⟨⟨fun _ _ _ _ _ _ q => by obtain ⟨ρ, env, hs, er, hr, p⟩ := q; exact p.elim⟩, pt_bad⟩
        | cons _ _ => simp [chkL] at h
      · obtain ⟨_, _, h1, h2⟩ := k pos hy
        exact ⟨h1, h2.pt⟩
    · cases h
  | .cmp o a b, Γ, W, xa, X, x, ok, h => by
    simp only [chkE] at h
    split at h
    · simp only [Bool.and_eq_true] at h
      obtain ⟨h1, h2, h3⟩ := h
      exact ⟨pe_cmpF ok.K (units64 ok) h1 (chkE_plain h3) (soundE a ok h2).1 (soundE b ok h3).1, pt_cmpF ok.K (units64 ok) h1 (chkE_plain h3) (soundE a ok h2).1 (soundE b ok h3).1⟩
    · cases h
  | .cmp2 o o2 a b c, Γ, W, xa, X, x, ok, h => by
    simp only [chkE] at h
    split at h
    · simp only [Bool.and_eq_true] at h
      obtain ⟨⟨h1, h2⟩, h3, h4, h5⟩ := h
      exact ⟨pe_cmp2F ok.K (units64 ok) h1 h2 (chkE_plain h5) (soundE a ok h3).1 (soundE b ok h4).1 (soundE c ok h5).1, pt_cmp2F ok.K (units64 ok) h1 h2 (chkE_plain h5) (soundE a ok h3).1 (soundE b ok h4).1 (soundE c ok h5).1⟩
    · cases h
  | .ite c a b, Γ, W, xa, X, x, ok, h => by
    simp only [chkE] at h
    split at h
    · simp only [Bool.and_eq_true] at h
      obtain ⟨h1, h2, h3⟩ := h
      exact ⟨pe_iteF (soundE c ok h1).2 (soundE a ok h2).1 (soundE b ok h3).1, pt_iteF (soundE c ok h1).2 (soundE a ok h2).2 (soundE b ok h3).2⟩
    · cases h
  | .tup xs, Γ, W, xa, X, x, ok, h => by
    simp only [chkE] at h
    split at h
    · have v := pe_tupF (k := ‹_›) (pos := ‹_›) (soundL xs ok h).1
      exact ⟨v, pt_ofV ok.K v fun _ => rfl⟩
    · cases h
  | .lstI xs, Γ, W, xa, X, x, ok, h => by
    simp only [chkE] at h
    split at h
    · have v := pe_lstIF (pos := ‹_›) (soundL xs ok h).1
      exact ⟨v, pt_ofV ok.K v fun _ => rfl⟩
    · cases h
  | .lstM xs, Γ, W, xa, X, x, ok, h => by
    simp only [chkE] at h
    split at h
    · have v := pe_lstMF (pos := ‹_›) (soundL xs ok h).1
      exact ⟨v, pt_ofV ok.K v fun _ => rfl⟩
    · cases h
  | .ix a i, Γ, W, xa, X, x, ok, h => by
    simp only [chkE] at h
    split at h
    · simp only [Bool.and_eq_true] at h
      have v := pe_ixF (pos := ‹_›) ok.K (chkE_plain h.2) (soundE a ok h.1).1 (soundE i ok h.2).1
      exact ⟨v, pt_ofV ok.K v fun _ => rfl⟩
    · cases h
  | .sl a lo hi, Γ, W, xa, X, x, ok, h => by
    simp only [chkE] at h
    split at h
    · rename_i l p q p2 pos
      simp only [Bool.and_eq_true] at h
      obtain ⟨h1, h2, h3⟩ := h
      have pl : PO X p (tP G xa W fun env h1 => if lo.isAbs = true then .ok none h1 else (ev G.D cl lo env h1).v.bind fun y h2 => R.ofO ((intT y).map some) h2) := by
        cases p with
        | none =>
          have : lo.isAbs = true := h2
          simp only [this, if_true]
          exact po_noneF
        | some y =>
          simp only [Bool.and_eq_true, Bool.not_eq_true'] at h2
          simp only [h2.1, Bool.false_eq_true, if_false]
          exact po_someF (soundE lo ok h2.2).1
      have ph : PO X q (tP G xa W fun env h1 => if hi.isAbs = true then .ok none h1 else (ev G.D cl hi env h1).v.bind fun y h2 => R.ofO ((intT y).map some) h2) := by
        cases q with
        | none =>
          have : hi.isAbs = true := h3
          simp only [this, if_true]
          exact po_noneF
        | some y =>
          simp only [Bool.and_eq_true, Bool.not_eq_true'] at h3
          simp only [h3.1, Bool.false_eq_true, if_false]
          exact po_someF (soundE hi ok h3.2).1
      have v := pe_slF (pos := pos) (p2 := p2) ok.K (soundE a ok h1).1 pl ph
      exact ⟨v, pt_ofV ok.K v fun _ => rfl⟩
    · cases h
  | .absent, Γ, W, xa, X, x, ok, h => by simp [chkE] at h
  | .call f xs, Γ, W, xa, X, x, ok, h => by
    simp only [chkE] at h
    split at h
    · rename_i y p ys pos
      simp only [Bool.and_eq_true, Bool.not_eq_true'] at h
      obtain ⟨⟨h1, h2⟩, h3, h4⟩ := h
      rw [ok.D] at h3
      split at h3
      · rename_i fn hf
        rw [Bool.and_eq_true] at h3
        have v := pe_callF (p := p) (pos := pos) ok h1 h2 hf (Option.isNone_iff_eq_none.mp h3.2) (of_decide_eq_true h3.1) (chkL_plain h4) (soundL xs ok h4).1 (fun e env hs => by
          subst e
          cases xs with
          | nil => rfl
          | cons _ _ => simp [chkL] at h4)
        exact ⟨v, pt_ofV ok.K v fun _ => rfl⟩
      · cases h3
    · cases h
  | .meth f o xs, Γ, W, xa, X, x, ok, h => by
    simp only [chkE] at h
    split at h
    · rename_i ob m apos ys pos
      simp only [Bool.and_eq_true, Bool.not_eq_true', decide_eq_true_eq] at h
      obtain ⟨⟨h1, h2, h3, h4⟩, h5, h6, h7⟩ := h
      rw [ok.D] at h5
      split at h5
      · rename_i fn hf
        rw [Bool.and_eq_true] at h5
        have v := pe_methF (apos := apos) (pos := pos) ok h1 hf (of_decide_eq_true h5.1) h2 h3 h4 (chkL_plain h7) (soundE o ok h6).1 (soundL xs ok h7).1 (fun e env hs => by
          subst e
          cases xs with
          | nil => rfl
          | cons _ _ => simp [chkL] at h7)
        exact ⟨v, pt_ofV ok.K v fun _ => rfl⟩
      · cases h5
    · cases h
  | .new c xs, Γ, W, xa, X, x, ok, h => by
    simp only [chkE] at h
    split at h
    · rename_i y p ys pos
      simp only [Bool.and_eq_true, Bool.not_eq_true'] at h
      obtain ⟨⟨h1, h2⟩, h3, h4⟩ := h
      rw [ok.D] at h3
      split at h3
      · rename_i nm i fl hc
        have en := of_decide_eq_true h3
        subst en
        have v := pe_newF (p := p) (pos := pos) ok h1 h2 hc (chkL_plain h4) (soundL xs ok h4).1 (fun e env hs => by
          subst e
          cases xs with
          | nil => rfl
          | cons _ _ => simp [chkL] at h4)
        have ei : initOf G.D c = some i := by unfold initOf; rw [hc]
        have v2 : PE X (.Call (.Name nm p) ys [] pos) (tV G xa W fun env h => (ev G.D cl (.new c xs) env h).v) := by
          rw [tV_congr (g := fun env h => (evL G.D cl xs env h).bind fun ts h1 => newR cl c i ts h1) fun env hs => by
            show ((evL G.D cl xs env hs).bind _) = _
            congr 1
            funext ts h1
            rw [ei]
            rfl]
          exact v
        exact ⟨v2, pt_ofV ok.K v2 fun _ => rfl⟩
      · cases h3
    · cases h
  | .bi b xs, Γ, W, xa, X, x, ok, h => by
    unfold chkE at h
    split at h
    · rename_i y p ys pos
      simp only [Bool.and_eq_true, decide_eq_true_eq] at h
      obtain ⟨⟨h1, h2, h3⟩, h4⟩ := h
      subst h3
      by_cases hb : notIsi b = true
      · have h5 : ys ≠ [] ∧ chkL Γ xs ys = true := by
          cases b <;> first
            | (simp only [Bool.and_eq_true, Bool.not_eq_true', List.isEmpty_eq_false_iff] at h4; exact h4)
            | cases hb
        obtain ⟨h5, h6⟩ := h5
        cases ys with
        | nil => exact (h5 rfl).elim
        | cons y r =>
          have v := pe_biF (p := p) (pos := pos) ok hb h1 h2 (chkL_plain h6) (soundL xs ok h6).1
          exact ⟨v, pt_ofV ok.K v fun _ => rfl⟩
      · cases b <;> first | exact (hb rfl).elim | skip
        rename_i k
        dsimp only at h4
        split at h4
        · rename_i a p' z apos
          simp only [Bool.and_eq_true, decide_eq_true_eq] at h4
          obtain ⟨h5, h6, h7, h8⟩ := h4
          subst h7
          have hk : k ≠ .non := fun z => by
            subst z
            cases h8
          have v := pe_isiF (p := p) (pos := pos) (apos := apos) (k := k) ok hk h2 h6 (chkE_plain h5) (soundE a ok h5).1
          have v2 : PE X (.Call (.Name "isinstance" p) [p', .Name (kdNm k) apos] [] pos) (tV G xa W fun env h => (ev G.D cl (.bi (.isinst k) (.cons a .nil)) env h).v) := by
            rw [tV_congr (g := fun env h => (ev G.D cl a env h).v.bind fun x h1 => R.ofO (biT (.isinst k) h1 [x]) h1) fun env hs => by
              show ((evL G.D cl (.cons a .nil) env hs).bind _) = _
              show (((ev G.D cl a env hs).v.bind fun x h1 => (R.ok ([] : List T) h1).bind fun xs h2 => .ok (x :: xs) h2).bind _) = _
              rw [R.bind_assoc]
              rfl]
            exact v
          exact ⟨v2, pt_ofV ok.K v2 fun _ => rfl⟩
        · cases h4
    · cases h
  | .bm m o xs, Γ, W, xa, X, x, ok, h => by
    simp only [chkE] at h
    split at h
    · rename_i ob y apos ys pos
      simp only [Bool.and_eq_true, Bool.not_eq_true', decide_eq_true_eq] at h
      obtain ⟨⟨⟨h1, h2⟩, h3, h4, h5, h6⟩, h7, h8, h9⟩ := h
      subst h3
      cases ys with
      | nil => cases h7
      | cons y r =>
        have v := pe_bmF (apos := apos) (pos := pos) ok h1 h4 h5 h6 (chkL_plain h9) (soundE o ok h8).1 (soundL xs ok h9).1
        exact ⟨v, pt_ofV ok.K v fun _ => rfl⟩
    · cases h
  | .attr o f, Γ, W, xa, X, x, ok, h => by
    simp only [chkE] at h
    split at h
    · rename_i ob y pos
      simp only [Bool.and_eq_true, decide_eq_true_eq] at h
      obtain ⟨⟨h1, h2⟩, h3⟩ := h
      subst h1
      have v := pe_attrF (pos := pos) (f := f) ok h2 (soundE o ok h3).1
      exact ⟨v, pt_ofV ok.K v fun _ => rfl⟩
    · cases h
  | .exf f, Γ, W, xa, X, x, ok, h => by
    simp only [chkE] at h
    split at h
    · rename_i y p g pos
      simp only [Bool.and_eq_true, decide_eq_true_eq] at h
      obtain ⟨⟨h1, h2⟩, h3⟩ := h
      subst h2
      split at h3
      · rename_i i hi
        rw [Bool.and_eq_true] at h3
        have v := pe_exfF (pos := pos) (f := f) ok h1 hi h3.1 h3.2
        exact ⟨v, pt_ofV ok.K v fun _ => rfl⟩
      · cases h3
    · cases h
  | .dcomp t it c k e vs, Γ, W, xa, X, x, ok, h => by
    simp only [chkE] at h
    split at h
    · rename_i kx vx tg iter ifs scope pos
      simp only [Bool.and_eq_true, Bool.not_eq_true', decide_eq_true_eq] at h
      obtain ⟨⟨h1, h2, h3, h4⟩, h5, h6, h7, h8, h9⟩ := h
      have bok : BlkOk X.N X.env.scope scope (ownOf Γ.N vs) := by rw [ok.N, ok.sc]; exact blkOk_by h3
      have hsl : ∀ i ∈ t.slots, i ∈ vs := fun i hi => of_decide_eq_true (List.all_eq_true.mp h4 i hi)
      obtain ⟨hi, hf⟩ := soundI it ok h5
      have ht : ∀ (s : Shared) (H : Hp) (C : Addr) (cl' : List (Str × Addr)) (fp : List Addr), PTs (X.blk s H scope (compEnvC scope cl' C X.env) fp) ifs (tK G none W0 fun env h => if c.isAbs = true then .ok true h else (ev G.D cl c env h).t) := fun s H C cl' fp => by
        split at h7
        · simp only [h7, if_true]
          exact pts_yes
        · rename_i y
          simp only [Bool.and_eq_true, Bool.not_eq_true'] at h7
          simp only [h7.1, Bool.false_eq_true, if_false]
          exact pts_one (soundE c (ok.blk h1 scope s H C cl' fp) h7.2).2
        · cases h7
      have v := pe_dcompF (pos := pos) ok h1 hi bok h2 hsl (fun s H C cl' fp => pg_tgF (ok.blk h1 scope s H C cl' fp) h6) ht (fun s H C cl' fp => (soundE k (ok.blk h1 scope s H C cl' fp) h8).1) (fun s H C cl' fp => (soundE e (ok.blk h1 scope s H C cl' fp) h9).1) hf
      exact ⟨v, pt_ofV ok.K v fun _ => rfl⟩
    · cases h
  | .callV i xs, Γ, W, xa, X, x, ok, h => by
    simp only [chkE] at h
    split at h
    · rename_i y p ys pos
      simp only [Bool.and_eq_true, Bool.not_eq_true'] at h
      obtain ⟨⟨h1, h2⟩, h3, h4⟩ := h
      cases ys with
      | nil => simp at h3
      | cons z r =>
        have v := pe_callVF (pos := pos) (p := p) ok h1 h2 (chkL_plain h4) (soundL xs ok h4).1
        exact ⟨v, pt_ofV ok.K v fun _ => rfl⟩
    · cases h
  | .comp m t it c e vs, Γ, W, xa, X, x, ok, h => by
    simp only [chkE] at h
    split at h
    · rename_i elt tg iter ifs scope pos
      simp only [Bool.and_eq_true, Bool.not_eq_true', decide_eq_true_eq] at h
      obtain ⟨⟨h1, h2, h3, h4⟩, h5, h6, h7, h8⟩ := h
      have bok : BlkOk X.N X.env.scope scope (ownOf Γ.N vs) := by rw [ok.N, ok.sc]; exact blkOk_by h3
      have hsl : ∀ i ∈ t.slots, i ∈ vs := fun i hi => of_decide_eq_true (List.all_eq_true.mp h4 i hi)
      obtain ⟨hi, hf⟩ := soundI it ok h5
      have ht : ∀ (s : Shared) (H : Hp) (C : Addr) (cl' : List (Str × Addr)) (fp : List Addr), PTs (X.blk s H scope (compEnvC scope cl' C X.env) fp) ifs (tK G none W0 fun env h => if c.isAbs = true then .ok true h else (ev G.D cl c env h).t) := fun s H C cl' fp => by
        split at h7
        · simp only [h7, if_true]
          exact pts_yes
        · rename_i y
          simp only [Bool.and_eq_true, Bool.not_eq_true'] at h7
          simp only [h7.1, Bool.false_eq_true, if_false]
          exact pts_one (soundE c (ok.blk h1 scope s H C cl' fp) h7.2).2
        · cases h7
      have v := pe_compF (m := m) (pos := pos) ok h1 hi bok h2 hsl (fun s H C cl' fp => pg_tgF (ok.blk h1 scope s H C cl' fp) h6) ht (fun s H C cl' fp => (soundE e (ok.blk h1 scope s H C cl' fp) h8).1) hf
      exact ⟨v, pt_ofV ok.K v fun _ => rfl⟩
    · cases h
  | .fstr xs, Γ, W, xa, X, x, ok, h => by
    simp only [chkE] at h
    split at h
    · rename_i ys pos
      simp only [Bool.and_eq_true, Bool.not_eq_true', List.isEmpty_eq_false_iff] at h
      have v := pe_fstrF (pos := pos) h.2 (soundF xs ok h.1)
      exact ⟨v, pt_ofV ok.K v fun _ => rfl⟩
    · cases h
  | .frz e, Γ, W, xa, X, x, ok, h => by
    change chkE Γ e x = true at h
    refine ⟨pe_imp (soundE e ok h).1 fun σ H Q q => ?_, pt_bad⟩
    obtain ⟨ρ, env, hs, er, hr, p⟩ := q
    refine tV_bind er hr p fun ρ1 hs1 H1 t v er1 hr1 rv st p1 => ?_
    unfold frzT at p1
    split at p1
    · split at p1
      · rename_i k ts en
        exact p1 _ H1 v .off hr1.off (frz_rv hr1 en rv)
      · exact p1.elim
    · exact p1 ρ1 H1 v .refl hr1 rv
    · exact p1.elim
theorem soundL : ∀ (xs : Es) {Γ : Cs} {W : WX} {xa : Option Xa} {X : Cx} {ys : List Expr}, Ok G Γ cl W xa X → chkL Γ xs ys = true →
    PA X ys (tL G xa W fun env h => evL G.D cl xs env h) ∧ ∀ pos, ys ≠ [] →
      PE X (.BoolOp .And ys pos) (tV G xa W fun env h => (evA G.D cl xs env h).v) ∧ PW X (.BoolOp .And ys pos) (tK G xa W fun env h => (evA G.D cl xs env h).t) ∧
      PE X (.BoolOp .Or ys pos) (tV G xa W fun env h => (evO G.D cl xs env h).v) ∧ PW X (.BoolOp .Or ys pos) (tK G xa W fun env h => (evO G.D cl xs env h).t)
  | .nil, Γ, W, xa, X, ys, ok, h => by
    cases ys with
    | nil => exact ⟨pa_nilF, fun _ z => (z rfl).elim⟩
    | cons _ _ => simp [chkL] at h
  | .cons a .nil, Γ, W, xa, X, ys, ok, h => by
    cases ys with
    | nil => simp [chkL] at h
    | cons y ys =>
      simp only [chkL, Bool.and_eq_true] at h
      obtain ⟨h1, h2⟩ := h
      cases ys with
      | cons _ _ => cases h2
      | nil =>
        obtain ⟨v, t⟩ := soundE a ok h1
        exact ⟨pa_consF (chkE_plain h1) v pa_nilF, fun pos _ => ⟨pe_one v, pw_and1 t, pe_one v, pw_or1 t⟩⟩
  | .cons a (.cons b r), Γ, W, xa, X, ys, ok, h => by
    cases ys with
    | nil => simp [chkL] at h
    | cons y ys =>
      change (chkE Γ a y && chkL Γ (.cons b r) ys) = true at h
      rw [Bool.and_eq_true] at h
      obtain ⟨h1, h2⟩ := h
      obtain ⟨v, t⟩ := soundE a ok h1
      obtain ⟨k1, k2⟩ := soundL (.cons b r) ok h2
      refine ⟨pa_consF (chkE_plain h1) v k1, fun pos _ => ?_⟩
      cases ys with
      | nil => simp [chkL] at h2
      | cons z zs =>
        obtain ⟨m1, m2, m3, m4⟩ := k2 pos (by simp)
        exact ⟨pe_andF ok.K v m1, pw_andF t m2, pe_orF ok.K v m3, pw_orF t m4⟩
theorem soundF : ∀ (xs : Es) {Γ : Cs} {W : WX} {xa : Option Xa} {X : Cx} {ys : List Expr}, Ok G Γ cl W xa X → chkF Γ xs ys = true → JOk G xa W X ys (fun acc env h => evF G.D cl xs acc env h)
  | .nil, Γ, W, xa, X, ys, ok, h => by
    cases ys with
    | nil => exact jok_nil
    | cons _ _ => simp [chkF] at h
  | .cons a r, Γ, W, xa, X, ys, ok, h => by
    cases ys with
    | nil => simp [chkF] at h
    | cons y ys =>
      simp only [chkF, Bool.and_eq_true] at h
      obtain ⟨h1, h2⟩ := h
      have k := soundF r ok h2
      split at h1
      · rename_i z p q
        split at h1
        · have e := of_decide_eq_true h1
          subst e
          exact jok_str k
        · cases h1
      · rename_i y' i pos
        simp only [Bool.and_eq_true, decide_eq_true_eq] at h1
        obtain ⟨e, h1⟩ := h1
        subst e
        exact jok_cons (soundE a ok h1).1 k
      · cases h1
theorem soundI : ∀ (it : It) {Γ : Cs} {W : WX} {xa : Option Xa} {X : Cx} {tg x : Expr}, Ok G Γ cl W xa X → chkI Γ it tg x = true → PI X tg x (tI G xa W fun env h => evI G.D cl it env h) ∧ ∀ v, foldedSetIterable x X.env v = pure v
  | .seq e, Γ, W, xa, X, tg, x, ok, h => by
    simp only [chkI] at h
    exact ⟨pi_seqF ok.K (soundE e ok h).1, folded_of (chkE_plain h)⟩
  | .rng e, Γ, W, xa, X, tg, x, ok, h => by
    simp only [chkI] at h
    split at h
    · rename_i y p q pos
      simp only [Bool.and_eq_true, decide_eq_true_eq] at h
      obtain ⟨⟨h1, h2⟩, h3⟩ := h
      subst h2
      exact ⟨pi_rng1F ok h1 (chkE_plain h3) (soundE e ok h3).1, folded_of rfl⟩
    · cases h
  | .rng2 a b, Γ, W, xa, X, tg, x, ok, h => by
    simp only [chkI] at h
    split at h
    · rename_i y p q q2 pos
      simp only [Bool.and_eq_true, decide_eq_true_eq] at h
      obtain ⟨⟨h1, h2⟩, h3, h4⟩ := h
      subst h2
      exact ⟨pi_rng2F ok h1 (chkE_plain h3) (chkE_plain h4) (soundE a ok h3).1 (soundE b ok h4).1, folded_of rfl⟩
    · cases h
  | .enum e, Γ, W, xa, X, tg, x, ok, h => by
    simp only [chkI] at h
    split at h
    · rename_i y p q pos
      simp only [Bool.and_eq_true, decide_eq_true_eq] at h
      obtain ⟨h0, ⟨h1, h2⟩, h3⟩ := h
      subst h2
      split at h0
      · exact ⟨pi_enumF ok h1 (chkE_plain h3) (soundE e ok h3).1, folded_of rfl⟩
      · cases h0
    · cases h
  | .zip _ _, Γ, W, xa, X, tg, x, ok, h => by simp [chkI] at h
end
end
end Fs
end

section
set_option Elab.async false
set_option linter.all false
set_option maxRecDepth 100000
/-! Fs12: the rules of the statements. -/
namespace Fs
open PySem L2
/-- calling the exception class c makes an exception -/
def MkOk (G : Gx) (X : Cx) : Prop := ∀ (c : Nat) (nm : Str) (fl : List Str) (up : List Nat) (pins : List (Addr × Obj)) (s : Shared) (σ : St) (H : Hp) (us : List Value) (vs : List V) (ts : List T) (hs : Hs) (ρ : Rho) (Q : XK),
  G.D.cls[c]? = some (.exc nm fl up) → Inv X pins σ H s → Vals vs us → HR G ρ hs H → RvL G ρ H ts vs → fl.length = ts.length →
  (∀ H' d, Ext H H' → (fl = [] ∨ ∃ dd fs, d = some dd ∧ H' dd = some (.xd fs) ∧ RvF G ρ H' fl ts fs) → Q (.ref (G.ca c)) d H') → wpAny (model X.prog X.w) X.A (call (.ref (G.ca c)) us) (MkP X pins σ Q) X.xe s
/-- the exception classes of the written part -/
structure PrX (G : Gx) (mg : Str → Option Value) : Prop where
  nm : ∀ (c : Nat) (nm : Str) (fl : List Str) (up : List Nat), G.D.cls[c]? = some (.exc nm fl up) → mg nm = some (.ref (G.ca c)) ∧ PySem.W.keepIn G.K (.ref (G.ca c)) = true
  exm : ∀ (c j : Nat) (nm nm' : Str) (fl fl' : List Str) (up up' : List Nat), G.D.cls[c]? = some (.exc nm fl up) → G.D.cls[j]? = some (.exc nm' fl' up') → PySem.W.exmOne G.K (.ref (G.ca c)) (.ref (G.ca j)) = some (up.contains j)
structure OkS (G : Gx) (Γ : Cs) (cl : Cal) (W : WX) (xa : Option Xa) (X : Cx) : Prop where
  ok : Ok G Γ cl W xa X
  og : Γ.og = none
  prx : PrX G X.mg
  po : Γ.hot = false → PassesOwn (model X.prog X.w) X.A X.env X.xe
  stack : X.stack = X.env :: X.outer
  frame : X.env.frame = some X.env.locals
  kind : X.env.scope.kind = .function
  mkx : Γ.hot = false → ∀ (pn : List (Addr × Obj)) (xe : Value → Shared → Prop), MkOk G (X.tr pn xe)

/-! ### ends -/
def PostS (G : Gx) (xa : Option Xa) (W : WX) (D : Ends) (ρ : Rho) (H : Hp) (r : SR) : Prop := match r with
  | .nx env hs => ∀ ρ' H' σ', Stp ρ H ρ' H' → HR G ρ' hs H' → EnR G xa ρ' H' env σ' → D.nx σ' H'
  | .brk env hs => ∀ ρ' H' σ', Stp ρ H ρ' H' → HR G ρ' hs H' → EnR G xa ρ' H' env σ' → D.bk σ' H'
  | .cont env hs => ∀ ρ' H' σ', Stp ρ H ρ' H' → HR G ρ' hs H' → EnR G xa ρ' H' env σ' → D.ct σ' H'
  | .ret t hs => ∀ ρ' H' v, Stp ρ H ρ' H' → HR G ρ' hs H' → Rv G ρ' H' t v → D.rt v H'
  | .exc c xs env hs => ∀ ρ' H' σ' cls d, Stp ρ H ρ' H' → HR G ρ' hs H' → EnR G xa ρ' H' env σ' → ExR G ρ' H' c xs cls d → W cls d σ' H'
  | .bad => False
def tS (G : Gx) (xa : Option Xa) (W : WX) (f : En → Hs → SR) : TS := fun D σ H => ∃ ρ env hs, EnR G xa ρ H env σ ∧ HR G ρ hs H ∧ PostS G xa W D ρ H (f env hs)
section
variable {G : Gx} {Γ : Cs} {cl : Cal} {W : WX} {xa : Option Xa} {X : Cx} {ρ ρ' : Rho} {H H' : Hp} {hs : Hs} {env : En} {σ : St} {D : Ends}
theorem PostS.base {r : SR} (S : Stp ρ H ρ' H') (h : PostS G xa W D ρ H r) : PostS G xa W D ρ' H' r := by
  cases r with
  | nx env hs => exact fun ρ2 H2 σ2 s1 hr er => h ρ2 H2 σ2 (S.trans s1) hr er
  | brk env hs => exact fun ρ2 H2 σ2 s1 hr er => h ρ2 H2 σ2 (S.trans s1) hr er
  | cont env hs => exact fun ρ2 H2 σ2 s1 hr er => h ρ2 H2 σ2 (S.trans s1) hr er
  | ret t hs => exact fun ρ2 H2 v s1 hr rv => h ρ2 H2 v (S.trans s1) hr rv
  | exc c xs env hs => exact fun ρ2 H2 σ2 cls d s1 hr er x => h ρ2 H2 σ2 cls d (S.trans s1) hr er x
  | bad => exact h
/-- an expression first -/
theorem PostS.toS {α β : Type} {RA : Rho → Hp → α → β → Prop} {r : R α} {k : α → Hs → SR} (er : EnR G xa ρ H env σ) (hr : HR G ρ hs H) (h : PostS G xa W D ρ H (r.toS env k)) :
    Post G RA ρ H (fun c d H' => W c d σ H') r (fun b H' => ∃ ρ' hs' a, Stp ρ H ρ' H' ∧ HR G ρ' hs' H' ∧ RA ρ' H' a b ∧ EnR G xa ρ' H' env σ ∧ PostS G xa W D ρ' H' (k a hs')) := by
  cases r with
  | ok a h1 => exact fun ρ2 H2 b s1 hr2 ra => ⟨ρ2, h1, a, s1, hr2, ra, er.step hr.Live s1, PostS.base s1 h⟩
  | exc c xs h1 => exact fun ρ2 H2 cls d s1 hr2 x => h ρ2 H2 σ cls d s1 hr2 (er.step hr.Live s1) x
  | bad => exact h
theorem PostS.ends {D' : Ends} {r : SR} (h : PostS G xa W D ρ H r) (h1 : ∀ σ H, D.nx σ H → D'.nx σ H) (h2 : ∀ σ H, D.bk σ H → D'.bk σ H) (h3 : ∀ σ H, D.ct σ H → D'.ct σ H) (h4 : ∀ v H, D.rt v H → D'.rt v H) : PostS G xa W D' ρ H r := by
  cases r with
  | nx env hs => exact fun ρ2 H2 σ2 s1 hr er => h1 _ _ (h ρ2 H2 σ2 s1 hr er)
  | brk env hs => exact fun ρ2 H2 σ2 s1 hr er => h2 _ _ (h ρ2 H2 σ2 s1 hr er)
  | cont env hs => exact fun ρ2 H2 σ2 s1 hr er => h3 _ _ (h ρ2 H2 σ2 s1 hr er)
  | ret t hs => exact fun ρ2 H2 v s1 hr rv => h4 _ _ (h ρ2 H2 v s1 hr rv)
  | exc c xs env hs => exact h
  | bad => exact h
theorem pss_imp {st : List Stmt} {t t' : TS} (h : PSs X st t) (i : ∀ D σ H, t' D σ H → t D σ H) : PSs X st t' := ⟨fun pins s σ H D I q => h.run pins s σ H D I (i D σ H q)⟩
variable {x a b o ix v tg : Expr} {st : Stmt} {sts sa sb : List Stmt} {xs : List Expr} {pos p p' apos : Pos} {y m f : Str} {fa fb fc fo : En → Hs → R T} {fk : En → Hs → R Bool} {fl' : En → Hs → R (List T)} {g g1 g2 : En → Hs → SR}
theorem pss_nilF : PSs X [] (tS G xa W fun env h => .nx env h) := pss_imp pss_nil fun D σ H q => by
  obtain ⟨ρ, env, hs, er, hr, p⟩ := q
  exact p ρ H σ .refl hr er
theorem pss_consF (h1 : PS X st (tS G xa W g1)) (h2 : PSs X sts (tS G xa W g2)) : PSs X (st :: sts) (tS G xa W fun env h => (g1 env h).andThen fun env1 h1 => g2 env1 h1) :=
  pss_imp (pss_cons h1 h2) fun D σ H q => by
    obtain ⟨ρ, env, hs, er, hr, p⟩ := q
    refine ⟨ρ, env, hs, er, hr, ?_⟩
    change PostS G xa W D ρ H ((g1 env hs).andThen _) at p
    cases e : g1 env hs with
    | nx env1 h1 =>
      rw [e] at p
      intro ρ2 H2 σ2 s1 hr2 er2
      exact ⟨ρ2, env1, h1, er2, hr2, PostS.base s1 p⟩
    | brk env1 h1 => rw [e] at p; exact p
    | cont env1 h1 => rw [e] at p; exact p
    | ret t h1 => rw [e] at p; exact p
    | exc c zs env1 h1 => rw [e] at p; exact p
    | bad => rw [e] at p; exact p
theorem ps_passF : PS X (.Pass pos) (tS G xa W fun env h => .nx env h) := ps_imp ps_pass fun D σ H q => by
  obtain ⟨ρ, env, hs, er, hr, p⟩ := q
  exact p ρ H σ .refl hr er
theorem ps_docF {j : Nat} : PS X (.Expr (.Constant (.str y) j p) pos) (tS G xa W fun env h => .nx env h) := ps_imp ps_doc fun D σ H q => by
  obtain ⟨ρ, env, hs, er, hr, p⟩ := q
  exact p ρ H σ .refl hr er
theorem ps_brkF : PS X (.Break pos) (tS G xa W fun env h => .brk env h) := ps_imp ps_break fun D σ H q => by
  obtain ⟨ρ, env, hs, er, hr, p⟩ := q
  exact p ρ H σ .refl hr er
theorem ps_contF : PS X (.Continue pos) (tS G xa W fun env h => .cont env h) := ps_imp ps_continue fun D σ H q => by
  obtain ⟨ρ, env, hs, er, hr, p⟩ := q
  exact p ρ H σ .refl hr er
theorem ps_retF (h : PE X x (tV G xa W fa)) : PS X (.Return (some x) pos) (tS G xa W fun env h => (fa env h).toS env fun v h1 => .ret v h1) := ps_imp (ps_ret h) fun D σ H q => by
  obtain ⟨ρ, env, hs, er, hr, p⟩ := q
  exact ⟨ρ, env, hs, er, hr, Post.mono (fun v H1 ⟨ρ1, hs1, t, s1, hr1, rv, er1, p1⟩ => p1 ρ1 H1 v .refl hr1 rv) (PostS.toS (RA := Rv G) er hr p)⟩
theorem ps_retNF : PS X (.Return none pos) (tS G xa W fun _ h => .ret .non h) := ps_imp ps_retN fun D σ H q => by
  obtain ⟨ρ, env, hs, er, hr, p⟩ := q
  exact p ρ H .non .refl hr rv_non
theorem ps_exF (h : PE X x (tV G xa W fa)) (hs' : swapsWith x none pos.line X.env = pure false) : PS X (.Expr x pos) (tS G xa W fun env h => (fa env h).toS env fun _ h1 => .nx env h1) := ps_imp (ps_expr h hs') fun D σ H q => by
  obtain ⟨ρ, env, hs, er, hr, p⟩ := q
  exact ⟨ρ, env, hs, er, hr, Post.mono (fun v H1 ⟨ρ1, hs1, t, s1, hr1, rv, er1, p1⟩ => p1 ρ1 H1 σ .refl hr1 er1) (PostS.toS (RA := Rv G) er hr p)⟩
theorem tAsg_of {t : Tg} {D : Ends} {σ : St} {H : Hp} {Tt : TE} (hT : ∀ σ H Q, tV G xa W fa σ H Q → Tt σ H Q) (q : tS G xa W (fun env h => (fa env h).toS env fun v h1 => match bindG t v env with
    | some env1 => .nx env1 h1
    | none => .bad) D σ H) : tAsg Tt (gT G xa t) D σ H := by
  obtain ⟨ρ, env, hs, er, hr, p⟩ := q
  refine hT _ _ _ ⟨ρ, env, hs, er, hr, Post.mono (fun v H1 ⟨ρ1, hs1, u, s1, hr1, rv, er1, p1⟩ => ?_) (PostS.toS (RA := Rv G) er hr p)⟩
  cases e : bindG t u env with
  | none => rw [e] at p1; exact p1.elim
  | some env1 =>
    rw [e] at p1
    exact ⟨ρ1, env, u, env1, er1, rv, e, fun σ1 er2 _ => p1 ρ1 H1 σ1 .refl hr1 er2⟩
theorem ps_asgF {t : Tg} (h : PE X x (tV G xa W fa)) (hg : PG X tg (gT G xa t)) (hs' : swapsWithSole [tg] x pos.line X.env = pure false) (hw : swappedStores [tg] x X.env = pure none) (h1 : (assignEach [tg] X.env).map (·.2) = [assign tg X.env]) :
    PS X (.Assign [tg] x pos) (tS G xa W fun env h => (fa env h).toS env fun v h1 => match bindG t v env with
    | some env1 => .nx env1 h1
    | none => .bad) := ps_imp (ps_asg h hg hs' hw h1) fun D σ H q => tAsg_of (fun _ _ _ q => q) q
/-- several names in a row, from the left -/
def setAll : List Nat → List V → St → St
  | i :: is, v :: vs, σ => setAll is vs (σ.set i (some v))
  | _, _, σ => σ
theorem enR_setAll : ∀ {ns : List Nat} {ts : List T} {vs : List V} {env env1 : En} {σ : St}, EnR G xa ρ H env σ → (∀ i ∈ ns, notXi xa i) → RvL G ρ H ts vs → bindTs ns ts env = some env1 → EnR G xa ρ H env1 (setAll ns vs σ)
  | [], [], vs, env, env1, σ, er, _, rl, e => by
    simp only [bindTs] at e
    cases e
    simp only [RvL] at rl
    subst rl
    exact er
  | [], _ :: _, _, _, _, _, _, _, _, e => by simp [bindTs] at e
  | _ :: _, [], _, _, _, _, _, _, _, e => by simp [bindTs] at e
  | i :: ns, t :: ts, vs, env, env1, σ, er, hn, rl, e => by
    simp only [bindTs] at e
    simp only [RvL] at rl
    obtain ⟨v, ws, rfl, rv, rl⟩ := rl
    exact enR_setAll (ns := ns) (er.set i (hn i List.mem_cons_self) rv) (fun j hj => hn j (List.mem_cons_of_mem _ hj)) rl e
theorem ps_ifF (hc : PT X x (tK G xa W fk)) (ha : PSs X sa (tS G xa W g1)) (hb : PSs X sb (tS G xa W g2)) : PS X (.If x sa sb pos) (tS G xa W fun env h => (fk env h).toS env fun k h1 => if k = true then g1 env h1 else g2 env h1) :=
  ps_imp (ps_if hc ha hb) fun D σ H q => by
    obtain ⟨ρ, env, hs, er, hr, p⟩ := q
    refine ⟨ρ, env, hs, er, hr, Post.mono (fun k H1 ⟨ρ1, hs1, k', s1, hr1, ek, er1, p1⟩ => ?_) (PostS.toS (RA := RBo) er hr p)⟩
    have ek' : k' = k := ek
    subst ek'
    cases k' with
    | true => rw [if_pos rfl] at p1 ⊢; exact ⟨ρ1, env, hs1, er1, hr1, p1⟩
    | false => rw [if_neg (by decide)] at p1 ⊢; exact ⟨ρ1, env, hs1, er1, hr1, p1⟩
theorem ps_whileF {n : Nat} (hp : PassesOwn (model X.prog X.w) X.A X.env X.xe) (hc : PT X x (tK G xa W fk)) (hb : PSs X sa (tS G xa W g)) : PS X (.While x sa [] pos) (tS G xa W fun env h => whileL fk g n env h) :=
  ps_imp (ps_while hp hc hb) fun D σ H q => by
    obtain ⟨ρ, env, hs, er, hr, p⟩ := q
    refine ⟨fun m σ H => ∃ ρ env hs, EnR G xa ρ H env σ ∧ HR G ρ hs H ∧ PostS G xa W D ρ H (whileL fk g m env hs), ⟨n, ρ, env, hs, er, hr, p⟩, ?_⟩
    rintro m σ H ⟨ρ, env, hs, er, hr, p⟩
    cases m with
    | zero => exact p.elim
    | succ m =>
      refine ⟨ρ, env, hs, er, hr, Post.mono (fun k H1 ⟨ρ1, hs1, k', s1, hr1, ek, er1, p1⟩ => ?_) (PostS.toS (RA := RBo) er hr p)⟩
      have ek' : k' = k := ek
      subst ek'
      cases k' with
      | false =>
        rw [if_neg (by decide)] at p1 ⊢
        exact p1 ρ1 H1 σ .refl hr1 er1
      | true =>
        rw [if_pos rfl] at p1 ⊢
        refine ⟨fun σ H => ∃ ρ env hs, EnR G xa ρ H env σ ∧ HR G ρ hs H ∧ PostS G xa W D ρ H (whileL fk g m env hs), fun σ' H' z => ⟨m, Nat.lt_succ_self _, z⟩, ρ1, env, hs1, er1, hr1, ?_⟩
        cases e : g env hs1 with
        | nx env1 h1 => rw [e] at p1; exact fun ρ2 H2 σ2 st hr2 er2 => ⟨ρ2, env1, h1, er2, hr2, PostS.base st p1⟩
        | cont env1 h1 => rw [e] at p1; exact fun ρ2 H2 σ2 st hr2 er2 => ⟨ρ2, env1, h1, er2, hr2, PostS.base st p1⟩
        | brk env1 h1 => rw [e] at p1; exact p1
        | ret t h1 => rw [e] at p1; exact p1
        | exc c zs env1 h1 => rw [e] at p1; exact p1
        | bad => rw [e] at p1; exact p1
theorem ps_forF {t : Tg} {fi : En → Hs → R (List T)} {iter : Expr} (hp : PassesOwn (model X.prog X.w) X.A X.env X.xe) (hc : X.calm = true) (hi : PI X tg iter (tI G xa W fi)) (hg : PG X tg (gT G xa t)) (hb : PSs X sa (tS G xa W g)) (hf : ∀ v, foldedSetIterable iter X.env v = pure v) :
    PS X (.For tg iter sa [] pos) (tS G xa W fun env h => (fi env h).toS env fun xs h1 => forL t g xs env h1) :=
  ps_imp (ps_for hp hc hi hg hb hf) fun D σ H q => by
    obtain ⟨ρ, env, hs, er, hr, p⟩ := q
    refine ⟨ρ, env, hs, er, hr, Post.mono (fun J H1 ⟨ρ1, hs1, xs, s1, hr1, jit, er1, p1⟩ => ?_) (PostS.toS (RA := JIt G) er hr p)⟩
    refine ⟨fun i m σ' H' => ∃ ρ' env' hs', m = xs.length - i ∧ i ≤ xs.length ∧ Stp ρ1 H1 ρ' H' ∧ EnR G xa ρ' H' env' σ' ∧ HR G ρ' hs' H' ∧ PostS G xa W D ρ' H' (forL t g (xs.drop i) env' hs'), ⟨xs.length, ρ1, env, hs1, by simp, Nat.zero_le _, .refl, er1, hr1, by simpa using p1⟩, ?_⟩
    rintro i m σ' H' ⟨ρ', env', hs', hm, hle, st, er', hr', p'⟩
    have sr := st.toR hr1.Live
    by_cases hi' : i = xs.length
    · subst hi'
      rw [List.drop_length] at p'
      exact .inl ⟨jit.stop _ ρ' H' sr (Nat.le_refl _), p' ρ' H' σ' .refl hr' er'⟩
    · have hlt : i < xs.length := by omega
      rw [List.drop_eq_getElem_cons hlt] at p'
      have exi : xs[i]? = some xs[i] := List.getElem?_eq_getElem hlt
      refine .inr ⟨jit.go i ρ' H' sr hlt, _, fun σ2 H2 h2 => ⟨xs.length - (i + 1), by omega, h2⟩, fun x H'' hy => ?_⟩
      obtain ⟨ex, rv⟩ := jit.yld i x ρ' H' H'' _ sr exi hy
      have er' := er'.step hr'.Live (Stp.ext ex)
      have p' := PostS.base (Stp.ext ex) p'
      have st := st.trans (Stp.ext ex)
      have hr' := hr'.ext ex
      generalize xs[i] = tt at p' rv
      unfold forL at p'
      cases eb : bindG t tt env' with
      | none => rw [eb] at p'; exact p'.elim
      | some env1 =>
        rw [eb] at p'
        dsimp only at p'
        refine ⟨ρ', env', tt, env1, er', rv, eb, fun σ1 er2 _ => ⟨ρ', env1, hs', er2, hr', ?_⟩⟩
        cases e : g env1 hs' with
        | nx env2 h2 => rw [e] at p'; exact fun ρ2 H2 σ2 st2 hr2 er3 => ⟨ρ2, env2, h2, rfl, by omega, st.trans st2, er3, hr2, PostS.base st2 p'⟩
        | cont env2 h2 => rw [e] at p'; exact fun ρ2 H2 σ2 st2 hr2 er3 => ⟨ρ2, env2, h2, rfl, by omega, st.trans st2, er3, hr2, PostS.base st2 p'⟩
        | brk env2 h2 => rw [e] at p'; exact p'
        | ret u h2 => rw [e] at p'; exact p'
        | exc c zs env2 h2 => rw [e] at p'; exact p'
        | bad => rw [e] at p'; exact p'
end
end Fs
end

section
set_option Elab.async false
set_option linter.all false
set_option maxRecDepth 100000
/-! Fs13: stores. -/
namespace Fs
open PySem L2
/-- name = [.. for ..] on one line -/
def swapV (Γ : Cs) (y : Str) (py : Pos) : Expr → Bool
  | .ListComp _ _ s p => Γ.sc.names.lookup y == some .local && ((py.line == p.line) && !(s.names.any fun (n, k) => n == y && (k == .local || k == .cell)))
  | .DictComp _ _ _ s p => Γ.sc.names.lookup y == some .local && ((py.line == p.line) && !(s.names.any fun (n, k) => n == y && (k == .local || k == .cell)))
  | _ => false
/-- a tuple on the right of a tuple of names: written constants alone -/
def tupV : Expr → Bool
  | .Tuple vs _ _ => vs.all (foldedForSure 8)
  | _ => true
def notLc : Expr → Bool
  | .ListComp _ _ _ _ => false
  | .DictComp _ _ _ _ _ => false
  | _ => true
section
variable {G : Gx} {Γ : Cs} {cl : Cal} {W : WX} {xa : Option Xa} {X : Cx} {ρ ρ' : Rho} {H H' : Hp} {hs : Hs} {env : En} {σ : St} {D : Ends}
variable {x a b o ix v tg : Expr} {st : Stmt} {sts sa sb : List Stmt} {xs : List Expr} {pos p p' apos : Pos} {y m f : Str} {fa fb fc fo : En → Hs → R T} {fk : En → Hs → R Bool} {fl' : En → Hs → R (List T)} {g g1 g2 : En → Hs → SR}
theorem block_fn {env : Env} (hk : env.scope.kind = .function) : env.blockKind = .function := by
  unfold Env.blockKind
  rw [hk]
  rfl
theorem sw_false {l : Nat} {py : Pos} (hk : X.env.scope.kind = .function) (hsc : X.env.scope = Γ.sc) (hp : plainX v = true) (h : swapV Γ y py v = false) : swapsWith v (some (.Name y py)) l X.env = pure false := by
  cases v with
  | ListComp elt gs scope pos =>
    have hb := block_fn hk
    have ky : X.env.kindOf y = Γ.sc.names.lookup y := by rw [← hsc]; rfl
    unfold swapV at h
    unfold swapsWith
    show (pure (X.env.blockKind == .function && X.env.kindOf y == some .local && py.line == pos.line && !(scope.names.any fun (n, k) => n == y && (k == .local || k == .cell))) : Sem Bool) = pure false
    rw [hb, ky]
    congr 1
    rw [show ((ScopeKind.function == ScopeKind.function) = true) from rfl, Bool.true_and, Bool.and_assoc]
    exact h
  | DictComp kx vx gs scope pos =>
    have hb := block_fn hk
    have ky : X.env.kindOf y = Γ.sc.names.lookup y := by rw [← hsc]; rfl
    unfold swapV at h
    unfold swapsWith
    show (pure (X.env.blockKind == .function && X.env.kindOf y == some .local && py.line == pos.line && !(scope.names.any fun (n, k) => n == y && (k == .local || k == .cell))) : Sem Bool) = pure false
    rw [hb, ky]
    congr 1
    rw [show ((ScopeKind.function == ScopeKind.function) = true) from rfl, Bool.true_and, Bool.and_assoc]
    exact h
  | _ => first | rfl | cases hp
theorem sw_other {l : Nat} {t : Expr} (hp : plainX v = true) (ht : ∀ y p, t ≠ .Name y p) : swapsWith v (some t) l X.env = pure false := by
  cases v <;> first | (cases hp; done) | rfl | skip
  all_goals cases t <;> first | rfl | exact (ht _ _ rfl).elim
theorem sw_drop {l : Nat} (hp : plainX v = true) (hn : notLc v = true) : swapsWith v none l X.env = pure false := by
  cases v <;> first | (cases hp; done) | (cases hn; done) | rfl
theorem swst_none {t : Expr} (ht : ∀ es k p, t ≠ .Tuple es k p) (ht2 : ∀ es p, t ≠ .List es p) : swappedStores [t] v X.env = pure none := by
  unfold swappedStores
  cases t <;> first | rfl | exact (ht _ _ _ rfl).elim | exact (ht2 _ _ rfl).elim
theorem swst_tup {ts : List Expr} {k : Nat} {pt : Pos} (hv : tupV v = true) : swappedStores [.Tuple ts k pt] v X.env = pure none := by
  unfold swappedStores
  cases v with
  | Tuple vs k2 pt2 =>
    have h : vs.all (foldedForSure 8) = true := hv
    dsimp only
    simp only [h, if_true]
    split <;> first | rfl | (split <;> first | rfl | (split <;> first | rfl | simp))
  | _ => rfl
/-- name = value -/
theorem ps_setF {i : Nat} {py : Pos} (ok : OkS G Γ cl W xa X) (ht : Γ.isTgt i y = true) (hp : plainX v = true) (hsw : swapV Γ y py v = false) (h : PE X v (tV G xa W fa)) :
    PS X (.Assign [.Name y py] v pos) (tS G xa W fun env h => (fa env h).toS env fun x h1 => .nx (env.set i (some x)) h1) :=
  ps_asgF (t := .nm i) h (pg_nameF ok.ok ht) (show swapsWithSole [.Name y py] v pos.line X.env = pure false from sw_false (l := pos.line) ok.kind ok.ok.sc hp hsw) (swst_none (fun _ _ _ z => by cases z) fun _ _ z => by cases z) rfl
/-- a, b, .. = value -/
theorem ps_setTF {ns : List Nat} {k : Nat} {pt : Pos} (ok : OkS G Γ cl W xa X) (hh : Γ.hot = false) (ht : chkTn Γ ns xs = true) (hp : plainX v = true) (hv : tupV v = true) (h : PE X v (tV G xa W fa)) :
    PS X (.Assign [.Tuple xs k pt] v pos) (tS G xa W fun env h => (fa env h).toS env fun x h1 => match bindG (.tp ns) x env with
    | some env1 => .nx env1 h1
    | none => .bad) :=
  ps_asgF (t := .tp ns) h (pg_tgF ok.ok (by simp only [chkT, Bool.and_eq_true]; exact ⟨ht, by rw [hh]; rfl⟩)) (show swapsWithSole [.Tuple xs k pt] v pos.line X.env = pure false from sw_other (X := X) (t := .Tuple xs k pt) (l := pos.line) hp fun _ _ z => by cases z) (swst_tup hv) rfl
/-- o[i] = value -/
theorem ps_setIxF (h : PE X v (tV G xa W fa)) (ho : PE X o (tV G xa W fo)) (hi : PE X ix (tV G xa W fb)) (hp : plainX v = true) (hpi : plainX ix = true) :
    PS X (.Assign [.Subscript o ix p] v pos) (tS G xa W fun env h => (fa env h).toS env fun x h1 => (fo env h1).toS env fun y h2 => (fb env h2).toS env fun z h3 => match setIxT h3 y z x with
    | some h4 => .nx env h4
    | none => .bad) :=
  ps_imp (ps_asg h (pg_sub ho hi set_list (fun v => by cases ix <;> first | rfl | cases hpi)) (show swapsWithSole [.Subscript o ix p] v pos.line X.env = pure false from sw_other (X := X) (t := .Subscript o ix p) (l := pos.line) hp fun _ _ z => by cases z) (swst_none (fun _ _ _ z => by cases z) fun _ _ z => by cases z) rfl) fun D σ H q => by
    obtain ⟨ρ, env, hs, er, hr, p⟩ := q
    refine ⟨ρ, env, hs, er, hr, Post.mono (fun v H1 ⟨ρ1, hs1, t, s1, hr1, rv, er1, p1⟩ => ?_) (PostS.toS (RA := Rv G) er hr p)⟩
    refine ⟨ρ1, env, hs1, er1, hr1, Post.mono (fun vo H2 ⟨ρ2, hs2, u, s2, hr2, ro, er2, p2⟩ => ?_) (PostS.toS (RA := Rv G) er1 hr1 p1)⟩
    refine ⟨ρ2, env, hs2, er2, hr2, Post.mono (fun vi H3 ⟨ρ3, hs3, w, s3, hr3, ri, er3, p3⟩ => ?_) (PostS.toS (RA := Rv G) er2 hr2 p2)⟩
    cases e : setIxT hs3 u w t with
    | none => rw [e] at p3; exact p3.elim
    | some h4 =>
      rw [e] at p3
      have ro3 := Rv.step hr2.Live s3 _ _ ro
      have rv3 := Rv.step hr2.Live s3 _ _ (Rv.step hr1.Live s2 _ _ rv)
      unfold setIxT at e
      split at e
      · rename_i k j _
        split at e
        · rename_i ts en
          obtain ⟨n, e1, rfl⟩ := opt_map e
          obtain ⟨a, rfl, hk, ws, q, rl⟩ := hr3.at_ en (by simp) ro3
          cases int_of ri
          have st : Stp ρ3 H3 ρ3 (upd H3 a (.lst (ws.set n v))) := .mut (mem_rho hk)
          refine ⟨a, ws, j, n, rfl, rfl, q, by rw [rl.len]; exact e1, ?_⟩
          exact p3 ρ3 _ σ st (hr3.mut hk (by simp) ⟨_, upd_same, (RvL.step hr3.Live st _ _ rl).set n (Rv.step hr3.Live st _ _ rv3)⟩) (er3.step hr3.Live st)
        · cases e
      · cases e
theorem FsR.length : ∀ {fs : List (Str × T)} {ys : List (Str × V)}, FsR G ρ H fs ys → ys.length = fs.length
  | [], _, h => by cases h; rfl
  | p :: r, _, h => by
    obtain ⟨v, ws, rfl, q, z⟩ := h
    simp [z.length]
theorem FsR.put {t : T} {v : V} (rv : Rv G ρ H t v) : ∀ {fs : List (Str × T)} {ys : List (Str × V)}, FsR G ρ H fs ys → FsR G ρ H (putFs f t fs) (putF f v ys)
  | [], _, h => by
    cases h
    exact ⟨v, [], rfl, rv, rfl⟩
  | (g, w) :: r, _, h => by
    obtain ⟨u, ws, rfl, q, z⟩ := h
    unfold putFs putF
    by_cases e : g = f
    · rw [if_pos e, if_pos e]
      exact ⟨v, ws, rfl, rv, z⟩
    · rw [if_neg e, if_neg e]
      exact ⟨u, _, rfl, q, z.put rv⟩
/-- o.f = value -/
theorem ps_setAtF (ok : OkS G Γ cl W xa X) (h : PE X v (tV G xa W fa)) (ho : PE X o (tV G xa W fo)) (hp : plainX v = true) :
    PS X (.Assign [.Attribute o f p] v pos) (tS G xa W fun env h => (fa env h).toS env fun x h1 => (fo env h1).toS env fun y h2 => match setAtT G.D h2 y f x with
    | some h3 => .nx env h3
    | none => .bad) :=
  ps_imp (ps_fld ho h (sw_other hp fun _ _ z => by cases z)) fun D σ H q => by
    obtain ⟨ρ, env, hs, er, hr, p⟩ := q
    refine ⟨ρ, env, hs, er, hr, Post.mono (fun v H1 ⟨ρ1, hs1, t, s1, hr1, rv, er1, p1⟩ => ?_) (PostS.toS (RA := Rv G) er hr p)⟩
    refine ⟨ρ1, env, hs1, er1, hr1, Post.mono (fun vo H2 ⟨ρ2, hs2, u, s2, hr2, ro, er2, p2⟩ => ?_) (PostS.toS (RA := Rv G) er1 hr1 p1)⟩
    cases e : setAtT G.D hs2 u f t with
    | none => rw [e] at p2; exact p2.elim
    | some h4 =>
      rw [e] at p2
      have rv2 := Rv.step hr1.Live s2 _ _ rv
      unfold setAtT at e
      split at e
      · rename_i k _
        split at e
        · rename_i c fs en
          split at e
          · rename_i hc
            rw [Bool.and_eq_true, decide_eq_true_eq] at hc
            cases e
            obtain ⟨a, rfl, hk, dx, ys, ea, fr⟩ := hr2.at_ en (by simp) ro
            obtain ⟨c1, c2⟩ := ok.ok.pr.flds c f hc.1
            rw [← ok.ok.K] at c1 c2
            have st : Stp ρ2 H2 ρ2 (upd H2 a (.ins (G.ca c) dx (putF f v ys))) := .mut (mem_rho hk)
            refine ⟨a, _, dx, ys, rfl, ea, c1, c2, by rw [fr.length]; omega, ?_⟩
            exact p2 ρ2 _ σ st (hr2.mut hk (by simp) ⟨dx, _, upd_same, (fr.step hr2.Live st).put (Rv.step hr2.Live st _ _ rv2)⟩) (er2.step hr2.Live st)
          · cases e
        · cases e
      · cases e
def augO : Bk → Operator → Bool
  | .add, .Add => true
  | .sub, .Sub => true
  | _, _ => false
def ipA (b : Bk) : TIp := fun x y H Q => ∃ i j, x = .int i ∧ y = .int j ∧ ∀ z, augT b (.int i) (.int j) = some (.int z) → Q (.int z) H
theorem ip_aug {bk : Bk} {op : Operator} (h : augO bk op = true) : PIp X op (ipA bk) := by
  intro pins s σ H x y v u Q I r1 r2 q
  obtain ⟨i, j, rfl, rfl, q⟩ := q
  cases bk <;> cases op <;> first | (cases h; done) | skip
  · exact ip_add pins s σ H _ _ v u Q I r1 r2 ⟨i, j, rfl, rfl, q _ rfl⟩
  · exact ip_sub pins s σ H _ _ v u Q I r1 r2 ⟨i, j, rfl, rfl, q _ rfl⟩
theorem augT_of {bk : Bk} {t u z : T} {vt vu : V} (e : augT bk t u = some z) (rt : Rv G ρ H t vt) (ru : Rv G ρ H u vu) : ∃ i j k, t = .int i ∧ u = .int j ∧ vt = .int i ∧ vu = .int j ∧ z = .int k := by
  unfold augT at e
  split at e
  · cases e; exact ⟨_, _, _, rfl, rfl, int_of rt, int_of ru, rfl⟩
  · cases e; exact ⟨_, _, _, rfl, rfl, int_of rt, int_of ru, rfl⟩
  · cases e
/-- name op= value -/
theorem ps_augF {i : Nat} {bk : Bk} {op : Operator} {py : Pos} (ok : OkS G Γ cl W xa X) (ht : Γ.isTgt i y = true) (hb : augO bk op = true) (h : PE X v (tV G xa W fa)) :
    PS X (.AugAssign (.Name y py) op v pos) (tS G xa W fun env h => match env[i]? with
    | some (some x) => (fa env h).toS env fun y h1 => match augT bk x y with
      | some z => .nx (env.set i (some z)) h1
      | none => .bad
    | _ => .bad) := by
  obtain ⟨t1, t2, t3, t4⟩ := ok.ok.tgt ht
  refine ps_imp (ps_aug ok.ok.nod t1 t2 h (ip_aug hb) t3) fun D σ H q => ?_
  obtain ⟨ρ, env, hs, er, hr, p⟩ := q
  change PostS G xa W D ρ H (match env[i]? with
    | some (some x) => (fa env hs).toS env fun y h1 => match augT bk x y with
      | some z => .nx (env.set i (some z)) h1
      | none => .bad
    | _ => .bad) at p
  split at p
  · rename_i x e
    obtain ⟨w, e1, rw'⟩ := er.at_ i x e
    refine ⟨w, e1, ρ, env, hs, er, hr, Post.mono (fun v H1 ⟨ρ1, hs1, t, s1, hr1, rv, er1, p1⟩ => ?_) (PostS.toS (RA := Rv G) er hr p)⟩
    cases ea : augT bk x t with
    | none => rw [ea] at p1; exact p1.elim
    | some z =>
      rw [ea] at p1
      obtain ⟨i', j', k', rfl, rfl, rfl, rfl, rfl⟩ := augT_of ea (Rv.step hr.Live s1 _ _ rw') rv
      refine ⟨i', j', rfl, rfl, fun z hz => ?_⟩
      rw [ea] at hz
      cases hz
      exact p1 ρ1 H1 _ .refl hr1 (er1.set i t4 rv_int)
  · exact p.elim
theorem get_list : PGet X (fun o i H Q => ∃ p xs j z, o = .ref p ∧ i = .int j ∧ H p = some (.lst xs) ∧ L2.atI xs j = some z ∧ Q z H) := by
  intro pins s σ H o i ov iv Q I ro ri h
  obtain ⟨p, xs, j, z, rfl, rfl, hp, he, q⟩ := h
  cases ro
  obtain ⟨t, rfl⟩ := ri
  obtain ⟨its, r, pl, hz⟩ := I.list (SqL.of hp)
  obtain ⟨n, h1, h2, h3, h4, h5⟩ := atI_get he
  obtain ⟨w, ew, rw'⟩ := r.get h2
  have hl := r.length
  have hn := line63
  by_cases h0 : 0 ≤ j
  · have hj : j.toNat = n := by
      rw [seqIndex_of h0 h5] at h1
      exact Option.some.inj h1
    exact wpAny_getItem_list pl.isList h0 (by omega) (by rw [hj]; simpa using ew) ⟨z, H, I, rw', q⟩
  · have hj : (j + (its.toArray.size : Int)).toNat = n := by
      rw [seqIndex_neg (by omega) h4] at h1
      rw [List.size_toArray, ← hl]
      exact Option.some.inj h1
    exact wpAny_getItem_list_neg pl.isList (by omega) (by rw [List.size_toArray] <;> omega) (by omega) (by rw [hj]; simpa using ew) ⟨z, H, I, rw', q⟩
/-- o[i] op= value -/
theorem ps_augIxF {bk : Bk} {op : Operator} (hb : augO bk op = true) (h : PE X v (tV G xa W fa)) (ho : PE X o (tV G xa W fo)) (hi : PE X ix (tV G xa W fb)) (hpi : plainX ix = true) :
    PS X (.AugAssign (.Subscript o ix p) op v pos) (tS G xa W fun env h => (fo env h).toS env fun y h1 => (fb env h1).toS env fun z h2 => match refIx h2 y z with
    | some x => (fa env h2).toS env fun u h3 => match augT bk x u with
      | some q => match setIxT h3 y z q with
        | some h4 => .nx env h4
        | none => .bad
      | none => .bad
    | none => .bad) := by
  refine ps_imp (ps_augS ho hi get_list h (ip_aug hb) set_list (fun ov iv new => by cases ix <;> first | rfl | cases hpi)) fun D σ H q => ?_
  obtain ⟨ρ, env, hs, er, hr, p⟩ := q
  refine ⟨ρ, env, hs, er, hr, Post.mono (fun vo H1 ⟨ρ1, hs1, t, s1, hr1, ro, er1, p1⟩ => ?_) (PostS.toS (RA := Rv G) er hr p)⟩
  refine ⟨ρ1, env, hs1, er1, hr1, Post.mono (fun vi H2 ⟨ρ2, hs2, w, s2, hr2, ri, er2, p2⟩ => ?_) (PostS.toS (RA := Rv G) er1 hr1 p1)⟩
  have ro2 := Rv.step hr1.Live s2 _ _ ro
  cases e : refIx hs2 t w with
  | none => rw [e] at p2; exact p2.elim
  | some x =>
    rw [e] at p2
    cases t
    case ref k _ =>
      cases w
      case int j =>
        simp only [refIx, ixT] at e
        split at e
        · rename_i ts en
          obtain ⟨a, rfl, hk, ws, q, rl⟩ := hr2.at_ en (by simp) ro2
          cases int_of ri
          obtain ⟨z, e1, rz⟩ := rl.atI e
          refine ⟨a, ws, j, z, rfl, rfl, q, e1, ρ2, env, hs2, er2, hr2, Post.mono (fun v H3 ⟨ρ3, hs3, u, s3, hr3, rv, er3, p3⟩ => ?_) (PostS.toS (RA := Rv G) er2 hr2 p2)⟩
          cases ea : augT bk x u with
          | none => rw [ea] at p3; exact p3.elim
          | some qq =>
            rw [ea] at p3
            obtain ⟨i', j', k', rfl, rfl, rfl, rfl, rfl⟩ := augT_of ea (Rv.step hr2.Live s3 _ _ rz) rv
            refine ⟨i', j', rfl, rfl, fun z hz => ?_⟩
            rw [ea] at hz
            cases hz
            dsimp only at p3
            cases es : setIxT hs3 (.ref k) (.int j) (.int k') with
            | none => rw [es] at p3; exact p3.elim
            | some h4 =>
              rw [es] at p3
              unfold setIxT at es
              dsimp only at es
              split at es
              · rename_i ts' en'
                obtain ⟨n, en2, rfl⟩ := opt_map es
                obtain ⟨a', ea', hk', ws', q', rl'⟩ := hr3.at_ en' (by simp) (Rv.step hr2.Live s3 _ _ ro2)
                cases ea'
                have st : Stp ρ3 H3 ρ3 (upd H3 a (.lst (ws'.set n (.int k')))) := .mut (mem_rho hk')
                refine ⟨a, ws', j, n, rfl, rfl, q', by rw [rl'.len]; exact en2, ?_⟩
                exact p3 ρ3 _ σ st (hr3.mut hk' (by simp) ⟨_, upd_same, (RvL.step hr3.Live st _ _ rl').set n rv_int⟩) (er3.step hr3.Live st)
              · cases es
        · cases e
      all_goals (simp only [refIx, ixT] at e; cases e)
    all_goals (simp only [refIx] at e; cases e)
end
end Fs
end

section
set_option Elab.async false
set_option linter.all false
set_option maxRecDepth 100000
/-! Fs14: raise, pairs, try; a statement of the text does what its term does. -/
namespace Fs
open PySem L2
section
variable {G : Gx} {Γ : Cs} {cl : Cal} {W : WX} {xa : Option Xa} {X : Cx} {ρ ρ' : Rho} {H H' : Hp} {hs : Hs} {env : En} {σ : St} {D : Ends}
variable {x a b c o ix v tg : Expr} {st : Stmt} {sts sa sb : List Stmt} {xs : List Expr} {pos p p' apos : Pos} {y m f : Str} {fa fb fc fo : En → Hs → R T} {fk : En → Hs → R Bool} {fl' : En → Hs → R (List T)} {g g1 g2 : En → Hs → SR}
/-- raise C(..) -/
theorem ps_raisF {c : Nat} {fl : List Str} {up : List Nat} (ok : OkS G Γ cl W xa X) (hh : Γ.hot = false) (hg : Γ.isGlob y = true) (hcl : G.D.cls[c]? = some (.exc y fl up)) (hp : xs.all plainX = true) (ha : PA X xs (tL G xa W fl')) (h0 : xs = [] → ∀ env h, fl' env h = .ok [] h) :
    PS X (.Raise (some (.Call (.Name y p) xs [] p')) none pos) (tS G xa W fun env h => (fl' env h).toS env fun ts h1 => if excOk G.D c ts = true then .exc c ts env h1 else .bad) := by
  obtain ⟨g1, g2, g3⟩ := ok.ok.glob hg
  obtain ⟨hm, hk⟩ := ok.prx.nm c y fl up hcl
  rw [← ok.ok.K] at hk
  obtain ⟨hc, _⟩ := ok.ok.cool hh
  have efl : G.fl c = fl := by unfold Gx.fl; rw [hcl]
  have mk : MkOk G X := ok.mkx hh X.pn X.xe
  have he : PMk X (.Call (.Name y p) xs [] p') (fun σ H Q => tL G xa W fl' σ H fun vs H1 => ∃ ρ1 hs1 ts, HR G ρ1 hs1 H1 ∧ RvL G ρ1 H1 ts vs ∧ fl.length = ts.length ∧
      ∀ H' d, Ext H1 H' → (fl = [] ∨ ∃ dd fs, d = some dd ∧ H' dd = some (.xd fs) ∧ RvF G ρ1 H' fl ts fs) → Q (.ref (G.ca c)) d H') := by
    intro pins s σ H Q I q
    refine wpAny_Call_Name_kw (ld_glob I g1 hm ?_ g2)
    cases xs with
    | nil =>
      refine PySem.W.callWith_K0 I.kIn hk ?_
      obtain ⟨ρ, env, hs, er, hr, z⟩ := q
      rw [h0 rfl] at z
      obtain ⟨ρ1, hs1, ts, hr1, rl, hl, k⟩ := z ρ H [] .refl hr rvl_nil
      exact mk c y fl up pins s σ H [] [] ts hs1 ρ1 Q hcl I .nil hr1 rl hl k
    | cons x r =>
      refine PySem.W.callWith_K (h₀ := X.base) I.ok.mod.kin hk (thn (ha.run p' pins s σ H _ I q) fun us s1 ⟨vs, H1, I1, r1, ρ1, hs1, ts, hr1, rl, hl, k⟩ => ⟨I1.kIn, ?_⟩) (plain_star hp) (plain_back hp)
      exact mk c y fl up pins s1 σ H1 us vs ts hs1 ρ1 Q hcl I1 r1 hr1 rl hl k
  refine ps_imp (ps_raise hc ok.ok.tk he) fun D σ H q => ?_
  obtain ⟨ρ, env, hs, er, hr, p⟩ := q
  refine ⟨ρ, env, hs, er, hr, Post.mono (fun vs H1 ⟨ρ1, hs1, ts, s1, hr1, rl, er1, p1⟩ => ?_) (PostS.toS (RA := RvL G) er hr p)⟩
  by_cases ho : excOk G.D c ts = true
  · rw [if_pos ho] at p1
    unfold excOk at ho
    rw [hcl] at ho
    have hl : fl.length = ts.length := of_decide_eq_true ho
    refine ⟨ρ1, hs1, ts, hr1, rl, hl, fun H' d ex k => ?_⟩
    refine p1 ρ1 H' σ _ d (.ext ex) (hr1.ext ex) (er1.step hr1.Live (.ext ex)) ⟨⟨y, up, by rw [efl]; exact hcl⟩, rfl, by rw [efl]; exact hl, ?_⟩
    rw [efl]
    exact k
  · rw [if_neg ho] at p1
    exact p1.elim

/-! ### a, b = x, y -/
theorem swst2 {nx ny : Str} {px py pt : Pos} {kt k2 : Nat} {pt2 : Pos} (hb : X.env.blockKind = .function) (hx : X.env.kindOf nx = some .local) (hy : X.env.kindOf ny = some .local) (hl : (py.line == px.line) = true) (hne : nx ≠ ny) (pa : plainX a = true) (pb : plainX b = true)
    (h1 : [a, b].all (foldedForSure 8) = false) (h2 : [a, b].all (constantsAlone 8) = false) : swappedStores [.Tuple [.Name nx px, .Name ny py] kt pt] (.Tuple [a, b] k2 pt2) X.env = pure (some [nx, ny]) := by
  have hl' : py.line = px.line := by simpa using hl
  have hne' : ¬ ny = nx := fun z => hne z.symm
  have e : (ny == nx) = false := by simpa using hne'
  have f1 : ¬ (foldedForSure 8 a = true ∧ foldedForSure 8 b = true) := fun z => by simp [z.1, z.2] at h1
  have f2 : ¬ (constantsAlone 8 a = true ∧ constantsAlone 8 b = true) := fun z => by simp [z.1, z.2] at h2
  unfold swappedStores
  simp only [hb, hx, hy, Expr.pos, hl', List.filterMap_cons, List.filterMap_nil, List.head?_cons, Option.map_some, Option.getD_some, List.length_cons, List.length_nil, List.any_cons, List.any_nil, List.all_cons, List.all_nil, Bool.or_false, Bool.and_true, Bool.or_eq_true, Bool.and_eq_true, f1, f2, List.eraseDups, List.eraseDupsBy, List.eraseDupsBy.loop, e, beq_self_eq_true, if_true, if_false]
  split
  · rename_i z
    simp at z
  · split
    · exfalso
      first
        | (simp [plainX] at pa; done)
        | (rename_i z; rcases z with z | z <;> (split at z <;> simp_all [plainX]))
    · split
      · exfalso
        simp [plainX] at pb
      · simp [List.eraseDupsBy.loop, e, hne, hne']
theorem swst3 {nx ny nz : Str} {c3 : Expr} {px py pz pt : Pos} {kt k2 : Nat} {pt2 : Pos} (hb : X.env.blockKind = .function) (hx : X.env.kindOf nx = some .local) (hy : X.env.kindOf ny = some .local) (hz : X.env.kindOf nz = some .local) (hl : (py.line == px.line) = true) (hl3 : (pz.line == px.line) = true) (hne : nx ≠ ny) (hne2 : nx ≠ nz) (hne3 : ny ≠ nz) (pa : plainX a = true) (pb : plainX b = true) (pc : plainX c3 = true)
    (h1 : [a, b, c3].all (foldedForSure 8) = false) (h2 : [a, b, c3].all (constantsAlone 8) = false) : swappedStores [.Tuple [.Name nx px, .Name ny py, .Name nz pz] kt pt] (.Tuple [a, b, c3] k2 pt2) X.env = pure (some [nx, ny, nz]) := by
  have hl' : py.line = px.line := by simpa using hl
  have hl3' : pz.line = px.line := by simpa using hl3
  have q1 : ¬ ny = nx := fun z => hne z.symm
  have q2 : ¬ nz = nx := fun z => hne2 z.symm
  have q3 : ¬ nz = ny := fun z => hne3 z.symm
  have e1 : (ny == nx) = false := by simpa using q1
  have e2 : (nz == nx) = false := by simpa using q2
  have e3 : (nz == ny) = false := by simpa using q3
  have f1 : ¬ (foldedForSure 8 a = true ∧ foldedForSure 8 b = true ∧ foldedForSure 8 c3 = true) := fun z => by simp [z.1, z.2.1, z.2.2] at h1
  have f2 : ¬ (constantsAlone 8 a = true ∧ constantsAlone 8 b = true ∧ constantsAlone 8 c3 = true) := fun z => by simp [z.1, z.2.1, z.2.2] at h2
  unfold swappedStores
  simp only [hb, hx, hy, hz, Expr.pos, hl', hl3', List.filterMap_cons, List.filterMap_nil, List.head?_cons, Option.map_some, Option.getD_some, List.length_cons, List.length_nil, List.any_cons, List.any_nil, List.all_cons, List.all_nil, Bool.or_false, Bool.and_true, Bool.or_eq_true, Bool.and_eq_true, f1, f2, List.eraseDups, List.eraseDupsBy, List.eraseDupsBy.loop, e1, e2, e3, beq_self_eq_true, if_true, if_false]
  split
  · rename_i z
    simp at z
  · split
    · exfalso
      first
        | (simp [plainX] at pa; done)
        | (rename_i z; rcases z with z | z | z <;> (split at z <;> simp_all [plainX]))
    · split
      · exfalso
        simp [plainX] at pb
      · split
        · exfalso
          simp [plainX] at pc
        · simp [List.eraseDupsBy.loop, e1, e2, e3, hne, hne2, hne3, q1, q2, q3]
/-- a, b = x, y: the names of the text -/
def parB (Γ : Cs) (ns : List Nat) (ts vs : List Expr) : Bool := match ns, ts, vs with
  | [i, j], [.Name nx px, .Name ny py], [a, b] => (Γ.isTgt i nx && Γ.isTgt j ny) && ((decide (i ≠ j) && decide (nx ≠ ny)) && ((py.line == px.line) && ((Γ.sc.names.lookup nx == some .local && Γ.sc.names.lookup ny == some .local) &&
      (!([a, b].all (foldedForSure 8)) && !([a, b].all (constantsAlone 8))))))
  | [i, j, l], [.Name nx px, .Name ny py, .Name nz pz], [a, b, c] => (Γ.isTgt i nx && (Γ.isTgt j ny && Γ.isTgt l nz)) && ((((decide (i ≠ j) && decide (i ≠ l)) && decide (j ≠ l)) && ((decide (nx ≠ ny) && decide (nx ≠ nz)) && decide (ny ≠ nz))) && (((py.line == px.line) && (pz.line == px.line)) && ((Γ.sc.names.lookup nx == some .local && (Γ.sc.names.lookup ny == some .local && Γ.sc.names.lookup nz == some .local)) &&
      (!([a, b, c].all (foldedForSure 8)) && !([a, b, c].all (constantsAlone 8))))))
  | _, _, _ => false
theorem ps_parF {ns : List Nat} {ts vs : List Expr} {kt k2 : Nat} {pt pt2 : Pos} (ok : OkS G Γ cl W xa X) (hh : Γ.hot = false) (h : parB Γ ns ts vs = true) (hp : vs.all plainX = true) (ha : PA X vs (tL G xa W fl')) :
    PS X (.Assign [.Tuple ts kt pt] (.Tuple vs k2 pt2) pos) (tS G xa W fun env h => (fl' env h).toS env fun ts h1 => match bindTs ns ts env with
    | some env1 => .nx env1 h1
    | none => .bad) := by
  obtain ⟨hc, _⟩ := ok.ok.cool hh
  unfold parB at h
  split at h
  · rename_i i j nx px ny py a b
    simp only [Bool.and_eq_true, decide_eq_true_eq, Bool.not_eq_true', beq_iff_eq] at h
    obtain ⟨⟨t1, t2⟩, ⟨n1, n2⟩, hl, ⟨l1, l2⟩, f1, f2⟩ := h
    obtain ⟨a1, a2, a3, a4⟩ := ok.ok.tgt t1
    obtain ⟨b1, b2, b3, b4⟩ := ok.ok.tgt t2
    simp only [List.all_cons, List.all_nil, Bool.and_true, Bool.and_eq_true] at hp
    have lx : X.env.scope.names.lookup nx = some .local := by rw [ok.ok.sc]; exact l1
    have ly : X.env.scope.names.lookup ny = some .local := by rw [ok.ok.sc]; exact l2
    refine ps_imp (ps_par hc ok.ok.nod a1 b1 n1 lx ly ha (swst2 (block_fn ok.kind) lx ly (by simpa using hl) n2 hp.1 hp.2 f1 f2) rfl) fun D σ H q => ?_
    obtain ⟨ρ, env, hs, er, hr, p⟩ := q
    refine ⟨ρ, env, hs, er, hr, Post.mono (fun vs H1 ⟨ρ1, hs1, us, s1, hr1, rl, er1, p1⟩ => ?_) (PostS.toS (RA := RvL G) er hr p)⟩
    cases e : bindTs [i, j] us env with
    | none => rw [e] at p1; exact p1.elim
    | some env1 =>
      rw [e] at p1
      cases us with
      | nil => simp [bindTs] at e
      | cons u us =>
        cases us with
        | nil => simp [bindTs] at e
        | cons w us =>
          cases us with
          | cons _ _ => simp [bindTs] at e
          | nil =>
            simp only [bindTs] at e
            cases e
            simp only [RvL] at rl
            obtain ⟨v1, r1, rfl, q1, v2, r2, rfl, q2, rfl⟩ := rl
            exact ⟨v1, v2, rfl, p1 ρ1 H1 _ .refl hr1 ((er1.set i a4 q1).set j b4 q2)⟩
  · rename_i i j l nx px ny py nz pz a b c
    simp only [Bool.and_eq_true, decide_eq_true_eq, Bool.not_eq_true', beq_iff_eq] at h
    obtain ⟨⟨t1, t2, t3⟩, ⟨⟨⟨n1, n2⟩, n3⟩, ⟨m1, m2⟩, m3⟩, ⟨hl, hl3⟩, ⟨l1, l2, l3⟩, f1, f2⟩ := h
    obtain ⟨a1, a2, a3, a4⟩ := ok.ok.tgt t1
    obtain ⟨b1, b2, b3, b4⟩ := ok.ok.tgt t2
    obtain ⟨c1, c2, c3, c4⟩ := ok.ok.tgt t3
    simp only [List.all_cons, List.all_nil, Bool.and_true, Bool.and_eq_true] at hp
    have lx : X.env.scope.names.lookup nx = some .local := by rw [ok.ok.sc]; exact l1
    have ly : X.env.scope.names.lookup ny = some .local := by rw [ok.ok.sc]; exact l2
    have lz : X.env.scope.names.lookup nz = some .local := by rw [ok.ok.sc]; exact l3
    refine ps_imp (ps_par3 hc ok.ok.nod a1 b1 c1 n1 n2 n3 lx ly lz ha (swst3 (block_fn ok.kind) lx ly lz (by simpa using hl) (by simpa using hl3) m1 m2 m3 hp.1 hp.2.1 hp.2.2 f1 f2) rfl) fun D σ H q => ?_
    obtain ⟨ρ, env, hs, er, hr, p⟩ := q
    refine ⟨ρ, env, hs, er, hr, Post.mono (fun vs H1 ⟨ρ1, hs1, us, s1, hr1, rl, er1, p1⟩ => ?_) (PostS.toS (RA := RvL G) er hr p)⟩
    cases e : bindTs [i, j, l] us env with
    | none => rw [e] at p1; exact p1.elim
    | some env1 =>
      rw [e] at p1
      cases us with
      | nil => simp [bindTs] at e
      | cons u us =>
        cases us with
        | nil => simp [bindTs] at e
        | cons w us =>
          cases us with
          | nil => simp [bindTs] at e
          | cons w3 us =>
            cases us with
            | cons _ _ => simp [bindTs] at e
            | nil =>
              simp only [bindTs] at e
              cases e
              simp only [RvL] at rl
              obtain ⟨v1, r1, rfl, q1, v2, r2, rfl, q2, v3, r3, rfl, q3, rfl⟩ := rl
              exact ⟨v1, v2, v3, rfl, p1 ρ1 H1 _ .refl hr1 (((er1.set i a4 q1).set j b4 q2).set l c4 q3)⟩
  · cases h
/-- name = [.. for ..], on one line -/
theorem ps_setLcF {mm : Bool} {t : Tg} {it : It} {c e : E} {vs : List Nat} {i : Nat} {py : Pos} (ok : OkS G Γ cl W xa X) (ht' : Γ.isTgt i y = true) (hsw : swapV Γ y py v = true) (h : chkE Γ (.comp mm t it c e vs) v = true) :
    PS X (.Assign [.Name y py] v pos) (tS G xa W fun env h => (ev G.D cl (.comp mm t it c e vs) env h).v.toS env fun x h1 => .nx (env.set i (some x)) h1) := by
  have ok' := ok.ok
  obtain ⟨t1, t2, t3, t4⟩ := ok'.tgt ht'
  simp only [chkE] at h
  split at h
  · rename_i elt tg iter ifs scope pos'
    simp only [Bool.and_eq_true, Bool.not_eq_true', decide_eq_true_eq] at h
    obtain ⟨⟨h1, h2, h3, h4⟩, h5, h6, h7, h8⟩ := h
    have bok : BlkOk X.N X.env.scope scope (ownOf Γ.N vs) := by rw [ok'.N, ok'.sc]; exact blkOk_by h3
    have hsl : ∀ i ∈ t.slots, i ∈ vs := fun i hi => of_decide_eq_true (List.all_eq_true.mp h4 i hi)
    obtain ⟨hi, hf⟩ := soundI G cl it ok' h5
    have ht : ∀ (s : Shared) (H : Hp) (C : Addr) (cl' : List (Str × Addr)) (fp : List Addr), PTs (X.blk s H scope (compEnvC scope cl' C X.env) fp) ifs (tK G none W0 fun env h => if c.isAbs = true then .ok true h else (ev G.D cl c env h).t) := fun s H C cl' fp => by
      split at h7
      · simp only [h7, if_true]
        exact pts_yes
      · rename_i y
        simp only [Bool.and_eq_true, Bool.not_eq_true'] at h7
        simp only [h7.1, Bool.false_eq_true, if_false]
        exact pts_one (soundE G cl c (ok'.blk h1 scope s H C cl' fp) h7.2).2
      · cases h7
    obtain ⟨hc, _, hxa, _⟩ := ok'.cool h1
    subst hxa
    unfold swapV at hsw
    simp only [Bool.and_eq_true, beq_iff_eq, Bool.not_eq_true'] at hsw
    obtain ⟨w1, w2, w3⟩ := hsw
    have hyl : X.env.scope.names.lookup y = some .local := by rw [ok'.sc]; exact w1
    have sw := sw_true (elt := elt) (gs := [⟨tg, iter, ifs, 0⟩]) (scope := scope) (pos := pos') (py := py) (l := pos.line) ok.kind hyl (by simpa using w2) w3
    refine ps_imp (ps_setLc hc ok'.nod t1 hyl sw hi bok (fun s H C cl' fp => pg_tgF (ok'.blk h1 scope s H C cl' fp) h6) ht (fun s H C cl' fp => (soundE G cl e (ok'.blk h1 scope s H C cl' fp) h8).1) hf) fun D σ H q => ?_
    obtain ⟨ρ, env, hs, er, hr, p⟩ := q
    rw [h2]
    refine tLc_of (m := mm) hsl ⟨ρ, env, hs, er, hr, Post.mono (fun v H1 ⟨ρ1, hs1, u, s1, hr1, rv, er1, p1⟩ => ?_) (PostS.toS (RA := Rv G) er hr p)⟩
    exact p1 ρ1 H1 _ .refl hr1 (er1.set i t4 rv)
  · cases h

/-! ### except suites -/
/-- what a suite's ends are, where the name at i goes -/
def endsOff (D : Ends) : Option Nat → Ends
  | none => D
  | some i => { nx := fun σ' H' => D.nx (σ'.set i none) H', rt := D.rt, bk := fun σ' H' => D.bk (σ'.set i none) H', ct := fun σ' H' => D.ct (σ'.set i none) H' }
theorem PostS.hot {q : Xa} {i : Option Nat} {r : SR} (h : PostS G none W D ρ H (r.offName i)) : PostS G (some q) W0 (endsOff D i) ρ H r := by
  have n0 : ∀ j, notXi none j := fun j q hq => by cases hq
  cases i with
  | none =>
    cases r with
    | nx env hs => exact fun ρ2 H2 σ2 s1 hr er => h ρ2 H2 σ2 s1 hr er.close
    | brk env hs => exact fun ρ2 H2 σ2 s1 hr er => h ρ2 H2 σ2 s1 hr er.close
    | cont env hs => exact fun ρ2 H2 σ2 s1 hr er => h ρ2 H2 σ2 s1 hr er.close
    | ret t hs => exact fun ρ2 H2 v s1 hr rv => h ρ2 H2 v s1 hr rv
    | exc c xs env hs => exact h.elim
    | bad => exact h.elim
  | some i =>
    cases r with
    | nx env hs => exact fun ρ2 H2 σ2 s1 hr er => h ρ2 H2 _ s1 hr (er.close.unset i (n0 i))
    | brk env hs => exact fun ρ2 H2 σ2 s1 hr er => h ρ2 H2 _ s1 hr (er.close.unset i (n0 i))
    | cont env hs => exact fun ρ2 H2 σ2 s1 hr er => h ρ2 H2 _ s1 hr (er.close.unset i (n0 i))
    | ret t hs => exact fun ρ2 H2 v s1 hr rv => h ρ2 H2 v s1 hr rv
    | exc c xs env hs => exact h.elim
    | bad => exact h.elim
theorem OkS.tr {W' : WX} (ok : OkS G Γ cl W xa X) (hh : Γ.hot = false) {pn : List (Addr × Obj)} {xe : Value → Shared → Prop} (tk : Takes (X.tr pn xe) W') (po : PassesOwn (model X.prog X.w) X.A X.env xe) : OkS G Γ cl W' xa (X.tr pn xe) where
  ok := ⟨ok.ok.pr, ok.ok.K, ok.ok.N, ok.ok.sc, ok.ok.D, ok.ok.nod, ok.ok.fnc, ok.ok.units, ok.ok.cool, (fun z => by rw [hh] at z; cases z), tk⟩
  og := ok.og
  prx := ok.prx
  po := fun _ => po
  stack := ok.stack
  frame := ok.frame
  kind := ok.kind
  mkx := fun _ pn' xe' => ok.mkx hh pn' xe'
def Cs.suite (Γ : Cs) (i : Option Nat) : Cs := { Γ with hot := true, xi := i }
theorem OkS.suite {c : Nat} {zs : List T} {i : Option Nat} (ok : OkS G Γ cl W xa X) {a : Addr} {oe : Obj} {d : Option Addr} {pn : List (Addr × Obj)} (hz : Zc (.ref (G.ca c)) d oe) (hd : ∃ vs, oe.data = .fields vs) :
    OkS G (Γ.suite i) (xCal G.D c zs) W0 (some ⟨a, d, c, i, zs⟩) (X.suite a ((a, oe) :: pn)) where
  ok := ⟨ok.ok.pr, ok.ok.K, ok.ok.N, ok.ok.sc, ok.ok.D, ok.ok.nod, ok.ok.fnc, ok.ok.units, (fun z => by cases z), (fun _ => by
    obtain ⟨vs, hd⟩ := hd
    exact ⟨_, rfl, rfl, rfl, oe, vs, List.mem_cons_self, hz, hd⟩), fun u s' ⟨_, _, _, _, _, _, _, _, _, _, _, _, _, _, _, _, w⟩ => w.elim⟩
  og := ok.og
  prx := ok.prx
  po := fun z => by cases z
  stack := ok.stack
  frame := ok.frame
  kind := ok.kind
  mkx := fun z => by cases z
end
end Fs
end

section
set_option Elab.async false
set_option linter.all false
set_option maxRecDepth 100000
/-! FsC: try with several except clauses, each with a name or without. -/
namespace Fs
open PySem PySem.Spec PyProof.Rows L2
/-- a clause: its class, its name's place, what its suite wishes -/
abbrev Cls3 := Value × Option Nat × (Addr → Value → Option Addr → TS)
def shutE (io : Option Nat) (D : Ends) : Ends := match io with
  | none => D
  | some i => { nx := fun σ' H' => D.nx (σ'.set i none) H', rt := D.rt, bk := fun σ' H' => D.bk (σ'.set i none) H', ct := fun σ' H' => D.ct (σ'.set i none) H' }
def openE (io : Option Nat) (a : Addr) (σ : L2.St) : L2.St := match io with
  | none => σ
  | some i => σ.set i (some (.ref a))
def wClauses (K : PySem.W.Frag) (Wout : WX) (D : Ends) : List Cls3 → WX
  | [] => Wout
  | (c, io, ts) :: r => fun cls d σ H => ∃ b, PySem.W.exmOne K cls c = some b ∧ (b = true → ∀ a, H a = none → ts a cls d (shutE io D) (openE io a σ) H) ∧ (b = false → wClauses K Wout D r cls d σ H)
inductive ClsOk (X : Cx) : List ExceptHandler → List Cls3 → Prop
  | nil : ClsOk X [] []
  | bare {x : Str} {c : Value} {ts : Addr → Value → Option Addr → TS} {b₀ : Stmt} {su : List Stmt} {np p' : Pos} {hds : List ExceptHandler} {l : List Cls3} : Names X x c →
      (∀ (a : Addr) (oe : Obj) (cls : Value) (d : Option Addr) (pn : List (Addr × Obj)), Zc cls d oe → (∃ vs, oe.data = .fields vs) → PSs (X.suite a ((a, oe) :: pn)) (b₀ :: su) (ts a cls d)) → ClsOk X hds l →
      ClsOk X (.ExceptHandler (some (.Name x np)) none (b₀ :: su) p' :: hds) ((c, none, ts) :: l)
  | named {x n : Str} {i : Nat} {c : Value} {ts : Addr → Value → Option Addr → TS} {b₀ : Stmt} {su : List Stmt} {np p' : Pos} {hds : List ExceptHandler} {l : List Cls3} : Names X x c → X.N[i]? = some n → X.env.kindOf n = some .local →
      (∀ (a : Addr) (oe : Obj) (cls : Value) (d : Option Addr) (pn : List (Addr × Obj)), Zc cls d oe → (∃ vs, oe.data = .fields vs) → PSs (X.suite a ((a, oe) :: pn)) (b₀ :: su) (ts a cls d)) → ClsOk X hds l →
      ClsOk X (.ExceptHandler (some (.Name x np)) (some n) (b₀ :: su) p' :: hds) ((c, some i, ts) :: l)
section
variable {X : Cx} {body : List Stmt} {h₀ : ExceptHandler} {hds : List ExceptHandler} {l : List Cls3} {pos : Pos} {tb : WX → TS} {Wout : WX}
/-- what the landed exception is, for the clauses -/
theorem ps_try_clauses (hst : X.stack = X.env :: X.outer) (hf : X.env.frame = some X.env.locals) (hN : X.N.Nodup) (tk : Takes X Wout)
    (hb : ∀ (W : WX) (pn : List (Addr × Obj)) (xe : Value → Shared → Prop), Takes (X.tr pn xe) W → PassesOwn (model X.prog X.w) X.A X.env xe → PSs (X.tr pn xe) body (tb W))
    (hh : ClsOk X (h₀ :: hds) l) : PS X (.Try body (h₀ :: hds) [] [] pos) (fun D σ H => tb (wClauses X.K Wout D l) D σ H) := by
  constructor
  intro pins s σ H D I goal
  have ok := I.ok
  have frs' : X.A.frames = some (X.env :: X.outer) := by rw [ok.frames, hst]
  apply wpAny_Try_except
  have body_run := (hb (wClauses X.K Wout D l) (X.pn ++ pins) (fun e s1 => wpAny (model X.prog X.w) X.A (noteFrame e X.env) (fun _ s2 => wpAny (model X.prog X.w) X.A (setFlight e none) (fun _ s3 => wpAny (model X.prog X.w) X.A (handleBy e X.env (h₀ :: hds)) (SP X pins D) X.xe s3) X.xe s2) X.xe s1) ?clauses PassesOwn.looking).run [] s σ H D (I.toTry _) goal
  case clauses =>
    intro u s' xx
    obtain ⟨a, B, sI, pins', σ', H', cls, d, rfl, J0, nb, up, sky, na, os, ag, w⟩ := xx
    have J : Inv X pins σ' H' sI := J0.ofTry ok
    rw [hst] at sky
    change wpAny (model X.prog X.w) X.A (noteFrame (.ref a) X.env) _ _ _
    refine Sky.land Zc.steady frs' hf sky fun h3 fl up3 => ?_
    have J3 : Inv X pins σ' H' { s' with heap := h3 } := J.landed nb fl.1 (up.trans up3) os ag
    obtain ⟨oe, vs, he, hz, hd⟩ := fl.there
    have notFrame : a ∉ frs (X.env :: X.outer) := fun m => by
      obtain ⟨_, o', e', no⟩ := fl.2.2.1.mem m
      rw [he] at e'
      cases e'
      exact no _ hd
    have nL : a ≠ X.env.locals := fun z => notFrame (List.mem_filterMap.mpr ⟨X.env, by simp, by rw [hf, z]⟩)
    have nF : a ∉ X.fs := fun m => by
      obtain ⟨e, m1, m2⟩ := List.mem_filterMap.mp m
      exact notFrame (List.mem_filterMap.mpr ⟨e, by simp [m1], m2⟩)
    have S3 := J3.suite he hd na nL nF
    -- what a clause's test says
    have asks : ∀ {x : Str} {c : Value} {b : Bool} {np : Pos} {Q : Value → Shared → Prop} {E : Value → Shared → Prop}, Names X x c → Q c { s' with heap := h3 } → wpAny (model X.prog X.w) (X.A.mark (some (.ref a))) (eval (.Name x np) X.env) Q E { s' with heap := h3 } := by
      intro x c b np Q E nm q
      obtain ⟨g1, g2, g3 | ⟨g3, g4, g5⟩⟩ := nm
      · exact ld_glob (X := X.suite a ((a, oe) :: (X.pn ++ pins))) S3 g1 g3 q g2
      · exact ld_blt (X := X.suite a ((a, oe) :: (X.pn ++ pins))) S3 g1 g3 g4 q g5 g2
    have looks : PySem.W.Looks (model X.prog X.w) h3 (typeOf (.ref a)) cls := fun A Q E s k q => wpAny_typeOf_ref (k _ _ he) (by rw [hz.1]; exact q)
    suffices go : ∀ {hs2 : List ExceptHandler} {l2 : List Cls3}, ClsOk X hs2 l2 → wClauses X.K Wout D l2 cls d σ' H' → wpAny (model X.prog X.w) X.A (handleBy (.ref a) X.env hs2) (SP X pins D) X.xe { s' with heap := h3 } from go hh w
    intro hs2 l2 hk
    induction hk with
    | nil =>
      intro w
      refine wpAny_handleBy_nil ?_
      obtain ⟨k1, k2, k3, oe', vs', T, oT, ts', he', hz', hd', h1, hr⟩ := id fl
      unfold PySem.passOn
      refine wpAny_bind (wpAny_field he' hd' h1 ?_)
      have nn : ¬ ((Value.ref T == Value.none) = true) := by simp
      rw [if_neg nn]
      have out : wpAny (model X.prog X.w) X.A (setFlight (.ref a) X.env.frame) (fun _ s4 => wpAny (model X.prog X.w) X.A (throw (.ref a) : Sem Flow) (SP X pins D) X.xe s4) X.xe { s' with heap := h3 } := by
        rw [hf]
        refine HandSPX.setFlight_upZ fl fun h4 hh4 up4 => wpAny_throw (tk _ _ ?_)
        exact ⟨a, B, sI, pins, σ', H', cls, d, rfl, J, nb, (up.trans up3).trans up4, .inr (.inr (hst ▸ hh4)), na, os, ag, w⟩
      first
        | exact wpAny_bind out
        | exact wpAny_bind (wpAny_pure (wpAny_bind out))
    | @bare x c ts b₀ su np p' hs3 l3 nm hsu _ ih =>
      rintro ⟨b, hb1, hyes, hno⟩
      refine wpAny_handleBy_cons (codeAny_handlers_test ?_) (by intro q; cases q)
      refine asks (b := b) nm ((PySem.W.exm_one (M := model X.prog X.w) J3.kIn looks hb1).here ?_)
      cases b with
      | false =>
        change wpAny _ X.A (handleBy (.ref a) X.env hs3) _ _ _
        exact ih (hno rfl)
      | true =>
        refine codeAny_handlers_suite ?_
        refine HandSPX.lands_againZ fl fun h4 fl4 up4 => ?_
        have J4 : Inv X pins σ' H' { s' with heap := h4 } := J.landed nb fl4.1 ((up.trans up3).trans up4) os ag
        obtain ⟨oe4, vs4, he4, hz4, hd4⟩ := fl4.there
        have S4 := J4.suite he4 hd4 na nL nF
        refine wpAny_mono ((hsu a oe4 cls d (X.pn ++ pins) hz4 ⟨_, hd4⟩).run [] _ _ H' _ S4 (hyes rfl a na)) (fun f s6 q => ?_) fun _ _ z => z.elim
        cases f with
        | ret u =>
          obtain ⟨v6, σ6, H6, S6, r6, q6⟩ := q
          exact ⟨_, _, _, S6.unsuite ok, r6, q6⟩
        | next => obtain ⟨σ6, H6, S6, q6⟩ := q; exact ⟨_, _, S6.unsuite ok, q6⟩
        | brk => obtain ⟨σ6, H6, S6, q6⟩ := q; exact ⟨_, _, S6.unsuite ok, q6⟩
        | cont => obtain ⟨σ6, H6, S6, q6⟩ := q; exact ⟨_, _, S6.unsuite ok, q6⟩
    | @named x n i c ts b₀ su np p' hs3 l3 nm hi hln hsu _ ih =>
      rintro ⟨b, hb1, hyes, hno⟩
      refine wpAny_handleBy_cons (codeAny_handlers_test ?_) (by intro q; cases q)
      refine asks (b := b) nm ((PySem.W.exm_one (M := model X.prog X.w) J3.kIn looks hb1).here ?_)
      cases b with
      | false =>
        change wpAny _ X.A (handleBy (.ref a) X.env hs3) _ _ _
        exact ih (hno rfl)
      | true =>
        have loc : Loc X.env.scope n := .inl hln
        refine codeAny_handlers_suite_as ?_
        refine HandSPX.lands_againZ fl fun h4 fl4 up4 => ?_
        have J4 : Inv X pins σ' H' { s' with heap := h4 } := J.landed nb fl4.1 ((up.trans up3).trans up4) os ag
        obtain ⟨oe4, vs4, he4, hz4, hd4⟩ := fl4.there
        have S4 := J4.suite he4 hd4 na nL nF
        refine store_ok (X := X.suite a ((a, oe4) :: (X.pn ++ pins))) (v := .ref a) S4 hN hi loc rfl (fun s5 S5 => ?_) (.inr hln)
        refine wpAny_mono ((hsu a oe4 cls d (X.pn ++ pins) hz4 ⟨_, hd4⟩).run [] s5 _ H' _ S5 (hyes rfl a na)) (fun f s6 q => ?_) fun _ _ z => z.elim
        have shut : ∀ {σ6 : L2.St} {H6 : Hp} {Q : Shared → Prop}, Inv (X.suite a ((a, oe4) :: (X.pn ++ pins))) [] σ6 H6 s6 → (∀ s7, Inv X pins (σ6.set i none) H6 s7 → Q s7) → wpAny (model X.prog X.w) X.A (do bindName X.env n .none; unbindBehindTheSuite X.env n p') (fun _ s7 => Q s7) X.xe s6 := fun S6 hq => gone_ok (S6.unsuite ok) hN hi hln hq
        cases f with
        | ret u =>
          obtain ⟨v6, σ6, H6, S6, r6, q6⟩ := q
          exact shut S6 fun s7 J7 => ⟨_, _, _, J7, r6, q6⟩
        | next => obtain ⟨σ6, H6, S6, q6⟩ := q; exact shut S6 fun s7 J7 => ⟨_, _, J7, q6⟩
        | brk => obtain ⟨σ6, H6, S6, q6⟩ := q; exact shut S6 fun s7 J7 => ⟨_, _, J7, q6⟩
        | cont => obtain ⟨σ6, H6, S6, q6⟩ := q; exact shut S6 fun s7 J7 => ⟨_, _, J7, q6⟩
  refine wpAny_mono body_run (fun f s1 q => ?_) fun e s1 he => he
  cases f with
  | next => obtain ⟨σ', H', J', q⟩ := q; exact wpAny_execs_nil ⟨σ', H', J'.ofTry ok, q⟩
  | brk => obtain ⟨σ', H', J', q⟩ := q; exact ⟨σ', H', J'.ofTry ok, q⟩
  | cont => obtain ⟨σ', H', J', q⟩ := q; exact ⟨σ', H', J'.ofTry ok, q⟩
  | ret u => obtain ⟨v, σ', H', J', r, q⟩ := q; exact ⟨v, σ', H', J'.ofTry ok, r, q⟩
end
end Fs
end

section
set_option Elab.async false
set_option linter.all false
set_option maxRecDepth 100000
/-! Fs15: when a statement's term is the text's; then it does what the term does. -/
namespace Fs
open PySem L2
def isComp : E → Bool
  | .comp _ _ _ _ _ _ => true
  | _ => false
def clsNm (Γ : Cs) (cs : List Nat) (x : Str) : Bool := match cs with
  | [j] => (match Γ.D.cls[j]? with
    | some (.exc nm _ _) => decide (nm = x)
    | _ => false)
  | _ => false
def nmB (Γ : Cs) : Option Nat → Option Str → Bool
  | none, none => true
  | some i, some n => decide (Γ.N[i]? = some n) && Γ.sc.names.lookup n == some .local
  | _, _ => false
mutual
def chkS (Γ : Cs) : S → Stmt → Bool
  | .set i e, st => match st with
    | .Assign [.Name y py] v _ => (Γ.isTgt i y && chkE Γ e v) && (!(swapV Γ y py v) || isComp e)
    | _ => false
  | .setT ns e, st => match st with
    | .Assign [.Tuple xs _ _] v _ => (!Γ.hot && chkTn Γ ns xs) && (tupV v && chkE Γ e v)
    | _ => false
  | .par ns xs, st => match st with
    | .Assign [.Tuple ts _ _] (.Tuple vs _ _) _ => (!Γ.hot && parB Γ ns ts vs) && chkL Γ xs vs
    | _ => false
  | .setIx o i e, st => match st with
    | .Assign [.Subscript ob ix _] v _ => chkE Γ e v && (chkE Γ o ob && chkE Γ i ix)
    | _ => false
  | .setAt o f e, st => match st with
    | .Assign [.Attribute ob g _] v _ => decide (f = g) && (chkE Γ e v && chkE Γ o ob)
    | _ => false
  | .aug i b e, st => match st with
    | .AugAssign (.Name y _) op v _ => Γ.isTgt i y && (augO b op && chkE Γ e v)
    | _ => false
  | .augIx o i b e, st => match st with
    | .AugAssign (.Subscript ob ix _) op v _ => augO b op && (chkE Γ e v && (chkE Γ o ob && chkE Γ i ix))
    | _ => false
  | .ex e, st => match st with
    | .Expr v _ => notLc v && chkE Γ e v
    | _ => false
  | .ret e, st => match st with
    | .Return (some v) _ => chkE Γ e v
    | _ => false
  | .retN, st => match st with
    | .Return none _ => true
    | _ => false
  | .ifs c a b, st => match st with
    | .If x sa sb _ => chkE Γ c x && (chkSs Γ a sa && chkSs Γ b sb)
    | _ => false
  | .for_ t it b, st => match st with
    | .For tg iter body [] _ => (!Γ.hot && chkT Γ t tg) && (chkI Γ it tg iter && chkSs Γ b body)
    | _ => false
  | .whil c b, st => match st with
    | .While x body [] _ => !Γ.hot && (chkE Γ c x && chkSs Γ b body)
    | _ => false
  | .rais c xs, st => match st with
    | .Raise (some (.Call (.Name y _) ys [] _)) none _ => (!Γ.hot && Γ.isGlob y) && ((match Γ.D.cls[c]? with
      | some (.exc nm _ _) => decide (nm = y)
      | _ => false) && chkL Γ xs ys)
    | _ => false
  | .tryy b hs, st => match st with
    | .Try body hds [] [] _ => (!Γ.hot && !hds.isEmpty) && (chkSs Γ b body && chkH Γ hs hds)
    | _ => false
  | .brk, st => match st with
    | .Break _ => true
    | _ => false
  | .cont, st => match st with
    | .Continue _ => true
    | _ => false
  | .pass, st => match st with
    | .Pass _ => true
    | .Expr (.Constant (.str _) _ _) _ => true
    | _ => false
def chkSs (Γ : Cs) : Ss → List Stmt → Bool
  | .nil, sts => sts.isEmpty
  | .cons s r, sts => match sts with
    | st :: rest => chkS Γ s st && chkSs Γ r rest
    | [] => false
def chkH (Γ : Cs) : Hd → List ExceptHandler → Bool
  | .nil, hds => hds.isEmpty
  | .cons cs io b r, hds => match hds with
    | .ExceptHandler (some (.Name x _)) nm suite _ :: rest => ((Γ.isGlob x && clsNm Γ cs x) && nmB Γ io nm) && ((chkSs (Γ.suite io) b suite && !suite.isEmpty) && chkH Γ r rest)
    | _ => false
end
section
variable (G : Gx) (wn : Nat)
theorem clsNm_of {Γ : Cs} {cs : List Nat} {x : Str} (h : clsNm Γ cs x = true) : ∃ j fl up, cs = [j] ∧ Γ.D.cls[j]? = some (.exc x fl up) := by
  unfold clsNm at h
  split at h
  · split at h
    · rename_i j _ nm fl up e
      have := of_decide_eq_true h
      subst this
      exact ⟨j, fl, up, rfl, e⟩
    · cases h
  · cases h
/-- one clause's answer -/
theorem isExc_of {c j : Nat} {nm nm' : Str} {fl fl' : List Str} {up up' : List Nat} (hc : G.D.cls[c]? = some (.exc nm fl up)) : isExc G.D c [j] = up.contains j := by
  unfold isExc
  rw [hc]
  simp
mutual
theorem soundS : ∀ (s : S) {Γ : Cs} {cl : Cal} {W : WX} {xa : Option Xa} {X : Cx} {st : Stmt}, OkS G Γ cl W xa X → chkS Γ s st = true → PS X st (tS G xa W fun env h => evS G.D wn cl s env h)
  | .set i e, Γ, cl, W, xa, X, st, ok, h => by
    simp only [chkS] at h
    split at h
    · rename_i y py v pos
      simp only [Bool.and_eq_true] at h
      obtain ⟨⟨h1, h2⟩, h3⟩ := h
      cases hs : swapV Γ y py v with
      | false => exact ps_setF ok h1 (chkE_plain h2) hs (soundE G cl e ok.ok h2).1
      | true =>
        rw [hs] at h3
        cases e <;> first | (cases h3; done) | skip
        exact ps_setLcF ok h1 hs h2
    · cases h
  | .setT ns e, Γ, cl, W, xa, X, st, ok, h => by
    simp only [chkS] at h
    split at h
    · simp only [Bool.and_eq_true, Bool.not_eq_true'] at h
      obtain ⟨⟨h1, h2⟩, h3, h4⟩ := h
      exact ps_setTF ok h1 h2 (chkE_plain h4) h3 (soundE G cl e ok.ok h4).1
    · cases h
  | .par ns xs, Γ, cl, W, xa, X, st, ok, h => by
    simp only [chkS] at h
    split at h
    · simp only [Bool.and_eq_true, Bool.not_eq_true'] at h
      obtain ⟨⟨h1, h2⟩, h3⟩ := h
      exact ps_parF ok h1 h2 (chkL_plain h3) (soundL G cl xs ok.ok h3).1
    · cases h
  | .setIx o i e, Γ, cl, W, xa, X, st, ok, h => by
    simp only [chkS] at h
    split at h
    · simp only [Bool.and_eq_true] at h
      obtain ⟨h1, h2, h3⟩ := h
      exact ps_setIxF (soundE G cl e ok.ok h1).1 (soundE G cl o ok.ok h2).1 (soundE G cl i ok.ok h3).1 (chkE_plain h1) (chkE_plain h3)
    · cases h
  | .setAt o f e, Γ, cl, W, xa, X, st, ok, h => by
    simp only [chkS] at h
    split at h
    · simp only [Bool.and_eq_true, decide_eq_true_eq] at h
      obtain ⟨h1, h2, h3⟩ := h
      subst h1
      exact ps_setAtF ok (soundE G cl e ok.ok h2).1 (soundE G cl o ok.ok h3).1 (chkE_plain h2)
    · cases h
  | .aug i b e, Γ, cl, W, xa, X, st, ok, h => by
    simp only [chkS] at h
    split at h
    · simp only [Bool.and_eq_true] at h
      obtain ⟨h1, h2, h3⟩ := h
      exact ps_augF ok h1 h2 (soundE G cl e ok.ok h3).1
    · cases h
  | .augIx o i b e, Γ, cl, W, xa, X, st, ok, h => by
    simp only [chkS] at h
    split at h
    · simp only [Bool.and_eq_true] at h
      obtain ⟨h1, h2, h3, h4⟩ := h
      exact ps_augIxF h1 (soundE G cl e ok.ok h2).1 (soundE G cl o ok.ok h3).1 (soundE G cl i ok.ok h4).1 (chkE_plain h4)
    · cases h
  | .ex e, Γ, cl, W, xa, X, st, ok, h => by
    simp only [chkS] at h
    split at h
    · rw [Bool.and_eq_true] at h
      exact ps_exF (soundE G cl e ok.ok h.2).1 (sw_drop (chkE_plain h.2) h.1)
    · cases h
  | .ret e, Γ, cl, W, xa, X, st, ok, h => by
    simp only [chkS] at h
    split at h
    · exact ps_retF (soundE G cl e ok.ok h).1
    · cases h
  | .retN, Γ, cl, W, xa, X, st, ok, h => by
    simp only [chkS] at h
    split at h
    · exact ps_retNF
    · cases h
  | .ifs c a b, Γ, cl, W, xa, X, st, ok, h => by
    simp only [chkS] at h
    split at h
    · simp only [Bool.and_eq_true] at h
      obtain ⟨h1, h2, h3⟩ := h
      exact ps_ifF (soundE G cl c ok.ok h1).2 (soundSs a ok h2) (soundSs b ok h3)
    · cases h
  | .for_ t it b, Γ, cl, W, xa, X, st, ok, h => by
    simp only [chkS] at h
    split at h
    · rename_i tg iter body pos
      simp only [Bool.and_eq_true, Bool.not_eq_true'] at h
      obtain ⟨⟨h1, h2⟩, h3, h4⟩ := h
      obtain ⟨hi, hf⟩ := soundI G cl it ok.ok h3
      exact ps_forF (ok.po h1) (ok.ok.cool h1).1 hi (pg_tgF ok.ok h2) (soundSs b ok h4) hf
    · cases h
  | .whil c b, Γ, cl, W, xa, X, st, ok, h => by
    simp only [chkS] at h
    split at h
    · simp only [Bool.and_eq_true, Bool.not_eq_true'] at h
      obtain ⟨h1, h2, h3⟩ := h
      exact ps_whileF (ok.po h1) (soundE G cl c ok.ok h2).2 (soundSs b ok h3)
    · cases h
  | .rais c xs, Γ, cl, W, xa, X, st, ok, h => by
    simp only [chkS] at h
    split at h
    · simp only [Bool.and_eq_true, Bool.not_eq_true'] at h
      obtain ⟨⟨h1, h2⟩, h3, h4⟩ := h
      rw [ok.ok.D] at h3
      split at h3
      · rename_i nm fl up hc
        have e := of_decide_eq_true h3
        subst e
        exact ps_raisF ok h1 h2 hc (chkL_plain h4) (soundL G cl xs ok.ok h4).1 (fun e env hs => by
          subst e
          cases xs with
          | nil => rfl
          | cons _ _ => simp [chkL] at h4)
      · cases h3
    · cases h
  | .tryy b hs, Γ, cl, W, xa, X, st, ok, h => by
    simp only [chkS] at h
    split at h
    · rename_i body hds pos
      simp only [Bool.and_eq_true, Bool.not_eq_true'] at h
      obtain ⟨⟨h1, h2⟩, h3, h4⟩ := h
      obtain ⟨_, _, hxa, _⟩ := ok.ok.cool h1
      subst hxa
      have hb : ∀ (W' : WX) (pn : List (Addr × Obj)) (xe : Value → Shared → Prop), Takes (X.tr pn xe) W' → PassesOwn (model X.prog X.w) X.A X.env xe → PSs (X.tr pn xe) body (tS G none W' fun env h => evSs G.D wn cl b env h) :=
        fun W' pn xe tk po => soundSs b (ok.tr h1 tk po) h3
      obtain ⟨l, k1, k2⟩ := soundH hs ok h1 h4
      cases hds with
      | nil => cases h2
      | cons h₀ hds =>
        refine ps_imp (ps_try_clauses ok.stack ok.frame ok.ok.nod ok.ok.tk hb k1) fun D σ H q => ?_
        obtain ⟨ρ, env, hs', er, hr, p⟩ := q
        refine ⟨ρ, env, hs', er, hr, ?_⟩
        change PostS G none W D ρ H (match evSs G.D wn cl b env hs' with
          | .exc c xs env1 h1 => evH G.D wn hs c xs env1 h1
          | q => q) at p
        show PostS G none (wClauses X.K W D l) D ρ H (evSs G.D wn cl b env hs')
        cases e : evSs G.D wn cl b env hs' with
        | exc c zs env1 h1' =>
          rw [e] at p
          intro ρ2 H2 σ2 cls d s1 hr2 er2 x
          exact k2 c zs env1 h1' D ρ2 H2 σ2 cls d er2 hr2 x (PostS.base s1 p)
        | nx env1 h1' => rw [e] at p; exact p
        | brk env1 h1' => rw [e] at p; exact p
        | cont env1 h1' => rw [e] at p; exact p
        | ret t h1' => rw [e] at p; exact p
        | bad => rw [e] at p; exact p
    · cases h
  | .brk, Γ, cl, W, xa, X, st, ok, h => by
    simp only [chkS] at h
    split at h
    · exact ps_brkF
    · cases h
  | .cont, Γ, cl, W, xa, X, st, ok, h => by
    simp only [chkS] at h
    split at h
    · exact ps_contF
    · cases h
  | .pass, Γ, cl, W, xa, X, st, ok, h => by
    simp only [chkS] at h
    split at h
    · exact ps_passF
    · exact ps_docF
    · cases h
theorem soundSs : ∀ (ss : Ss) {Γ : Cs} {cl : Cal} {W : WX} {xa : Option Xa} {X : Cx} {sts : List Stmt}, OkS G Γ cl W xa X → chkSs Γ ss sts = true → PSs X sts (tS G xa W fun env h => evSs G.D wn cl ss env h)
  | .nil, Γ, cl, W, xa, X, sts, ok, h => by
    cases sts with
    | nil => exact pss_nilF
    | cons _ _ => simp [chkSs] at h
  | .cons s r, Γ, cl, W, xa, X, sts, ok, h => by
    cases sts with
    | nil => simp [chkSs] at h
    | cons st rest =>
      simp only [chkSs, Bool.and_eq_true] at h
      exact pss_consF (soundS s ok h.1) (soundSs r ok h.2)
theorem soundH : ∀ (hs : Hd) {Γ : Cs} {cl : Cal} {W : WX} {X : Cx} {hds : List ExceptHandler}, OkS G Γ cl W none X → Γ.hot = false → chkH Γ hs hds = true →
    ∃ l, ClsOk X hds l ∧ ∀ c zs env h D ρ H σ cls d, EnR G none ρ H env σ → HR G ρ h H → ExR G ρ H c zs cls d → PostS G none W D ρ H (evH G.D wn hs c zs env h) → wClauses X.K W D l cls d σ H
  | .nil, Γ, cl, W, X, hds, ok, hh, h => by
    cases hds with
    | nil => exact ⟨[], .nil, fun c zs env h D ρ H σ cls d er hr x p => p ρ H σ cls d .refl hr er x⟩
    | cons _ _ => simp [chkH] at h
  | .cons cs io b r, Γ, cl, W, X, hds, ok, hh, h => by
    unfold chkH at h
    split at h
    · rename_i x np nm suite pos' rest
      simp only [Bool.and_eq_true, Bool.not_eq_true'] at h
      obtain ⟨⟨⟨h1, h2⟩, h3⟩, ⟨h5, h6⟩, h7⟩ := h
      obtain ⟨j, fl, up, rfl, hc⟩ := clsNm_of h2
      obtain ⟨l, k1, k2⟩ := soundH r ok hh h7
      cases suite with
      | nil => cases h6
      | cons b₀ suite =>
        obtain ⟨g1, g2, g3⟩ := ok.ok.glob h1
        rw [ok.ok.D] at hc
        obtain ⟨hm, hk⟩ := ok.prx.nm j x fl up hc
        have su : ∀ (a : Addr) (oe : Obj) (cls : Value) (d : Option Addr) (pn : List (Addr × Obj)), Zc cls d oe → (∃ vs, oe.data = .fields vs) → PSs (X.suite a ((a, oe) :: pn)) (b₀ :: suite) (fun D σ H => ∃ c zs, cls = .ref (G.ca c) ∧ tS G (some ⟨a, d, c, io, zs⟩) W0 (fun env h => evSs G.D wn (xCal G.D c zs) b env h) D σ H) :=
          fun a oe cls d pn hz hd => ⟨fun pins s σ H D I ⟨c, zs, ec, q⟩ => by
            subst ec
            exact (soundSs b (ok.suite (i := io) (zs := zs) hz hd) h5).run pins s σ H D I q⟩
        refine ⟨(.ref (G.ca j), io, fun a cls d D σ H => ∃ c zs, cls = .ref (G.ca c) ∧ tS G (some ⟨a, d, c, io, zs⟩) W0 (fun env h => evSs G.D wn (xCal G.D c zs) b env h) D σ H) :: l, ?_, fun c zs env h D ρ H σ cls d er hr x' p => ?_⟩
        · cases io with
          | none =>
            cases nm with
            | none => exact .bare ⟨g1, g2, .inl hm⟩ su k1
            | some _ => cases h3
          | some i =>
            cases nm with
            | none => cases h3
            | some n =>
              simp only [nmB, Bool.and_eq_true, decide_eq_true_eq, beq_iff_eq] at h3
              refine .named ⟨g1, g2, .inl hm⟩ (by rw [ok.ok.N]; exact h3.1) ?_ su k1
              show X.env.scope.names.lookup n = _
              rw [ok.ok.sc]
              exact h3.2
        · obtain ⟨⟨nm', up', hcc⟩, ecls, hlen, halt⟩ := id x'
          subst ecls
          cases io with
          | none =>
            change PostS G none W D ρ H (if isExc G.D c [j] = true then (evSs G.D wn (xCal G.D c zs) b env h).offName (none) else evH G.D wn r c zs env h) at p
            refine ⟨up'.contains j, by rw [ok.ok.K]; exact ok.prx.exm c j nm' x _ fl up' up hcc hc, fun hb a na => ?_, fun hb => ?_⟩
            · rw [isExc_of G (nm' := x) (fl' := fl) (up' := up) hcc, if_pos hb] at p
              exact ⟨c, zs, rfl, ρ, env, h, er.openN ⟨a, d, c, none, zs⟩ rfl halt, hr, PostS.hot p⟩
            · rw [isExc_of G (nm' := x) (fl' := fl) (up' := up) hcc, if_neg (by rw [hb]; decide)] at p
              exact k2 c zs env h D ρ H σ _ d er hr x' p
          | some i =>
            change PostS G none W D ρ H (if isExc G.D c [j] = true then (evSs G.D wn (xCal G.D c zs) b (env.set i none) h).offName (some i) else evH G.D wn r c zs env h) at p
            refine ⟨up'.contains j, by rw [ok.ok.K]; exact ok.prx.exm c j nm' x _ fl up' up hcc hc, fun hb a na => ?_, fun hb => ?_⟩
            · rw [isExc_of G (nm' := x) (fl' := fl) (up' := up) hcc, if_pos hb] at p
              exact ⟨c, zs, rfl, ρ, (env.set i none), h, er.open_ ⟨a, d, c, some i, zs⟩ i rfl halt, hr, PostS.hot p⟩
            · rw [isExc_of G (nm' := x) (fl' := fl) (up' := up) hcc, if_neg (by rw [hb]; decide)] at p
              exact k2 c zs env h D ρ H σ _ d er hr x' p
    · cases h
end
end
end Fs
end

section
set_option Elab.async false
set_option linter.all false
set_option maxRecDepth 100000
/-! Fs16: every def of the table does what its term does; a law's call. -/
namespace Fs
open PySem L2 PyProof.Rows
/-- the def number f stands in the written part, its body is the term's text -/
structure FnF (G : Gx) (f : Nat) (fn : Fn) : Prop where
  ex : ∃ (x qual : Str) (params : Arguments) (body : List Stmt) (scope : Scope) (fd : FuncData) (N ps : List Str), FunD G.K x qual params body scope [] [] (G.fa f) fd ∧ FnScope N ps scope ∧ N.length = fn.nN ∧ ps.length = fn.ps ∧
    (∀ (kV doc pm : Value) (an : Option Addr) (cdv ct : Value) (us : List Value), us.length = ps.length → bindArgs (PySem.W.fnOf x qual params body scope .none kV doc pm an cdv ct) ⟨us, []⟩ = pure (ps.zip us)) ∧
    chkSs { N := N, sc := scope, og := none, hot := false, D := G.D } fn.body body = true
structure PrF (G : Gx) (mg : Str → Option Value) (P : Program) : Prop where
  pr : Pr G mg
  prx : PrX G mg
  fn : ∀ (f : Nat) (fn : Fn), G.D.fns[f]? = some fn → FnF G f fn
  mkx : ∀ X : Cx, X.prog = P → X.K = G.K → X.mg = mg → X.calm = true → Room 4 X.A → MkOk G X
theorem start_get {ρ : Rho} {G : Gx} {H : Hp} {ts : List T} {vs : List V} {a b : Nat} (rl : RvL G ρ H ts vs) (e : a = b) : EnR G none ρ H (ts.map some ++ List.replicate (a - ts.length) none) (vs.map some ++ List.replicate (b - vs.length) none) := by
  subst e
  have hl := rl.len
  refine ⟨by simp [hl], (fun q hq => by cases hq), fun i t h => ?_⟩
  by_cases hi : i < ts.length
  · rw [List.getElem?_append_left (by simpa using hi), List.getElem?_map] at h
    obtain ⟨u, hu, e⟩ := opt_map h
    cases e
    obtain ⟨v, hv, rv⟩ := rl.get hu
    exact ⟨v, by rw [List.getElem?_append_left (by rw [List.length_map, hl]; exact hi), List.getElem?_map, hv]; rfl, rv⟩
  · rw [List.getElem?_append_right (by simpa using Nat.le_of_not_lt hi), List.getElem?_replicate] at h
    split at h <;> cases h
theorem post_fin {G : Gx} {ρ : Rho} {H : Hp} {E : XK} {Q : VK} {r : SR} (h : Post G (Rv G) ρ H E r.fin Q) : PostS G none (fun c d _ H' => E c d H') { nx := fun _ H' => Q .non H', rt := Q } ρ H r := by
  cases r with
  | nx env hs => exact fun ρ2 H2 σ2 s1 hr er => h ρ2 H2 .non s1 hr rv_non
  | ret t hs => exact h
  | exc c xs env hs => exact fun ρ2 H2 σ2 cls d s1 hr er x => h ρ2 H2 cls d s1 hr x
  | brk env hs => exact h.elim
  | cont env hs => exact h.elim
  | bad => exact h.elim
theorem cal_all {G : Gx} {mg : Str → Option Value} {P : Program} (F : PrF G mg P) (wn : Nat) (w : World) (base : Heap) : ∀ n, CalOk G (callN G.D wn n) (2 * n + 4) P w mg base
  | 0 => ⟨fun f A outer s H us vs ts hs ρ Q E hf hr hg e0 hv hhr rl p => p.elim⟩
  | n + 1 => by
    have ih := cal_all F wn w base n
    refine ⟨fun f A outer s H us vs ts hs ρ Q E hf hr hg e0 hv hhr rl p => ?_⟩
    have efn : G.D.fns[f]? = some G.D.fns[f] := List.getElem?_eq_getElem hf
    generalize G.D.fns[f] = fn at efn
    obtain ⟨x, qual, params, body, scope, fd, N, ps, hF, hS, hN, hps, hbind, hchk⟩ := (F.fn f fn efn).ex
    unfold callN at p
    rw [efn] at p
    dsimp only at p
    by_cases hc : ts.length = fn.ps ∧ fn.ps ≤ fn.nN
    · rw [if_pos hc] at p
      have lenV : vs.length = ps.length := by rw [rl.len, hc.1, hps]
      have lenU : us.length = ps.length := by rw [← hv.length, lenV]
      have bnd : BindsTo s fd ⟨us, []⟩ (ps.zip us) := hF.bindsA hbind s us lenU
      obtain ⟨oc, od, dV, kV, doc, pm, an, cdv, ct, osl, rfl, lk, hcd, _, _⟩ := hF.ex
      have KX : G.K.In s.heap := e0.mod.kin.keeps fun b o z => (e0.bs b o z).1
      have nolim : s.heap.NoLimit := e0.mod.nolimit.keeps fun b o z => (e0.bs b o z).1
      have kinds : ∀ q ∈ ps.zip us, scope.names.lookup q.1 = some .local ∨ (scope.names.lookup q.1 = some .cell ∧ ((cellsFrom (s.heap.objs.size + 1) scope.names []).lookup q.1).isSome = true) := by
        intro q hq
        have hm : q.1 ∈ ps := (List.of_mem_zip (a := q.1) (b := q.2) hq).1
        rcases hS.par q.1 hm with z | z
        · exact Or.inl z
        · exact Or.inr ⟨z, PySem.W.cellsFrom_some _ _ _ (Or.inl z)⟩
      refine codeAny_call_function hr.depth (KX _ _ lk) rfl hS.co hS.gen rfl (PySem.W.codeRec_of KX hcd) (bnd _ _ _ _ ?_)
      refine wpAny_newFunctionEnv_cells hS.kind kinds fun env0 he0 s1 xc => ?_
      subst he0
      refine ⟨nolim.keeps xc.toInCall.keep, codeAny_func ?_⟩
      have hr1 : Room (2 * n + 5) (A.deeper (envOfC qual scope s.heap.objs.size (G.fa f) cdv)) := Room.deeper (k := 2 * n + 5) (hr.mono (j := 2 * n + 5 + 1) (by omega)) _
      have I : Inv (cxOf (L2.CX P w) P w G.K mg base N qual scope (G.fa f) cdv A outer s H E) [] (start N vs) H s1 := inv_start hS hr.hd e0 lenV hv xc
      have ok : OkS G { N := N, sc := scope, og := none, hot := false, D := G.D } (callN G.D wn n) (fun c d _ H' => E c d H') none (cxOf (L2.CX P w) P w G.K mg base N qual scope (G.fa f) cdv A outer s H E) :=
        { ok := ⟨F.pr, rfl, rfl, rfl, rfl, hS.nd, fun _ => rfl, by have := hr1.un; show (A.deeper _).units + 200 < cLine; omega, fun _ => ⟨rfl, hg, rfl, 2 * n + 4, hr1, ih⟩, (fun z => by cases z), takes_of rfl rfl rfl rfl⟩
          og := rfl
          prx := F.prx
          po := fun _ => passes_of rfl
          stack := rfl
          frame := rfl
          kind := hS.kind
          mkx := fun _ pn xe => F.mkx _ rfl rfl rfl rfl (hr1.mono (by omega)) }
      have run := (soundSs G wn fn.body ok hchk).run [] s1 (start N vs) H { nx := fun _ H' => Q .non H', rt := Q } I ⟨ρ, _, hs, start_get rl hN.symm, hhr, post_fin p⟩
      refine wpAny_mono run (fun res s' hq => ?_) fun _ _ z => z
      cases res with
      | ret u =>
        obtain ⟨v, σ', H', J, rv, q⟩ := hq
        exact ⟨v, H', J.os, J.bare, J.base, J.hok, rv, q⟩
      | next =>
        obtain ⟨σ', H', J, q⟩ := hq
        exact ⟨V.non, H', J.os, J.bare, J.base, J.hok, rfl, q⟩
      | brk => exact hq.elim fun _ z => z.elim fun _ y => y.2.elim
      | cont => exact hq.elim fun _ z => z.elim fun _ y => y.2.elim
    · rw [if_neg hc] at p
      exact p.elim
end Fs
end

section
set_option Elab.async false
set_option linter.all false
set_option maxRecDepth 100000
/-! Fs17: the facts of the written part as one test; a law's call. -/
namespace Fs
open PySem L2 PyProof.Rows
/-- what is printed for a law: the table; for each def where it stands, its qualified name, its names, its text (parameters, body, scope) -/
structure Dd where
  at_ : Str × Option Str
  qual : Str
  N : List Str
  ps : List Str
  st : Stmt
def dArgs : Stmt → Arguments
  | .FunctionDef (args := a) .. => a
  | _ => ⟨[], [], none, [], [], none, []⟩
def dBody : Stmt → List Stmt
  | .FunctionDef (body := b) .. => b
  | _ => []
def dScope : Stmt → Scope
  | .FunctionDef (scope := s) .. => s
  | _ => ⟨.function, [], false, false, []⟩
def dName (d : Dd) : Str := match d.at_.2 with
  | some m => m
  | none => d.at_.1
def Dd.def_ (d : Dd) : He.DefD := ⟨d.at_, dName d, d.qual, dArgs d.st, dBody d.st, dScope d.st, [], []⟩
def clNm : Cl → Str
  | .plain nm _ _ => nm
  | .exc nm _ _ => nm
def gxOf (D : Tb) (dd : List Dd) (K : PySem.W.Frag) : Gx where
  K := K
  fa := fun f => match dd[f]? with
    | some d => He.fAd K d.at_
    | none => 0
  ca := fun c => match D.cls[c]? with
    | some q => He.ga K (clNm q)
    | none => 0
  D := D
/-! ### constants -/
def noMut : T → Bool
  | .lst _ => false
  | .ref _ => false
  | .scr _ => false
  | .fn _ => false
  | _ => true
mutual
def relT (K : PySem.W.Frag) : T → Value → Bool
  | .non, u => match u with
    | .none => true
    | _ => false
  | .bl b, u => match u with
    | .bool c => b == c
    | _ => false
  | .int i, u => match u with
    | .int j _ => decide (i = j)
    | _ => false
  | .str x, u => match u with
    | .str y _ => decide (x = y)
    | _ => false
  | .tup ts, u => match u with
    | .ref a => (match K.lookup a with
      | some ⟨.type c, _, .seq its _, _⟩ => decide (c = "tuple") && (decide (its.size ≤ sizeLine) && relTs K ts its.toList)
      | _ => false)
    | _ => false
  | _, _ => false
def relTs (K : PySem.W.Frag) : List T → List Value → Bool
  | [], us => us.isEmpty
  | t :: ts, us => match us with
    | u :: us => relT K t u && relTs K ts us
    | [] => false
end
mutual
theorem relT_ok {G : Gx} : ∀ (t : T) (u : Value), relT G.K t u = true → ∃ v, RelV v u ∧ ∀ ρ H, Rv G ρ H t v
  | .non, u, h => by
    simp only [relT] at h
    split at h
    · exact ⟨.non, rfl, fun _ _ => rv_non⟩
    · cases h
  | .bl b, u, h => by
    simp only [relT] at h
    split at h
    · have e := eq_of_beq h
      subst e
      exact ⟨.bl b, rfl, fun _ _ => rv_bl⟩
    · cases h
  | .int i, u, h => by
    simp only [relT] at h
    split at h
    · have e := of_decide_eq_true h
      subst e
      exact ⟨.int i, ⟨_, rfl⟩, fun _ _ => rv_int⟩
    · cases h
  | .str x, u, h => by
    simp only [relT] at h
    split at h
    · have e := of_decide_eq_true h
      subst e
      exact ⟨.str x, ⟨_, rfl⟩, fun _ _ => rv_str⟩
    · cases h
  | .tup ts, u, h => by
    simp only [relT] at h
    split at h
    · rename_i a
      split at h
      · rename_i c od its n sl e
        simp only [Bool.and_eq_true, decide_eq_true_eq] at h
        obtain ⟨h1, h2, h3⟩ := h
        subst h1
        obtain ⟨vs, r1, r2⟩ := relTs_ok ts its.toList h3
        refine ⟨.ref a, rfl, fun ρ H => ?_⟩
        simp only [Rv]
        exact ⟨a, vs, rfl, .inr ⟨_, its, n, e, rfl, rfl, h2, r1⟩, r2 ρ H⟩
      · cases h
    · cases h
  | .lst _, u, h => by simp [relT] at h
  | .scr _, u, h => by simp [relT] at h
  | .ref _, u, h => by simp [relT] at h
  | .fn _, u, h => by simp [relT] at h
theorem relTs_ok {G : Gx} : ∀ (ts : List T) (us : List Value), relTs G.K ts us = true → ∃ vs, Vals vs us ∧ ∀ ρ H, RvL G ρ H ts vs
  | [], us, h => by
    cases us with
    | nil => exact ⟨[], .nil, fun _ _ => rvl_nil⟩
    | cons _ _ => cases h
  | t :: ts, us, h => by
    cases us with
    | nil => cases h
    | cons u us =>
      simp only [relTs, Bool.and_eq_true] at h
      obtain ⟨v, r1, r2⟩ := relT_ok t u h.1
      obtain ⟨vs, r3, r4⟩ := relTs_ok ts us h.2
      refine ⟨v :: vs, .cons r1 r3, fun ρ H => ?_⟩
      simp only [RvL]
      exact ⟨v, vs, rfl, r2 ρ H, r4 ρ H⟩
end
/-! ### the test -/
def allBi : List Bi := [.abs, .all, .any, .int, .len, .list, .max1, .min1, .repr, .str, .sum, .tuple, .isinst .int]
def allKd : List Kd := [.non, .bl, .int, .str, .tup, .lst, .dct]
def freeB (K : PySem.W.Frag) (x : Str) : Bool := (He.Fa.free x).ok K
def defB (D : Tb) (K : PySem.W.Frag) (d : Dd) (fn : Fn) : Bool := PySem.W.keepIn K (.ref (He.fAd K d.at_)) && (match fn.cls with
  | none => decide (d.at_ = (fn.nm, none)) && (He.Fa.glo fn.nm).ok K
  | some c => match D.cls[c]? with
    | some q => decide (d.at_ = (clNm q, some fn.nm)) && ((He.Fa.cls (clNm q)).ok K && (He.Fa.meth (clNm q) fn.nm).ok K)
    | none => false)
def clB (D : Tb) (dd : List Dd) (K : PySem.W.Frag) : Cl → Bool
  | .plain nm i fl => ((He.Fa.glo nm).ok K && (He.Fa.mkr nm).ok K) && ((He.Fa.cls nm).ok K && ((fl.all fun f => (He.Fa.noat nm f).ok K) && (match dd[i]? with
    | some d => decide (d.at_ = (nm, some ("__init__" : Str))) && decide (i < D.fns.length)
    | none => false)))
  | .exc nm fl up => (He.Fa.glo nm).ok K && ((He.Fa.keep nm).ok K && (xfB K (He.ga K nm) && (fl.all fun f => decide (PySem.W.findIn K (.ref (He.ga K nm)) f = some none))))
def exmB (D : Tb) (K : PySem.W.Frag) : Bool := D.cls.all fun q => match q with
  | .exc nm _ up => (List.range D.cls.length).all fun j => match D.cls[j]? with
    | some (.exc nm' _ _) => decide (PySem.W.exmOne K (.ref (He.ga K nm)) (.ref (He.ga K nm')) = some (up.contains j))
    | _ => true
  | _ => true
def zipAll {α β : Type} (p : α → β → Bool) : List α → List β → Bool
  | [], [] => true
  | a :: as, b :: bs => p a b && zipAll p as bs
  | _, _ => false
theorem zipAll_get {α β : Type} {p : α → β → Bool} : ∀ {as : List α} {bs : List β} {i : Nat} {b : β}, zipAll p as bs = true → bs[i]? = some b → ∃ a, as[i]? = some a ∧ p a b = true
  | [], [], i, b, h, e => by simp at e
  | [], _ :: _, _, _, h, _ => by cases h
  | _ :: _, [], _, _, h, _ => by cases h
  | a :: as, b' :: bs, 0, b, h, e => by
    simp only [zipAll, Bool.and_eq_true] at h
    simp at e
    subst e
    exact ⟨a, rfl, h.1⟩
  | a :: as, b' :: bs, i + 1, b, h, e => by
    simp only [zipAll, Bool.and_eq_true] at h
    obtain ⟨a', e1, e2⟩ := zipAll_get (i := i) h.2 (by simpa using e)
    exact ⟨a', by simpa using e1, e2⟩
def prB (D : Tb) (dd : List Dd) (K : PySem.W.Frag) : Bool :=
  ((allBi.all fun b => freeB K (biNm b)) && ((allKd.all fun k => freeB K (kdNm k)) && (freeB K "range" && freeB K "enumerate"))) &&
  ((D.cns.all fun p => match PySem.W.nsIn K mainGlobals p.1 with
    | some (some u) => relT K p.2 u
    | _ => false) && (zipAll (defB D K) dd D.fns && ((D.cls.all fun q => clB D dd K q) && exmB D K)))
theorem pr_of {D : Tb} {dd : List Dd} {K : PySem.W.Frag} {h : Heap} {mg : Str → Option Value} (X : K.In h) (Gn : h.Ns mainGlobals mg) (c : prB D dd K = true) : Pr (gxOf D dd K) mg ∧ PrX (gxOf D dd K) mg := by
  unfold prB at c
  simp only [Bool.and_eq_true] at c
  obtain ⟨⟨c1, c2, c3, c3e⟩, c4, c5, c6, c7⟩ := c
  have bi : ∀ b, mg (biNm b) = none := fun b => by
    have key : ∀ b ∈ allBi, mg (biNm b) = none := fun b hb => He.free_ok X Gn (List.all_eq_true.mp c1 b hb)
    cases b with
    | abs => exact key .abs (by simp [allBi])
    | all => exact key .all (by simp [allBi])
    | any => exact key .any (by simp [allBi])
    | int => exact key .int (by simp [allBi])
    | len => exact key .len (by simp [allBi])
    | list => exact key .list (by simp [allBi])
    | max1 => exact key .max1 (by simp [allBi])
    | max2 => exact key .max1 (by simp [allBi])
    | min1 => exact key .min1 (by simp [allBi])
    | min2 => exact key .min1 (by simp [allBi])
    | repr => exact key .repr (by simp [allBi])
    | str => exact key .str (by simp [allBi])
    | sum => exact key .sum (by simp [allBi])
    | sumL => exact key .sum (by simp [allBi])
    | tuple => exact key .tuple (by simp [allBi])
    | isinst k => exact key (.isinst .int) (by simp [allBi])
  have fns : ∀ (f : Nat) (fn : Fn), D.fns[f]? = some fn → ∃ d, dd[f]? = some d ∧ defB D K d fn = true := fun f fn e => zipAll_get c5 e
  have cls : ∀ (c : Nat) (q : Cl), D.cls[c]? = some q → clB D dd K q = true := fun c q e => List.all_eq_true.mp c6 q (List.mem_of_getElem? e)
  have eca : ∀ {c : Nat} {q : Cl}, D.cls[c]? = some q → (gxOf D dd K).ca c = He.ga K (clNm q) := fun {c q} e => by
    show (match D.cls[c]? with
      | some q => He.ga K (clNm q)
      | none => 0) = _
    rw [e]
  have efa : ∀ {f : Nat} {d : Dd}, dd[f]? = some d → (gxOf D dd K).fa f = He.fAd K d.at_ := fun {f d} e => by
    show (match dd[f]? with
      | some d => He.fAd K d.at_
      | none => 0) = _
    rw [e]
  refine ⟨⟨bi, fun k => He.free_ok X Gn (List.all_eq_true.mp c2 k (by cases k <;> simp [allKd])), He.free_ok X Gn c3, He.free_ok X Gn c3e, fun g p e => ?_, fun f fn e hc => ?_, fun f fn e => ?_, fun f fn c e hc => ?_, fun c nm i fl e => ?_, fun c f hf => ?_, fun c nm fl up e => ?_⟩, ⟨fun c nm fl up e => ?_, fun c j nm nm' fl fl' up up' e e' => ?_⟩⟩
  · have q := List.all_eq_true.mp c4 p (List.mem_of_getElem? e)
    split at q
    · rename_i u hu
      obtain ⟨v, r1, r2⟩ := relT_ok (G := gxOf D dd K) p.2 u q
      exact ⟨v, u, PySem.W.mg_of X Gn hu, r1, fun ρ hs H _ => r2 ρ H⟩
    · cases q
  · obtain ⟨d, e1, e2⟩ := fns f fn e
    unfold defB at e2
    rw [hc] at e2
    simp only [Bool.and_eq_true, decide_eq_true_eq] at e2
    rw [efa e1, e2.2.1]
    exact He.glo_ok X Gn e2.2.2
  · obtain ⟨d, e1, e2⟩ := fns f fn e
    unfold defB at e2
    rw [Bool.and_eq_true] at e2
    rw [efa e1]
    exact e2.1
  · obtain ⟨d, e1, e2⟩ := fns f fn e
    unfold defB at e2
    rw [hc] at e2
    dsimp only at e2
    cases q : D.cls[c]? with
    | none => rw [q] at e2; simp at e2
    | some q' =>
      rw [q] at e2
      simp only [Bool.and_eq_true, decide_eq_true_eq] at e2
      obtain ⟨_, e3, e4, e5⟩ := e2
      rw [efa e1, eca q, e3]
      exact ⟨He.cls_ok e4, He.meth_ok e5⟩
  · have q := cls c _ e
    simp only [clB, Bool.and_eq_true] at q
    obtain ⟨⟨q1, q2⟩, q3, q4, q5⟩ := q
    rw [eca e]
    split at q5
    · rename_i d hd
      simp only [Bool.and_eq_true, decide_eq_true_eq] at q5
      rw [efa hd, q5.1]
      exact ⟨He.glo_ok X Gn q1, He.mkr_ok q2, q5.2⟩
    · cases q5
  · unfold hasF at hf
    split at hf
    · rename_i nm i fl e
      have q := cls c _ e
      simp only [clB, Bool.and_eq_true] at q
      obtain ⟨⟨q1, q2⟩, q3, q4, q5⟩ := q
      rw [eca e]
      exact ⟨He.cls_ok q3, He.noat_ok (List.all_eq_true.mp q4 f (by simpa using hf))⟩
    · cases hf
  · have q := cls c _ e
    simp only [clB, Bool.and_eq_true] at q
    obtain ⟨q1, q2, q3, q4⟩ := q
    rw [eca e]
    exact ⟨xfB_ok q3, fun f hf => of_decide_eq_true (List.all_eq_true.mp q4 f hf)⟩
  · have q := cls c _ e
    simp only [clB, Bool.and_eq_true] at q
    obtain ⟨q1, q2, q3, q4⟩ := q
    rw [eca e]
    exact ⟨He.glo_ok X Gn q1, He.keep_ok q2⟩
  · unfold exmB at c7
    have q := List.all_eq_true.mp c7 _ (List.mem_of_getElem? e)
    dsimp only at q
    have q2 := List.all_eq_true.mp q j (List.mem_range.mpr (List.getElem?_eq_some_iff.mp e').1)
    rw [show D.cls[j]? = some (.exc nm' fl' up') from e'] at q2
    dsimp only at q2
    rw [eca e, eca e']
    exact of_decide_eq_true q2
end Fs
end

section
set_option Elab.async false
set_option linter.all false
set_option maxRecDepth 100000
/-! Fs18: the head: the facts behind the top; the law's call; a law from its table and what its term answers. -/
namespace Fs
open PySem L2 PyProof.Rows
/-- every parameter is given -/
def BindD (d : Dd) : Prop := ∀ (kV doc pm : Value) (an : Option Addr) (cdv ct : Value) (us : List Value), us.length = d.ps.length → bindArgs (PySem.W.fnOf (dName d) d.qual (dArgs d.st) (dBody d.st) (dScope d.st) .none kV doc pm an cdv ct) ⟨us, []⟩ = pure (d.ps.zip us)
def BindAll (dd : List Dd) : Prop := ∀ d ∈ dd, BindD d
theorem ball_nil : BindAll [] := fun d h => by cases h
theorem ball_cons {d : Dd} {r : List Dd} (h : BindD d) (hr : BindAll r) : BindAll (d :: r) := fun x hx => by
  rcases List.mem_cons.mp hx with rfl | hx
  · exact h
  · exact hr x hx
def txtB (D : Tb) (d : Dd) (fn : Fn) : Bool := C8.scC d.N d.ps (dScope d.st) && (decide (d.N.length = fn.nN) && (decide (d.ps.length = fn.ps) && chkSs { N := d.N, sc := dScope d.st, og := none, hot := false, D := D } fn.body (dBody d.st)))
/-! ### the law's call -/
theorem hr_nil {G : Gx} {H : Hp} : HR G ⟨[], []⟩ [] H := ⟨rfl, (fun a h => by cases h), (fun i j a h => by simp at h), (fun k a o h => by simp at h), fun k o h => by simp at h⟩
theorem law_go {G : Gx} {mg mb : Str → Option Value} {P : Program} (F : PrF G mg P) {wn n fl : Nat} {w : World} {a : Addr} {s₁ : Shared} {us : List Value} {ns : List Int} (hf : fl < G.D.fns.length)
    (KX : G.K.In s₁.heap) (gs : s₁.heap.Ns mainGlobals mg) (bs : s₁.heap.Ns builtinsNs mb) (bb : ∀ x : Str, x ≠ "__name__" → mb x = bootBuiltins x) (nl : s₁.heap.NoLimit) (ge : s₁.gens = #[])
    (ob : s₁.heap.get? a = some { cls := .type "list", data := .seq us.toArray }) (ia : IntsAre us ns) (ln : ns.length ≤ sizeLine) (room : Room (2 * n + 4) callerA) (ans : ∃ h', callN G.D wn n fl [.scr ns] [] = .ok (.bl true) h') :
    codeAny (model P w) callerA (.call (.ref (G.fa fl)) ⟨[.ref a], []⟩) (fun r s' => r = .ok (.ret (.bool true)) ∧ OldK s₁.heap s'.heap ∧ s'.os = s₁.os ∧ AllBare s'.gens) s₁ := by
  obtain ⟨hend, ans⟩ := ans
  have rel := vals_ints ia
  have many := ia.length
  -- over an abstract heap that tracks the script at most
  have go : ∀ H : Hp, Only H → ((∃ o, H a = some (.frz o (.lst (ns.map V.int)))) ∨ ∀ H', SqL G.K H' a (ns.map V.int)) → HOk P w H s₁.heap → (∀ b, H b ≠ none → b = a) → (H a ≠ none → G.K.lookup a = none) →
      codeAny (model P w) callerA (.call (.ref (G.fa fl)) ⟨[.ref a], []⟩) (fun r s' => r = .ok (.ret (.bool true)) ∧ OldK s₁.heap s'.heap ∧ s'.os = s₁.os ∧ AllBare s'.gens) s₁ := by
    intro H only scr hok onlyA offK
    have stays : ∀ {b : Addr} {o : Obj}, s₁.heap.get? b = some o → H b = none → (hidT s₁.heap H).get? b = some o := fun z q => hidT_get z q
    have dictFree : ∀ {b : Addr} {o : Obj} {es : Array DictEntry} {ep : Nat}, s₁.heap.get? b = some o → o.data = .dict es ep → H b = none := by
      intro b o es ep z dt
      cases q : H b with
      | none => rfl
      | some u =>
        have same := onlyA b (by rw [q]; simp)
        rw [same, ob] at z
        cases z
        cases (show Data.seq us.toArray _ = Data.dict es ep from dt)
    have spaces : ∀ {b : Addr} {m : Str → Option Value}, s₁.heap.Ns b m → (hidT s₁.heap H).Ns b m := by
      rintro b m ⟨o, es, ep, z, dt, r⟩
      exact ⟨o, es, ep, stays z (dictFree z dt), dt, r⟩
    have inK : G.K.In (hidT s₁.heap H) := by
      intro b o z
      refine stays (KX b o z) ?_
      cases q : H b with
      | none => rfl
      | some u =>
        have same := onlyA b (by rw [q]; simp)
        subst same
        have off := offK (by rw [q]; simp)
        rw [off] at z
        cases z
    have modl : Mod G.K mg (hidT s₁.heap H) := by
      obtain ⟨mc, l1, l2⟩ := nl
      exact ⟨inK, spaces gs, ⟨mb, spaces bs, bb⟩, ⟨mc, spaces l1, l2⟩⟩
    have e0 : Env0 P w G.K mg (hidT s₁.heap H) callerA [] s₁ H :=
      ⟨rfl, modl, fun b o z => of_hidT z, Nat.le_of_eq (hidT_size _ _), trivial, (fun b hb => by cases hb), hok, .of_eq ge⟩
    have rl : RvL G ⟨[], []⟩ H [.scr ns] [.ref a] := by
      refine .one ?_
      simp only [Rv]
      exact ⟨a, rfl, scr⟩
    have q : Post G (Rv G) ⟨[], []⟩ H (fun _ _ _ => False) (callN G.D wn n fl [.scr ns] []) (fun v _ => v = .bl true) := by
      rw [ans]
      intro ρ' H' v _ _ rv
      simpa only [Rv] using rv
    refine codeAny_mono ((cal_all F wn w (hidT s₁.heap H) n).run fl callerA [] s₁ H [.ref a] [.ref a] [.scr ns] [] ⟨[], []⟩ _ _ hf room rfl e0 (.cons rfl .nil) hr_nil rl q) fun res s' fin => ?_
    cases res with
    | error e =>
      obtain ⟨_, _, _, _, _, _, _, _, _, _, _, _, z⟩ := fin
      exact z.elim
    | ok flw =>
      cases flw with
      | next => exact fin.elim
      | brk => exact fin.elim
      | cont => exact fin.elim
      | ret u =>
        obtain ⟨v, H', os, bare, un, hok', rv, ev⟩ := fin
        have ev' : v = .bl true := ev
        subst ev'
        obtain rfl : u = Value.bool true := rv
        refine ⟨rfl, OldK.of_keep fun b o z => ?_, os, bare⟩
        cases q : H b with
        | none => exact un.keep b o z q (by simp [frs]) (by simp)
        | some u =>
          rcases only b with y | ⟨o2, zs, y⟩
          · rw [q] at y
            cases y
          · have y2 := un.frzs b o2 _ y
            have p1 := (hok b _ y).1
            have p2 := (hok' b _ y2).1
            rw [z] at p1
            cases p1
            exact p2
  cases kA : G.K.lookup a with
  | some o =>
    have z := KX a o kA
    rw [ob] at z
    cases z
    have sq : ∀ H', SqL G.K H' a (ns.map V.int) := fun H' => .inr ⟨_, us.toArray, _, kA, rfl, rfl, rfl, (by rw [List.size_toArray, many]; exact ln), (by simpa using rel)⟩
    exact go (fun _ => none) (fun _ => .inl rfl) (.inr sq) (fun b u y => by cases (show (none : Option HO) = some u from y)) (fun b y => (y rfl).elim) fun y => (y rfl).elim
  | none =>
    refine go (fun b => if b = a then some (.frz { cls := .type "list", data := .seq us.toArray } (.lst (ns.map V.int))) else none) (fun b => ?_) (.inl ⟨{ cls := .type "list", data := .seq us.toArray }, if_pos rfl⟩) (fun b u y => ?_) (fun b y => ?_) fun _ => kA
    · by_cases e : b = a
      · exact .inr ⟨_, _, if_pos e⟩
      · exact .inl (if_neg e)
    · by_cases e : b = a
      · have y2 := (if_pos e).symm.trans y
        cases y2
        subst e
        exact ⟨ob, (by rw [List.length_map]; exact ln), us, _, rel, ob⟩
      · have y2 := (if_neg e).symm.trans y
        cases y2
    · by_cases e : b = a
      · exact e
      · exact (y (if_neg e)).elim
end Fs
end

section
set_option Elab.async false
set_option linter.all false
set_option maxRecDepth 100000
set_option maxHeartbeats 2000000
/-! Fs19: own exceptions: a class without __init__; one whose __init__ says super().__init__(..), then stores its parameters as fields. -/
namespace Fs
open PySem L2 PySem.W PySem.Calls

/-! ### the text of such an __init__ -/
def nmsB : List Str → List Expr → Bool
  | [], xs => xs.isEmpty
  | f :: fl, xs => match xs with
    | .Name y _ :: r => decide (y = f) && nmsB fl r
    | _ => false
def stB : List Str → List Stmt → Bool
  | [], xs => xs.isEmpty
  | f :: fl, xs => match xs with
    | .Assign [.Attribute (.Name z _) g _] (.Name y _) _ :: r => (decide (z = ("self" : Str)) && (decide (g = f) && decide (y = f))) && stB fl r
    | _ => false
def initB (fl : List Str) (body : List Stmt) : Bool := match body with
  | .Expr (.Call (.Attribute (.Call (.Name sp _) [] [] _) m apos) xs [] pos) _ :: r => (decide (sp = ("super" : Str)) && (decide (m = ("__init__" : Str)) && ((apos.endLine == pos.line) && decide (xs.length < 20)))) && (nmsB fl xs && stB fl r)
  | _ => false
def okName (f : Str) : Bool := !(f == ("__debug__" : Str)) && !(f == ("__classdict__" : Str))
def initScB (fl : List Str) (sc : Scope) : Bool := (decide (sc.kind = .function) && (!sc.isCoroutine && !sc.isGenerator)) && ((decide (sc.names.lookup ("super" : Str) = some .globalImplicit) && decide (sc.names.lookup ("__class__" : Str) = some .free)) &&
  (((("self" : Str) :: fl).all fun f => decide (sc.names.lookup f = some .local) && okName f) && ((sc.names.all fun y => !decide (y.2 = .cell) && (!decide (y.2 = .free) || decide (y.1 = ("__class__" : Str)))) && decide ((("self" : Str) :: fl).Nodup))))

section
variable {X : Cx} {σ : St}
/-- names, one after another -/
def tNs : List Nat → TA
  | [] => tNil
  | i :: is => tCons (tVar i) (tNs is)
theorem pa_names {N : List Str} (hN : X.N = N) (hv : ∀ (i : Nat) (f : Str), N[i]? = some f → Vis X.env.scope f ∧ (f == ("__debug__" : Str)) = false ∧ (f == ("__classdict__" : Str)) = false) : ∀ (fl : List Str) (k : Nat) (xs : List Expr), nmsB fl xs = true → (∀ (j : Nat) (f : Str), fl[j]? = some f → N[k + j]? = some f) →
    PA X xs (tNs ((List.range fl.length).map (k + ·))) ∧ xs.all plainX = true
  | [], k, xs, h, _ => by
    cases xs with
    | nil => exact ⟨pa_nil, rfl⟩
    | cons _ _ => simp [nmsB] at h
  | f :: fl, k, xs, h, hn => by
    simp only [nmsB] at h
    split at h
    · rename_i y p r
      rw [Bool.and_eq_true, decide_eq_true_eq] at h
      obtain ⟨h1, h2⟩ := h
      subst h1
      obtain ⟨q1, q2⟩ := pa_names hN hv fl (k + 1) r h2 (fun j f' e => by
        have := hn (j + 1) f' (by simpa using e)
        rw [show k + 1 + j = k + (j + 1) by omega]
        exact this)
      have h0 : N[k]? = some y := by simpa using hn 0 y rfl
      obtain ⟨v1, v2, v3⟩ := hv k y h0
      have e1 : (List.range (y :: fl).length).map (k + ·) = k :: (List.range fl.length).map (k + 1 + ·) := by
        rw [List.length_cons, List.range_succ_eq_map, List.map_cons, List.map_map]
        congr 1
        apply List.map_congr_left
        intro a _
        show k + (a + 1) = k + 1 + a
        omega
      rw [e1]
      refine ⟨pa_cons (pe_var (by rw [hN]; exact h0) v1 v2 v3) q1 rfl, by simp only [List.all_cons, Bool.and_eq_true]; exact ⟨rfl, q2⟩⟩
    · cases h
theorem tNs_of {σ : St} {H : Hp} : ∀ (n k : Nat) (vs : List V) (Q : List V → Hp → Prop), (∀ (j : Nat) (v : V), vs[j]? = some v → σ[k + j]? = some (some v)) → vs.length = n → Q vs H → tNs ((List.range n).map (k + ·)) σ H Q
  | 0, k, vs, Q, _, hl, q => by
    have : vs = [] := List.length_eq_zero_iff.mp hl
    subst this
    exact q
  | n + 1, k, vs, Q, h, hl, q => by
    cases vs with
    | nil => cases hl
    | cons v vs =>
      have e1 : (List.range (n + 1)).map (k + ·) = k :: (List.range n).map (k + 1 + ·) := by
        rw [List.range_succ_eq_map, List.map_cons, List.map_map]
        congr 1
        apply List.map_congr_left
        intro a _
        show k + (a + 1) = k + 1 + a
        omega
      rw [e1]
      refine ⟨v, by simpa using h 0 v rfl, tNs_of n (k + 1) vs _ (fun j w e => ?_) (by simpa using hl) q⟩
      rw [show k + 1 + j = k + (j + 1) by omega]
      exact h (j + 1) w (by simpa using e)

/-- the exception that is being made: at a, its dict's fields so far; all else as it was -/
def Mkg (H1 : Hp) (a C : Addr) (fs : List (Str × V)) (H : Hp) : Prop :=
  (fs = [] ∧ H a = some (exo a C none) ∧ ∀ b, b ≠ a → H b = H1 b) ∨
  ∃ dx, H a = some (exo a C (some dx)) ∧ H dx = some (exd dx fs) ∧ H1 dx = none ∧ dx ≠ a ∧ ∀ b, b ≠ a → b ≠ dx → H b = H1 b
theorem stores_run {N : List Str} {C a : Addr} {H1 : Hp} (T : OexC X.K C) (hN : X.N = N) (hn0 : N[0]? = some ("self" : Str)) (hv : ∀ (i : Nat) (f : Str), N[i]? = some f → Vis X.env.scope f ∧ (f == ("__debug__" : Str)) = false ∧ (f == ("__classdict__" : Str)) = false) (hσ0 : σ[0]? = some (some (V.ref a))) :
    ∀ (fl : List Str) (k : Nat) (vs : List V) (r : List Stmt) (fs : List (Str × V)) (s : Shared) (H : Hp), stB fl r = true → (∀ (j : Nat) (f : Str), fl[j]? = some f → N[k + j]? = some f) → (∀ (j : Nat) (v : V), vs[j]? = some v → σ[k + j]? = some (some v)) → vs.length = fl.length → fs.length + fl.length ≤ 900 →
      (∀ f ∈ fl, findIn X.K (.ref C) f = some none) → Inv X [] σ H s → Mkg H1 a C fs H →
      wpAny (model X.prog X.w) X.A (execs r X.env) (fun fl' s' => fl' = .next ∧ ∃ H', Inv X [] σ H' s' ∧ Mkg H1 a C ((fl.zip vs).reverse ++ fs) H') X.xe s
  | [], k, vs, r, fs, s, H, h, _, _, hl, _, _, I, m => by
    cases r with
    | cons _ _ => simp [stB] at h
    | nil => exact wpAny_execs_nil ⟨rfl, H, I, by simpa using m⟩
  | f :: fl, k, vs, r, fs, s, H, h, hn, hσ, hl, hz, hno, I, m => by
    cases vs with
    | nil => cases hl
    | cons v vs =>
    simp only [stB] at h
    split at h
    · rename_i z p1 g p2 y p3 pos r
      simp only [Bool.and_eq_true, decide_eq_true_eq] at h
      obtain ⟨⟨e1, e2, e3⟩, h2⟩ := h
      subst e1 e2 e3
      have n1 : N[k]? = some y := by simpa using hn 0 y rfl
      have s1 : σ[k]? = some (some v) := by simpa using hσ 0 v rfl
      obtain ⟨v1, v2, v3⟩ := hv k y n1
      obtain ⟨u1, u2, u3⟩ := hv 0 _ hn0
      have fin : ∀ {s' : Shared} {H' : Hp}, Inv X [] σ H' s' → Mkg H1 a C ((y, v) :: fs) H' → wpAny (model X.prog X.w) X.A (execs r X.env) (fun fl' s' => fl' = .next ∧ ∃ H', Inv X [] σ H' s' ∧ Mkg H1 a C (((y :: fl).zip (v :: vs)).reverse ++ fs) H') X.xe s' := fun {s' H'} J m' => by
        have q := stores_run T hN hn0 hv hσ0 fl (k + 1) vs r ((y, v) :: fs) s' H' h2 (fun j f' e => by
          rw [show k + 1 + j = k + (j + 1) by omega]
          exact hn (j + 1) f' (by simpa using e)) (fun j w e => by
          rw [show k + 1 + j = k + (j + 1) by omega]
          exact hσ (j + 1) w (by simpa using e)) (by simpa using hl) (by simp at hz ⊢; omega) (fun f hf => hno f (List.mem_cons_of_mem _ hf)) J m'
        have ez : ((y :: fl).zip (v :: vs)).reverse ++ fs = (fl.zip vs).reverse ++ (y, v) :: fs := by simp
        rw [ez]
        exact q
      refine wpAny_execs_cons ?_
      refine plainObj_wpAny_Assign_Attribute (thn ((pe_var (X := X) (by rw [hN]; exact n1) v1 v2 v3).run [] s σ H (fun x H' => x = v ∧ H' = H) I ⟨_, s1, rfl, rfl⟩) fun w s2 hw => ?_) rfl
      obtain ⟨x, H2, I2, rx, e1, e2⟩ := hw
      subst e1 e2
      refine thn ((pe_var (X := X) (by rw [hN]; exact hn0) u1 u2 u3).run [] s2 σ H2 (fun x H' => x = .ref a ∧ H' = H2) I2 ⟨_, hσ0, rfl, rfl⟩) fun w2 s3 hw2 => ?_
      obtain ⟨x2, H3, I3, rx2, e1, e2⟩ := hw2
      subst e1 e2
      obtain rfl : w2 = Value.ref a := rx2
      rcases m with ⟨efs, ea, hb⟩ | ⟨dx, ea, ed, hd1, hda, hb⟩
      · subst efs
        refine ost_new T I3 ea (hno y List.mem_cons_self) rx fun dx s' n ne J => fin J ?_
        refine .inr ⟨dx, upd_same, by rw [upd_ne ne, upd_same], by rw [← hb dx ne]; exact n, ne, fun b h1 h2 => ?_⟩
        rw [upd_ne h1, upd_ne h2]
        exact hb b h1
      · refine ost_old T I3 ea ed (by simp at hz; omega) (hno y List.mem_cons_self) rx fun s' J => fin J ?_
        refine .inr ⟨dx, by rw [upd_ne (Ne.symm hda)]; exact ea, upd_same, hd1, hda, fun b h1 h2 => ?_⟩
        rw [upd_ne h2]
        exact hb b h1 h2
    · cases h
end
end Fs
end

section
set_option Elab.async false
set_option linter.all false
set_option maxRecDepth 100000
set_option maxHeartbeats 2000000
/-! Fs20: super().__init__(..) in an own exception's __init__; the exception's making. -/
namespace Fs
open PySem L2 PySem.W PySem.Calls
/-- the context of such an __init__ -/
def cxI (P : Program) (w : World) (K : Frag) (mg : Str → Option Value) (base : Heap) (N : List Str) (qual : Str) (sc : Scope) (fI cda cc : Addr) (A : Around) (outer : List Env) (s : Shared) (H : Hp) : Cx where
  prog := P
  w := w
  K := K
  mg := mg
  base := base
  A := A.deeper (ksEnv qual sc s.heap.objs.size fI (.ref cda) cc)
  N := N
  s_0 := s
  H_0 := H
  env := ksEnv qual sc s.heap.objs.size fI (.ref cda) cc
  outer := outer
  stack := ksEnv qual sc s.heap.objs.size fI (.ref cda) cc :: outer
  ex := []
  fn := fun _ => false
  calm := true
  pn := []
  xe := fun _ _ => False
theorem lookup_uniq {α : Type} {y : Str} {u : α} : ∀ {l : List (Str × α)}, (l.map (·.1)).Nodup → (y, u) ∈ l → l.lookup y = some u
  | [], _, h => by cases h
  | (z, v) :: l, n, h => by
    simp only [List.map_cons, List.nodup_cons] at n
    rw [List.lookup_cons]
    rcases List.mem_cons.mp h with e | e
    · cases e
      simp
    · have hne : ¬ y = z := fun q => n.1 (by rw [← q]; exact List.mem_map.mpr ⟨_, e, rfl⟩)
      have : (y == z) = false := by simpa using hne
      rw [this]
      exact lookup_uniq n.2 e
theorem zip_at {α : Type} {y : Str} {u : α} : ∀ {N : List Str} {us : List α} {i : Nat}, N[i]? = some y → us[i]? = some u → (y, u) ∈ N.zip us
  | [], _, _, h, _ => by simp at h
  | _ :: _, [], _, _, h => by simp at h
  | a :: N, b :: us, 0, h, h' => by
    simp at h h'
    subst h h'
    exact List.mem_cons_self
  | a :: N, b :: us, i + 1, h, h' => by
    rw [List.zip_cons_cons]
    exact List.mem_cons_of_mem _ (zip_at (i := i) (by simpa using h) (by simpa using h'))
theorem inv_I {P : Program} {w : World} {K : Frag} {mg : Str → Option Value} {base : Heap} {N : List Str} {qual : Str} {sc : Scope} {fI cda cc : Addr} {A : Around} {outer : List Env} {s : Shared} {H : Hp} {h₀ : Heap} {t : Nat} {us : List Value} {vs : List V}
    {cl : Value} {cld : Option Addr} {cv : Value} {csl : Array (Option Value)} (hd : A.handled = none) (e0 : Env0 P w K mg base A outer s H) (hns : h₀.Ns s.heap.objs.size (fun x => (N.zip us).reverse.lookup x)) (kk : ∀ b o, s.heap.get? b = some o → h₀.get? b = some o)
    (r : Vals vs us) (hl : vs.length = N.length) (nd : N.Nodup) (hk : sc.kind = .function) (hN : ∀ f ∈ N, sc.names.lookup f = some .local) (hc : ∀ y ∈ sc.names, y.2 ≠ .cell) (hf : ∀ y ∈ sc.names, y.2 = .free → y.1 = ("__class__" : Str))
    (hcell : K.lookup cc = some ⟨cl, cld, .cell (some cv), csl⟩) : Inv (cxI P w K mg base N qual sc fI cda cc A outer s H) [] (start N vs) H { s with heap := h₀, toks := t } := by
  have KX : K.In s.heap := e0.mod.kin.keeps fun b o z => (e0.bs b o z).1
  have hcs := KX _ _ hcell
  have cc1 : ∀ {y : Str} {c : Addr}, (cxI P w K mg base N qual sc fI cda cc A outer s H).env.cells.lookup y = some c → y = ("__class__" : Str) ∧ c = cc := fun {y c} e => by
    have e' : List.lookup y [(("__class__" : Str), cc)] = some c := e
    rw [List.lookup_cons] at e'
    cases q : y == ("__class__" : Str) with
    | true =>
      rw [q] at e'
      cases e'
      exact ⟨by simpa using q, rfl⟩
    | false => rw [q] at e'; cases e'
  have Hcc : H cc = none := (e0.bs cc _ (e0.mod.kin _ _ hcell)).2
  have noE : ∀ b : Addr, b ∉ (cxI P w K mg base N qual sc fI cda cc A outer s H).ex := fun b z => by cases (show b ∈ ([] : List Addr) from z)
  have lu : us.length = N.length := by rw [← r.length]; exact hl
  refine ⟨⟨e0.mod, hk, rfl, rfl, Nat.le_refl _, fun y z c h1 h2 => (cc1 h1).1.trans (cc1 h2).1.symm, fun y hy => ?_, (fun y c z _ => by cases z), fun _ => hd, Around.frames_deeper e0.frames, .inr ⟨rfl, rfl⟩, fun b z => absurd z (noE b), e0.bs, e0.bsz, fun b _ _ => noE b, fun b z => absurd z (noE b), e0.funs, e0.frf⟩,
    rfl, e0.bare, Un.kept kk, ⟨_, hns, fun i y v h1 h2 h3 => ?_⟩, fun y c h => ⟨some cv, ?_⟩, e0.hok.fresh (Nat.le_refl _), fun y c h => ?_, (fun p hp => by cases (show p ∈ ([] : List (Addr × Obj)) from hp)), e0.hok.kept kk, ?_⟩
  · have hy' : sc.names.lookup y = some .cell ∨ sc.names.lookup y = some .free := hy
    rcases hy' with q | q
    · exact absurd rfl (hc _ (PySem.mem_of_lookup q))
    · have := hf _ (PySem.mem_of_lookup q) rfl
      refine ⟨cc, ?_⟩
      show List.lookup y [(("__class__" : Str), cc)] = some cc
      have e : y = ("__class__" : Str) := this
      subst e
      simp
  · have hi : i < vs.length := by
      unfold L2.start at h2
      by_cases hi : i < vs.length
      · exact hi
      · rw [List.getElem?_append_right (by simpa using hi), List.getElem?_replicate] at h2
        split at h2 <;> cases h2
    have ha : vs[i]? = some v := by
      unfold L2.start at h2
      rw [List.getElem?_append_left (by simpa using hi), List.getElem?_map] at h2
      obtain ⟨a, e1, e2⟩ := Option.map_eq_some_iff.mp h2
      cases e2
      exact e1
    obtain ⟨u, hu, rv⟩ := r.get ha
    refine ⟨u, rv, .inl ⟨hN y (List.mem_of_getElem? h1), ?_⟩⟩
    refine lookup_uniq ?_ (List.mem_reverse.mpr (zip_at h1 hu))
    rw [List.map_reverse, List.map_fst_zip (by omega)]
    exact (List.reverse_perm N).nodup_iff.mpr nd
  · obtain ⟨_, e⟩ := cc1 h
    subst e
    exact ⟨_, kk _ _ hcs, rfl⟩
  · obtain ⟨_, e⟩ := cc1 h
    subst e
    exact Hcc
  · unfold L2.start
    show _ = N.length
    rw [List.length_append, List.length_map, List.length_replicate]
    omega
/-- ValueError.__init__, bound to the exception, called -/
theorem call_mw {X : Cx} {pins : List (Addr × Obj)} {σ : L2.St} {H : Hp} {s : Shared} {a C u : Addr} {us : List Value} {Q : Value → Shared → Prop} {E : Value → Shared → Prop} {A : Around} (T : OexC X.K C) (I : Inv X pins σ H s) (e : H a = some (exo a C none))
    (hu : s.heap.get? u = some (kxs_mw "ValueError.__init__" a)) (hl : us.length ≤ sizeLine) (h : ∀ s', Inv X pins σ H s' → Q .none s') : wpAny (model X.prog X.w) A (call (.ref u) us) Q E s := by
  obtain ⟨nm, q, N, bs, bm, sn, sub, ab, col, dd, k0, k1, k2, k3, k5, hC, hbm⟩ := T.cls
  obtain ⟨t1, ho⟩ := exo_at I.hok e
  have hCh := I.kIn _ _ hC
  obtain ⟨hp, g, d, t, os⟩ := s
  have fin : ∀ h', (∀ b o, b ≠ a → hp.get? b = some o → h'.get? b = some o) → h'.get? a = some (excRec (.ref C) hp.objs.size none .none .none (.bool false)) → h'.get? hp.objs.size = some (excTup us) → Q .none ⟨h', g, d, t, os⟩ := fun h' k hx _ => by
    have J := I.write (t' := t) (x := a) (e := a) (o := exo a C none) (by rw [e]; exact True.intro) (.inl rfl) k ⟨_, hx⟩ (exo_ok hx)
    have eu : upd H a (exo a C none) = H := by
      funext b
      by_cases hb : b = a
      · rw [hb, upd_same, e]
      · rw [upd_ne hb]
    rw [eu] at J
    exact h _ J
  refine wpAny_call (codeAny_of_tree ?_)
  show wpAny _ A.in1 (callAny (.ref u) ⟨us, []⟩) _ _ _
  simp only [callAny]
  refine wpAny_bind (wpAny_load hu ?_)
  simp only [kxs_mw, show (Value.type "method-wrapper" == Value.type "method" || Value.type "method-wrapper" == Value.type "builtin_function_or_method" || Value.type "method-wrapper" == Value.type "method-wrapper") = true by decide, if_true]
  refine KFB.if_so (by decide) ?_
  refine wpAny_bind (check_bound_init F.excBase_ValueError.toExcCallFacts hCh ho rfl ?_)
  refine wpAny_bind (wpAny_pure (wpAny_pure ?_))
  refine ⟨plainId_quiet F.excBase_ValueError.init.plain _, codeAny_builtin F.excBase_ValueError.initEntry ?_⟩
  exact exc_init_tree (cls := .ref C) (t0 := t1) (dv := none) (c2 := .none) (c3 := .none) (b4 := .bool false) ho hl fin
end Fs
end

section
set_option Elab.async false
set_option linter.all false
set_option maxRecDepth 100000
set_option maxHeartbeats 4000000
/-! Fs21: the __init__ of an own exception runs. -/
namespace Fs
open PySem L2 PySem.W PySem.Calls PyProof.Rows
structure XiF (K : Frag) (file : Str) (C : Addr) (fl : List Str) : Prop where
  ox : OexC K C
  no : ∀ f ∈ fl, findIn K (.ref C) f = some none
  su : ks_superIn K C C "__init__" = some (some (.builtin "ValueError.__init__"))
  op : nsIn K cStatics "thirdparty.any" = some none
  sb : subIn K (.ref C) (.type "ValueError") = some true
  mr : mroIn K C (.ref C) = some true
  few : fl.length ≤ 100
  ne : fl ≠ []
  ex : ∃ (fI cda cc : Addr) (qual : Str) (params : Arguments) (body : List Stmt) (sc : Scope) (kV doc pm : Value) (an : Option Addr) (ct oc : Value) (od : Option Addr) (osl : Array (Option Value)) (cl : Value) (cld : Option Addr) (csl : Array (Option Value)) (ccl : Value) (cdd : Option Addr) (fs : Array Value) (ccs : Array (Option Value)) (tf : Tok),
    findIn K (.ref C) "__init__" = some (some (.ref fI)) ∧ typeIn K (.ref fI) = some (.type "function") ∧
    K.lookup fI = some ⟨oc, od, .func (ksFn "__init__" qual params body sc .none kV doc pm an (.ref cda) ct cc), osl⟩ ∧ codeIn K (.ref cda) qual = true ∧
    K.lookup cc = some ⟨cl, cld, .cell (some (.ref C)), csl⟩ ∧ K.lookup cda = some ⟨ccl, cdd, .fields fs, ccs⟩ ∧ fs[2]? = some (.str file tf) ∧
    initB fl body = true ∧ initScB fl sc = true ∧ (∃ ar, (params.posonlyargs ++ params.args).head? = some ar ∧ ar.arg = ("self" : Str)) ∧
    ∀ us : List Value, us.length = (("self" : Str) :: fl).length → bindArgs (ksFn "__init__" qual params body sc .none kV doc pm an (.ref cda) ct cc) ⟨us, []⟩ = pure ((("self" : Str) :: fl).zip us)
theorem init_go {P : Program} {w : World} {K : Frag} {mg : Str → Option Value} {base : Heap} {A : Around} {outer : List Env} {s : Shared} {H1 : Hp} {a C : Addr} {fl : List Str} {file : Str} {us : List Value} {vs : List V} {k : Nat}
    (F0 : XiF K file C fl) (hfile : ((P.main.file : Str) == file) = true) (htop : (P.main.scope.names.lookup ("super" : Str)).isSome = false) (hms : mg "super" = none) (hr : Room (k + 1) A)
    (e0 : Env0 P w K mg base A outer s (upd H1 a (exo a C none))) (r : Vals vs us) (hl : vs.length = fl.length) (hb : ∀ b, b ≠ a → upd H1 a (exo a C none) b = H1 b) :
    ∃ fI : Addr, findIn K (.ref C) "__init__" = some (some (.ref fI)) ∧ typeIn K (.ref fI) = some (.type "function") ∧
    codeAny (model P w) A (.call (.ref fI) ⟨.ref a :: us, []⟩) (fun res s' => res = .ok (.ret .none) ∧ ∃ H2, s'.os = s.os ∧ AllBare s'.gens ∧ Un (frs outer) [] (upd H1 a (exo a C none)) H2 s.heap s'.heap ∧ HOk P w H2 s'.heap ∧ Mkg H1 a C (fl.zip vs).reverse H2) s := by
  obtain ⟨fI, cda, cc, qual, params, body, sc, kV, doc, pm, an, ct, oc, od, osl, cl, cld, csl, ccl, cdd, fs, ccs, tf, iC, tI, lk, hcd, hcell, hcode, hvs, hbody, hsc, ⟨ar, har, earg⟩, hbind⟩ := F0.ex
  refine ⟨fI, iC, tI, ?_⟩
  have KX : K.In s.heap := e0.mod.kin.keeps fun b o z => (e0.bs b o z).1
  have nolim : s.heap.NoLimit := e0.mod.nolimit.keeps fun b o z => (e0.bs b o z).1
  unfold initScB at hsc
  simp only [Bool.and_eq_true, decide_eq_true_eq, Bool.not_eq_true', List.all_eq_true, Bool.or_eq_true, decide_eq_false_iff_not] at hsc
  obtain ⟨⟨k1, k2, k3⟩, ⟨k4, k5⟩, k6, k7, k8⟩ := hsc
  have hN : ∀ f ∈ (("self" : Str) :: fl), sc.names.lookup f = some .local := fun f hf => (k6 f hf).1
  have hcell0 : ∀ y ∈ sc.names, y.2 ≠ .cell := fun y hy => (k7 y hy).1
  have hfree : ∀ y ∈ sc.names, y.2 = .free → y.1 = ("__class__" : Str) := fun y hy e => ((k7 y hy).2).resolve_left fun z => z e
  have lenU : (Value.ref a :: us).length = (("self" : Str) :: fl).length := by
    simp only [List.length_cons]
    rw [← r.length, hl]
  have lenV : (V.ref a :: vs).length = (("self" : Str) :: fl).length := by simp only [List.length_cons, hl]
  unfold initB at hbody
  split at hbody
  · rename_i sp p0 p1 m apos xs pos epos rest
    simp only [Bool.and_eq_true, decide_eq_true_eq] at hbody
    obtain ⟨⟨b1, b2, b3, b4⟩, b5, b6⟩ := hbody
    subst b1 b2
    refine ks_codeAny_call_defAt (fd := ksFn "__init__" qual params _ sc .none kV doc pm an (.ref cda) ct cc) (binds := (("self" : Str) :: fl).zip (.ref a :: us)) hr.depth (KX _ _ lk) rfl nolim (codeRec_of KX hcd) rfl (.of_eq (hbind _ lenU)) hcell0 (fun y hy => ?_) (fun h₀ hns kk => ?_) k2 k3 k1
    · exact hN y.1 (List.of_mem_zip (a := y.1) (b := y.2) hy).1
    · have I : Inv (cxI P w K mg base (("self" : Str) :: fl) qual sc fI cda cc A outer s (upd H1 a (exo a C none))) [] (L2.start (("self" : Str) :: fl) (.ref a :: vs)) (upd H1 a (exo a C none)) { s with heap := h₀, toks := s.toks + ((("self" : Str) :: fl).zip (Value.ref a :: us)).length } :=
        inv_I hr.hd e0 hns kk (.cons rfl r) lenV k8 k1 hN hcell0 hfree hcell
      have hea : upd H1 a (exo a C none) a = some (exo a C none) := upd_same
      have vis : ∀ (i : Nat) (f : Str), (("self" : Str) :: fl)[i]? = some f → Vis (cxI P w K mg base (("self" : Str) :: fl) qual sc fI cda cc A outer s (upd H1 a (exo a C none))).env.scope f ∧ (f == ("__debug__" : Str)) = false ∧ (f == ("__classdict__" : Str)) = false := fun i f e => by
        have hm := k6 f (List.mem_of_getElem? e)
        have q := hm.2
        unfold okName at q
        simp only [Bool.and_eq_true, Bool.not_eq_true'] at q
        exact ⟨.inl hm.1, q.1, q.2⟩
      have s0 : (L2.start (("self" : Str) :: fl) (V.ref a :: vs))[0]? = some (some (V.ref a)) := by unfold L2.start; rfl
      have sj : ∀ (j : Nat) (v : V), vs[j]? = some v → (L2.start (("self" : Str) :: fl) (V.ref a :: vs))[1 + j]? = some (some v) := fun j v e => by
        unfold L2.start
        have hj : j < vs.length := (List.getElem?_eq_some_iff.mp e).1
        rw [List.getElem?_append_left (by simp; omega), List.getElem?_map, Nat.add_comm]
        simp [e]
      show _root_.PySem.wpAt (model P w) (A.deeper (ksEnv qual sc s.heap.objs.size fI (.ref cda) cc)) (.func _ (ksEnv qual sc s.heap.objs.size fI (.ref cda) cc)) (execs _ (ksEnv qual sc s.heap.objs.size fI (.ref cda) cc)) _ _ _
      have hform : methodCallForm (xs.length + ([] : List Keyword).length) (backTo pos (starEach xs (ksEnv qual sc s.heap.objs.size fI (.ref cda) cc))) (backToKw pos (keywordEach [] (ksEnv qual sc s.heap.objs.size fI (.ref cda) cc))) = true := by
        obtain ⟨_, hp⟩ := pa_names (X := cxI P w K mg base (("self" : Str) :: fl) qual sc fI cda cc A outer s (upd H1 a (exo a C none))) rfl vis fl 1 xs b5 (fun j f e => by show (("self" : Str) :: fl)[1 + j]? = some f; rw [Nat.add_comm]; exact (List.getElem?_cons_succ ..).trans e)
        unfold methodCallForm
        rw [back_all hp]
        show (true && decide (xs.length + 0 + 0 < 30)) = true
        rw [decide_eq_true (by omega)] <;> rfl
      refine ks_wpAt_execs_cons (ks_wpAt_Expr_any (ks_wpAt_MethodCall (pl := plainOf (.Call (.Name "super" p0) [] [] p1) (ksEnv qual sc s.heap.objs.size fI (.ref cda) cc)) ?_ ?_) I.quiet rfl)
      · obtain ⟨hT1, hT2⟩ : ∃ cd, clsIn K C = some cd := by
          obtain ⟨nm, q, N, bs, bm, sn, sub, ab, col, dd, q0, q1, q2, q3, q5, hC, hbm⟩ := F0.ox.cls
          exact ⟨_, by unfold clsIn; rw [hC] <;> rfl⟩
        have X1 : K.In h₀ := KX.keeps kk
        refine ks_wpAt_super_base (env := ksEnv qual sc s.heap.objs.size fI (.ref cda) cc) k4 k5 (by decide) rfl (X1 _ _ lk) rfl har rfl (X1 _ _ hcode) rfl hvs hfile htop ?_
        obtain ⟨mb, hbn, hbb⟩ := e0.mod.blt
        have KB : ∀ b o, base.get? b = some o → h₀.get? b = some o := fun b o z => kk b o (e0.bs b o z).1
        have ha0 : h₀.get? s.heap.objs.size = h₀.get? s.heap.objs.size := rfl
        obtain ⟨t1, hob⟩ := exo_at I.hok hea
        refine ks_loadName_global k1 k4 (loadGlobal_builtin (e0.mod.glob.keeps KB) hms (hbn.keeps KB) ((hbb _ (by decide)).trans (by first | boot_by_name | rfl | kernel_rfl)) ⟨rfl, ?_⟩)
        refine wpAny_loadName_free k1 k5 rfl ⟨_, X1 _ _ hcell, rfl⟩ ?_
        rw [earg]
        refine wpAny_loadName_local k1 (hN _ List.mem_cons_self) hns (v := .ref a) ?_ ?_
        · refine lookup_uniq ?_ (List.mem_reverse.mpr (zip_at (i := 0) rfl rfl))
          rw [List.map_reverse, List.map_fst_zip (by omega)]
          exact (List.reverse_perm _).nodup_iff.mpr k8
        obtain ⟨oD, hD1, hD2⟩ : ∃ oD, h₀.get? C = some oD ∧ oD.data = .cls hT1 := by
          unfold clsIn at hT2
          split at hT2
          · rename_i c d cd' sl ho
            cases hT2
            exact ⟨_, X1 _ _ ho, rfl⟩
          · cases hT2
        refine ks_wpAny_isType_cls hD1 hD2 ⟨rfl, ?_⟩
        refine ks_wpAny_call_super hD1 hD2 hob rfl (fun c e => by cases e) (looks_mroIn X1 F0.mr) (fun h1 e1 kk1 => ?_)
        have I1 := I.kept (t' := s.toks + ((("self" : Str) :: fl).zip (Value.ref a :: us)).length) kk1
        obtain ⟨t2, hob1⟩ := exo_at I1.hok hea
        have X2 : K.In h1 := X1.keeps kk1
        have hsu := F0.su
        unfold ks_superIn at hsu
        rw [hT2] at hsu
        have aC : a ≠ C := fun e => by
          subst e
          obtain rfl : oD = _ := Option.some.inj (hD1.symm.trans hob)
          cases hD2
        have hI : Looks (model P w) h1 (isInstance (.ref a) (.type "ValueError")) true := (Looks.andThen (show Looks (model P w) h1 (typeOf (.ref a)) (.ref C) from (Looks.ld hob1).andThen .now) (looks_subIn X2 F0.sb))
        refine kxs_getMethod kxs_ValueError e1 (looks_opaque X2 F0.op) (l₀ := hT1.mro) (fun A Q E s k q => wpAny_bind ((looks_clsIn X2 hT2) A _ E s k (wpAny_pure q))) rfl X2 hsu hI aC (by decide) ?_
        have I2 := I1.kept (h' := h1.push (kxs_mw "ValueError.__init__" a)) (t' := s.toks + ((("self" : Str) :: fl).zip (Value.ref a :: us)).length + 1) (fun b o z => Heap.get?_push_of_some _ z)
        have hmw : (h1.push (kxs_mw "ValueError.__init__" a)).get? h1.objs.size = some (kxs_mw "ValueError.__init__" a) := Heap.get?_push_at rfl rfl
        obtain ⟨PAx, hpx⟩ := pa_names (X := cxI P w K mg base (("self" : Str) :: fl) qual sc fI cda cc A outer s (upd H1 a (exo a C none))) rfl vis fl 1 xs b5 (fun j f e => by show (("self" : Str) :: fl)[1 + j]? = some f; rw [Nat.add_comm]; exact (List.getElem?_cons_succ ..).trans e)
        have I3 : Inv (cxI P w K mg base (("self" : Str) :: fl) qual sc fI cda cc A outer s (upd H1 a (exo a C none))) [(h1.objs.size, kxs_mw "ValueError.__init__" a)] (L2.start (("self" : Str) :: fl) (V.ref a :: vs)) (upd H1 a (exo a C none)) _ :=
          I2.pins_of fun p hp => by
            obtain rfl : p = _ := List.mem_singleton.mp hp
            exact ⟨hmw, I1.fresh, fun e => Nat.lt_irrefl _ (e ▸ I1.lt), I1.nofs (Nat.le_refl _), fun v e => by cases e⟩
        have hstep := PAx.run pos _ _ _ _ (fun vs' H' => vs' = vs ∧ H' = upd H1 a (exo a C none)) I3 (tNs_of fl.length 1 vs _ sj hl ⟨rfl, rfl⟩)
        have plainR : (backTo pos (starEach xs (ksEnv qual sc s.heap.objs.size fI (.ref cda) cc))).any (·.1) = false := by
          have q := back_all (env := ksEnv qual sc s.heap.objs.size fI (.ref cda) cc) (pos := pos) hpx
          rw [List.all_eq_true] at q
          rw [List.any_eq_false]
          intro x hx
          have := q x hx
          simpa using this
        cases xs with
        | nil =>
          exfalso
          cases fl with
          | nil => exact F0.ne rfl
          | cons f fl => simp [nmsB] at b5
        | cons x0 xs0 =>
        have hx0 : starEach (x0 :: xs0) (ksEnv qual sc s.heap.objs.size fI (.ref cda) cc) = (false, eval x0 (ksEnv qual sc s.heap.objs.size fI (.ref cda) cc)) :: starEach xs0 (ksEnv qual sc s.heap.objs.size fI (.ref cda) cc) := by
          have q := star_all (env := ksEnv qual sc s.heap.objs.size fI (.ref cda) cc) hpx
          have q2 := star_all (env := ksEnv qual sc s.heap.objs.size fI (.ref cda) cc) (xs := xs0) (by simp only [List.all_cons, Bool.and_eq_true] at hpx; exact hpx.2)
          rw [q, q2] <;> rfl
        have hstep' : wpAny (model P w) (A.deeper (ksEnv qual sc s.heap.objs.size fI (.ref cda) cc)) (spliced (backTo pos (starEach (x0 :: xs0) (ksEnv qual sc s.heap.objs.size fI (.ref cda) cc)))) _ _ _ := hstep
        refine kxs_callWith (i := "ValueError.__init__") (x := a) plainR ?_
        rw [hx0] at hstep' ⊢
        refine evalArgs_plain (wpAny_mono hstep' (fun vs0 s4 h4 => ?_) fun _ _ z => z.elim)
        obtain ⟨vs', H', I4, r4, e4, e5⟩ := h4
        subst e4 e5
        have hu4 := (I4.pin _ (List.mem_append_right _ List.mem_cons_self)).1
        refine ⟨hu4, ?_⟩
        have I5 := I4.pins_of (pins' := []) (fun p hp => by cases hp)
        refine call_mw F0.ox I5 hea hu4 (by show vs0.length ≤ _; rw [← r4.length, hl]; exact Nat.le_trans F0.few (by decide)) (fun s5 J => ?_)
        refine wpAt_of_wpAny (wpAny_mono (stores_run F0.ox rfl rfl vis s0 fl 1 vs' rest [] s5 _ b6 (fun j f e => by show (("self" : Str) :: fl)[1 + j]? = some f; rw [Nat.add_comm]; exact (List.getElem?_cons_succ ..).trans e) sj hl (by have := F0.few; simp; omega) F0.no J (.inl ⟨rfl, hea, hb⟩)) (fun f s6 h6 => ?_) fun _ _ z => z.elim)
        obtain ⟨rfl, H', J6, m6⟩ := h6
        rw [List.append_nil] at m6
        exact ⟨rfl, H', J6.os, J6.bare, J6.base, J6.hok, m6⟩
      · rw [arm_eval_Call]
        simp only [mcall_line hform b3]
        rfl
  · cases hbody
end Fs
end

section
set_option Elab.async false
set_option linter.all false
set_option maxRecDepth 100000
set_option maxHeartbeats 4000000
/-! Fs22: making an own exception. -/
namespace Fs
open PySem L2 PySem.W PyProof.Rows
/-- a class of the table without fields of its own -/
structure Xi0 (K : Frag) (C : Addr) : Prop where
  q : excIn K C He.veBase "ValueError.__new__" = true
  ex : subIn K (.ref C) (.type "BaseException") = some true
  ty : typeIn K (.ref C) = some (.type "type")
theorem mk_bare {X : Cx} {C : Addr} (F : Xi0 X.K C) {pins : List (Addr × Obj)} {s : Shared} {σ : L2.St} {H : Hp} {us : List Value} {Q : XK} (I : Inv X pins σ H s) (hl : us.length ≤ sizeLine) (q : Q (.ref C) none H) : wpAny (model X.prog X.w) X.A (call (.ref C) us) (MkP X pins σ Q) X.xe s := by
  obtain ⟨hp, g, dr, tk, os⟩ := s
  obtain ⟨bm, N, nm, qn, bs, hdct, sn, sub, ab, col, dd, k0, k1, k2, k3, k5, mN, hC, hN, hni, T⟩ := exc_obj I.kIn F.q
  refine wpAny_call_exc_subT PySem.F.excBase_ValueError T hC hN hni (fun h' e hm => ?_) hl
  exact mk_of I hm (raises_own F.ex F.ty) q (I.hok.gone hm.new)
theorem mk_flds {X : Cx} {C : Addr} {fl : List Str} {file : Str} (F : XiF X.K file C fl) (hfile : ((X.prog.main.file : Str) == file) = true) (htop : (X.prog.main.scope.names.lookup ("super" : Str)).isSome = false) (hms : X.mg "super" = none) (hr : Room 4 X.A)
    {pins : List (Addr × Obj)} {s : Shared} {σ : L2.St} {H : Hp} {us : List Value} {vs : List V} {Q : XK} (I : Inv X pins σ H s) (r : Vals vs us) (hl : vs.length = fl.length)
    (q : ∀ H' d, Ext H H' → H' d = some (.xd (fl.zip vs).reverse) → Q (.ref C) (some d) H') : wpAny (model X.prog X.w) X.A (call (.ref C) us) (MkP X pins σ Q) X.xe s := by
  obtain ⟨nm, qn, N, bs, bm, sn, sub, ab, col, dd, k0, k1, k2, k3, k5, hC, hbm⟩ := F.ox.cls
  obtain ⟨hp, g, dr, tk, os⟩ := s
  have hsz : hp.objs.size ≤ hp.objs.size + 1 := Nat.le_succ _
  have kk : ∀ b o, hp.get? b = some o → ((hp.push (PySem.W.kdv_tup us)).push (PySem.HandSPX.excO C hp.objs.size)).get? b = some o := fun b o e => Heap.get?_push_of_some _ (Heap.get?_push_of_some _ e)
  have hget : ((hp.push (PySem.W.kdv_tup us)).push (PySem.HandSPX.excO C hp.objs.size)).get? (hp.objs.size + 1) = some (PySem.HandSPX.excO C hp.objs.size) := by heap_get
  have I2 : Inv X pins σ (upd H (hp.objs.size + 1) (exo (hp.objs.size + 1) C none)) ⟨(hp.push (PySem.W.kdv_tup us)).push (PySem.HandSPX.excO C hp.objs.size), g, dr, tk, os⟩ :=
    I.laid (t' := tk) (a := hp.objs.size + 1) (o := exo (hp.objs.size + 1) C none) (h' := (hp.push (PySem.W.kdv_tup us)).push (PySem.HandSPX.excO C hp.objs.size)) kk hsz (exo_ok hget)
  have hus : us.length ≤ sizeLine := by
    rw [← r.length, hl]
    exact Nat.le_trans F.few (by decide)
  obtain ⟨fI, iC, tI, run⟩ := init_go (k := 2) F hfile htop hms (hr.make C us []) (I2.env0.make C us []) r hl (fun b hb => upd_ne hb)
  refine wpAny_call (PySem.HandSPX.call_own PySem.F.excBase_ValueError (fun Y => PySem.HandSPX.refsVE_contains Y bm hbm) (I.kIn _ _ hC) (PySem.W.looks_findIn I.kIn iC) (fun self => PySem.W.bind_fn I.kIn self tI) hus
    (codeAny_mono run fun res s' hq' => ?_))
  obtain ⟨rfl, H2, os2, bare2, un2, hok2, m⟩ := hq'
  rcases m with ⟨e, _, _⟩ | ⟨d, ea, ed, hd1, hda, hb⟩
  · exfalso
    cases fl with
    | nil => exact F.ne rfl
    | cons f fl =>
      cases vs with
      | nil => cases hl
      | cons v vs => simp at e
  · obtain ⟨h2, g2, d2, t2, os'⟩ := s'
    refine ⟨rfl, mk_end (raises_own F.ox.exC F.ox.tyC) I hsz kk un2 hok2 os2 bare2 ea ed hd1 (q _ _ (fun b o e => ?_) upd_same)⟩
    have h1 : b ≠ hp.objs.size + 1 := fun z => by
      have := I.hok.fresh hsz
      rw [← z, e] at this
      cases this
    have h2 : b ≠ d := fun z => by
      rw [← z, e] at hd1
      cases hd1
    rw [upd_ne h2, del_ne h1, hb b h1 h2]
    exact e
theorem rvF_of {G : Gx} {ρ : Rho} {H : Hp} {fs : List (Str × V)} : ∀ (fl : List Str) (ts : List T) (vs : List V), fl.length = ts.length → RvL G ρ H ts vs → (∀ (i : Nat) (f : Str) (v : V), fl[i]? = some f → vs[i]? = some v → fs.lookup f = some v) → RvF G ρ H fl ts fs
  | [], _, _, _, _, _ => by simp [RvF]
  | _ :: _, [], _, h, _, _ => by cases h
  | f :: fl, t :: ts, vs, h, r, k => by
    simp only [RvL] at r
    obtain ⟨v, vs', rfl, r1, r2⟩ := r
    simp only [RvF]
    exact ⟨⟨v, k 0 f v rfl rfl, r1⟩, rvF_of fl ts vs' (by simpa using h) r2 fun i f' v' e1 e2 => k (i + 1) f' v' (by simpa using e1) (by simpa using e2)⟩
/-- the exception classes of the table: how they are made -/
def XFacts (G : Gx) (file : Str) : Prop := ∀ (c : Nat) (nm : Str) (fl : List Str) (up : List Nat), G.D.cls[c]? = some (.exc nm fl up) → fl.Nodup ∧ ((fl = [] ∧ Xi0 G.K (G.ca c)) ∨ XiF G.K file (G.ca c) fl)
theorem mkOk_of {G : Gx} {X : Cx} {file : Str} (F : XFacts G file) (hK : X.K = G.K) (hfile : ((X.prog.main.file : Str) == file) = true) (htop : (X.prog.main.scope.names.lookup ("super" : Str)).isSome = false) (hms : X.mg "super" = none) (hr : Room 4 X.A) : MkOk G X := by
  intro c nm fl up pins s σ H us vs ts hs ρ Q e I r R rl hl q
  obtain ⟨nd, h⟩ := F c nm fl up e
  rw [← hK] at h
  rcases h with ⟨rfl, h⟩ | h
  · have : ts = [] := List.length_eq_zero_iff.mp hl.symm
    subst this
    have h0 : vs = [] := List.length_eq_zero_iff.mp rl.len
    subst h0
    have h1 : us = [] := List.length_eq_zero_iff.mp r.length.symm
    subst h1
    exact mk_bare h I (by decide) (q H none (fun a o e => e) (.inl rfl))
  · refine mk_flds h hfile htop hms hr I r (by rw [rl.len, hl]) fun H' d x e' => q H' (some d) x (.inr ⟨d, _, rfl, e', ?_⟩)
    have hv : vs.length = fl.length := by rw [rl.len, hl]
    refine RvF.step R.Live (Stp.ext x) _ _ _ (rvF_of fl ts vs hl rl fun i f v e1 e2 => ?_)
    refine lookup_uniq ?_ (List.mem_reverse.mpr (zip_at e1 e2))
    rw [List.map_reverse, List.map_fst_zip (by omega)]
    exact (List.reverse_perm _).nodup_iff.mpr nd
end Fs
end

section
set_option Elab.async false
set_option linter.all false
set_option maxRecDepth 100000
set_option maxHeartbeats 2000000
/-! Fs23: the facts behind the top as one observation (own exceptions with fields too); a law from its table and what its term answers. -/
namespace Fs
open PySem L2 PySem.W PyProof.Rows
/-- an own exception with fields: its name, its __init__'s qualified name, its fields, its __init__ -/
structure Xd where
  nm : Str
  qual : Str
  fl : List Str
  st : Stmt
def claimFile : Str := "/claim/cut.py"
abbrev FnI : Type := Option (Str × Str × Arguments × FuncBody × Scope × Addr × List Str × Addr)
def iniA (K : Frag) (C : Addr) : Addr := match findIn K (.ref C) "__init__" with
  | some (some (.ref f)) => f
  | _ => 0
def fnI (K : Frag) (C : Addr) : FnI := match K.lookup (iniA K C) with
  | some ⟨_, _, .func fd, _⟩ => some (fd.name, fd.qualname, fd.params, fd.body, fd.scope, fd.globals, fd.closure.map (·.1), fd.builtins)
  | _ => none
def Xd.val (x : Xd) : FnI := some ("__init__", x.qual, dArgs x.st, .stmts (dBody x.st), dScope x.st, mainGlobals, ["__class__"], builtinsNs)
def mroOkB (C : Addr) (mro : List Value) (sl : List (Option Value)) : Bool := match mro, sl with
  | .ref C' :: bm, [_, _, _, _, some (.builtin n), _] => decide (C' = C) && (decide (n = "ValueError.__new__") && HandSPX.refsVE bm)
  | _, _ => false
def oexB (K : Frag) (C : Addr) : Bool := (match K.lookup C with
  | some ⟨.type t, _, .cls cd, sl⟩ => decide (t = "type") && (cd.hasDict && (!cd.hasDel && mroOkB C cd.mro sl.toList))
  | _ => false) && (decide (findIn K (.ref C) "__setattr__" = some (some (.builtin "object.__setattr__"))) && (decide (subIn K (.ref C) (.type "BaseException") = some true) && (decide (typeIn K (.ref C) = some (.type "type")) && keepIn K (.ref C))))
theorem oexB_ok {K : Frag} {C : Addr} (h : oexB K C = true) : OexC K C := by
  unfold oexB at h
  simp only [Bool.and_eq_true, decide_eq_true_eq] at h
  obtain ⟨h0, h1, h2, h3, h4⟩ := h
  refine ⟨?_, h1, h2, h3, h4⟩
  split at h0
  · rename_i t dd cd sl hk
    simp only [Bool.and_eq_true, decide_eq_true_eq, Bool.not_eq_true'] at h0
    obtain ⟨rfl, q1, q2, q3⟩ := h0
    obtain ⟨sl⟩ := sl
    obtain ⟨nm, bs, mro, ns, qn, hd, sn, sub, ab, col, del⟩ := cd
    dsimp only at q1 q2 q3
    unfold mroOkB at q3
    split at q3
    · rename_i C' bm k0 k1 k2 k3 n k5
      simp only [Bool.and_eq_true, decide_eq_true_eq] at q3
      obtain ⟨rfl, rfl, q4⟩ := q3
      subst q1 q2
      exact ⟨nm, qn, ns, bs, bm, sn, sub, ab, col, dd, k0, k1, k2, k3, k5, hk, q4⟩
    · cases q3
  · cases h0
def cellB (K : Frag) (C : Addr) : List (Str × Addr) → Bool
  | [(_, cc)] => match K.lookup cc with
    | some ⟨_, _, .cell (some (.ref C')), _⟩ => decide (C' = C)
    | _ => false
  | _ => false
def fileB (K : Frag) : Value → Bool
  | .ref cda => match K.lookup cda with
    | some ⟨_, _, .fields fs, _⟩ => (match (fs[2]? : Option Value) with
      | some (Value.str f _) => decide (f = claimFile)
      | _ => false)
    | _ => false
  | _ => false
def iniB (K : Frag) (C : Addr) (x : Xd) : Bool := decide (findIn K (.ref C) "__init__" = some (some (.ref (iniA K C)))) && (decide (typeIn K (.ref (iniA K C)) = some (.type "function")) && (match K.lookup (iniA K C) with
  | some ⟨_, _, .func fd, _⟩ => (match fd.defaults with
    | .none => true
    | _ => false) && (codeIn K fd.code x.qual && (cellB K C fd.closure && fileB K fd.code))
  | _ => false))
def xdB (K : Frag) (x : Xd) : Bool := oexB K (He.ga K x.nm) && ((x.fl.all fun f => decide (findIn K (.ref (He.ga K x.nm)) f = some none)) && (decide (ks_superIn K (He.ga K x.nm) (He.ga K x.nm) "__init__" = some (some (.builtin "ValueError.__init__"))) &&
  (decide (nsIn K cStatics "thirdparty.any" = some none) && (decide (subIn K (.ref (He.ga K x.nm)) (.type "ValueError") = some true) && (decide (mroIn K (He.ga K x.nm) (.ref (He.ga K x.nm)) = some true) && iniB K (He.ga K x.nm) x)))))
/-- the text of it -/
def xtB (x : Xd) : Bool := decide (x.fl.length ≤ 100) && (!x.fl.isEmpty && (initB x.fl (dBody x.st) && (initScB x.fl (dScope x.st) && (match ((dArgs x.st).posonlyargs ++ (dArgs x.st).args).head? with
  | some ar => decide (ar.arg = ("self" : Str))
  | none => false))))
def BindX (x : Xd) : Prop := ∀ (kV doc pm : Value) (an : Option Addr) (cdv ct : Value) (cc : Addr) (us : List Value), us.length = (("self" : Str) :: x.fl).length →
  bindArgs (ksFn "__init__" x.qual (dArgs x.st) (dBody x.st) (dScope x.st) .none kV doc pm an cdv ct cc) ⟨us, []⟩ = pure ((("self" : Str) :: x.fl).zip us)
theorem xif_of {K : Frag} {x : Xd} (h : xdB K x = true) (e : fnI K (He.ga K x.nm) = x.val) (t : xtB x = true) (b : BindX x) : XiF K claimFile (He.ga K x.nm) x.fl := by
  unfold xdB at h
  generalize He.ga K x.nm = C at h e ⊢
  unfold xtB at t
  simp only [Bool.and_eq_true, decide_eq_true_eq, Bool.not_eq_true', List.all_eq_true] at h t
  obtain ⟨h1, h2, h3, h4, h5, h6, h7⟩ := h
  obtain ⟨t1, t2, t3, t4, t5⟩ := t
  refine ⟨oexB_ok h1, h2, h3, h4, h5, h6, t1, (fun z => by rw [z] at t2; cases t2), ?_⟩
  unfold iniB at h7
  simp only [Bool.and_eq_true, decide_eq_true_eq] at h7
  obtain ⟨i1, i2, i3⟩ := h7
  unfold fnI at e
  cases lk : K.lookup (iniA K C) with
  | none =>
    rw [lk] at i3
    cases i3
  | some o =>
    obtain ⟨oc, od, dt, osl⟩ := o
    rw [lk] at i3 e
    cases dt with
    | func fd =>
      obtain ⟨n1, n2, n3, n4, n5, n6, n7, n8, n9, n10, n11, n12, n13, n14, n15⟩ := fd
      have e2 : (some (n1, n2, n3, n4, n5, n6, n7.map (·.1), n15) : FnI) = some (("__init__" : Str), x.qual, dArgs x.st, FuncBody.stmts (dBody x.st), dScope x.st, mainGlobals, [("__class__" : Str)], builtinsNs) := e
      simp only [Option.some.injEq, Prod.mk.injEq] at e2
      obtain ⟨g1, g2, g3, g4, g5, g6, g7, g8⟩ := e2
      subst g1 g2 g3 g4 g5 g6 g8
      dsimp only at i3
      simp only [Bool.and_eq_true] at i3
      obtain ⟨j1, j2, j3, j4⟩ := i3
      cases n8 with
      | none =>
        unfold cellB at j3
        split at j3
        · rename_i nmc cc
          cases g7
          split at j3
          · rename_i cl cld C' csl hcell
            rw [decide_eq_true_eq] at j3
            subst j3
            unfold fileB at j4
            split at j4
            · rename_i cda
              split at j4
              · rename_i ccl cdd fs ccs hcode
                split at j4
                · rename_i f tf hf
                  rw [decide_eq_true_eq] at j4
                  subst j4
                  cases hh : ((dArgs x.st).posonlyargs ++ (dArgs x.st).args).head? with
                  | none =>
                    rw [hh] at t5
                    cases t5
                  | some ar =>
                    rw [hh] at t5
                    exact ⟨iniA K C', cda, cc, x.qual, dArgs x.st, dBody x.st, dScope x.st, n9, n10, n11, n12, n14, oc, od, osl, cl, cld, csl, ccl, cdd, fs, ccs, tf, i1, i2, lk, j2, hcell, hcode, hf, t3, t4, ⟨ar, hh, of_decide_eq_true t5⟩, fun us hu => b _ _ _ _ _ _ _ us hu⟩
                · cases j4
              · cases j4
            · cases j4
          · cases j3
        · cases j3
      | _ => cases j1
    | _ => cases i3
def excB (D : Tb) (xs : List Xd) (K : Frag) : Bool := D.cls.all fun q => match q with
  | .exc nm fl _ => decide fl.Nodup && (if fl = [] then (He.Fa.exc nm).ok K else xs.any fun x => decide (x.nm = nm) && decide (x.fl = fl))
  | _ => true
abbrev Ob2 : Type := He.AlD × (Bool × (Bool × List FnI))
def obsX (D : Tb) (dd : List Dd) (xs : List Xd) (K : Frag) : Ob2 := (He.obsD [] (dd.map Dd.def_) K, prB D dd K, (He.Fa.free "super").ok K && (excB D xs K && xs.all (xdB K)), xs.map fun x => fnI K (He.ga K x.nm))
def valX (dd : List Dd) (xs : List Xd) : Ob2 := (He.valD (dd.map Dd.def_), true, true, xs.map Xd.val)
def obsXG (n : Nat) (D : Tb) (dd : List Dd) (xs : List Xd) (g : Addr → Option Obj) : Ob2 := obsX D dd xs (He.frG g (cStatics :: He.asD g n))
def hookX (n : Nat) (D : Tb) (dd : List Dd) (xs : List Xd) : Hook where
  α := Ob2
  obs := fun st => obsXG n D dd xs st.heap.get?
  val := fun _ => valX dd xs
  says := fun _ hp => ∃ K : Frag, K.In hp ∧ obsX D dd xs K = valX dd xs
  of := fun _ _ z => ⟨_, He.frG_in, z⟩
  keeps := fun _ _ _ ⟨K, inK, z⟩ kp => ⟨K, Frag.In.keeps inK kp, z⟩
theorem obsXG_eq {n : Nat} {D : Tb} {dd : List Dd} {xs : List Xd} {g : Addr → Option Obj} {s : Shared} (h : ∀ a, g a = s.heap.get? a) : obsXG n D dd xs g = (hookX n D dd xs).obs s := by
  have z : g = s.heap.get? := funext h
  rw [z]
  rfl
theorem map_at {α β : Type} {f g : α → β} {l : List α} {x : α} (e : l.map f = l.map g) (h : x ∈ l) : f x = g x := List.map_inj_left.mp e x h
theorem xfacts_of {D : Tb} {dd : List Dd} {xs : List Xd} {K : Frag} (c : obsX D dd xs K = valX dd xs) (tx : ∀ x ∈ xs, xtB x = true ∧ BindX x) : XFacts (gxOf D dd K) claimFile := by
  have c3 : ((He.Fa.free "super").ok K && (excB D xs K && xs.all (xdB K))) = true := congrArg (fun z : Ob2 => z.2.2.1) c
  have c4 : (xs.map fun x => fnI K (He.ga K x.nm)) = xs.map Xd.val := congrArg (fun z : Ob2 => z.2.2.2) c
  simp only [Bool.and_eq_true, List.all_eq_true] at c3
  obtain ⟨_, c5, c6⟩ := c3
  intro k nm fl up e
  have eca : (gxOf D dd K).ca k = He.ga K nm := by
    show (match D.cls[k]? with
      | some q => He.ga K (clNm q)
      | none => 0) = _
    rw [show D.cls[k]? = some (.exc nm fl up) from e]
    rfl
  rw [eca]
  unfold excB at c5
  rw [List.all_eq_true] at c5
  have q := c5 _ (List.mem_of_getElem? (show D.cls[k]? = some (.exc nm fl up) from e))
  simp only [Bool.and_eq_true, decide_eq_true_eq] at q
  refine ⟨q.1, ?_⟩
  have q2 := q.2
  split at q2
  · rename_i z
    have w : (excIn K (He.ga K nm) He.veBase "ValueError.__new__" && (keepIn K (.ref (He.ga K nm)) && (decide (subIn K (.ref (He.ga K nm)) (.type "BaseException") = some true) && decide (typeIn K (.ref (He.ga K nm)) = some (.type "type"))))) = true := q2
    simp only [Bool.and_eq_true, decide_eq_true_eq] at w
    exact .inl ⟨z, w.1, w.2.2.1, w.2.2.2⟩
  · obtain ⟨x, hx, e2⟩ := List.any_eq_true.mp q2
    simp only [Bool.and_eq_true, decide_eq_true_eq] at e2
    obtain ⟨rfl, rfl⟩ := e2
    obtain ⟨t1, t2⟩ := tx x hx
    exact .inr (xif_of (c6 x hx) (map_at c4 hx) t1 t2)
/-- the facts of a row -/
theorem prF_of {D : Tb} {dd : List Dd} {xs : List Xd} {K : Frag} {h : Heap} {mg : Str → Option Value} {P : Program} (X : K.In h) (Gn : h.Ns mainGlobals mg) (c : obsX D dd xs K = valX dd xs) (ht : zipAll (txtB D) dd D.fns = true) (hb : BindAll dd)
    (tx : ∀ x ∈ xs, xtB x = true ∧ BindX x) (hfile : ((P.main.file : Str) == claimFile) = true) (htop : (P.main.scope.names.lookup ("super" : Str)).isSome = false) : PrF (gxOf D dd K) mg P := by
  have c1 : He.SaysD [] (dd.map Dd.def_) K := congrArg (fun z : Ob2 => z.1) c
  have c2 : prB D dd K = true := congrArg (fun z : Ob2 => z.2.1) c
  have c3 : ((He.Fa.free "super").ok K && (excB D xs K && xs.all (xdB K))) = true := congrArg (fun z : Ob2 => z.2.2.1) c
  have c4 := (Bool.and_eq_true_iff.mp c3).1
  have XF := xfacts_of c tx
  obtain ⟨p1, p2⟩ := pr_of X Gn c2
  refine ⟨p1, p2, fun f fn e => ?_, fun Y hp hK hmg hc hr => mkOk_of XF hK (by rw [hp]; exact hfile) (by rw [hp]; exact htop) (by rw [hmg]; exact He.free_ok X Gn c4) hr⟩
  obtain ⟨d, e1, e2⟩ := zipAll_get ht e
  unfold txtB at e2
  simp only [Bool.and_eq_true, decide_eq_true_eq] at e2
  obtain ⟨t1, t2, t3, t4⟩ := e2
  obtain ⟨fd, F⟩ := c1.def_ f (d := d.def_) (by rw [List.getElem?_map, e1]; rfl)
  have ef : (gxOf D dd K).fa f = He.fAd K d.at_ := by
    show (match dd[f]? with
      | some d => He.fAd K d.at_
      | none => 0) = _
    rw [e1]
  refine ⟨dName d, d.qual, dArgs d.st, dBody d.st, dScope d.st, fd, d.N, d.ps, ?_, C8.fnScope_by t1, t2, t3, hb d (List.mem_of_getElem? e1), t4⟩
  rw [ef]
  exact F
/-- the walk of a law: its def is the number fl -/
theorem walk_go {l : PySem.W.OpenLaw} {most n wn fl sc : Nat} {q : Program} {loose : List Str} {XP : (Str → Option Value) → Heap → Prop} {d : DefRec} {D : Tb} {dd : List Dd} {xs : List Xd} {dl : Dd}
    (hn : l.most = some most) (hn2 : most ≤ sizeLine) (hdf : d.params.defaults = []) (hr : Room (2 * n + 4) callerA) (hdl : dd[fl]? = some dl) (hat : dl.at_ = (d.name, none)) (hlen : fl < D.fns.length) (ht : zipAll (txtB D) dd D.fns = true) (hb : BindAll dd)
    (tx : ∀ x ∈ xs, xtB x = true ∧ BindX x) (hfile : ((l.prog.main.file : Str) == claimFile) = true) (htop : (l.prog.main.scope.names.lookup ("super" : Str)).isSome = false)
    (ans : ∀ ns : List Int, ns.length ≤ most → ∃ h', callN D wn n fl [.scr ns] [] = .ok (.bl true) h') :
    PySem.W.WalkO q loose XP (hookX sc D dd xs).says l.row.toRowW d [] (fun f vs => PySem.call f vs) := by
  refine Att.attach_call hn hdf fun w s₀ s₁ mg mb fa o pm cd doc a us ns G Y ho hd hcd hmg hobj hints hln hg => ?_
  obtain ⟨K, KX, c⟩ := Y
  have PF := prF_of (P := l.prog) KX G.T.g c ht hb tx hfile htop
  have eff : (gxOf D dd K).fa fl = He.ga K d.name := by
    show (match dd[fl]? with
      | some d => He.fAd K d.at_
      | none => 0) = _
    rw [hdl]
    show He.fAd K dl.at_ = _
    rw [hat]
    rfl
  have efa : fa = (gxOf D dd K).fa fl := by
    have e1 : D.fns[fl]? = some D.fns[fl] := List.getElem?_eq_getElem hlen
    have c2 : prB D dd K = true := congrArg (fun z : Ob2 => z.2.1) c
    unfold prB at c2
    simp only [Bool.and_eq_true] at c2
    obtain ⟨d', e2, e3⟩ := zipAll_get c2.2.2.1 e1
    rw [hdl] at e2
    cases e2
    unfold defB at e3
    cases hc : (D.fns[fl]).cls with
    | none =>
      rw [hc] at e3
      simp only [Bool.and_eq_true, decide_eq_true_eq] at e3
      obtain ⟨_, e4, e5⟩ := e3
      rw [hat] at e4
      have en : d.name = (D.fns[fl]).nm := congrArg Prod.fst e4
      rw [← en] at e5
      have z := hmg.symm.trans (He.glo_ok KX G.T.g e5)
      cases z
      exact eff.symm
    | some k =>
      rw [hc] at e3
      dsimp only at e3
      cases hk : D.cls[k]? with
      | none => rw [hk] at e3; simp at e3
      | some qq =>
        rw [hk] at e3
        simp only [Bool.and_eq_true, decide_eq_true_eq] at e3
        obtain ⟨_, e4, _⟩ := e3
        rw [hat] at e4
        have z := congrArg Prod.snd e4
        cases z
  rw [efa]
  exact law_go PF hlen KX G.T.g G.T.b G.T.builtins G.T.nolimit hg hobj hints (Nat.le_trans hln hn2) hr (ans ns hln)
end Fs
end

section
set_option Elab.async false
set_option linter.all false
/-! PA: what the evaluator does, in plain steps; the draws of a law's script (bag, take, some). -/
namespace Fp
open Fs
open PySem
theorem mkV_v (r : R T) : (mkV r).v = r := rfl
theorem mkV_t (r : R T) : (mkV r).t = r.bind fun x h => R.ofO (truT h x) h := rfl
theorem mkB_v (b : R Bool) : (mkB b).v = b.bind fun x h => .ok (.bl x) h := rfl
theorem mkB_t (b : R Bool) : (mkB b).t = b := rfl
theorem shaped_non : SeqAt.shaped .none = true := by decide
theorem shaped_bl (b : Bool) : SeqAt.shaped (.bool b) = true := by cases b <;> decide
theorem shaped_int (i : Int) : SeqAt.shaped (.int i) = true := by
  unfold SeqAt.shaped
  simp [PyData.canLay0, PyData.depth]
theorem shaped_str (x : Str) : SeqAt.shaped (.str x) = PyData.strOk x := by
  unfold SeqAt.shaped
  simp [PyData.canLay0, PyData.depth]
theorem eqT_int (h : Hs) (i j : Int) : eqT h (.int i) (.int j) = some (decide (i = j)) := by
  simp [eqT, toDh, toD, shaped_int, PyData.eqv]
  exact Bool.eq_iff_iff.mpr (by simp)
theorem eqT_str (h : Hs) (x y : Str) (hx : PyData.strOk x = true) (hy : PyData.strOk y = true) : eqT h (.str x) (.str y) = some (decide (x = y)) := by
  simp [eqT, toDh, toD, shaped_str, hx, hy, PyData.eqv]
  exact Bool.eq_iff_iff.mpr (by simp)

theorem atI_nat {α : Type} (xs : List α) (n : Nat) : L2.atI xs (n : Int) = xs[n]? := by
  unfold L2.atI L2.ixN
  rw [if_pos (by omega)]
  by_cases h : n < xs.length
  · rw [if_pos (by omega)]
    simp
  · rw [if_neg (by omega), List.getElem?_eq_none (by omega)]
    rfl
theorem atI_0 {α : Type} (xs : List α) : L2.atI xs 0 = xs[0]? := atI_nat xs 0
theorem atI_1 {α : Type} (xs : List α) : L2.atI xs 1 = xs[1]? := atI_nat xs 1
theorem atI_2 {α : Type} (xs : List α) : L2.atI xs 2 = xs[2]? := atI_nat xs 2
theorem atI_3 {α : Type} (xs : List α) : L2.atI xs 3 = xs[3]? := atI_nat xs 3
theorem ixN_nat {m n : Nat} (h : n < m) : L2.ixN m (n : Int) = some n := by
  unfold L2.ixN
  rw [if_pos (by omega), if_pos (by omega)]
  rfl

def fTake : Ss := .cons (.ifs (.cmp .eq (.ix (.var 0) (.int 0)) (.int 0)) (.cons (.set 2 (.ix (.bin .add (.sl (.ix (.var 0) (.int 3)) (.ix (.var 0) (.int 2)) (.absent)) (.lstI (.cons (.int 0) (.nil)))) (.int 0))) (
.cons (.augIx (.var 0) (.int 2) .add (.int 1)) (
.cons (.ifs (.cmp .ge (.var 2) (.bin .pow (.int 10) (.int 18))) (.cons (.setIx (.var 0) (.int 0) (.var 2)) (
.nil)) (.nil)) (
.cons (.set 3 (.bin .add (.bin .add (.bin .mul (.ix (.var 0) (.int 1)) (.int 48271)) (.bin .mod (.bi .int (.cons (.var 2) (.nil))) (.int 2147483647))) (.bin .mul (.int 7919) (.ix (.var 0) (.int 2))))) (
.cons (.setIx (.var 0) (.int 1) (.bin .mod (.bi .int (.cons (.var 3) (.nil))) (.int 2147483647))) (
.nil)))))) (.nil)) (
.cons (.ifs (.cmp .gt (.ix (.var 0) (.int 0)) (.int 0)) (.cons (.set 4 (.bin .mod (.bi .int (.cons (.ix (.var 0) (.int 0)) (.nil))) (.var 1))) (
.cons (.setIx (.var 0) (.int 0) (.bin .fdiv (.bi .int (.cons (.ix (.var 0) (.int 0)) (.nil))) (.var 1))) (
.cons (.ret (.var 4)) (
.nil)))) (.nil)) (
.cons (.set 5 (.bin .mod (.bi .int (.cons (.bin .mul (.bin .add (.ix (.var 0) (.int 1)) (.int 1)) (.int 39373)) (.nil))) (.int 1000000007))) (
.cons (.set 6 (.bin .mod (.bi .int (.cons (.bin .mul (.bin .mod (.bi .int (.cons (.bin .mul (.var 5) (.var 5)) (.nil))) (.int 998244353)) (.int 30011)) (.nil))) (.int 998244353))) (
.cons (.ret (.bin .mod (.bi .int (.cons (.bin .fdiv (.var 6) (.int 7)) (.nil))) (.var 1))) (
.nil)))))
def bagO (a b c : Int) (cells : List Int) : Ob := .lst [.int a, .int b, .int c, .lst (cells.map T.int)]
theorem take_pos {D : Tb} {W : Nat} {cl : Cal} {h : Hs} {k : Nat} {a b c m : Int} {cells : List Int} (e : h[k]? = some (bagO a b c cells)) (ha : 0 < a) (hm : 0 < m) (hm2 : m < 1073741824) :
    evSs D W cl fTake [some (.ref k), some (.int m), none, none, none, none, none] h = .ret (.int (a % m)) (h.set k (bagO (a / m) b c cells)) := by
  have ha0 : ¬ a = 0 := by omega
  simp [fTake, evSs, evS, ev, evL, mkV_v, mkV_t, mkB_v, mkB_t, ixT, e, bagO, atI_0, L2.ixN, cmpT, eqT_int, ha0, atI_0, SR.andThen, ha, biT, one, toInt, binT, hm, hm2, setIxT]
theorem mulOk_l {i j : Int} (h1 : -18446744073709551616 < i) (h2 : i < 18446744073709551616) : mulOk i j = true := by
  unfold mulOk
  simp [h1, h2]
theorem mulOk_r {i j : Int} (h1 : -18446744073709551616 < j) (h2 : j < 18446744073709551616) : mulOk i j = true := by
  unfold mulOk
  simp [h1, h2]
theorem mulOk_m (x j : Int) : mulOk (x % 1000000007) j = true := mulOk_l (by omega) (by omega)
theorem head_cell (cells : List Int) (c : Int) (h0 : ∀ x ∈ cells, 0 ≤ x) : ∃ (cell : Int) (r : List T), 0 ≤ cell ∧ cutL (cells.map T.int) (some c) none ++ [T.int 0] = T.int cell :: r := by
  cases e : cutL (cells.map T.int) (some c) none with
  | nil => exact ⟨0, [], by omega, rfl⟩
  | cons y r =>
    have hy : y ∈ cutL (cells.map T.int) (some c) none := by rw [e]; exact List.mem_cons_self
    unfold cutL at hy
    have := List.mem_of_mem_drop (List.mem_of_mem_take hy)
    obtain ⟨x, hx, rfl⟩ := List.mem_map.mp this
    exact ⟨x, _, h0 x hx, rfl⟩
theorem cut_len {α : Type} (xs : List α) (lo hi : Option Int) : (cutL xs lo hi).length ≤ xs.length := by
  unfold cutL
  rw [List.length_take, List.length_drop]
  omega
theorem take_zero {D : Tb} {W : Nat} {cl : Cal} {h : Hs} {k : Nat} {b c m : Int} {cells : List Int} (e : h[k]? = some (bagO 0 b c cells)) (hc : ∀ x ∈ cells, 0 ≤ x) (hl : cells.length ≤ 63) (hm : 0 < m) (hm2 : m < 1073741824) :
    ∃ (v a' b' c' : Int), 0 ≤ v ∧ v < m ∧ 0 ≤ a' ∧ evSs D W cl fTake [some (.ref k), some (.int m), none, none, none, none, none] h = .ret (.int v) (h.set k (bagO a' b' c' cells)) := by
  obtain ⟨cell, r, h1, h2⟩ := head_cell cells c hc
  have hlen : (cutL (cells.map T.int) (some c) none).length ≤ 999999 := by
    have := cut_len (cells.map T.int) (some c) none
    rw [List.length_map] at this
    omega
  have hs : ∀ o : Ob, (h.set k o)[k]? = some o := fun o => List.getElem?_set_self (List.getElem?_eq_some_iff.mp e).1
  have hm0 : 0 < m := hm
  by_cases big : (1000000000000000000 : Int) ≤ cell
  · refine ⟨cell % m, cell / m, (b * 48271 + cell % 2147483647 + 7919 * (c + 1)) % 2147483647, c + 1, Int.emod_nonneg _ (by omega), Int.emod_lt_of_pos _ hm, Int.ediv_nonneg h1 (by omega), ?_⟩
    have hcell : 0 < cell := by omega
    simp [fTake, evSs, evS, ev, evL, mkV_v, mkV_t, mkB_v, mkB_t, ixT, e, bagO, atI_0, atI_1, atI_2, atI_3, L2.ixN, cmpT, eqT_int, SR.andThen, biT, one, toInt, binT, setIxT, slT, addT, hlen, lim, intT, E.isAbs, h2, hs, refIx, augT, big, hm, hm2, mulOk_r, mulOk_l, mulOk_m, hcell]
  · refine ⟨((((((b * 48271 + cell % 2147483647 + 7919 * (c + 1)) % 2147483647 + 1) * 39373) % 1000000007) * ((((b * 48271 + cell % 2147483647 + 7919 * (c + 1)) % 2147483647 + 1) * 39373) % 1000000007) % 998244353 * 30011) % 998244353 / 7) % m, 0,
      (b * 48271 + cell % 2147483647 + 7919 * (c + 1)) % 2147483647, c + 1, Int.emod_nonneg _ (by omega), Int.emod_lt_of_pos _ hm, by omega, ?_⟩
    simp [fTake, evSs, evS, ev, evL, mkV_v, mkV_t, mkB_v, mkB_t, ixT, e, bagO, atI_0, atI_1, atI_2, atI_3, L2.ixN, cmpT, eqT_int, SR.andThen, biT, one, toInt, binT, setIxT, slT, addT, hlen, lim, intT, E.isAbs, h2, hs, refIx, augT, big, hm, hm2, mulOk_r, mulOk_l, mulOk_m]
end Fp
end

section
set_option Elab.async false
set_option linter.all false
/-! PB: a law's draws: the bag, take, some; as calls. -/
namespace Fp
open Fs
open PySem
theorem callN_eq {D : Tb} {W n f : Nat} {ts : List T} {h : Hs} {fn : Fn} (e : D.fns[f]? = some fn) (hl : ts.length = fn.ps) (hp : fn.ps ≤ fn.nN) :
    callN D W (n + 1) f ts h = (evSs D W (callN D W n) fn.body (ts.map some ++ List.replicate (fn.nN - ts.length) none) h).fin := by
  unfold callN
  rw [e]
  dsimp only
  rw [if_pos ⟨hl, hp⟩]
/-- at k: a bag -/
def Bag (h : Hs) (k : Nat) : Prop := ∃ (a b c : Int) (cells : List Int), h[k]? = some (bagO a b c cells) ∧ 0 ≤ a ∧ (∀ x ∈ cells, 0 ≤ x) ∧ cells.length ≤ 63
/-- only k may have changed; more may stand behind -/
structure But (k : Nat) (h h' : Hs) : Prop where
  len : h.length ≤ h'.length
  old : ∀ j, j < h.length → j ≠ k → h'[j]? = h[j]?
theorem But.refl {k : Nat} {h : Hs} : But k h h := ⟨Nat.le_refl _, fun _ _ _ => rfl⟩
theorem But.trans {k : Nat} {h1 h2 h3 : Hs} (a : But k h1 h2) (b : But k h2 h3) : But k h1 h3 :=
  ⟨Nat.le_trans a.len b.len, fun j h n => (b.old j (Nat.lt_of_lt_of_le h a.len) n).trans (a.old j h n)⟩
theorem But.set {k : Nat} {h : Hs} {o : Ob} : But k h (h.set k o) := ⟨by simp, fun j _ n => by rw [List.getElem?_set]; simp [Ne.symm n]⟩
theorem Bag.lt {h : Hs} {k : Nat} (B : Bag h k) : k < h.length := by
  obtain ⟨a, b, c, cells, e, _⟩ := B
  exact (List.getElem?_eq_some_iff.mp e).1
theorem Bag.keep {h h' : Hs} {k j : Nat} (B : Bag h k) (b : But j h h') (hj : k ≠ j) : Bag h' k := by
  obtain ⟨a, b', c, cells, e, r⟩ := B
  exact ⟨a, b', c, cells, by rw [b.old k (List.getElem?_eq_some_iff.mp e).1 hj]; exact e, r⟩
structure LB (D : Tb) (it is : Nat) : Prop where
  take : D.fns[it]? = some ⟨none, "_law_take", 2, 7, fTake⟩
  some : D.fns[is]? = some ⟨none, "_law_some", 2, 2, .cons (.ret (.ix (.var 1) (.call it (.cons (.var 0) (.cons (.bi .len (.cons (.var 1) (.nil))) (.nil)))))) (.nil)⟩
section
variable {D : Tb} {W it is : Nat}
theorem take_call (L : LB D it is) {n : Nat} {h : Hs} {k : Nat} {m : Int} (B : Bag h k) (hm : 0 < m) (hm2 : m < 1073741824) :
    ∃ (v : Int) (h' : Hs), callN D W (n + 1) it [.ref k, .int m] h = .ok (.int v) h' ∧ 0 ≤ v ∧ v < m ∧ Bag h' k ∧ But k h h' ∧ h'.length = h.length := by
  have hk := B.lt
  obtain ⟨a, b, c, cells, e, ha, hc, hl⟩ := B
  rw [callN_eq L.take rfl (by decide)]
  have hs : ∀ o : Ob, (h.set k o)[k]? = some o := fun o => List.getElem?_set_self hk
  show ∃ v h', (evSs D W _ fTake [some (.ref k), some (.int m), none, none, none, none, none] h).fin = _ ∧ _
  by_cases h0 : a = 0
  · subst h0
    obtain ⟨v, a', b', c', v1, v2, a1, ev⟩ := take_zero (D := D) (W := W) (cl := callN D W n) e hc hl hm hm2
    rw [ev]
    exact ⟨v, _, rfl, v1, v2, ⟨a', b', c', cells, hs _, a1, hc, hl⟩, But.set, by simp⟩
  · rw [take_pos e (by omega) hm hm2]
    exact ⟨_, _, rfl, Int.emod_nonneg _ (by omega), Int.emod_lt_of_pos _ hm, ⟨_, b, c, cells, hs _, Int.ediv_nonneg ha (by omega), hc, hl⟩, But.set, by simp⟩
theorem some_call (L : LB D it is) {n : Nat} {h : Hs} {k : Nat} {xs : List T} (B : Bag h k) (hx : xs ≠ []) (hl : xs.length ≤ 1000) :
    ∃ (x : T) (h' : Hs), callN D W (n + 2) is [.ref k, .lst xs] h = .ok x h' ∧ x ∈ xs ∧ Bag h' k ∧ But k h h' ∧ h'.length = h.length := by
  have hp : 0 < xs.length := List.length_pos_iff.mpr hx
  obtain ⟨v, h', e, v1, v2, B', b', l'⟩ := take_call (W := W) L (n := n) (m := (xs.length : Int)) B (by omega) (by omega)
  rw [callN_eq L.some rfl (Nat.le_refl 2)]
  obtain ⟨u, rfl⟩ := Int.eq_ofNat_of_zero_le v1
  have hu : u < xs.length := by omega
  refine ⟨xs[u], h', ?_, List.getElem_mem hu, B', b', l'⟩
  simp [evSs, evS, ev, evL, mkV_v, SR.andThen, biT, one, lenT, e, ixT, atI_nat, SR.fin, hu]
end
end Fp
end

section
set_option Elab.async false
set_option linter.all false
/-! PC: loops and texts of the evaluator, in plain steps. -/
namespace Fp
open Fs
open PySem
abbrev Sx (l : List Nat) : Str := ⟨l.toArray⟩
/-- a comprehension without test: every item is made -/
theorem compL_all {f : T → Hs → R (Option T)} {I : Hs → Prop} {P : T → Prop} {Z : Hs → Hs → Prop} (z0 : ∀ h, Z h h) (zt : ∀ a b c, Z a b → Z b c → Z a c) :
    ∀ (xs : List T) (h : Hs), (∀ x ∈ xs, ∀ h, I h → ∃ y h', f x h = .ok (some y) h' ∧ P y ∧ I h' ∧ Z h h') → I h → ∃ ys h', compL f xs h = .ok ys h' ∧ (∀ y ∈ ys, P y) ∧ ys.length = xs.length ∧ I h' ∧ Z h h'
  | [], h, _, i => ⟨[], h, rfl, (fun y hy => by cases hy), rfl, i, z0 h⟩
  | x :: xs, h, hf, i => by
    obtain ⟨y, h1, e1, p1, i1, z1⟩ := hf x List.mem_cons_self h i
    obtain ⟨ys, h2, e2, p2, l2, i2, z2⟩ := compL_all z0 zt xs h1 (fun x hx => hf x (List.mem_cons_of_mem _ hx)) i1
    refine ⟨y :: ys, h2, ?_, ?_, by simp [l2], i2, zt _ _ _ z1 z2⟩
    · simp [compL, e1, e2]
    · intro w hw
      rcases List.mem_cons.mp hw with rfl | hw
      · exact p1
      · exact p2 w hw
/-- a comprehension whose items are a plain function of the item -/
theorem compL_map {f : T → Hs → R (Option T)} {g : T → T} {h : Hs} : ∀ (xs : List T), (∀ x ∈ xs, f x h = .ok (some (g x)) h) → compL f xs h = .ok (xs.map g) h
  | [], _ => rfl
  | x :: xs, hf => by
    simp [compL, hf x List.mem_cons_self, compL_map xs fun y hy => hf y (List.mem_cons_of_mem _ hy)]
/-- .. with a test -/
theorem compL_filter {f : T → Hs → R (Option T)} {p : T → Bool} {g : T → T} {h : Hs} : ∀ (xs : List T), (∀ x ∈ xs, f x h = .ok (if p x = true then some (g x) else none) h) → compL f xs h = .ok ((xs.filter p).map g) h
  | [], _ => rfl
  | x :: xs, hf => by
    have e := compL_filter (p := p) (g := g) xs fun y hy => hf y (List.mem_cons_of_mem _ hy)
    by_cases hp : p x = true
    · simp [compL, hf x List.mem_cons_self, e, hp]
    · simp [compL, hf x List.mem_cons_self, e, hp]
theorem rangeT_nat {n : Int} (h0 : 0 ≤ n) (h1 : n < 1000000000) : rangeT 0 n = some ((List.range n.toNat).map fun i : Nat => T.int (i : Int)) := by
  unfold rangeT
  rw [if_pos]
  · simp
  · simp
    omega
def isLet (c : Nat) : Bool := decide (97 ≤ c) && decide (c ≤ 122)
def isDig (c : Nat) : Bool := decide (48 ≤ c) && decide (c ≤ 57)
def isAl (c : Nat) : Bool := isLet c || isDig c
def wordL : List Nat → Bool
  | [] => false
  | c :: r => isLet c && r.all isAl
end Fp
end

section
set_option Elab.async false
set_option linter.all false
/-! PD: the evaluator step by step (comprehensions, loops and try left out): the tactic evs. -/
namespace Fp
open Fs
open PySem
@[simp] theorem ev_non {D : Tb} {cl : Cal} {env : En} {h : Hs} : ev D cl (.non) env h = mkV (.ok .non h) := by simp only [ev, evL, evA, evO, evI] <;> rfl
@[simp] theorem ev_bl {D : Tb} {cl : Cal} {env : En} {h : Hs} {b : Bool} : ev D cl (.bl b) env h = mkV (.ok (.bl b) h) := by simp only [ev, evL, evA, evO, evI] <;> rfl
@[simp] theorem ev_int {D : Tb} {cl : Cal} {env : En} {h : Hs} {i : Int} : ev D cl (.int i) env h = mkV (.ok (.int i) h) := by simp only [ev, evL, evA, evO, evI] <;> rfl
@[simp] theorem ev_str {D : Tb} {cl : Cal} {env : En} {h : Hs} {s : Str} : ev D cl (.str s) env h = mkV (.ok (.str s) h) := by simp only [ev, evL, evA, evO, evI] <;> rfl
@[simp] theorem ev_var {D : Tb} {cl : Cal} {env : En} {h : Hs} {i : Nat} : ev D cl (.var i) env h = mkV (match env[i]? with | some (some t) => .ok t h | _ => .bad) := by simp only [ev, evL, evA, evO, evI] <;> rfl
@[simp] theorem ev_glob {D : Tb} {cl : Cal} {env : En} {h : Hs} {g : Nat} : ev D cl (.glob g) env h = mkV (R.ofO (D.cns[g]?.map (·.2)) h) := by simp only [ev, evL, evA, evO, evI] <;> rfl
@[simp] theorem ev_bin {D : Tb} {cl : Cal} {env : En} {h : Hs} {o : Bk} {a b : E} : ev D cl (.bin o a b) env h = mkV ((ev D cl a env h).v.bind fun x h1 => (ev D cl b env h1).v.bind fun y h2 => R.ofO (binT o x y) h2) := by simp only [ev, evL, evA, evO, evI] <;> rfl
@[simp] theorem ev_neg {D : Tb} {cl : Cal} {env : En} {h : Hs} {a : E} : ev D cl (.neg a) env h = mkV ((ev D cl a env h).v.bind fun x h1 => R.ofO ((intT x).map fun i => .int (-i)) h1) := by simp only [ev, evL, evA, evO, evI] <;> rfl
@[simp] theorem ev_nott {D : Tb} {cl : Cal} {env : En} {h : Hs} {a : E} : ev D cl (.nott a) env h = ⟨(ev D cl a env h).v.bind fun x h1 => R.ofO ((truT h1 x).map fun b => .bl (!b)) h1, (ev D cl a env h).t.bind fun b h1 => .ok (!b) h1⟩ := by simp only [ev, evL, evA, evO, evI] <;> rfl
@[simp] theorem ev_andv {D : Tb} {cl : Cal} {env : En} {h : Hs} {xs : Es} : ev D cl (.andv xs) env h = evA D cl xs env h := by simp only [ev, evL, evA, evO, evI] <;> rfl
@[simp] theorem ev_orv {D : Tb} {cl : Cal} {env : En} {h : Hs} {xs : Es} : ev D cl (.orv xs) env h = evO D cl xs env h := by simp only [ev, evL, evA, evO, evI] <;> rfl
@[simp] theorem ev_cmp {D : Tb} {cl : Cal} {env : En} {h : Hs} {o : Ck} {a b : E} : ev D cl (.cmp o a b) env h = mkB ((ev D cl a env h).v.bind fun x h1 => (ev D cl b env h1).v.bind fun y h2 => R.ofO (cmpT o h2 x y) h2) := by simp only [ev, evL, evA, evO, evI] <;> rfl
@[simp] theorem ev_ite {D : Tb} {cl : Cal} {env : En} {h : Hs} {c a b : E} : ev D cl (.ite c a b) env h = ⟨(ev D cl c env h).t.bind fun k h1 => if k = true then (ev D cl a env h1).v else (ev D cl b env h1).v, (ev D cl c env h).t.bind fun k h1 => if k = true then (ev D cl a env h1).t else (ev D cl b env h1).t⟩ := by simp only [ev, evL, evA, evO, evI] <;> rfl
@[simp] theorem ev_tup {D : Tb} {cl : Cal} {env : En} {h : Hs} {xs : Es} : ev D cl (.tup xs) env h = mkV ((evL D cl xs env h).bind fun ts h1 => if ts.length ≤ lim then .ok (.tup ts) h1 else .bad) := by simp only [ev, evL, evA, evO, evI] <;> rfl
@[simp] theorem ev_lstI {D : Tb} {cl : Cal} {env : En} {h : Hs} {xs : Es} : ev D cl (.lstI xs) env h = mkV ((evL D cl xs env h).bind fun ts h1 => if ts.length ≤ lim then .ok (.lst ts) h1 else .bad) := by simp only [ev, evL, evA, evO, evI] <;> rfl
@[simp] theorem ev_lstM {D : Tb} {cl : Cal} {env : En} {h : Hs} {xs : Es} : ev D cl (.lstM xs) env h = mkV ((evL D cl xs env h).bind fun ts h1 => if ts.length ≤ lim then .ok (.ref h1.length) (h1 ++ [.lst ts]) else .bad) := by simp only [ev, evL, evA, evO, evI] <;> rfl
@[simp] theorem ev_ix {D : Tb} {cl : Cal} {env : En} {h : Hs} {a i : E} : ev D cl (.ix a i) env h = mkV ((ev D cl a env h).v.bind fun x h1 => (ev D cl i env h1).v.bind fun y h2 => R.ofO (ixT h2 x y) h2) := by simp only [ev, evL, evA, evO, evI] <;> rfl
@[simp] theorem ev_sl {D : Tb} {cl : Cal} {env : En} {h : Hs} {a lo hi : E} : ev D cl (.sl a lo hi) env h = mkV ((ev D cl a env h).v.bind fun x h1 => (if lo.isAbs then .ok none h1 else (ev D cl lo env h1).v.bind fun y h2 => R.ofO ((intT y).map some) h2).bind fun l h2 => (if hi.isAbs then .ok none h2 else (ev D cl hi env h2).v.bind fun y h3 => R.ofO ((intT y).map some) h3).bind fun u h3 => R.ofO (slT x l u) h3) := by simp only [ev, evL, evA, evO, evI] <;> rfl
@[simp] theorem ev_call {D : Tb} {cl : Cal} {env : En} {h : Hs} {f : Nat} {xs : Es} : ev D cl (.call f xs) env h = mkV ((evL D cl xs env h).bind fun ts h1 => cl f ts h1) := by simp only [ev, evL, evA, evO, evI] <;> rfl
@[simp] theorem ev_meth {D : Tb} {cl : Cal} {env : En} {h : Hs} {f : Nat} {o : E} {xs : Es} : ev D cl (.meth f o xs) env h = mkV ((ev D cl o env h).v.bind fun x h1 => if methOk D h1 f x = true then (evL D cl xs env h1).bind fun ts h2 => cl f (x :: ts) h2 else .bad) := by simp only [ev, evL, evA, evO, evI] <;> rfl
@[simp] theorem ev_new {D : Tb} {cl : Cal} {env : En} {h : Hs} {c : Nat} {xs : Es} : ev D cl (.new c xs) env h = mkV ((evL D cl xs env h).bind fun ts h1 => match initOf D c with | some i => (cl i (.ref h1.length :: ts) (h1 ++ [.ins c []])).bind fun r h2 => (match r with | .non => .ok (.ref h1.length) h2 | _ => .bad) | none => .bad) := by simp only [ev, evL, evA, evO, evI] <;> rfl
@[simp] theorem ev_bi {D : Tb} {cl : Cal} {env : En} {h : Hs} {b : Bi} {xs : Es} : ev D cl (.bi b xs) env h = mkV ((evL D cl xs env h).bind fun ts h1 => R.ofO (biT b h1 ts) h1) := by simp only [ev, evL, evA, evO, evI] <;> rfl
@[simp] theorem ev_bm {D : Tb} {cl : Cal} {env : En} {h : Hs} {m : Bm} {o : E} {xs : Es} : ev D cl (.bm m o xs) env h = mkV ((ev D cl o env h).v.bind fun x h1 => if bmOk m h1 x = true then (evL D cl xs env h1).bind fun ts h2 => (match bmT m h2 x ts with | some (y, h3) => .ok y h3 | none => .bad) else .bad) := by simp only [ev, evL, evA, evO, evI] <;> rfl
@[simp] theorem ev_attr {D : Tb} {cl : Cal} {env : En} {h : Hs} {o : E} {f : Str} : ev D cl (.attr o f) env h = mkV ((ev D cl o env h).v.bind fun x h1 => R.ofO (fieldOf D h1 x f) h1) := by simp only [ev, evL, evA, evO, evI] <;> rfl
@[simp] theorem ev_exf {D : Tb} {cl : Cal} {env : En} {h : Hs} {f : Str} : ev D cl (.exf f) env h = mkV (cl 0 [.str f] h) := by simp only [ev, evL, evA, evO, evI] <;> rfl
@[simp] theorem ev_fstr {D : Tb} {cl : Cal} {env : En} {h : Hs} {xs : Es} : ev D cl (.fstr xs) env h = mkV ((evF D cl xs Str.empty env h).bind fun s h1 => .ok (.str s) h1) := by simp only [ev, evL, evA, evO, evI] <;> rfl
@[simp] theorem evL_nil {D : Tb} {cl : Cal} {env : En} {h : Hs} : evL D cl .nil env h = .ok [] h := by simp only [ev, evL, evA, evO, evI] <;> rfl
@[simp] theorem evL_cons {D : Tb} {cl : Cal} {env : En} {h : Hs} {a : E} {r : Es} : evL D cl (.cons a r) env h = (ev D cl a env h).v.bind fun x h1 => (evL D cl r env h1).bind fun xs h2 => .ok (x :: xs) h2 := by simp only [ev, evL, evA, evO, evI] <;> rfl
@[simp] theorem evF_nil {D : Tb} {cl : Cal} {env : En} {h : Hs} {acc : Str} : evF D cl .nil acc env h = .ok acc h := by simp only [evF]
@[simp] theorem evF_cons {D : Tb} {cl : Cal} {env : En} {h : Hs} {acc : Str} {a : E} {r : Es} : evF D cl (.cons a r) acc env h = ((ev D cl a env h).v.bind fun x h1 => match fmtT x with | some s => (if (acc ++ s).length ≤ lim then evF D cl r (acc ++ s) env h1 else .bad) | none => .bad) := by simp only [evF] <;> rfl
@[simp] theorem evA_one {D : Tb} {cl : Cal} {env : En} {h : Hs} {a : E} : evA D cl (.cons a .nil) env h = ⟨(ev D cl a env h).v, (ev D cl a env h).t⟩ := by simp only [ev, evL, evA, evO, evI] <;> rfl
@[simp] theorem evA_two {D : Tb} {cl : Cal} {env : En} {h : Hs} {a b : E} {r : Es} : evA D cl (.cons a (.cons b r)) env h = ⟨(ev D cl a env h).v.bind fun x h1 => (R.ofO (truT h1 x) h1).bind fun k h2 => if k = true then (evA D cl (.cons b r) env h2).v else .ok x h2, (ev D cl a env h).t.bind fun k h1 => if k = true then (evA D cl (.cons b r) env h1).t else .ok false h1⟩ := by simp only [evA]
@[simp] theorem evO_one {D : Tb} {cl : Cal} {env : En} {h : Hs} {a : E} : evO D cl (.cons a .nil) env h = ⟨(ev D cl a env h).v, (ev D cl a env h).t⟩ := by simp only [ev, evL, evA, evO, evI] <;> rfl
@[simp] theorem evO_two {D : Tb} {cl : Cal} {env : En} {h : Hs} {a b : E} {r : Es} : evO D cl (.cons a (.cons b r)) env h = ⟨(ev D cl a env h).v.bind fun x h1 => (R.ofO (truT h1 x) h1).bind fun k h2 => if k = true then .ok x h2 else (evO D cl (.cons b r) env h2).v, (ev D cl a env h).t.bind fun k h1 => if k = true then .ok true h1 else (evO D cl (.cons b r) env h1).t⟩ := by simp only [evO]
@[simp] theorem evI_seq {D : Tb} {cl : Cal} {env : En} {h : Hs} {e : E} : evI D cl (.seq e) env h = (ev D cl e env h).v.bind fun x h1 => R.ofO (items x) h1 := by simp only [ev, evL, evA, evO, evI] <;> rfl
@[simp] theorem evI_rng {D : Tb} {cl : Cal} {env : En} {h : Hs} {e : E} : evI D cl (.rng e) env h = (ev D cl e env h).v.bind fun x h1 => R.ofO ((intT x).bind fun n => rangeT 0 n) h1 := by simp only [ev, evL, evA, evO, evI] <;> rfl
@[simp] theorem evI_rng2 {D : Tb} {cl : Cal} {env : En} {h : Hs} {a b : E} : evI D cl (.rng2 a b) env h = (ev D cl a env h).v.bind fun x h1 => (ev D cl b env h1).v.bind fun y h2 => R.ofO ((intT x).bind fun i => (intT y).bind fun j => rangeT i j) h2 := by simp only [ev, evL, evA, evO, evI] <;> rfl
@[simp] theorem evS_set {D : Tb} {W : Nat} {cl : Cal} {env : En} {h : Hs} {i : Nat} {e : E} : evS D W cl (.set i e) env h = (ev D cl e env h).v.toS env fun x h1 => .nx (env.set i (some x)) h1 := by simp only [evS] <;> rfl
@[simp] theorem evS_setT {D : Tb} {W : Nat} {cl : Cal} {env : En} {h : Hs} {ns : List Nat} {e : E} : evS D W cl (.setT ns e) env h = (ev D cl e env h).v.toS env fun x h1 => match bindG (.tp ns) x env with | some env1 => .nx env1 h1 | none => .bad := by simp only [evS] <;> rfl
@[simp] theorem evS_par {D : Tb} {W : Nat} {cl : Cal} {env : En} {h : Hs} {ns : List Nat} {xs : Es} : evS D W cl (.par ns xs) env h = (evL D cl xs env h).toS env fun ts h1 => match bindTs ns ts env with | some env1 => .nx env1 h1 | none => .bad := by simp only [evS] <;> rfl
@[simp] theorem evS_setAt {D : Tb} {W : Nat} {cl : Cal} {env : En} {h : Hs} {o : E} {f : Str} {e : E} : evS D W cl (.setAt o f e) env h = (ev D cl e env h).v.toS env fun x h1 => (ev D cl o env h1).v.toS env fun y h2 => match setAtT D h2 y f x with | some h3 => .nx env h3 | none => .bad := by simp only [evS] <;> rfl
@[simp] theorem evS_ex {D : Tb} {W : Nat} {cl : Cal} {env : En} {h : Hs} {e : E} : evS D W cl (.ex e) env h = (ev D cl e env h).v.toS env fun _ h1 => .nx env h1 := by simp only [evS] <;> rfl
@[simp] theorem evS_ret {D : Tb} {W : Nat} {cl : Cal} {env : En} {h : Hs} {e : E} : evS D W cl (.ret e) env h = (ev D cl e env h).v.toS env fun x h1 => .ret x h1 := by simp only [evS] <;> rfl
@[simp] theorem evS_retN {D : Tb} {W : Nat} {cl : Cal} {env : En} {h : Hs} : evS D W cl (.retN) env h = .ret .non h := by simp only [evS] <;> rfl
@[simp] theorem evS_ifs {D : Tb} {W : Nat} {cl : Cal} {env : En} {h : Hs} {c : E} {a b : Ss} : evS D W cl (.ifs c a b) env h = (ev D cl c env h).t.toS env fun k h1 => if k = true then evSs D W cl a env h1 else evSs D W cl b env h1 := by simp only [evS] <;> rfl
@[simp] theorem evS_rais {D : Tb} {W : Nat} {cl : Cal} {env : En} {h : Hs} {c : Nat} {xs : Es} : evS D W cl (.rais c xs) env h = (evL D cl xs env h).toS env fun ts h1 => if excOk D c ts = true then .exc c ts env h1 else .bad := by simp only [evS] <;> rfl
@[simp] theorem evS_cont {D : Tb} {W : Nat} {cl : Cal} {env : En} {h : Hs} : evS D W cl (.cont) env h = .cont env h := by simp only [evS] <;> rfl
@[simp] theorem evS_brk {D : Tb} {W : Nat} {cl : Cal} {env : En} {h : Hs} : evS D W cl (.brk) env h = .brk env h := by simp only [evS] <;> rfl
@[simp] theorem evSs_nil {D : Tb} {W : Nat} {cl : Cal} {env : En} {h : Hs} : evSs D W cl .nil env h = .nx env h := by simp only [evSs]
@[simp] theorem evSs_cons {D : Tb} {W : Nat} {cl : Cal} {env : En} {h : Hs} {s : S} {r : Ss} : evSs D W cl (.cons s r) env h = (evS D W cl s env h).andThen fun env1 h1 => evSs D W cl r env1 h1 := by simp only [evSs]
@[simp] theorem andThen_nx {env : En} {h : Hs} {k : En → Hs → SR} : (SR.nx env h).andThen k = k env h := rfl
@[simp] theorem andThen_ret {v : T} {h : Hs} {k : En → Hs → SR} : (SR.ret v h).andThen k = .ret v h := rfl
@[simp] theorem andThen_exc {c : Nat} {xs : List T} {env : En} {h : Hs} {k : En → Hs → SR} : (SR.exc c xs env h).andThen k = .exc c xs env h := rfl
@[simp] theorem andThen_cont {env : En} {h : Hs} {k : En → Hs → SR} : (SR.cont env h).andThen k = .cont env h := rfl
@[simp] theorem andThen_brk {env : En} {h : Hs} {k : En → Hs → SR} : (SR.brk env h).andThen k = .brk env h := rfl
@[simp] theorem fin_nx {env : En} {h : Hs} : (SR.nx env h).fin = .ok .non h := rfl
@[simp] theorem fin_ret {v : T} {h : Hs} : (SR.ret v h).fin = .ok v h := rfl
@[simp] theorem fin_exc {c : Nat} {xs : List T} {env : En} {h : Hs} : (SR.exc c xs env h).fin = .exc c xs h := rfl

@[simp] theorem mkV_v' (r : R T) : (mkV r).v = r := rfl
@[simp] theorem mkV_t' (r : R T) : (mkV r).t = r.bind fun x h => R.ofO (truT h x) h := rfl
@[simp] theorem mkB_v' (b : R Bool) : (mkB b).v = b.bind fun x h => .ok (.bl x) h := rfl
@[simp] theorem mkB_t' (b : R Bool) : (mkB b).t = b := rfl
@[simp] theorem eqT_int' (h : Hs) (i j : Int) : eqT h (.int i) (.int j) = some (decide (i = j)) := eqT_int h i j
@[simp] theorem cmp_eq {h : Hs} {x y : T} : cmpT .eq h x y = eqT h x y := rfl
@[simp] theorem cmp_ne {h : Hs} {x y : T} : cmpT .ne h x y = (eqT h x y).map (!·) := rfl
@[simp] theorem cmp_lt {h : Hs} {i j : Int} : cmpT .lt h (.int i) (.int j) = some (decide (i < j)) := rfl
@[simp] theorem cmp_le {h : Hs} {i j : Int} : cmpT .le h (.int i) (.int j) = some (decide (i ≤ j)) := rfl
@[simp] theorem cmp_gt {h : Hs} {i j : Int} : cmpT .gt h (.int i) (.int j) = some (decide (j < i)) := rfl
@[simp] theorem cmp_ge {h : Hs} {i j : Int} : cmpT .ge h (.int i) (.int j) = some (decide (j ≤ i)) := rfl
@[simp] theorem cmp_is {h : Hs} {x y : T} : cmpT .is h x y = isT h x y := rfl
@[simp] theorem cmp_nis {h : Hs} {x y : T} : cmpT .nis h x y = (isT h x y).map (!·) := rfl
@[simp] theorem cmp_in {h : Hs} {x y : T} : cmpT .inn h x y = inT h x y := rfl
@[simp] theorem cmp_nin {h : Hs} {x y : T} : cmpT .nin h x y = (inT h x y).map (!·) := rfl
@[simp] theorem is_non_non {h : Hs} : isT h .non .non = some true := rfl
@[simp] theorem is_int_non {h : Hs} {i : Int} : isT h (.int i) .non = some false := rfl
@[simp] theorem is_str_non {h : Hs} {i : Str} : isT h (.str i) .non = some false := rfl
@[simp] theorem is_bl_non {h : Hs} {i : Bool} : isT h (.bl i) .non = some false := rfl
@[simp] theorem is_tup_non {h : Hs} {i : List T} : isT h (.tup i) .non = some false := rfl
@[simp] theorem is_bl_bl {h : Hs} {a b : Bool} : isT h (.bl a) (.bl b) = some (decide (a = b)) := rfl
@[simp] theorem add_int {i j : Int} : binT .add (.int i) (.int j) = some (.int (i + j)) := rfl
@[simp] theorem add_str {i j : Str} : binT .add (.str i) (.str j) = if i.length + j.length ≤ lim then some (.str (i ++ j)) else none := rfl
@[simp] theorem add_tup {i j : List T} : binT .add (.tup i) (.tup j) = if i.length + j.length ≤ lim then some (.tup (i ++ j)) else none := rfl
@[simp] theorem add_lst {i j : List T} : binT .add (.lst i) (.lst j) = if i.length + j.length ≤ lim then some (.lst (i ++ j)) else none := rfl
@[simp] theorem sub_int {i j : Int} : binT .sub (.int i) (.int j) = some (.int (i - j)) := rfl
@[simp] theorem mul_int {i j : Int} : binT .mul (.int i) (.int j) = if mulOk i j then some (.int (i * j)) else none := rfl
@[simp] theorem pow_int {i j : Int} : binT .pow (.int i) (.int j) = if decide (0 ≤ j) && (decide (j ≤ 1000000) && decide (i.natAbs < 2 ^ 64)) then some (.int (i ^ j.toNat)) else none := rfl
@[simp] theorem intT_int {i : Int} : intT (.int i) = some i := rfl
@[simp] theorem one_one {x : T} : one [x] = some x := rfl
@[simp] theorem bi_len {h : Hs} {x : T} : biT .len h [x] = (lenT h x).map fun (n : Nat) => T.int (n : Int) := rfl
@[simp] theorem bi_abs {h : Hs} {i : Int} : biT .abs h [.int i] = some (.int (if i < 0 then -i else i)) := rfl
@[simp] theorem bi_int {h : Hs} {x : T} : biT .int h [x] = toInt x := rfl
@[simp] theorem bi_str {h : Hs} {x : T} : biT .str h [x] = toStr x := rfl
@[simp] theorem bi_repr {h : Hs} {x : T} : biT .repr h [x] = reprT h x := rfl
@[simp] theorem bi_tuple {h : Hs} {x : T} : biT .tuple h [x] = toTup h x := rfl
@[simp] theorem bi_isinst {h : Hs} {x : T} {n : Kd} : biT (.isinst n) h [x] = (kind h x).map fun k => .bl (k.is n) := rfl
@[simp] theorem bi_all {h : Hs} {ts : List T} : biT .all h [.lst ts] = (bools ts).map fun bs => .bl (bs.all id) := rfl
@[simp] theorem bi_any {h : Hs} {ts : List T} : biT .any h [.lst ts] = (bools ts).map fun bs => .bl (bs.any id) := rfl
@[simp] theorem toInt_int {i : Int} : toInt (.int i) = some (.int i) := rfl
@[simp] theorem toTup_lst {h : Hs} {i : List T} : toTup h (.lst i) = some (.tup i) := rfl
@[simp] theorem len_lst {h : Hs} {i : List T} : lenT h (.lst i) = some i.length := rfl
@[simp] theorem len_tup {h : Hs} {i : List T} : lenT h (.tup i) = some i.length := rfl
@[simp] theorem len_str {h : Hs} {i : Str} : lenT h (.str i) = if i.length ≤ lim then some i.length else none := rfl
@[simp] theorem tru_bl {h : Hs} {b : Bool} : truT h (.bl b) = some b := rfl
@[simp] theorem abs_absent : E.absent.isAbs = true := rfl
@[simp] theorem abs_int {i : Int} : (E.int i).isAbs = false := rfl
@[simp] theorem abs_var {i : Nat} : (E.var i).isAbs = false := rfl
@[simp] theorem abs_bin {o : Bk} {a b : E} : (E.bin o a b).isAbs = false := rfl
@[simp] theorem abs_attr {o : E} {f : Str} : (E.attr o f).isAbs = false := rfl
@[simp] theorem abs_cmp {o : Ck} {a b : E} : (E.cmp o a b).isAbs = false := rfl
@[simp] theorem kd_non {h : Hs} : kind h .non = some .non := rfl
@[simp] theorem kd_bl {h : Hs} {b : Bool} : kind h (.bl b) = some .bl := rfl
@[simp] theorem kd_int {h : Hs} {b : Int} : kind h (.int b) = some .int := rfl
@[simp] theorem kd_str {h : Hs} {b : Str} : kind h (.str b) = some .str := rfl
@[simp] theorem kd_tup {h : Hs} {b : List T} : kind h (.tup b) = some .tup := rfl
@[simp] theorem kd_lst {h : Hs} {b : List T} : kind h (.lst b) = some .lst := rfl
@[simp] theorem lim_eq : lim = 1000000 := rfl
@[simp] theorem sl_str {z : Str} {lo hi : Option Int} : slT (.str z) lo hi = if z.length ≤ lim then some (.str (L2.cutS z lo hi)) else none := rfl
@[simp] theorem ix_tup {h : Hs} {ts : List T} {i : Int} : ixT h (.tup ts) (.int i) = L2.atI ts i := rfl
@[simp] theorem ix_lst {h : Hs} {ts : List T} {i : Int} : ixT h (.lst ts) (.int i) = L2.atI ts i := rfl
@[simp] theorem ix_str {h : Hs} {z : Str} {i : Int} : ixT h (.str z) (.int i) = if z.length ≤ lim then (L2.atI z.cps.toList i).map sgn else none := rfl
@[simp] theorem at_0 {α : Type} (xs : List α) : L2.atI xs 0 = xs[0]? := atI_nat xs 0
@[simp] theorem at_1 {α : Type} (xs : List α) : L2.atI xs 1 = xs[1]? := atI_nat xs 1
@[simp] theorem at_2 {α : Type} (xs : List α) : L2.atI xs 2 = xs[2]? := atI_nat xs 2
@[simp] theorem at_nat {α : Type} (xs : List α) (n : Nat) : L2.atI xs (n : Int) = xs[n]? := atI_nat xs n
@[simp] theorem items_tup {ts : List T} : items (.tup ts) = some ts := rfl
@[simp] theorem items_lst {ts : List T} : items (.lst ts) = some ts := rfl
@[simp] theorem items_str {z : Str} : items (.str z) = some (z.cps.toList.map sgn) := rfl
def cBody (D : Tb) (cl : Cal) (i : Nat) (c e : E) (vs : List Nat) (env : En) (x : T) (h : Hs) : R (Option T) :=
  (if c.isAbs then .ok true h else (ev D cl c ((wipeT env vs).set i (some x)) h).t).bind fun k h3 => if k = true then (ev D cl e ((wipeT env vs).set i (some x)) h3).v.bind fun y h4 => .ok (some y) h4 else .ok none h3
theorem ev_compE {D : Tb} {cl : Cal} {env : En} {h : Hs} {i : Nat} {it : It} {c e : E} {vs : List Nat} : ev D cl (.comp false (.nm i) it c e vs) env h =
    mkV (((evI D cl it env h).bind fun xs h1 => (compL (cBody D cl i c e vs env) xs h1).nox).bind fun ys h5 => if ys.length ≤ lim then .ok (.lst ys) h5 else .bad) := by
  simp only [ev] <;> rfl
/-- a comprehension over its items, no test -/
theorem ev_comp {D : Tb} {cl : Cal} {env : En} {h h1 : Hs} {i : Nat} {it : It} {e : E} {vs : List Nat} {xs : List T} {I : Hs → Prop} {P : T → Prop} {Z : Hs → Hs → Prop} (hi : evI D cl it env h = .ok xs h1) (i1 : I h1)
    (z0 : ∀ h, Z h h) (zt : ∀ a b c, Z a b → Z b c → Z a c) (hl : xs.length ≤ lim) (hf : ∀ x ∈ xs, ∀ h, I h → ∃ y h', (ev D cl e ((wipeT env vs).set i (some x)) h).v = .ok y h' ∧ P y ∧ I h' ∧ Z h h') :
    ∃ ys h', ev D cl (.comp false (.nm i) it .absent e vs) env h = mkV (.ok (.lst ys) h') ∧ (∀ y ∈ ys, P y) ∧ ys.length = xs.length ∧ I h' ∧ Z h1 h' := by
  obtain ⟨ys, h', e1, p, l, i', z⟩ := compL_all z0 zt (f := cBody D cl i .absent e vs env) xs h1 (fun x hx h ih => by
    obtain ⟨y, h', e1, r⟩ := hf x hx h ih
    exact ⟨y, h', by simp [cBody, e1], r⟩) i1
  refine ⟨ys, h', ?_, p, l, i', z⟩
  rw [ev_compE, hi, R.bind_ok, e1]
  simp only [R.nox_ok, R.bind_ok]
  rw [if_pos (by rw [l]; exact hl)]
/-- .. each a plain function of its item -/
theorem ev_compM {D : Tb} {cl : Cal} {env : En} {h h1 : Hs} {i : Nat} {it : It} {e : E} {vs : List Nat} {xs : List T} {g : T → T} (hi : evI D cl it env h = .ok xs h1) (hl : xs.length ≤ lim)
    (hf : ∀ x ∈ xs, (ev D cl e ((wipeT env vs).set i (some x)) h1).v = .ok (g x) h1) : ev D cl (.comp false (.nm i) it .absent e vs) env h = mkV (.ok (.lst (xs.map g)) h1) := by
  have e1 := compL_map (f := cBody D cl i .absent e vs env) (g := g) (h := h1) xs (fun x hx => by simp [cBody, hf x hx])
  rw [ev_compE, hi, R.bind_ok, e1]
  simp only [R.nox_ok, R.bind_ok]
  rw [if_pos (by rw [List.length_map]; exact hl)]
/-- .. with a test -/
theorem ev_compF {D : Tb} {cl : Cal} {env : En} {h h1 : Hs} {i : Nat} {it : It} {c e : E} {vs : List Nat} {xs : List T} {p : T → Bool} {g : T → T} (hc : c.isAbs = false) (hi : evI D cl it env h = .ok xs h1) (hl : xs.length ≤ lim)
    (hp : ∀ x ∈ xs, (ev D cl c ((wipeT env vs).set i (some x)) h1).t = .ok (p x) h1) (hf : ∀ x ∈ xs, p x = true → (ev D cl e ((wipeT env vs).set i (some x)) h1).v = .ok (g x) h1) :
    ev D cl (.comp false (.nm i) it c e vs) env h = mkV (.ok (.lst ((xs.filter p).map g)) h1) := by
  have e1 := compL_filter (f := cBody D cl i c e vs env) (p := p) (g := g) (h := h1) xs (fun x hx => by
    by_cases q : p x = true
    · simp [cBody, hc, hp x hx, hf x hx q, q]
    · simp [cBody, hc, hp x hx, q])
  rw [ev_compE, hi, R.bind_ok, e1]
  simp only [R.nox_ok, R.bind_ok]
  rw [if_pos (by rw [List.length_map]; exact Nat.le_trans (List.length_filter_le _ _) hl)]
end Fp
end

section
set_option Elab.async false
set_option linter.all false
/-! PE: texts as lists of signs, in the evaluator. -/
namespace Fp
open Fs
open PySem
theorem Sx_len (l : List Nat) : (Sx l).length = l.length := by simp [Sx, Str.length]
theorem Sx_tl (l : List Nat) : (Sx l).cps.toList = l := rfl
theorem Sx_of (x : Str) : x = Sx x.cps.toList := rfl
theorem Sx_inj {a b : List Nat} : (Sx a = Sx b) ↔ a = b := ⟨fun h => congrArg (fun x : Str => x.cps.toList) h, fun h => by rw [h]⟩
theorem Sx_cat (a b : List Nat) : Sx a ++ Sx b = Sx (a ++ b) := SX.S_cat a b
theorem texts_map (ls : List (List Nat)) : texts (ls.map fun l => T.str (Sx l)) = some (ls.map Sx) := by
  induction ls with
  | nil => rfl
  | cons l ls ih => simp [texts, ih]
theorem join_Sx (a : List Nat) (ys : List (List Nat)) : Str.join (Sx a) (ys.map Sx) = Sx (TL.joinL a ys) := by
  rw [← TL.join_eq]
  exact SX.join_S a ys
theorem lens_Sx (ls : List (List Nat)) : ((ls.map Sx).map (·.length)) = ls.map (·.length) := by
  rw [List.map_map]
  apply List.map_congr_left
  intro l _
  exact Sx_len l
theorem join_len (a : List Nat) : ∀ ys : List (List Nat), (TL.joinL a ys).length ≤ (ys.map (·.length)).sum + ys.length * a.length
  | [] => by simp [TL.joinL]
  | [y] => by simp [TL.joinL]
  | y :: z :: r => by
    have := join_len a (z :: r)
    simp only [TL.joinL, List.length_append, List.map_cons, List.sum_cons, List.length_cons] at this ⊢
    have e : (r.length + 1 + 1) * a.length = (r.length + 1) * a.length + a.length := by rw [Nat.add_mul (r.length + 1) 1]; omega
    omega
@[simp] theorem bmOk_join {h : Hs} {a : Str} : bmOk .join h (.str a) = true := rfl
theorem bm_join {h : Hs} {a : List Nat} {ys : List (List Nat)} (hl : (ys.map (·.length)).sum + ys.length * a.length ≤ 1000000) : bmT .join h (.str (Sx a)) [.lst (ys.map fun l => T.str (Sx l))] = some (.str (Sx (TL.joinL a ys)), h) := by
  show ((texts (ys.map fun l => T.str (Sx l))).bind fun zs => if glueOk (Sx a) zs then some (T.str (Str.join (Sx a) zs), h) else none) = _
  rw [texts_map, Option.bind_some, if_pos, join_Sx]
  unfold glueOk
  rw [lens_Sx, Sx_len, List.length_map]
  exact decide_eq_true hl
/-- the signs of a whole number -/
def intL (i : Int) : List Nat := if i < 0 then 45 :: TL.numL i.natAbs else TL.numL i.natAbs
theorem int_Sx (i : Int) : Str.ofString (toString i) = Sx (intL i) := by
  unfold intL
  by_cases h : i < 0
  · rw [if_pos h, PyProof.Rows.toString_neg h]
    have e : (0 - i) = ((i.natAbs : Nat) : Int) := by omega
    rw [e]
    have e2 : Str.ofString ("-" ++ toString ((i.natAbs : Nat) : Int)) = Str.ofString "-" ++ Str.ofString (toString ((i.natAbs : Nat) : Int)) := by
      rw [Str.ofString_eq_toList, Str.ofString_eq_toList, Str.ofString_eq_toList, String.toList_append, List.map_append]
      exact (Sx_cat _ _).symm
    rw [e2, SX.num_S]
    exact Sx_cat [45] _
  · rw [if_neg h]
    have e : i = ((i.natAbs : Nat) : Int) := by omega
    rw [e, SX.num_S]
    simp
end Fp
end

section
set_option Elab.async false
set_option linter.all false
/-! PF: cuts and comparisons of texts given by their signs. -/
namespace Fp
open Fs
open PySem
theorem cut_to (l : List Nat) (q : Nat) : L2.cutS (Sx l) none (some (q : Int)) = Sx (l.take q) := by
  unfold L2.cutS
  rw [HT.sIx_none, HT.sIx_nat, Sx_len]
  show Sx _ = _
  rw [Sx_tl, List.drop_zero, Nat.sub_zero, ← List.take_eq_take_min]
theorem cut_from (l : List Nat) (p : Nat) : L2.cutS (Sx l) (some (p : Int)) none = Sx (l.drop p) := by
  unfold L2.cutS
  rw [HT.sIx_none, HT.sIx_nat, Sx_len]
  show Sx _ = _
  rw [Sx_tl]
  congr 1
  rw [List.take_of_length_le (by rw [List.length_drop]; omega)]
  by_cases h : p ≤ l.length
  · rw [Nat.min_eq_left h]
  · rw [Nat.min_eq_right (by omega), List.drop_eq_nil_of_le (Nat.le_refl _), List.drop_eq_nil_of_le (by omega)]
theorem cut_mid (l : List Nat) (p q : Nat) : L2.cutS (Sx l) (some (p : Int)) (some (q : Int)) = Sx ((l.drop p).take (q - p)) := by
  unfold L2.cutS
  rw [HT.sIx_nat, HT.sIx_nat, Sx_len]
  show Sx _ = _
  rw [Sx_tl]
  congr 1
  by_cases h : p ≤ l.length
  · rw [Nat.min_eq_left h]
    by_cases h2 : q ≤ l.length
    · rw [Nat.min_eq_left h2]
    · rw [Nat.min_eq_right (by omega), List.take_of_length_le (by rw [List.length_drop]; omega), List.take_of_length_le (by rw [List.length_drop]; omega)]
  · have e : min p l.length = l.length := Nat.min_eq_right (by omega)
    rw [e, List.drop_eq_nil_of_le (Nat.le_refl _), List.drop_eq_nil_of_le (by omega : l.length ≤ p)]
    simp
def okL (l : List Nat) : Prop := ∀ c ∈ l, c < 128
theorem okL_str {l : List Nat} (h : okL l) : PyData.strOk (Sx l) = true := by
  show l.toArray.all (· < 0x110000) = true
  rw [← Array.all_toList, List.all_eq_true]
  intro c hc
  have := h c (by simpa using hc)
  simp only [decide_eq_true_eq]
  omega
theorem okL_take {l : List Nat} (h : okL l) (n : Nat) : okL (l.take n) := fun c hc => h c (List.mem_of_mem_take hc)
theorem okL_drop {l : List Nat} (h : okL l) (n : Nat) : okL (l.drop n) := fun c hc => h c (List.mem_of_mem_drop hc)
theorem okL_app {a b : List Nat} (h : okL a) (h' : okL b) : okL (a ++ b) := fun c hc => (List.mem_append.mp hc).elim (h c) (h' c)
theorem eq_Sx {h : Hs} {a b : List Nat} (oa : okL a) (ob : okL b) : eqT h (.str (Sx a)) (.str (Sx b)) = some (decide (a = b)) := by
  rw [eqT_str h _ _ (okL_str oa) (okL_str ob)]
  exact congrArg some (Bool.eq_iff_iff.mpr (by simp only [decide_eq_true_eq]; exact Sx_inj))
theorem in_Sx {h : Hs} {c : Nat} {l : List Nat} : inT h (sgn c) (.str (Sx l)) = some (decide (c ∈ l)) := rfl
theorem bools_map {α : Type} {p : α → Bool} : ∀ l : List α, bools (l.map fun c => T.bl (p c)) = some (l.map p)
  | [] => rfl
  | c :: r => by simp [bools, bools_map r]
theorem int_Sx' {a : List Nat} (h : a.all isDig = true) (hne : a ≠ []) (hl : a.length ≤ 640) : toInt (.str (Sx a)) = some (.int ((NumText.digitsVal a : Nat) : Int)) := by
  show (if (Sx a).length ≤ 640 then (intText? (Sx a)).map T.int else none) = _
  rw [if_pos (by rw [Sx_len]; exact hl), SX.int_S (a := a) h hne (by omega)]
  rfl
end Fp
end

section
set_option Elab.async false
set_option linter.all false
set_option maxRecDepth 10000
/-! PG: what repr writes of plain values: how long, which signs. -/
namespace Fp
open Fs
open PySem
/-- a text of small signs -/
def okS (s : Str) : Prop := okL s.cps.toList
theorem okS_Sx {l : List Nat} (h : okL l) : okS (Sx l) := h
theorem okS_str {s : Str} (h : okS s) : PyData.strOk s = true := okL_str (l := s.cps.toList) h
theorem okS_cat {a b : Str} (h : okS a) (h' : okS b) : okS (a ++ b) := by
  have e : (a ++ b).cps.toList = a.cps.toList ++ b.cps.toList := TL.tl_append _ _
  unfold okS
  rw [e]
  exact okL_app h h'
theorem cat_len (a b : Str) : (a ++ b).length = a.length + b.length := by
  have e : (a ++ b).cps.toList = a.cps.toList ++ b.cps.toList := TL.tl_append _ _
  have := congrArg List.length e
  simpa [Str.length] using this
theorem joinL_ok {a : List Nat} (ha : okL a) : ∀ ys : List (List Nat), (∀ y ∈ ys, okL y) → okL (TL.joinL a ys)
  | [], _ => by intro c hc; simp [TL.joinL] at hc
  | [y], h => by simpa [TL.joinL] using h y (by simp)
  | y :: z :: r, h => by
    have := joinL_ok ha (z :: r) fun w hw => h w (List.mem_cons_of_mem _ hw)
    simp only [TL.joinL]
    first
      | exact okL_app (h y (by simp)) (okL_app ha this)
      | exact okL_app (okL_app (h y (by simp)) ha) this
theorem repr_chr (c : Nat) (h : c < 128) : okL (Builtin.Str.reprChar 39 c) ∧ okL (Builtin.Str.reprChar 34 c) := by
  have : ∀ c : Fin 128, ((Builtin.Str.reprChar 39 c.val).all (· < 128) && (Builtin.Str.reprChar 34 c.val).all (· < 128)) = true := by decide +kernel
  have := this ⟨c, h⟩
  simp only [Bool.and_eq_true, List.all_eq_true, decide_eq_true_eq] at this
  exact this
theorem fold_ok {q : Nat} (hq : q = 39 ∨ q = 34) : ∀ (l : List Nat) (acc : Array Nat), okL l → okL acc.toList → okL (l.foldl (fun out c => out ++ (Builtin.Str.reprChar q c).toArray) acc).toList
  | [], acc, _, h => h
  | c :: r, acc, hl, h => by
    rw [List.foldl_cons]
    refine fold_ok hq r _ (fun d hd => hl d (List.mem_cons_of_mem _ hd)) ?_
    rw [Array.toList_append]
    have := repr_chr c (hl c (by simp))
    rcases hq with rfl | rfl
    · exact okL_app h this.1
    · exact okL_app h this.2
theorem repr_okS {s : Str} (h : okS s) : okS (reprText s) := by
  unfold okS reprText
  have hq : reprQuote s = 39 ∨ reprQuote s = 34 := by
    unfold reprQuote
    split
    · exact .inr rfl
    · exact .inl rfl
  generalize reprQuote s = q at hq
  have hq2 : q < 128 := by omega
  show okL (Array.push _ _).toList
  rw [Array.toList_push, ← Array.foldl_toList]
  refine okL_app (fold_ok hq _ _ h ?_) ?_ <;> · intro c hc; simp at hc; omega
theorem repr_len {s : Str} (h : okS s) : (reprText s).length ≤ 10 * s.length + 2 :=
  StrLaws.reprText_len s fun c hc => Nat.lt_trans (h c hc) (by decide)
structure Good (d n : Nat) (x : PyData) : Prop where
  lay : x.canLay0 = true
  dep : x.depth ≤ d
  vis : x.showable = true
  len : x.shown.length ≤ n
  asc : okS x.shown
mutual
/-- a bound of what repr writes -/
def szT : T → Nat
  | .non => 4
  | .int _ => 42
  | .str s => 10 * s.length + 2
  | .tup ts => szTs ts + 3
  | _ => 0
def szTs : List T → Nat
  | [] => 0
  | t :: r => szT t + 2 + szTs r
end
theorem szTs_app : ∀ (a b : List T), szTs (a ++ b) = szTs a + szTs b
  | [], b => by simp [szTs]
  | t :: r, b => by simp [szTs, szTs_app r b]; omega
theorem good_all {d : Nat} : ∀ ts : List T, (∀ t ∈ ts, ∃ x, toD t = some x ∧ Good d (szT t) x) →
    ∃ xs, toDs ts = some xs ∧ xs.length = ts.length ∧ PyData.canLayAll0 xs = true ∧ PyData.depthAll xs ≤ d ∧ PyData.showableAll xs = true ∧ ((PyData.shownAll xs).map (·.length)).sum + 2 * ts.length ≤ szTs ts ∧ (PyData.shownAll xs).length = ts.length ∧ ∀ y ∈ PyData.shownAll xs, okS y
  | [], _ => ⟨[], by simp [toDs, PyData.canLayAll0, PyData.depthAll, PyData.showableAll, PyData.shownAll]⟩
  | t :: r, h => by
    obtain ⟨x, e1, g⟩ := h t (by simp)
    obtain ⟨xs, e2, l2, a2, b2, c2, d2, f2, k2⟩ := good_all r fun t ht => h t (List.mem_cons_of_mem _ ht)
    refine ⟨x :: xs, by simp [toDs, e1, e2], by simp [l2], by simp [PyData.canLayAll0, g.lay, a2], ?_, by simp [PyData.showableAll, g.vis, c2], ?_, by simp [PyData.shownAll, f2], ?_⟩
    · simp only [PyData.depthAll]
      have := g.dep
      omega
    · have := g.len
      simp only [PyData.shownAll, List.map_cons, List.sum_cons, List.length_cons, szTs]
      omega
    · intro y hy
      simp only [PyData.shownAll, List.mem_cons] at hy
      rcases hy with rfl | hy
      · exact g.asc
      · exact k2 y hy
theorem join_str (a : Str) (ys : List Str) : Str.join a ys = Sx (TL.joinL a.cps.toList (ys.map fun y => y.cps.toList)) := by
  have := join_Sx a.cps.toList (ys.map fun y => y.cps.toList)
  rw [List.map_map] at this
  have e : ys.map (Sx ∘ fun y => y.cps.toList) = ys := by
    induction ys with
    | nil => rfl
    | cons y r ih => rw [List.map_cons, ih (by rw [← List.map_map]; exact join_Sx _ _)]; rfl
  rw [e] at this
  exact this
theorem good_tup {d n : Nat} {xs : List PyData} (ha : PyData.canLayAll0 xs = true) (hd : PyData.depthAll xs ≤ d) (hs : PyData.showableAll xs = true) (hl : ((PyData.shownAll xs).map (·.length)).sum + 2 * (PyData.shownAll xs).length ≤ n) (hk : ∀ y ∈ PyData.shownAll xs, okS y) : Good (d + 1) (n + 3) (.tuple xs) := by
  refine ⟨by simpa [PyData.canLay0] using ha, by simp only [PyData.depth]; omega, by simpa [PyData.showable] using hs, ?_, ?_⟩
  · simp only [PyData.shown, tupleText]
    rw [cat_len, cat_len, join_str, Sx_len (TL.joinL (Str.ofString ", ").cps.toList ((PyData.shownAll xs).map fun y => y.cps.toList))]
    have := join_len (Str.ofString ", ").cps.toList ((PyData.shownAll xs).map fun y => y.cps.toList)
    rw [List.map_map, List.length_map] at this
    have e : ((fun l : List Nat => l.length) ∘ fun y : Str => y.cps.toList) = fun y : Str => y.length := by funext y; simp [Str.length]
    rw [e] at this
    have e2 : (Str.ofString ", ").cps.toList.length = 2 := by decide
    rw [e2] at this
    have e3 : (Str.ofString "(").length = 1 := by decide
    have e4 : (Str.ofString (if (PyData.shownAll xs).length == 1 then ",)" else ")")).length ≤ 2 := by split <;> decide
    rw [e3]
    omega
  · simp only [PyData.shown, tupleText]
    refine okS_cat (okS_cat (by unfold okS okL; decide) ?_) ?_
    · rw [join_str]
      refine joinL_ok (by unfold okL; decide) _ fun y hy => ?_
      obtain ⟨z, hz, rfl⟩ := List.mem_map.mp hy
      exact hk z hz
    · split <;> · unfold okS okL; decide
/-- repr of a couple of plain things -/
theorem good_two {d n : Nat} {x y : PyData} (gx : Good d n x) (gy : Good d n y) : Good (d + 1) (2 * n + 10) (.list [x, y]) := by
  refine ⟨by simp [PyData.canLay0, PyData.canLayAll0, gx.lay, gy.lay], ?_, by simp [PyData.showable, PyData.showableAll, gx.vis, gy.vis], ?_, ?_⟩
  · have := gx.dep
    have := gy.dep
    simp only [PyData.depth, PyData.depthAll]
    omega
  · have e : PyData.shown (.list [x, y]) = Str.ofString "[" ++ Str.ofString "" ++ x.shown ++ Str.ofString ", " ++ y.shown ++ Str.ofString "]" := by
      simp only [PyData.shown, PyData.shownAll, listText, textFrom]
      rfl
    rw [e, cat_len, cat_len, cat_len, cat_len, cat_len]
    have := gx.len
    have := gy.len
    have e3 : (Str.ofString "[").length = 1 := by decide
    have e4 : (Str.ofString "]").length = 1 := by decide
    have e5 : (Str.ofString ", ").length = 2 := by decide
    have e6 : (Str.ofString "").length = 0 := by decide
    omega
  · have e : PyData.shown (.list [x, y]) = Str.ofString "[" ++ Str.ofString "" ++ x.shown ++ Str.ofString ", " ++ y.shown ++ Str.ofString "]" := by
      simp only [PyData.shown, PyData.shownAll, listText, textFrom]
      rfl
    rw [e]
    refine okS_cat (okS_cat (okS_cat (okS_cat (okS_cat ?_ ?_) gx.asc) ?_) gy.asc) ?_ <;> · unfold okS okL; decide
theorem Good.str {s : Str} (h : okS s) : Good 0 (10 * s.length + 2) (.str s) := by
  refine ⟨?_, by simp [PyData.depth], by simp [PyData.showable], ?_, ?_⟩
  · simpa [PyData.canLay0] using okS_str h
  · simpa [PyData.shown] using repr_len h
  · simpa [PyData.shown] using repr_okS h
theorem Good.mono {d n d' n' : Nat} {x : PyData} (g : Good d n x) (hd : d ≤ d') (hn : n ≤ n') : Good d' n' x :=
  ⟨g.lay, Nat.le_trans g.dep hd, g.vis, Nat.le_trans g.len hn, g.asc⟩
theorem Good.shaped {d n : Nat} {x : PyData} (g : Good d n x) (hd : d ≤ 64) : SeqAt.shaped x = true := by
  unfold SeqAt.shaped
  rw [g.lay, Bool.true_and, decide_eq_true_eq]
  exact Nat.le_trans g.dep hd
theorem nil_of {d : Nat} {ts : List T} (q : ∀ t ∈ ts, ∃ x, toD t = some x ∧ Good d (szT t) x) (hd : d ≤ 60) : ∃ xs, toDs ts = some xs ∧ (if SeqAt.shaped (.list xs) && SeqAt.shaped (.list []) then some (PyData.eqv (.list xs) (.list [])) else none) = some (decide (ts = [])) := by
  obtain ⟨xs, e1, l, a, b, c, s, f, kk⟩ := good_all (d := d) ts q
  have s1 : SeqAt.shaped (.list xs) = true := by
    unfold SeqAt.shaped
    simp only [PyData.canLay0, a, PyData.depth, Bool.true_and, decide_eq_true_eq]
    have z : PyData.depthAll xs + 1 ≤ 61 := Nat.add_le_add_right (Nat.le_trans b hd) 1
    exact decide_eq_true (Nat.le_trans z (by decide))
  have s2 : SeqAt.shaped (.list []) = true := by decide
  refine ⟨xs, e1, ?_⟩
  rw [if_pos (by rw [s1, s2]; rfl)]
  cases xs with
  | nil =>
    have : ts = [] := by cases ts with
      | nil => rfl
      | cons t r => simp at l
    subst this
    simp [PyData.eqv, PyData.eqvAll]
  | cons x xs =>
    have : ts ≠ [] := by rintro rfl; simp at l
    simp [PyData.eqv, PyData.eqvAll, this]
/-- whether a list has no items -/
theorem lst_nil {d : Nat} {h : Hs} {ts : List T} (q : ∀ t ∈ ts, ∃ x, toD t = some x ∧ Good d (szT t) x) (hd : d ≤ 60) : eqT h (.lst ts) (.lst []) = some (decide (ts = [])) := by
  obtain ⟨xs, e1, r⟩ := nil_of q hd
  have z : toDh h (.lst ts) = some (.list xs) := by simp [toDh, toD, e1]
  have z2 : toDh h (.lst []) = some (.list []) := by simp [toDh, toD, toDs]
  unfold eqT
  rw [z, z2, Option.bind_some, Option.bind_some]
  exact r
theorem ref_nil {d k : Nat} {h : Hs} {ts : List T} (e : h[k]? = some (.lst ts)) (q : ∀ t ∈ ts, ∃ x, toD t = some x ∧ Good d (szT t) x) (hd : d ≤ 60) : eqT h (.ref k) (.lst []) = some (decide (ts = [])) := by
  obtain ⟨xs, e1, r⟩ := nil_of q hd
  have z : toDh h (.ref k) = some (.list xs) := by simp [toDh, e, e1]
  have z2 : toDh h (.lst []) = some (.list []) := by simp [toDh, toD, toDs]
  unfold eqT
  rw [z, z2, Option.bind_some, Option.bind_some]
  exact r
theorem sgn_good {c : Nat} (h : c < 128) : ∃ x, toD (sgn c) = some x ∧ Good 0 (szT (sgn c)) x :=
  ⟨.str (Sx [c]), by simp [toD, sgn], (Good.str (s := Sx [c]) (by intro d hd; simp at hd; omega)).mono (Nat.le_refl 0) (by simp [szT, sgn])⟩
theorem signs_nil {h : Hs} {l : List Nat} (ok : okL l) : eqT h (.lst (l.map sgn)) (.lst []) = some (decide (l = [])) := by
  rw [lst_nil (d := 0) (fun t ht => by
    obtain ⟨c, hc, rfl⟩ := List.mem_map.mp ht
    exact sgn_good (ok c hc)) (by decide)]
  simp
/-- what repr writes -/
theorem repr_good {h : Hs} {t : T} {x : PyData} {d n : Nat} (e : toDh h t = some x) (g : Good d n x) (hd : d ≤ 64) (hn : n ≤ 1000000) : reprT h t = some (.str x.shown) := by
  unfold reprT
  rw [e, Option.bind_some, if_pos]
  rw [g.shaped hd, g.vis]
  simp only [Bool.true_and, decide_eq_true_eq]
  exact Nat.le_trans g.len hn
end Fp
end

section
set_option Elab.async false
set_option linter.all false
set_option maxRecDepth 10000
/-! PH: loops, written words, growing heaps, in plain steps. -/
namespace Fp
open Fs
open PySem
theorem evS_for {D : Tb} {W : Nat} {cl : Cal} {env : En} {h : Hs} {t : Tg} {it : It} {b : Ss} : evS D W cl (.for_ t it b) env h = (evI D cl it env h).toS env fun xs h1 => forL t (fun env2 h2 => evSs D W cl b env2 h2) xs env h1 := by simp only [evS]
theorem forL_nil {t : Tg} {b : En → Hs → SR} {env : En} {h : Hs} : forL t b [] env h = .nx env h := rfl
theorem forL_eq {t : Tg} {b : En → Hs → SR} {x : T} {r : List T} {env env1 : En} {h : Hs} (e : bindG t x env = some env1) : forL t b (x :: r) env h = match b env1 h with
  | .nx env2 h2 => forL t b r env2 h2
  | .cont env2 h2 => forL t b r env2 h2
  | .brk env2 h2 => .nx env2 h2
  | q => q := by
  show (match bindG t x env with
    | none => SR.bad
    | some env1 => match b env1 h with
      | .nx env2 h2 => forL t b r env2 h2
      | .cont env2 h2 => forL t b r env2 h2
      | .brk env2 h2 => .nx env2 h2
      | q => q) = _
  rw [e]
theorem forT_nx {t : Tg} {b : En → Hs → SR} {x : T} {r : List T} {env env1 env2 : En} {h h2 : Hs} (e : bindG t x env = some env1) (e2 : b env1 h = .nx env2 h2) : forL t b (x :: r) env h = forL t b r env2 h2 := by
  rw [forL_eq e, e2]
theorem forT_exc {t : Tg} {b : En → Hs → SR} {x : T} {r : List T} {env env1 env2 : En} {h h2 : Hs} {c : Nat} {xs : List T} (e : bindG t x env = some env1) (e2 : b env1 h = .exc c xs env2 h2) : forL t b (x :: r) env h = .exc c xs env2 h2 := by
  rw [forL_eq e, e2]
theorem forT_ret {t : Tg} {b : En → Hs → SR} {x v : T} {r : List T} {env env1 : En} {h h2 : Hs} (e : bindG t x env = some env1) (e2 : b env1 h = .ret v h2) : forL t b (x :: r) env h = .ret v h2 := by
  rw [forL_eq e, e2]
theorem forL_nx {i : Nat} {b : En → Hs → SR} {x : T} {r : List T} {env env2 : En} {h h2 : Hs} (e : b (env.set i (some x)) h = .nx env2 h2) : forL (.nm i) b (x :: r) env h = forL (.nm i) b r env2 h2 := forT_nx rfl e
theorem forL_cont {i : Nat} {b : En → Hs → SR} {x : T} {r : List T} {env env2 : En} {h h2 : Hs} (e : b (env.set i (some x)) h = .cont env2 h2) : forL (.nm i) b (x :: r) env h = forL (.nm i) b r env2 h2 := by
  rw [forL_eq (t := .nm i) rfl, e]
theorem forL_ret {i : Nat} {b : En → Hs → SR} {x v : T} {r : List T} {env : En} {h h2 : Hs} (e : b (env.set i (some x)) h = .ret v h2) : forL (.nm i) b (x :: r) env h = .ret v h2 := forT_ret rfl e
theorem forL_exc {i : Nat} {b : En → Hs → SR} {x : T} {r : List T} {env env2 : En} {h h2 : Hs} {c : Nat} {xs : List T} (e : b (env.set i (some x)) h = .exc c xs env2 h2) : forL (.nm i) b (x :: r) env h = .exc c xs env2 h2 := forT_exc rfl e
theorem rng_ok {D : Tb} {cl : Cal} {env : En} {h h1 : Hs} {a : E} {i : Int} {xs : List T} (ea : (ev D cl a env h).v = .ok (.int i) h1) (hr : rangeT 0 i = some xs) : evI D cl (.rng a) env h = .ok xs h1 := by
  rw [evI_rng, ea, R.bind_ok, intT_int]
  show R.ofO (rangeT 0 i) h1 = _
  rw [hr]
  rfl
theorem evS_try {D : Tb} {W : Nat} {cl : Cal} {env : En} {h : Hs} {b : Ss} {hs : Hd} : evS D W cl (.tryy b hs) env h = match evSs D W cl b env h with
    | .exc c xs env1 h1 => evH D W hs c xs env1 h1
    | q => q := by
  simp only [evS] <;> rfl
theorem try_exc {D : Tb} {W : Nat} {cl : Cal} {env env1 : En} {h h1 : Hs} {b b2 : Ss} {cs : List Nat} {i : Option Nat} {r : Hd} {c : Nat} {xs : List T} (e : evSs D W cl b env h = .exc c xs env1 h1) (hc : isExc D c cs = true) : evS D W cl (.tryy b (.cons cs i b2 r)) env h =
    (evSs D W (xCal D c xs) b2 (match i with
      | some j => env1.set j none
      | none => env1) h1).offName i := by
  rw [evS_try, e]
  simp only [evH]
  rw [if_pos hc] <;> cases i <;> rfl
theorem try_skip {D : Tb} {W : Nat} {cl : Cal} {env env1 : En} {h h1 : Hs} {b b2 : Ss} {cs : List Nat} {i : Option Nat} {r : Hd} {c : Nat} {xs : List T} (e : evSs D W cl b env h = .exc c xs env1 h1) (hc : isExc D c cs = false) : evS D W cl (.tryy b (.cons cs i b2 r)) env h = evS D W cl (.tryy b r) env h := by
  rw [evS_try, evS_try, e]
  simp only [evH]
  rw [if_neg (by rw [hc]; decide)]
theorem try_nx {D : Tb} {W : Nat} {cl : Cal} {env env1 : En} {h h1 : Hs} {b : Ss} {hs : Hd} (e : evSs D W cl b env h = .nx env1 h1) : evS D W cl (.tryy b hs) env h = .nx env1 h1 := by
  rw [evS_try, e]
theorem try_ret {D : Tb} {W : Nat} {cl : Cal} {env : En} {h h1 : Hs} {b : Ss} {hs : Hd} {v : T} (e : evSs D W cl b env h = .ret v h1) : evS D W cl (.tryy b hs) env h = .ret v h1 := by
  rw [evS_try, e]
def Gr (h h' : Hs) : Prop := h.length ≤ h'.length ∧ ∀ j, j < h.length → h'[j]? = h[j]?
theorem Gr.refl {h : Hs} : Gr h h := ⟨Nat.le_refl _, fun _ _ => rfl⟩
theorem Gr.trans {h1 h2 h3 : Hs} (a : Gr h1 h2) (b : Gr h2 h3) : Gr h1 h3 := ⟨Nat.le_trans a.1 b.1, fun j hj => (b.2 j (Nat.lt_of_lt_of_le hj a.1)).trans (a.2 j hj)⟩
theorem Gr.but {h h' : Hs} (g : Gr h h') (k : Nat) : But k h h' := ⟨g.1, fun j hj _ => g.2 j hj⟩
theorem Gr.get {h h' : Hs} (g : Gr h h') {j : Nat} {o : Ob} (e : h[j]? = some o) : h'[j]? = some o := by
  rw [g.2 j (List.getElem?_eq_some_iff.mp e).1]
  exact e
theorem but_gr {h h' : Hs} (o : Ob) (b : But h.length (h ++ [o]) h') : Gr h h' := by
  have := b.len
  rw [List.length_append] at this
  simp only [List.length_cons, List.length_nil] at this
  refine ⟨by omega, fun j hj => ?_⟩
  rw [b.old j (by rw [List.length_append]; omega) (by omega), List.getElem?_append_left hj]
theorem bag_gr {h h' : Hs} {k : Nat} (B : Bag h k) (g : Gr h h') : Bag h' k := by
  obtain ⟨a, b, c, cells, e, r⟩ := B
  exact ⟨a, b, c, cells, g.get e, r⟩
theorem bmOk_app {h : Hs} {k : Nat} {ts : List T} (e : h[k]? = some (.lst ts)) : bmOk .append h (.ref k) = true := by
  simp [bmOk, e]
theorem bm_app {h : Hs} {k : Nat} {ts : List T} {x : T} (e : h[k]? = some (.lst ts)) (hl : ts.length < 1000000) : bmT .append h (.ref k) [x] = some (.non, h.set k (.lst (ts ++ [x]))) := by
  simp [bmT, e, hl]
theorem bmOk_ext {h : Hs} {k : Nat} {ts : List T} (e : h[k]? = some (.lst ts)) : bmOk .extend h (.ref k) = true := by
  simp [bmOk, e]
theorem bm_ext {h : Hs} {k : Nat} {ts us : List T} (e : h[k]? = some (.lst ts)) (hl : ts.length + us.length ≤ 1000000) : bmT .extend h (.ref k) [.lst us] = some (.non, h.set k (.lst (ts ++ us))) := by
  simp [bmT, e, hl]
theorem frz_ref {h : Hs} {k : Nat} {ts : List T} (e : h[k]? = some (.lst ts)) : frzT h (.ref k) = .ok (.lst ts) (h.set k .gone) := by
  simp [frzT, e]
theorem tup_ref {h : Hs} {k : Nat} {ts : List T} (e : h[k]? = some (.lst ts)) : toTup h (.ref k) = some (.tup ts) := by
  simp [toTup, e]
@[simp] theorem ev_frz {D : Tb} {cl : Cal} {env : En} {h : Hs} {e : E} : (ev D cl (.frz e) env h).v = (ev D cl e env h).v.bind fun x h1 => frzT h1 x := by simp only [ev]
@[simp] theorem ev_fnv {D : Tb} {cl : Cal} {env : En} {h : Hs} {f : Nat} : ev D cl (.fnv f) env h = mkV (.ok (.fn f) h) := by simp only [ev]
@[simp] theorem ev_callV {D : Tb} {cl : Cal} {env : En} {h : Hs} {i : Nat} {xs : Es} : ev D cl (.callV i xs) env h = mkV (match env[i]? with
    | some (some (.fn f)) => if f < D.fns.length then (evL D cl xs env h).bind fun ts h1 => cl f ts h1 else .bad
    | _ => .bad) := by simp only [ev] <;> rfl
theorem evI_enum {D : Tb} {cl : Cal} {env : En} {h h1 : Hs} {e : E} {ts : List T} (ea : (ev D cl e env h).v = .ok (.lst ts) h1) : evI D cl (.enum e) env h = .ok (enumT 0 ts) h1 := by
  simp only [evI, ea, R.bind_ok] <;> rfl
@[simp] theorem ev_cmp2 {D : Tb} {cl : Cal} {env : En} {h : Hs} {o o2 : Ck} {a b c : E} : ev D cl (.cmp2 o o2 a b c) env h = mkB ((ev D cl a env h).v.bind fun x h1 => (ev D cl b env h1).v.bind fun y h2 => (R.ofO (cmpT o h2 x y) h2).bind fun k h3 =>
    if k = true then (ev D cl c env h3).v.bind fun z h4 => R.ofO (cmpT o2 h4 y z) h4 else .ok false h3) := by simp only [ev] <;> rfl
theorem let_in (c : Nat) : decide (c ∈ (Str.ofString "abcdefghijklmnopqrstuvwxyz").cps.toList) = isLet c := by
  rw [show (Str.ofString "abcdefghijklmnopqrstuvwxyz").cps.toList = (List.range 26).map (97 + ·) from by decide +kernel]
  unfold isLet
  rw [Bool.eq_iff_iff]
  simp only [decide_eq_true_eq, List.mem_map, List.mem_range, Bool.and_eq_true]
  exact ⟨fun ⟨i, h1, h2⟩ => by omega, fun h => ⟨c - 97, by omega, by omega⟩⟩
theorem dig_in (c : Nat) : decide (c ∈ (Str.ofString "0123456789").cps.toList) = isDig c := by
  rw [show (Str.ofString "0123456789").cps.toList = (List.range 10).map (48 + ·) from by decide +kernel]
  unfold isDig
  rw [Bool.eq_iff_iff]
  simp only [decide_eq_true_eq, List.mem_map, List.mem_range, Bool.and_eq_true]
  exact ⟨fun ⟨i, h1, h2⟩ => by omega, fun h => ⟨c - 48, by omega, by omega⟩⟩
theorem al_in (c : Nat) : decide (c ∈ (Str.ofString "abcdefghijklmnopqrstuvwxyz" ++ Str.ofString "0123456789").cps.toList) = isAl c := by
  have e : (Str.ofString "abcdefghijklmnopqrstuvwxyz" ++ Str.ofString "0123456789").cps.toList = (Str.ofString "abcdefghijklmnopqrstuvwxyz").cps.toList ++ (Str.ofString "0123456789").cps.toList := TL.tl_append _ _
  rw [e]
  unfold isAl
  rw [← let_in, ← dig_in, Bool.eq_iff_iff]
  simp only [decide_eq_true_eq, List.mem_append, Bool.or_eq_true]
theorem in_let {h : Hs} {c : Nat} : inT h (sgn c) (.str (Str.ofString "abcdefghijklmnopqrstuvwxyz")) = some (isLet c) := congrArg some (let_in c)
theorem in_al {h : Hs} {c : Nat} : inT h (sgn c) (.str (Str.ofString "abcdefghijklmnopqrstuvwxyz" ++ Str.ofString "0123456789")) = some (isAl c) := congrArg some (al_in c)
def sgC (x : T) : Nat := match x with
  | .str z => z.cps.toList.headD 0
  | _ => 0
theorem sgC_sgn (c : Nat) : sgC (sgn c) = c := rfl
@[simp] theorem atI3 {α : Type} (xs : List α) : L2.atI xs 3 = xs[3]? := atI_nat xs 3
@[simp] theorem atI4 {α : Type} (xs : List α) : L2.atI xs 4 = xs[4]? := atI_nat xs 4
@[simp] theorem atI5 {α : Type} (xs : List α) : L2.atI xs 5 = xs[5]? := atI_nat xs 5
def dcBody (D : Tb) (cl : Cal) (i : Nat) (c k e : E) (vs : List Nat) (env : En) (x : T) (h2 : Hs) : R (Option (L2.Key × T)) :=
  (if c.isAbs then .ok true h2 else (ev D cl c ((wipeT env vs).set i (some x)) h2).t).bind fun b h3 =>
    if b = true then (ev D cl k ((wipeT env vs).set i (some x)) h3).v.bind fun y h4 => (ev D cl e ((wipeT env vs).set i (some x)) h4).v.bind fun z h5 => (R.ofO (keyT y) h5).bind fun q h6 => .ok (some (q, z)) h6 else .ok none h3
theorem ev_dcompE {D : Tb} {cl : Cal} {env : En} {h : Hs} {i : Nat} {it : It} {c k e : E} {vs : List Nat} : ev D cl (.dcomp (.nm i) it c k e vs) env h =
    mkV (((evI D cl it env h).bind fun xs h1 => if xs.length ≤ lim then (dcL (dcBody D cl i c k e vs env) xs [] [] h1).nox else .bad).bind fun p h5 => .ok (.dct p.1 p.2) h5) := by
  simp only [ev] <;> rfl
theorem dcL_new {α : Type} {f : T → Hs → R (Option (L2.Key × T))} {h : Hs} {t : α → T} {g : α → L2.Key × T} : ∀ (xs : List α), (∀ a ∈ xs, f (t a) h = .ok (some (g a)) h) → ∀ (ks : List L2.Key) (ts : List T), (ks ++ xs.map fun a => (g a).1).Nodup →
    dcL f (xs.map t) ks ts h = .ok (ks ++ xs.map fun a => (g a).1, ts ++ xs.map fun a => (g a).2) h
  | [], _, ks, ts, _ => by simp [dcL]
  | a :: r, hf, ks, ts, nd => by
    have na : (ks.any fun q => decide (q = (g a).1)) = false := by
      rw [List.any_eq_false]
      intro q hq e
      have e := of_decide_eq_true e
      rw [List.map_cons, List.nodup_append] at nd
      exact nd.2.2 q hq _ List.mem_cons_self e
    have ih := dcL_new r (fun b hb => hf b (List.mem_cons_of_mem _ hb)) (ks ++ [(g a).1]) (ts ++ [(g a).2]) (by simpa using nd)
    rw [List.map_cons]
    simp only [dcL, hf a List.mem_cons_self, R.bind_ok]
    rw [show putD (g a).1 (g a).2 ks ts = (ks ++ [(g a).1], ts ++ [(g a).2]) by unfold putD; rw [if_neg (by rw [na]; decide)]]
    rw [ih]
    simp
/-- written words -/
theorem ofS_tl (a : String) : (Str.ofString a).cps.toList = a.toList.map Char.toNat := by
  rw [Str.ofString_eq_toList]
theorem ofS_inj {a b : String} : Str.ofString a = Str.ofString b ↔ a = b := by
  constructor
  · intro e
    have e1 := congrArg (fun x : Str => x.cps.toList) e
    simp only [ofS_tl] at e1
    have inj : ∀ (xs ys : List Char), xs.map Char.toNat = ys.map Char.toNat → xs = ys := by
      intro xs
      induction xs with
      | nil => intro ys h; cases ys with
        | nil => rfl
        | cons _ _ => simp at h
      | cons x xs ih =>
        intro ys h
        cases ys with
        | nil => simp at h
        | cons y ys =>
          simp only [List.map_cons, List.cons.injEq] at h
          have : x = y := Char.toNat_inj.mp h.1
          rw [this, ih ys h.2]
    exact String.toList_inj.mp (inj _ _ e1)
  · intro e
    rw [e]
theorem ofS_ok (a : String) : PyData.strOk (Str.ofString a) = true := by
  show (Str.ofString a).cps.all (· < 0x110000) = true
  rw [← Array.all_toList, ofS_tl, List.all_eq_true]
  intro c hc
  obtain ⟨x, hx, rfl⟩ := List.mem_map.mp hc
  have := x.valid
  simp only [decide_eq_true_eq]
  show x.val.toNat < 1114112
  rcases this with h | h
  · exact Nat.lt_trans h (by decide)
  · exact h.2
@[simp] theorem eqW {h : Hs} {a b : String} : eqT h (.str (Str.ofString a)) (.str (Str.ofString b)) = some (decide (a = b)) := by
  rw [eqT_str h _ _ (ofS_ok a) (ofS_ok b)]
  exact congrArg some (Bool.eq_iff_iff.mpr (by simp only [decide_eq_true_eq]; exact ofS_inj))
/-- a word in a tuple, a list of words -/
abbrev wT (w : String) : T := .str (Str.ofString w)
theorem in_words {x : T} {ws : List String} (hx : flatT x = true) : (ws.map wT).all flatT = true := by
  rw [List.all_map, List.all_eq_true]
  intro a _
  rfl
theorem eqF_wT (a b : String) : eqF (wT a) (wT b) = decide (a = b) := by
  show decide (Str.ofString a = Str.ofString b) = _
  exact Bool.eq_iff_iff.mpr (by simp only [decide_eq_true_eq]; exact ofS_inj)
theorem inW_tup {h : Hs} {w : String} {ws : List String} : inT h (wT w) (.tup (ws.map wT)) = some (decide (w ∈ ws)) := by
  show (if flatT (wT w) && (ws.map wT).all flatT then some ((ws.map wT).any fun y => eqF y (wT w)) else none) = _
  rw [if_pos (by rw [in_words (x := wT w) rfl]; rfl)]
  congr 1
  rw [List.any_map, Bool.eq_iff_iff, List.any_eq_true, decide_eq_true_eq]
  constructor
  · rintro ⟨a, ha, e⟩
    have : decide (a = w) = true := by rw [← eqF_wT]; exact e
    rw [← of_decide_eq_true this]
    exact ha
  · intro m
    exact ⟨w, m, by show eqF (wT w) (wT w) = true; rw [eqF_wT]; simp⟩
theorem inW_lst {h : Hs} {w : String} {ws : List String} : inT h (wT w) (.lst (ws.map wT)) = some (decide (w ∈ ws)) := by
  have e := inW_tup (h := h) (w := w) (ws := ws)
  have p : (flatT (wT w) && (ws.map wT).all flatT) = true := by rw [in_words (x := wT w) rfl]; rfl
  show (if flatT (wT w) && (ws.map wT).all flatT then some ((ws.map wT).any fun y => eqF y (wT w)) else inDeep (wT w) (ws.map wT)) = _
  rw [if_pos p]
  have e' : (if flatT (wT w) && (ws.map wT).all flatT then some ((ws.map wT).any fun y => eqF y (wT w)) else none) = some (decide (w ∈ ws)) := e
  rw [if_pos p] at e'
  exact e'
end Fp
end

section
set_option Elab.async false
set_option linter.all false
set_option maxRecDepth 10000
/-! PI: the bag that a law begins with; except clauses that go on. -/
namespace Fp
open PySem Fs
def bagS : Ss := .cons (.ret (.lstM (.cons (.int 0) (.cons (.int 1234567891) (.cons (.int 0) (.cons (.comp false (.nm 1) (.seq (.sl (.var 0) (.absent) (.int 63))) (.absent) (.bi .abs (.cons (.var 1) (.nil))) [1]) (.nil))))))) (.nil)
theorem bag_call {D : Tb} {W n f : Nat} {ns : List Int} {h : Hs} (hf : D.fns[f]? = some ⟨none, "_law_bag", 1, 2, bagS⟩) (hl : ns.length ≤ 63) : ∃ h', callN D W (n + 1) f [.scr ns] h = .ok (.ref h.length) h' ∧ Bag h' h.length := by
  have hc := cut_len ns none (some 63)
  refine ⟨h ++ [bagO 0 1234567891 0 ((cutL ns none (some 63)).map fun i => if i < 0 then -i else i)], ?_, ⟨0, 1234567891, 0, (cutL ns none (some 63)).map fun i => if i < 0 then -i else i, by simp, by decide, ?_, by rw [List.length_map]; omega⟩⟩
  · rw [callN_eq hf rfl (by decide)]
    have cc := ev_compM (D := D) (cl := callN D W n) (env := [some (T.scr ns), none]) (h := h) (h1 := h) (i := 1) (it := .seq (.sl (.var 0) (.absent) (.int 63))) (e := .bi .abs (.cons (.var 1) (.nil))) (vs := [1]) (xs := (cutL ns none (some 63)).map T.int) (g := fun x => match x with
        | .int i => .int (if i < 0 then -i else i)
        | _ => .non) (by simp [slT]) (by rw [List.length_map]; simp only [lim_eq]; omega) (fun x hx => by
          obtain ⟨i, hi, rfl⟩ := List.mem_map.mp hx
          simp [wipeT])
    rw [List.map_map] at cc
    have e : (cutL ns none (some 63)).map ((fun x => match x with
        | .int i => T.int (if i < 0 then -i else i)
        | _ => .non) ∘ T.int) = ((cutL ns none (some 63)).map fun i => if i < 0 then -i else i).map T.int := by
      rw [List.map_map]
      rfl
    rw [e] at cc
    generalize ((cutL ns none (some 63)).map fun i => if i < 0 then -i else i) = cells at cc
    simp [bagS, cc, bagO]
  · intro x hx
    obtain ⟨i, hi, rfl⟩ := List.mem_map.mp hx
    split <;> omega
/-- try: f(odd); return False; except the class c0: continue -/
def oddS (f c0 v : Nat) : Ss := .cons (.tryy (.cons (.ex (.call f (.cons (.var v) (.nil)))) (.cons (.ret (.bl false)) (.nil))) (.cons [c0] none (.cons (.cont) (.nil)) (.nil))) (.nil)
theorem odd_step {D : Tb} {W n f c0 v : Nat} {env : En} {h : Hs} {t : T} (hv : env[v]? = some (some t)) (hc : isExc D c0 [c0] = true) (e : callN D W n f [t] h = .exc c0 [] h) : evSs D W (callN D W n) (oddS f c0 v) env h = .cont env h := by
  unfold oddS
  rw [evSs_cons, try_exc (c := c0) (xs := []) (env1 := env) (h1 := h) (by simp [hv, e]) hc]
  simp [SR.offName]
theorem odd_loop {D : Tb} {W n f c0 v : Nat} {h : Hs} (hc : isExc D c0 [c0] = true) : ∀ (L : List T) (env : En), (∀ t ∈ L, callN D W n f [t] h = .exc c0 [] h) → v < env.length →
    ∃ o, forL (.nm v) (fun env2 h2 => evSs D W (callN D W n) (oddS f c0 v) env2 h2) L env h = .nx (env.set v o) h
  | [], env, _, hv => ⟨env[v], by rw [List.set_getElem_self]; rfl⟩
  | t :: L, env, ht, hv => by
    obtain ⟨o, e⟩ := odd_loop (n := n) (f := f) hc L (env.set v (some t)) (fun s hs => ht s (List.mem_cons_of_mem _ hs)) (by simpa using hv)
    refine ⟨o, ?_⟩
    rw [forL_cont (env2 := env.set v (some t)) (h2 := h) (odd_step (by simp [hv]) hc (ht t List.mem_cons_self)), e, List.set_set]
end Fp
end

section
set_option Elab.async false
set_option linter.all false
set_option maxRecDepth 100000
/-! Gt: defs that many laws share, wherever they stand in a law's table (printed by print_fs.py). -/
namespace Gt
open PySem Fs
structure Ix where
  f_is_number : Nat
  f_is_between : Nat
  f_is_name : Nat
  f_is_sized : Nat
  f_is_tuple_of : Nat
  f_is_worded : Nat
  f_is_expr : Nat
  f_is_test : Nat
  f_is_body : Nat
  f_is_statement : Nat
  f_is_named_number : Nat
  f_is_tracker : Nat
  f_is_claim : Nat
  f_are_claims : Nat
  f_bodies_in : Nat
  f_in_order : Nat
  f_blocks_deep : Nat
  f_inner : Nat
  f_deep : Nat
  f_plain_parts : Nat
  f_exprs_in : Nat
  f_check_sizes : Nat
  f_check_names : Nat
  f_does_ask_come : Nat
  f_numbered : Nat
  f_check_limits : Nat
  f_checked_tracker : Nat
  f_checked_text : Nat
  f__law_take : Nat
  f__law_some : Nat
  f__law_any_expr : Nat
  f__law_any_test : Nat
  f__law_any_body : Nat
  f__law_claim : Nat
  f__law_any_text : Nat
  g_MOST_LETTERS : Nat
  g_LETTERS : Nat
  g_RESERVED : Nat
  g_DIGITS : Nat
  g_MOST_NUMBER : Nat
  g_PAIRS : Nat
  g_MOST_COUNT : Nat
  g_MOST_SLOTS : Nat
  g_MOST_NUMBERS : Nat
  g_MOST_PERIOD : Nat
  g_WHENS : Nat
  g_MOST_FACTOR : Nat
  g_MOST_BOUND : Nat
  g_MOST_SHARE : Nat
  g_MOST_CLAIMS : Nat
  g_MOST_DEEP : Nat
  g_MOST_TESTS : Nat
  g_MOST_PARTS : Nat
  g_COME : Nat
  g_MOST_LINES : Nat
  g_MOST_BLOCKS : Nat
  c_TooLarge : Nat
  c_BadKind : Nat
  c_Nothing : Nat
/-- is_number: 0 thing -/
def b_is_number (x : Ix) : Ss := .cons (.ret (.andv (.cons (.bi (.isinst .int) (.cons (.var 0) .nil)) (.cons (.nott (.bi (.isinst .bl) (.cons (.var 0) .nil))) (.nil))))) (
.nil)
/-- is_between: 0 thing, 1 low, 2 high -/
def b_is_between (x : Ix) : Ss := .cons (.ret (.andv (.cons (.call x.f_is_number (.cons (.var 0) (.nil))) (.cons (.cmp2 .le .le (.var 1) (.var 0) (.var 2)) (.nil))))) (
.nil)
/-- is_name: 0 thing, 1 sign -/
def b_is_name (x : Ix) : Ss := .cons (.ifs (.orv (.cons (.nott (.bi (.isinst .str) (.cons (.var 0) .nil))) (.cons (.nott (.cmp2 .le .le (.int 1) (.bi .len (.cons (.var 0) (.nil))) (.glob x.g_MOST_LETTERS))) (.cons (.cmp .nin (.ix (.var 0) (.int 0)) (.glob x.g_LETTERS)) (.nil))))) (.cons (.ret (.bl false)) (
.nil)) (.nil)) (
.cons (.ret (.andv (.cons (.cmp .nin (.var 0) (.glob x.g_RESERVED)) (.cons (.bi .all (.cons (.comp false (.nm 1) (.seq (.var 0)) (.absent) (.cmp .inn (.var 1) (.bin .add (.glob x.g_LETTERS) (.glob x.g_DIGITS))) [1]) (.nil))) (.nil))))) (
.nil))
/-- is_sized: 0 thing, 1 many -/
def b_is_sized (x : Ix) : Ss := .cons (.ret (.andv (.cons (.bi (.isinst .tup) (.cons (.var 0) .nil)) (.cons (.cmp .eq (.bi .len (.cons (.var 0) (.nil))) (.var 1)) (.nil))))) (
.nil)
/-- is_tuple_of: 0 thing, 1 is_one, 2 one -/
def b_is_tuple_of (x : Ix) : Ss := .cons (.ret (.andv (.cons (.bi (.isinst .tup) (.cons (.var 0) .nil)) (.cons (.bi .all (.cons (.comp false (.nm 2) (.seq (.var 0)) (.absent) (.callV 1 (.cons (.var 2) (.nil))) [2]) (.nil))) (.nil))))) (
.nil)
/-- is_worded: 0 thing, 1 words -/
def b_is_worded (x : Ix) : Ss := .cons (.ret (.andv (.cons (.bi (.isinst .tup) (.cons (.var 0) .nil)) (.cons (.cmp .ne (.var 0) (.tup (.nil))) (.cons (.bi (.isinst .str) (.cons (.ix (.var 0) (.int 0)) .nil)) (.cons (.cmp .inn (.ix (.var 0) (.int 0)) (.var 1)) (.nil))))))) (
.nil)
/-- is_expr: 0 thing -/
def b_is_expr (x : Ix) : Ss := .cons (.ifs (.call x.f_is_worded (.cons (.var 0) (.cons (.tup (.cons (.str "number") (.nil))) (.nil)))) (.cons (.ret (.andv (.cons (.cmp .eq (.bi .len (.cons (.var 0) (.nil))) (.int 2)) (.cons (.call x.f_is_between (.cons (.ix (.var 0) (.int 1)) (.cons (.int 0) (.cons (.glob x.g_MOST_NUMBER) (.nil))))) (.nil))))) (
.nil)) (.nil)) (
.cons (.ifs (.call x.f_is_worded (.cons (.var 0) (.cons (.tup (.cons (.str "its") (.cons (.str "least") (.cons (.str "most") (.nil))))) (.nil)))) (.cons (.ret (.cmp .eq (.bi .len (.cons (.var 0) (.nil))) (.int 1))) (
.nil)) (.nil)) (
.cons (.ifs (.call x.f_is_worded (.cons (.var 0) (.cons (.tup (.cons (.str "name") (.nil))) (.nil)))) (.cons (.ret (.andv (.cons (.cmp .eq (.bi .len (.cons (.var 0) (.nil))) (.int 2)) (.cons (.call x.f_is_name (.cons (.ix (.var 0) (.int 1)) (.nil))) (.nil))))) (
.nil)) (.nil)) (
.cons (.ret (.andv (.cons (.call x.f_is_worded (.cons (.var 0) (.cons (.glob x.g_PAIRS) (.nil)))) (.cons (.cmp .eq (.bi .len (.cons (.var 0) (.nil))) (.int 3)) (.cons (.call x.f_is_expr (.cons (.ix (.var 0) (.int 1)) (.nil))) (.cons (.call x.f_is_expr (.cons (.ix (.var 0) (.int 2)) (.nil))) (.nil))))))) (
.nil))))
/-- is_test: 0 thing -/
def b_is_test (x : Ix) : Ss := .cons (.ifs (.call x.f_is_worded (.cons (.var 0) (.cons (.tup (.cons (.str "below") (.cons (.str "same") (.nil)))) (.nil)))) (.cons (.ret (.andv (.cons (.cmp .eq (.bi .len (.cons (.var 0) (.nil))) (.int 3)) (.cons (.call x.f_is_expr (.cons (.ix (.var 0) (.int 1)) (.nil))) (.cons (.call x.f_is_expr (.cons (.ix (.var 0) (.int 2)) (.nil))) (.nil)))))) (
.nil)) (.nil)) (
.cons (.ifs (.call x.f_is_worded (.cons (.var 0) (.cons (.tup (.cons (.str "full") (.cons (.str "known") (.nil)))) (.nil)))) (.cons (.ret (.cmp .eq (.bi .len (.cons (.var 0) (.nil))) (.int 1))) (
.nil)) (.nil)) (
.cons (.ifs (.call x.f_is_worded (.cons (.var 0) (.cons (.tup (.cons (.str "not") (.nil))) (.nil)))) (.cons (.ret (.andv (.cons (.cmp .eq (.bi .len (.cons (.var 0) (.nil))) (.int 2)) (.cons (.call x.f_is_test (.cons (.ix (.var 0) (.int 1)) (.nil))) (.nil))))) (
.nil)) (.nil)) (
.cons (.ret (.andv (.cons (.call x.f_is_worded (.cons (.var 0) (.cons (.tup (.cons (.str "and") (.cons (.str "or") (.nil)))) (.nil)))) (.cons (.cmp .eq (.bi .len (.cons (.var 0) (.nil))) (.int 3)) (.cons (.call x.f_is_test (.cons (.ix (.var 0) (.int 1)) (.nil))) (.cons (.call x.f_is_test (.cons (.ix (.var 0) (.int 2)) (.nil))) (.nil))))))) (
.nil))))
/-- is_statement: 0 thing -/
def b_is_statement (x : Ix) : Ss := .cons (.ifs (.call x.f_is_worded (.cons (.var 0) (.cons (.tup (.cons (.str "put") (.cons (.str "oust") (.cons (.str "count") (.cons (.str "visitall") (.nil)))))) (.nil)))) (.cons (.ret (.andv (.cons (.cmp .eq (.bi .len (.cons (.var 0) (.nil))) (.int 2)) (.cons (.call x.f_is_expr (.cons (.ix (.var 0) (.int 1)) (.nil))) (.nil))))) (
.nil)) (.nil)) (
.cons (.ifs (.call x.f_is_worded (.cons (.var 0) (.cons (.tup (.cons (.str "free") (.cons (.str "halve") (.cons (.str "clear") (.cons (.str "visit") (.nil)))))) (.nil)))) (.cons (.ret (.cmp .eq (.bi .len (.cons (.var 0) (.nil))) (.int 1))) (
.nil)) (.nil)) (
.cons (.ifs (.call x.f_is_worded (.cons (.var 0) (.cons (.tup (.cons (.str "lower") (.nil))) (.nil)))) (.cons (.ret (.andv (.cons (.cmp .eq (.bi .len (.cons (.var 0) (.nil))) (.int 3)) (.cons (.call x.f_is_expr (.cons (.ix (.var 0) (.int 1)) (.nil))) (.cons (.call x.f_is_between (.cons (.ix (.var 0) (.int 2)) (.cons (.int 0) (.cons (.int 1) (.nil))))) (.nil)))))) (
.nil)) (.nil)) (
.cons (.ifs (.call x.f_is_worded (.cons (.var 0) (.cons (.tup (.cons (.str "set") (.nil))) (.nil)))) (.cons (.ret (.andv (.cons (.cmp .eq (.bi .len (.cons (.var 0) (.nil))) (.int 3)) (.cons (.call x.f_is_name (.cons (.ix (.var 0) (.int 1)) (.nil))) (.cons (.call x.f_is_expr (.cons (.ix (.var 0) (.int 2)) (.nil))) (.nil)))))) (
.nil)) (.nil)) (
.cons (.ifs (.orv (.cons (.nott (.call x.f_is_worded (.cons (.var 0) (.cons (.tup (.cons (.str "if") (.nil))) (.nil))))) (.cons (.cmp .ne (.bi .len (.cons (.var 0) (.nil))) (.int 4)) (.nil)))) (.cons (.ret (.bl false)) (
.nil)) (.nil)) (
.cons (.ret (.andv (.cons (.call x.f_is_test (.cons (.ix (.var 0) (.int 1)) (.nil))) (.cons (.call x.f_is_body (.cons (.ix (.var 0) (.int 2)) (.nil))) (.cons (.call x.f_is_body (.cons (.ix (.var 0) (.int 3)) (.nil))) (.nil)))))) (
.nil))))))
/-- is_body: 0 thing -/
def b_is_body (x : Ix) : Ss := .cons (.ret (.call x.f_is_tuple_of (.cons (.var 0) (.cons (.fnv x.f_is_statement) (.nil))))) (
.nil)
/-- is_named_number: 0 thing -/
def b_is_named_number (x : Ix) : Ss := .cons (.ifs (.orv (.cons (.nott (.call x.f_is_sized (.cons (.var 0) (.cons (.int 3) (.nil))))) (.cons (.nott (.call x.f_is_name (.cons (.ix (.var 0) (.int 0)) (.nil)))) (.cons (.nott (.call x.f_is_between (.cons (.ix (.var 0) (.int 1)) (.cons (.int 0) (.cons (.glob x.g_MOST_COUNT) (.nil)))))) (.nil))))) (.cons (.ret (.bl false)) (
.nil)) (.nil)) (
.cons (.ret (.call x.f_is_between (.cons (.ix (.var 0) (.int 2)) (.cons (.int 0) (.cons (.ix (.var 0) (.int 1)) (.nil)))))) (
.nil))
/-- is_tracker: 0 thing, 1 slots, 2 most, 3 numbers, 4 came, 5 period, 6 turn, 7 one -/
def b_is_tracker (x : Ix) : Ss := .cons (.ifs (.orv (.cons (.nott (.call x.f_is_sized (.cons (.var 0) (.cons (.int 6) (.nil))))) (.cons (.nott (.call x.f_is_between (.cons (.ix (.var 0) (.int 0)) (.cons (.int 1) (.cons (.glob x.g_MOST_SLOTS) (.nil)))))) (.cons (.nott (.call x.f_is_between (.cons (.ix (.var 0) (.int 1)) (.cons (.int 1) (.cons (.glob x.g_MOST_COUNT) (.nil)))))) (.nil))))) (.cons (.ret (.bl false)) (
.nil)) (.nil)) (
.cons (.setT [1, 2, 3, 4, 5, 6] (.var 0)) (
.cons (.ifs (.orv (.cons (.nott (.call x.f_is_tuple_of (.cons (.var 3) (.cons (.fnv x.f_is_named_number) (.nil))))) (.cons (.cmp .gt (.bi .len (.cons (.var 3) (.nil))) (.glob x.g_MOST_NUMBERS)) (.nil)))) (.cons (.ret (.bl false)) (
.nil)) (.nil)) (
.cons (.ifs (.cmp .lt (.bi .len (.cons (.dcomp (.nm 7) (.seq (.var 3)) (.absent) (.ix (.var 7) (.int 0)) (.bl true) [7]) (.nil))) (.bi .len (.cons (.var 3) (.nil)))) (.cons (.ret (.bl false)) (
.nil)) (.nil)) (
.cons (.ret (.andv (.cons (.call x.f_is_body (.cons (.var 4) (.nil))) (.cons (.call x.f_is_between (.cons (.var 5) (.cons (.int 0) (.cons (.glob x.g_MOST_PERIOD) (.nil))))) (.cons (.call x.f_is_body (.cons (.var 6) (.nil))) (.nil)))))) (
.nil)))))
/-- is_claim: 0 thing, 1 factors, 2 one -/
def b_is_claim (x : Ix) : Ss := .cons (.ifs (.call x.f_is_worded (.cons (.var 0) (.cons (.tup (.cons (.str "came") (.nil))) (.nil)))) (.cons (.ifs (.orv (.cons (.cmp .ne (.bi .len (.cons (.var 0) (.nil))) (.int 6)) (.cons (.nott (.bi (.isinst .str) (.cons (.ix (.var 0) (.int 1)) .nil))) (.cons (.cmp .nin (.ix (.var 0) (.int 1)) (.glob x.g_WHENS)) (.nil))))) (.cons (.ret (.bl false)) (
.nil)) (.nil)) (
.cons (.set 1 (.bi .all (.cons (.comp false (.nm 2) (.seq (.sl (.var 0) (.int 2) (.int 5))) (.absent) (.call x.f_is_between (.cons (.var 2) (.cons (.neg (.glob x.g_MOST_FACTOR)) (.cons (.glob x.g_MOST_FACTOR) (.nil))))) [2]) (.nil)))) (
.cons (.ret (.andv (.cons (.var 1) (.cons (.call x.f_is_between (.cons (.ix (.var 0) (.int 5)) (.cons (.neg (.glob x.g_MOST_BOUND)) (.cons (.glob x.g_MOST_BOUND) (.nil))))) (.nil))))) (
.nil)))) (.nil)) (
.cons (.ifs (.orv (.cons (.nott (.call x.f_is_worded (.cons (.var 0) (.cons (.tup (.cons (.str "visits") (.nil))) (.nil))))) (.cons (.cmp .ne (.bi .len (.cons (.var 0) (.nil))) (.int 4)) (.cons (.nott (.call x.f_is_between (.cons (.ix (.var 0) (.int 1)) (.cons (.int 0) (.cons (.glob x.g_MOST_SHARE) (.nil)))))) (.nil))))) (.cons (.ret (.bl false)) (
.nil)) (.nil)) (
.cons (.ret (.andv (.cons (.call x.f_is_between (.cons (.ix (.var 0) (.int 2)) (.cons (.int 1) (.cons (.glob x.g_MOST_SHARE) (.nil))))) (.cons (.call x.f_is_between (.cons (.ix (.var 0) (.int 3)) (.cons (.int 0) (.cons (.glob x.g_MOST_BOUND) (.nil))))) (.nil))))) (
.nil)))
/-- are_claims: 0 thing -/
def b_are_claims (x : Ix) : Ss := .cons (.ret (.andv (.cons (.call x.f_is_tuple_of (.cons (.var 0) (.cons (.fnv x.f_is_claim) (.nil)))) (.cons (.cmp .le (.bi .len (.cons (.var 0) (.nil))) (.glob x.g_MOST_CLAIMS)) (.nil))))) (
.nil)
/-- bodies_in: 0 statement -/
def b_bodies_in (x : Ix) : Ss := .cons (.ret (.ite (.cmp .eq (.ix (.var 0) (.int 0)) (.str "if")) (.lstI (.cons (.ix (.var 0) (.int 2)) (.cons (.ix (.var 0) (.int 3)) (.nil)))) (.lstI (.nil)))) (
.nil)
/-- in_order: 0 body, 1 found, 2 statement, 3 some -/
def b_in_order (x : Ix) : Ss := .cons (.set 1 (.lstM (.nil))) (
.cons (.for_ (.nm 2) (.seq (.var 0)) (.cons (.ex (.bm .append (.var 1) (.cons (.var 2) (.nil)))) (
.cons (.for_ (.nm 3) (.seq (.call x.f_bodies_in (.cons (.var 2) (.nil)))) (.cons (.ex (.bm .extend (.var 1) (.cons (.call x.f_in_order (.cons (.var 3) (.nil))) (.nil)))) (
.nil))) (
.nil)))) (
.cons (.ret (.frz (.var 1))) (
.nil)))
/-- blocks_deep: 0 body, 1 found, 2 statement, 3 some -/
def b_blocks_deep (x : Ix) : Ss := .cons (.set 1 (.int 0)) (
.cons (.for_ (.nm 2) (.seq (.var 0)) (.cons (.for_ (.nm 3) (.seq (.call x.f_bodies_in (.cons (.var 2) (.nil)))) (.cons (.set 1 (.bi .max2 (.cons (.var 1) (.cons (.bin .add (.int 1) (.call x.f_blocks_deep (.cons (.var 3) (.nil)))) (.nil))))) (
.nil))) (
.nil))) (
.cons (.ret (.var 1)) (
.nil)))
/-- inner: 0 thing, 1 part -/
def b_inner (x : Ix) : Ss := .cons (.ret (.comp false (.nm 1) (.seq (.sl (.var 0) (.int 1) (.absent))) (.bi (.isinst .tup) (.cons (.var 1) .nil)) (.var 1) [1])) (
.nil)
/-- deep: 0 thing, 1 words, 2 part -/
def b_deep (x : Ix) : Ss := .cons (.ifs (.cmp .nin (.ix (.var 0) (.int 0)) (.var 1)) (.cons (.ret (.int 0)) (
.nil)) (.nil)) (
.cons (.ret (.bin .add (.int 1) (.bi .max1 (.cons (.comp false (.nm 2) (.seq (.call x.f_inner (.cons (.var 0) (.nil)))) (.absent) (.call x.f_deep (.cons (.var 2) (.cons (.var 1) (.nil)))) [2]) (.nil))))) (
.nil))
/-- plain_parts: 0 thing, 1 words, 2 found, 3 part -/
def b_plain_parts (x : Ix) : Ss := .cons (.ifs (.cmp .nin (.ix (.var 0) (.int 0)) (.var 1)) (.cons (.ret (.lstI (.cons (.var 0) (.nil)))) (
.nil)) (.nil)) (
.cons (.set 2 (.lstM (.nil))) (
.cons (.for_ (.nm 3) (.seq (.call x.f_inner (.cons (.var 0) (.nil)))) (.cons (.ex (.bm .extend (.var 2) (.cons (.call x.f_plain_parts (.cons (.var 3) (.cons (.var 1) (.nil)))) (.nil)))) (
.nil))) (
.cons (.ret (.frz (.var 2))) (
.nil))))
/-- exprs_in: 0 statement, 1 part, 2 found, 3 test -/
def b_exprs_in (x : Ix) : Ss := .cons (.ifs (.cmp .ne (.ix (.var 0) (.int 0)) (.str "if")) (.cons (.ret (.comp false (.nm 1) (.seq (.sl (.var 0) (.int 1) (.absent))) (.bi (.isinst .tup) (.cons (.var 1) .nil)) (.var 1) [1])) (
.nil)) (.nil)) (
.cons (.set 2 (.lstM (.nil))) (
.cons (.for_ (.nm 3) (.seq (.call x.f_plain_parts (.cons (.ix (.var 0) (.int 1)) (.cons (.tup (.cons (.str "not") (.cons (.str "and") (.cons (.str "or") (.nil))))) (.nil))))) (.cons (.ex (.bm .extend (.var 2) (.cons (.call x.f_inner (.cons (.var 3) (.nil))) (.nil)))) (
.nil))) (
.cons (.ret (.frz (.var 2))) (
.nil))))
/-- check_sizes: 0 statement, 1 expr -/
def b_check_sizes (x : Ix) : Ss := .cons (.ifs (.cmp .eq (.ix (.var 0) (.int 0)) (.str "if")) (.cons (.ifs (.cmp .gt (.call x.f_deep (.cons (.ix (.var 0) (.int 1)) (.cons (.tup (.cons (.str "not") (.cons (.str "and") (.cons (.str "or") (.nil))))) (.nil)))) (.glob x.g_MOST_DEEP)) (.cons (.rais x.c_TooLarge (.cons (.str "deep") (.cons (.glob x.g_MOST_DEEP) (.nil)))) (
.nil)) (.nil)) (
.cons (.ifs (.cmp .gt (.bi .len (.cons (.call x.f_plain_parts (.cons (.ix (.var 0) (.int 1)) (.cons (.tup (.cons (.str "not") (.cons (.str "and") (.cons (.str "or") (.nil))))) (.nil)))) (.nil))) (.glob x.g_MOST_TESTS)) (.cons (.rais x.c_TooLarge (.cons (.str "tests") (.cons (.glob x.g_MOST_TESTS) (.nil)))) (
.nil)) (.nil)) (
.nil))) (.nil)) (
.cons (.for_ (.nm 1) (.seq (.call x.f_exprs_in (.cons (.var 0) (.nil)))) (.cons (.ifs (.cmp .gt (.call x.f_deep (.cons (.var 1) (.cons (.glob x.g_PAIRS) (.nil)))) (.glob x.g_MOST_DEEP)) (.cons (.rais x.c_TooLarge (.cons (.str "deep") (.cons (.glob x.g_MOST_DEEP) (.nil)))) (
.nil)) (.nil)) (
.cons (.ifs (.cmp .gt (.bi .len (.cons (.call x.f_plain_parts (.cons (.var 1) (.cons (.glob x.g_PAIRS) (.nil)))) (.nil))) (.glob x.g_MOST_PARTS)) (.cons (.rais x.c_TooLarge (.cons (.str "parts") (.cons (.glob x.g_MOST_PARTS) (.nil)))) (
.nil)) (.nil)) (
.nil)))) (
.nil))
/-- check_names: 0 where, 1 statement, 2 names, 3 expr, 4 part -/
def b_check_names (x : Ix) : Ss := .cons (.ifs (.andv (.cons (.cmp .eq (.ix (.var 1) (.int 0)) (.str "set")) (.cons (.cmp .nin (.ix (.var 1) (.int 1)) (.var 2)) (.nil)))) (.cons (.rais x.c_BadKind (.cons (.var 0) (.cons (.str "name") (.nil)))) (
.nil)) (.nil)) (
.cons (.for_ (.nm 3) (.seq (.call x.f_exprs_in (.cons (.var 1) (.nil)))) (.cons (.for_ (.nm 4) (.seq (.call x.f_plain_parts (.cons (.var 3) (.cons (.glob x.g_PAIRS) (.nil))))) (.cons (.ifs (.andv (.cons (.cmp .eq (.ix (.var 4) (.int 0)) (.str "name")) (.cons (.cmp .nin (.ix (.var 4) (.int 1)) (.var 2)) (.nil)))) (.cons (.rais x.c_BadKind (.cons (.var 0) (.cons (.str "name") (.nil)))) (
.nil)) (.nil)) (
.nil))) (
.nil))) (
.nil))
/-- does_ask_come: 0 statement, 1 expr -/
def b_does_ask_come (x : Ix) : Ss := .cons (.ifs (.cmp .inn (.ix (.var 0) (.int 0)) (.glob x.g_COME)) (.cons (.ret (.bl true)) (
.nil)) (.nil)) (
.cons (.ifs (.cmp .ne (.comp false (.nm 1) (.seq (.call x.f_exprs_in (.cons (.var 0) (.nil)))) (.cmp .inn (.tup (.cons (.str "its") (.nil))) (.call x.f_plain_parts (.cons (.var 1) (.cons (.glob x.g_PAIRS) (.nil))))) (.int 1) [1]) (.lstI (.nil))) (.cons (.ret (.bl true)) (
.nil)) (.nil)) (
.cons (.ret (.andv (.cons (.cmp .eq (.ix (.var 0) (.int 0)) (.str "if")) (.cons (.cmp .inn (.tup (.cons (.str "known") (.nil))) (.call x.f_plain_parts (.cons (.ix (.var 0) (.int 1)) (.cons (.tup (.cons (.str "not") (.cons (.str "and") (.cons (.str "or") (.nil))))) (.nil))))) (.nil))))) (
.nil)))
/-- numbered: 0 tracker -/
def b_numbered (x : Ix) : Ss := .cons (.ifs (.nott (.call x.f_is_tracker (.cons (.var 0) (.nil)))) (.cons (.rais x.c_Nothing (.nil)) (
.nil)) (.nil)) (
.cons (.ret (.bi .tuple (.cons (.bin .add (.call x.f_in_order (.cons (.ix (.var 0) (.int 3)) (.nil))) (.call x.f_in_order (.cons (.ix (.var 0) (.int 5)) (.nil)))) (.nil)))) (
.nil))
/-- check_limits: 0 tracker, 1 statements, 2 statement -/
def b_check_limits (x : Ix) : Ss := .cons (.set 1 (.call x.f_numbered (.cons (.var 0) (.nil)))) (
.cons (.ifs (.cmp .gt (.bi .len (.cons (.var 1) (.nil))) (.glob x.g_MOST_LINES)) (.cons (.rais x.c_TooLarge (.cons (.str "lines") (.cons (.glob x.g_MOST_LINES) (.nil)))) (
.nil)) (.nil)) (
.cons (.ifs (.cmp .gt (.bi .max2 (.cons (.call x.f_blocks_deep (.cons (.ix (.var 0) (.int 3)) (.nil))) (.cons (.call x.f_blocks_deep (.cons (.ix (.var 0) (.int 5)) (.nil))) (.nil)))) (.glob x.g_MOST_BLOCKS)) (.cons (.rais x.c_TooLarge (.cons (.str "blocks") (.cons (.glob x.g_MOST_BLOCKS) (.nil)))) (
.nil)) (.nil)) (
.cons (.for_ (.nm 2) (.seq (.var 1)) (.cons (.ex (.call x.f_check_sizes (.cons (.var 2) (.nil)))) (
.nil))) (
.nil))))
/-- checked_tracker: 0 thing, 1 names, 2 one, 3 number, 4 statement -/
def b_checked_tracker (x : Ix) : Ss := .cons (.ex (.call x.f_check_limits (.cons (.var 0) (.nil)))) (
.cons (.set 1 (.comp false (.nm 2) (.seq (.ix (.var 0) (.int 2))) (.absent) (.ix (.var 2) (.int 0)) [2])) (
.cons (.for_ (.tp [3, 4]) (.enum (.call x.f_in_order (.cons (.ix (.var 0) (.int 3)) (.nil)))) (.cons (.ex (.call x.f_check_names (.cons (.tup (.cons (.str "came") (.cons (.var 3) (.nil)))) (.cons (.var 4) (.cons (.var 1) (.nil)))))) (
.nil))) (
.cons (.ifs (.andv (.cons (.cmp .eq (.ix (.var 0) (.int 4)) (.int 0)) (.cons (.cmp .ne (.ix (.var 0) (.int 5)) (.tup (.nil))) (.nil)))) (.cons (.rais x.c_BadKind (.cons (.tup (.cons (.str "turn") (.cons (.int 0) (.nil)))) (.cons (.str "period") (.nil)))) (
.nil)) (.nil)) (
.cons (.for_ (.tp [3, 4]) (.enum (.call x.f_in_order (.cons (.ix (.var 0) (.int 5)) (.nil)))) (.cons (.ex (.call x.f_check_names (.cons (.tup (.cons (.str "turn") (.cons (.var 3) (.nil)))) (.cons (.var 4) (.cons (.var 1) (.nil)))))) (
.cons (.ifs (.call x.f_does_ask_come (.cons (.var 4) (.nil))) (.cons (.rais x.c_BadKind (.cons (.tup (.cons (.str "turn") (.cons (.var 3) (.nil)))) (.cons (.str "come") (.nil)))) (
.nil)) (.nil)) (
.nil)))) (
.cons (.ret (.var 0)) (
.nil))))))
/-- checked_text: 0 thing -/
def b_checked_text (x : Ix) : Ss := .cons (.ifs (.orv (.cons (.nott (.bi (.isinst .tup) (.cons (.var 0) .nil))) (.cons (.cmp .ne (.bi .len (.cons (.var 0) (.nil))) (.int 2)) (.cons (.nott (.call x.f_are_claims (.cons (.ix (.var 0) (.int 1)) (.nil)))) (.nil))))) (.cons (.rais x.c_Nothing (.nil)) (
.nil)) (.nil)) (
.cons (.ex (.call x.f_checked_tracker (.cons (.ix (.var 0) (.int 0)) (.nil)))) (
.cons (.ret (.var 0)) (
.nil)))
/-- _law_any_expr: 0 bag, 1 deep_v, 2 come, 3 way -/
def b__law_any_expr (x : Ix) : Ss := .cons (.set 3 (.ite (.cmp .gt (.var 1) (.int 0)) (.call x.f__law_take (.cons (.var 0) (.cons (.int 8) (.nil)))) (.call x.f__law_take (.cons (.var 0) (.cons (.int 4) (.nil)))))) (
.cons (.ifs (.cmp .eq (.var 3) (.int 0)) (.cons (.ret (.tup (.cons (.str "number") (.cons (.call x.f__law_some (.cons (.var 0) (.cons (.lstI (.cons (.int 0) (.cons (.int 1) (.cons (.int 7) (.cons (.int 99) (.nil)))))) (.nil)))) (.nil))))) (
.nil)) (.nil)) (
.cons (.ifs (.cmp .lt (.var 3) (.int 4)) (.cons (.ret (.call x.f__law_some (.cons (.var 0) (.cons (.bin .add (.lstI (.cons (.tup (.cons (.str "least") (.nil))) (.cons (.tup (.cons (.str "most") (.nil))) (.cons (.tup (.cons (.str "name") (.cons (.str "n1") (.nil)))) (.cons (.tup (.cons (.str "name") (.cons (.str "spill") (.nil)))) (.nil)))))) (.ite (.var 2) (.lstI (.cons (.tup (.cons (.str "its") (.nil))) (.nil))) (.lstI (.nil)))) (.nil))))) (
.nil)) (.nil)) (
.cons (.ret (.tup (.cons (.call x.f__law_some (.cons (.var 0) (.cons (.lstI (.cons (.str "plus") (.cons (.str "less") (.cons (.str "lesser") (.cons (.str "greater") (.nil)))))) (.nil)))) (.cons (.call x.f__law_any_expr (.cons (.var 0) (.cons (.bin .sub (.var 1) (.int 1)) (.cons (.var 2) (.nil))))) (.cons (.call x.f__law_any_expr (.cons (.var 0) (.cons (.bin .sub (.var 1) (.int 1)) (.cons (.var 2) (.nil))))) (.nil)))))) (
.nil))))
/-- _law_any_test: 0 bag, 1 deep_v, 2 come, 3 way -/
def b__law_any_test (x : Ix) : Ss := .cons (.set 3 (.ite (.cmp .gt (.var 1) (.int 0)) (.call x.f__law_take (.cons (.var 0) (.cons (.int 7) (.nil)))) (.call x.f__law_take (.cons (.var 0) (.cons (.int 3) (.nil)))))) (
.cons (.ifs (.cmp .lt (.var 3) (.int 2)) (.cons (.ret (.tup (.cons (.call x.f__law_some (.cons (.var 0) (.cons (.lstI (.cons (.str "below") (.cons (.str "same") (.nil)))) (.nil)))) (.cons (.call x.f__law_any_expr (.cons (.var 0) (.cons (.int 1) (.cons (.var 2) (.nil))))) (.cons (.call x.f__law_any_expr (.cons (.var 0) (.cons (.int 1) (.cons (.var 2) (.nil))))) (.nil)))))) (
.nil)) (.nil)) (
.cons (.ifs (.cmp .eq (.var 3) (.int 2)) (.cons (.ret (.ite (.var 2) (.call x.f__law_some (.cons (.var 0) (.cons (.lstI (.cons (.tup (.cons (.str "full") (.nil))) (.cons (.tup (.cons (.str "known") (.nil))) (.nil)))) (.nil)))) (.tup (.cons (.str "full") (.nil))))) (
.nil)) (.nil)) (
.cons (.ifs (.cmp .eq (.var 3) (.int 3)) (.cons (.ret (.tup (.cons (.str "not") (.cons (.call x.f__law_any_test (.cons (.var 0) (.cons (.bin .sub (.var 1) (.int 1)) (.cons (.var 2) (.nil))))) (.nil))))) (
.nil)) (.nil)) (
.cons (.ret (.tup (.cons (.call x.f__law_some (.cons (.var 0) (.cons (.lstI (.cons (.str "and") (.cons (.str "or") (.nil)))) (.nil)))) (.cons (.call x.f__law_any_test (.cons (.var 0) (.cons (.bin .sub (.var 1) (.int 1)) (.cons (.var 2) (.nil))))) (.cons (.call x.f__law_any_test (.cons (.var 0) (.cons (.bin .sub (.var 1) (.int 1)) (.cons (.var 2) (.nil))))) (.nil)))))) (
.nil)))))
/-- _law_any_body: 0 bag, 1 deep_v, 2 come, 3 found, 4 turn, 5 way -/
def b__law_any_body (x : Ix) : Ss := .cons (.set 3 (.lstM (.nil))) (
.cons (.for_ (.nm 4) (.rng (.call x.f__law_take (.cons (.var 0) (.cons (.int 4) (.nil))))) (.cons (.set 5 (.call x.f__law_take (.cons (.var 0) (.cons (.int 6) (.nil))))) (
.cons (.ifs (.andv (.cons (.cmp .eq (.var 5) (.int 0)) (.cons (.cmp .gt (.var 1) (.int 0)) (.nil)))) (.cons (.ex (.bm .append (.var 3) (.cons (.tup (.cons (.str "if") (.cons (.call x.f__law_any_test (.cons (.var 0) (.cons (.int 2) (.cons (.var 2) (.nil))))) (.cons (.call x.f__law_any_body (.cons (.var 0) (.cons (.bin .sub (.var 1) (.int 1)) (.cons (.var 2) (.nil))))) (.cons (.call x.f__law_any_body (.cons (.var 0) (.cons (.bin .sub (.var 1) (.int 1)) (.cons (.var 2) (.nil))))) (.nil)))))) (.nil)))) (
.nil)) (.cons (.ifs (.cmp .eq (.var 5) (.int 1)) (.cons (.ex (.bm .append (.var 3) (.cons (.call x.f__law_some (.cons (.var 0) (.cons (.bin .add (.lstI (.cons (.tup (.cons (.str "halve") (.nil))) (.cons (.tup (.cons (.str "clear") (.nil))) (.nil)))) (.ite (.var 2) (.lstI (.cons (.tup (.cons (.str "free") (.nil))) (.cons (.tup (.cons (.str "visit") (.nil))) (.nil)))) (.lstI (.nil)))) (.nil)))) (.nil)))) (
.nil)) (.cons (.ifs (.cmp .eq (.var 5) (.int 2)) (.cons (.ex (.bm .append (.var 3) (.cons (.tup (.cons (.str "set") (.cons (.call x.f__law_some (.cons (.var 0) (.cons (.lstI (.cons (.str "n1") (.cons (.str "spill") (.nil)))) (.nil)))) (.cons (.call x.f__law_any_expr (.cons (.var 0) (.cons (.int 2) (.cons (.var 2) (.nil))))) (.nil))))) (.nil)))) (
.nil)) (.cons (.ifs (.cmp .eq (.var 5) (.int 3)) (.cons (.ex (.bm .append (.var 3) (.cons (.tup (.cons (.str "lower") (.cons (.call x.f__law_any_expr (.cons (.var 0) (.cons (.int 1) (.cons (.var 2) (.nil))))) (.cons (.call x.f__law_take (.cons (.var 0) (.cons (.int 2) (.nil)))) (.nil))))) (.nil)))) (
.nil)) (.cons (.ex (.bm .append (.var 3) (.cons (.tup (.cons (.call x.f__law_some (.cons (.var 0) (.cons (.bin .add (.lstI (.cons (.str "visitall") (.nil))) (.ite (.var 2) (.lstI (.cons (.str "put") (.cons (.str "oust") (.cons (.str "count") (.nil))))) (.lstI (.nil)))) (.nil)))) (.cons (.call x.f__law_any_expr (.cons (.var 0) (.cons (.int 2) (.cons (.var 2) (.nil))))) (.nil)))) (.nil)))) (
.nil))) (
.nil))) (
.nil))) (
.nil))) (
.nil)))) (
.cons (.ret (.bi .tuple (.cons (.var 3) (.nil)))) (
.nil)))
/-- _law_claim: 0 bag, 1 way, 2 when -/
def b__law_claim (x : Ix) : Ss := .cons (.set 1 (.call x.f__law_take (.cons (.var 0) (.cons (.int 5) (.nil))))) (
.cons (.ifs (.cmp .eq (.var 1) (.int 0)) (.cons (.ret (.tup (.cons (.str "visits") (.cons (.call x.f__law_take (.cons (.var 0) (.cons (.int 3) (.nil)))) (.cons (.bin .add (.int 1) (.call x.f__law_take (.cons (.var 0) (.cons (.int 3) (.nil))))) (.cons (.call x.f__law_take (.cons (.var 0) (.cons (.int 4) (.nil)))) (.nil))))))) (
.nil)) (.nil)) (
.cons (.set 2 (.call x.f__law_some (.cons (.var 0) (.cons (.lstI (.cons (.str "always") (.cons (.str "in") (.cons (.str "out") (.nil))))) (.nil))))) (
.cons (.ifs (.cmp .lt (.var 1) (.int 3)) (.cons (.ret (.tup (.cons (.str "came") (.cons (.var 2) (.cons (.int 1) (.cons (.int 0) (.cons (.int 0) (.cons (.call x.f__law_take (.cons (.var 0) (.cons (.int 9) (.nil)))) (.nil))))))))) (
.nil)) (.nil)) (
.cons (.ret (.tup (.cons (.str "came") (.cons (.var 2) (.cons (.bin .sub (.call x.f__law_take (.cons (.var 0) (.cons (.int 5) (.nil)))) (.int 1)) (.cons (.bin .sub (.call x.f__law_take (.cons (.var 0) (.cons (.int 3) (.nil)))) (.int 1)) (.cons (.bin .sub (.call x.f__law_take (.cons (.var 0) (.cons (.int 4) (.nil)))) (.int 2)) (.cons (.bin .sub (.call x.f__law_take (.cons (.var 0) (.cons (.int 12) (.nil)))) (.int 2)) (.nil))))))))) (
.nil)))))
/-- _law_any_text: 0 bag, 1 numbers, 2 period, 3 turn, 4 claims, 5 lap -/
def b__law_any_text (x : Ix) : Ss := .cons (.set 1 (.tup (.cons (.tup (.cons (.str "n1") (.cons (.call x.f__law_some (.cons (.var 0) (.cons (.lstI (.cons (.int 0) (.cons (.int 9) (.cons (.int 30) (.nil))))) (.nil)))) (.cons (.int 0) (.nil))))) (.cons (.tup (.cons (.str "spill") (.cons (.int 5) (.cons (.call x.f__law_some (.cons (.var 0) (.cons (.lstI (.cons (.int 0) (.cons (.int 3) (.cons (.int 5) (.nil))))) (.nil)))) (.nil))))) (.nil))))) (
.cons (.set 2 (.call x.f__law_some (.cons (.var 0) (.cons (.lstI (.cons (.int 0) (.cons (.int 1) (.cons (.int 32) (.nil))))) (.nil))))) (
.cons (.set 3 (.ite (.cmp .gt (.var 2) (.int 0)) (.call x.f__law_any_body (.cons (.var 0) (.cons (.int 2) (.cons (.bl false) (.nil))))) (.tup (.nil)))) (
.cons (.set 4 (.bi .tuple (.cons (.comp false (.nm 5) (.rng (.call x.f__law_take (.cons (.var 0) (.cons (.int 4) (.nil))))) (.absent) (.call x.f__law_claim (.cons (.var 0) (.nil))) [5]) (.nil)))) (
.cons (.ret (.tup (.cons (.tup (.cons (.bin .add (.int 1) (.call x.f__law_take (.cons (.var 0) (.cons (.int 4) (.nil))))) (.cons (.bin .add (.int 1) (.call x.f__law_take (.cons (.var 0) (.cons (.int 30) (.nil))))) (.cons (.var 1) (.cons (.call x.f__law_any_body (.cons (.var 0) (.cons (.int 3) (.cons (.bl true) (.nil))))) (.cons (.var 2) (.cons (.var 3) (.nil)))))))) (.cons (.var 4) (.nil))))) (
.nil)))))
structure HasV (D : Tb) (x : Ix) : Prop where
  f_is_number : D.fns[x.f_is_number]? = some ⟨none, "is_number", 1, 1, b_is_number x⟩
  f_is_between : D.fns[x.f_is_between]? = some ⟨none, "is_between", 3, 3, b_is_between x⟩
  f_is_name : D.fns[x.f_is_name]? = some ⟨none, "is_name", 1, 2, b_is_name x⟩
  f_is_sized : D.fns[x.f_is_sized]? = some ⟨none, "is_sized", 2, 2, b_is_sized x⟩
  f_is_tuple_of : D.fns[x.f_is_tuple_of]? = some ⟨none, "is_tuple_of", 2, 3, b_is_tuple_of x⟩
  f_is_worded : D.fns[x.f_is_worded]? = some ⟨none, "is_worded", 2, 2, b_is_worded x⟩
  f_is_expr : D.fns[x.f_is_expr]? = some ⟨none, "is_expr", 1, 1, b_is_expr x⟩
  f_is_test : D.fns[x.f_is_test]? = some ⟨none, "is_test", 1, 1, b_is_test x⟩
  f_is_statement : D.fns[x.f_is_statement]? = some ⟨none, "is_statement", 1, 1, b_is_statement x⟩
  f_is_body : D.fns[x.f_is_body]? = some ⟨none, "is_body", 1, 1, b_is_body x⟩
  f_is_named_number : D.fns[x.f_is_named_number]? = some ⟨none, "is_named_number", 1, 1, b_is_named_number x⟩
  f_is_tracker : D.fns[x.f_is_tracker]? = some ⟨none, "is_tracker", 1, 8, b_is_tracker x⟩
  g_MOST_LETTERS : D.cns[x.g_MOST_LETTERS]? = some (("MOST_LETTERS" : Str), (.int 8 : T))
  g_LETTERS : D.cns[x.g_LETTERS]? = some (("LETTERS" : Str), (.str "abcdefghijklmnopqrstuvwxyz" : T))
  g_RESERVED : D.cns[x.g_RESERVED]? = some (("RESERVED" : Str), (.tup [.str "all", .str "always", .str "and", .str "any", .str "at", .str "below", .str "came", .str "claim", .str "clear", .str "count", .str "each", .str "else", .str "end", .str "events", .str "free", .str "full", .str "greater", .str "halve", .str "if", .str "in", .str "is", .str "its", .str "known", .str "least", .str "less", .str "lesser", .str "lower", .str "most", .str "not", .str "number", .str "of", .str "or", .str "oust", .str "out", .str "period", .str "plus", .str "put", .str "same", .str "set", .str "slots", .str "start", .str "to", .str "turn", .str "unknown", .str "visit", .str "visits", .str "whenever"] : T))
  g_DIGITS : D.cns[x.g_DIGITS]? = some (("DIGITS" : Str), (.str "0123456789" : T))
  g_MOST_NUMBER : D.cns[x.g_MOST_NUMBER]? = some (("MOST_NUMBER" : Str), (.int 99 : T))
  g_PAIRS : D.cns[x.g_PAIRS]? = some (("PAIRS" : Str), (.tup [.str "greater", .str "less", .str "lesser", .str "plus"] : T))
  g_MOST_COUNT : D.cns[x.g_MOST_COUNT]? = some (("MOST_COUNT" : Str), (.int 30 : T))
  g_MOST_SLOTS : D.cns[x.g_MOST_SLOTS]? = some (("MOST_SLOTS" : Str), (.int 4 : T))
  g_MOST_NUMBERS : D.cns[x.g_MOST_NUMBERS]? = some (("MOST_NUMBERS" : Str), (.int 2 : T))
  g_MOST_PERIOD : D.cns[x.g_MOST_PERIOD]? = some (("MOST_PERIOD" : Str), (.int 32 : T))
structure HasC (D : Tb) (x : Ix) : Prop where
  f_is_claim : D.fns[x.f_is_claim]? = some ⟨none, "is_claim", 1, 3, b_is_claim x⟩
  f_are_claims : D.fns[x.f_are_claims]? = some ⟨none, "are_claims", 1, 1, b_are_claims x⟩
  g_WHENS : D.cns[x.g_WHENS]? = some (("WHENS" : Str), (.tup [.str "always", .str "in", .str "out"] : T))
  g_MOST_FACTOR : D.cns[x.g_MOST_FACTOR]? = some (("MOST_FACTOR" : Str), (.int 9 : T))
  g_MOST_BOUND : D.cns[x.g_MOST_BOUND]? = some (("MOST_BOUND" : Str), (.int 9999 : T))
  g_MOST_SHARE : D.cns[x.g_MOST_SHARE]? = some (("MOST_SHARE" : Str), (.int 99 : T))
  g_MOST_CLAIMS : D.cns[x.g_MOST_CLAIMS]? = some (("MOST_CLAIMS" : Str), (.int 6 : T))
structure HasK (D : Tb) (x : Ix) : Prop where
  f_bodies_in : D.fns[x.f_bodies_in]? = some ⟨none, "bodies_in", 1, 1, b_bodies_in x⟩
  f_in_order : D.fns[x.f_in_order]? = some ⟨none, "in_order", 1, 4, b_in_order x⟩
  f_blocks_deep : D.fns[x.f_blocks_deep]? = some ⟨none, "blocks_deep", 1, 4, b_blocks_deep x⟩
  f_inner : D.fns[x.f_inner]? = some ⟨none, "inner", 1, 2, b_inner x⟩
  f_deep : D.fns[x.f_deep]? = some ⟨none, "deep", 2, 3, b_deep x⟩
  f_plain_parts : D.fns[x.f_plain_parts]? = some ⟨none, "plain_parts", 2, 4, b_plain_parts x⟩
  f_exprs_in : D.fns[x.f_exprs_in]? = some ⟨none, "exprs_in", 1, 4, b_exprs_in x⟩
  f_check_sizes : D.fns[x.f_check_sizes]? = some ⟨none, "check_sizes", 1, 2, b_check_sizes x⟩
  f_check_names : D.fns[x.f_check_names]? = some ⟨none, "check_names", 3, 5, b_check_names x⟩
  f_does_ask_come : D.fns[x.f_does_ask_come]? = some ⟨none, "does_ask_come", 1, 2, b_does_ask_come x⟩
  f_numbered : D.fns[x.f_numbered]? = some ⟨none, "numbered", 1, 1, b_numbered x⟩
  f_check_limits : D.fns[x.f_check_limits]? = some ⟨none, "check_limits", 1, 3, b_check_limits x⟩
  f_checked_tracker : D.fns[x.f_checked_tracker]? = some ⟨none, "checked_tracker", 1, 5, b_checked_tracker x⟩
  g_PAIRS : D.cns[x.g_PAIRS]? = some (("PAIRS" : Str), (.tup [.str "greater", .str "less", .str "lesser", .str "plus"] : T))
  g_MOST_DEEP : D.cns[x.g_MOST_DEEP]? = some (("MOST_DEEP" : Str), (.int 6 : T))
  g_MOST_TESTS : D.cns[x.g_MOST_TESTS]? = some (("MOST_TESTS" : Str), (.int 8 : T))
  g_MOST_PARTS : D.cns[x.g_MOST_PARTS]? = some (("MOST_PARTS" : Str), (.int 12 : T))
  g_COME : D.cns[x.g_COME]? = some (("COME" : Str), (.tup [.str "put", .str "oust", .str "count", .str "free", .str "visit"] : T))
  g_MOST_LINES : D.cns[x.g_MOST_LINES]? = some (("MOST_LINES" : Str), (.int 30 : T))
  g_MOST_BLOCKS : D.cns[x.g_MOST_BLOCKS]? = some (("MOST_BLOCKS" : Str), (.int 4 : T))
  c_TooLarge : ∃ nm up, D.cls[x.c_TooLarge]? = some (.exc nm ["what", "limit"] up)
  c_BadKind : ∃ nm up, D.cls[x.c_BadKind]? = some (.exc nm ["where", "fault"] up)
  c_Nothing : ∃ nm up, D.cls[x.c_Nothing]? = some (.exc nm [] up)
structure HasX (D : Tb) (x : Ix) : Prop where
  f_checked_text : D.fns[x.f_checked_text]? = some ⟨none, "checked_text", 1, 1, b_checked_text x⟩
  c_Nothing : ∃ nm up, D.cls[x.c_Nothing]? = some (.exc nm [] up)
structure HasD (D : Tb) (x : Ix) : Prop where
  f__law_any_expr : D.fns[x.f__law_any_expr]? = some ⟨none, "_law_any_expr", 3, 4, b__law_any_expr x⟩
  f__law_any_test : D.fns[x.f__law_any_test]? = some ⟨none, "_law_any_test", 3, 4, b__law_any_test x⟩
  f__law_any_body : D.fns[x.f__law_any_body]? = some ⟨none, "_law_any_body", 3, 6, b__law_any_body x⟩
structure HasT (D : Tb) (x : Ix) : Prop where
  f__law_claim : D.fns[x.f__law_claim]? = some ⟨none, "_law_claim", 1, 3, b__law_claim x⟩
  f__law_any_text : D.fns[x.f__law_any_text]? = some ⟨none, "_law_any_text", 1, 6, b__law_any_text x⟩
end Gt
end

section
set_option Elab.async false
set_option linter.all false
set_option maxRecDepth 10000
/-! G1: expressions, tests, statements as values: how they look, and that the package takes them for such. -/
namespace Gt
open PySem Fs Fp
/-- plain all through: how deep; how long repr writes -/
def Shp (d : Nat) (t : T) : Prop := ∃ X, toD t = some X ∧ Good d (szT t) X
theorem Shp.mono {d d' : Nat} {t : T} (s : Shp d t) (h : d ≤ d') : Shp d' t := by
  obtain ⟨X, e, g⟩ := s
  exact ⟨X, e, g.mono h (Nat.le_refl _)⟩
theorem Shp.tup {d : Nat} {ts : List T} (h : ∀ t ∈ ts, Shp d t) : Shp (d + 1) (.tup ts) := by
  obtain ⟨xs, e, l, a, b, c, s, f, k⟩ := good_all ts h
  refine ⟨.tuple xs, by simp [toD, e], ?_⟩
  have := good_tup (d := d) (n := szTs ts) a b c (by rw [f]; exact s) k
  simpa [szT] using this
theorem Shp.word {w : String} (h : w.toList.all (fun c => decide (c.toNat < 128)) = true) : Shp 0 (wT w) := by
  have ok : okS (Str.ofString w) := by
    unfold okS
    rw [ofS_tl]
    intro c hc
    obtain ⟨x, hx, rfl⟩ := List.mem_map.mp hc
    exact of_decide_eq_true (List.all_eq_true.mp h x hx)
  exact ⟨.str (Str.ofString w), by simp [toD], (Good.str ok).mono (Nat.le_refl _) (by simp [szT])⟩
theorem Shp.int {i : Int} (h : i.natAbs < 10 ^ 40) : Shp 0 (.int i) := by
  have hl : i.natAbs.log2 < 1920 := by
    by_cases h0 : i.natAbs = 0
    · rw [h0]; decide
    · exact (Nat.log2_lt h0).mpr (Nat.lt_of_lt_of_le h (by decide))
  refine ⟨.int i, by simp [toD], by simp [PyData.canLay0], by simp [PyData.depth], by simpa [PyData.showable] using hl, ?_, ?_⟩
  · simp only [PyData.shown, szT]
    rw [int_Sx, Sx_len]
    have := TL.numL_len (k := 40) (by decide) h
    unfold intL
    split <;> simp <;> omega
  · simp only [PyData.shown]
    rw [int_Sx]
    intro c hc
    have num : ∀ n c, c ∈ TL.numL n → c < 128 := fun n c h => by
      have := TL.numL_digits n c h
      omega
    change c ∈ intL i at hc
    unfold intL at hc
    split at hc
    · rcases List.mem_cons.mp hc with rfl | hc
      · decide
      · exact num _ _ hc
    · exact num _ _ hc
theorem tup_nil {d : Nat} {h : Hs} {ts : List T} (s : Shp d (.tup ts)) (hd : d ≤ 60) : eqT h (.tup ts) (.tup []) = some (decide (ts = [])) := by
  obtain ⟨X, e, g⟩ := s
  have z2 : toDh h (.tup []) = some (.tuple []) := by simp [toDh, toD, toDs]
  have s2 : SeqAt.shaped (.tuple []) = true := by decide
  unfold eqT
  rw [show toDh h (.tup ts) = some X from e, z2, Option.bind_some, Option.bind_some, if_pos (by rw [g.shaped (by omega), s2]; rfl)]
  simp only [toD, Option.map_eq_some_iff] at e
  obtain ⟨xs, e1, rfl⟩ := e
  cases ts with
  | nil =>
    simp only [toDs] at e1
    cases e1
    simp [PyData.eqv, PyData.eqvAll]
  | cons t r =>
    cases xs with
    | nil =>
      simp only [toDs, Option.bind_eq_some_iff] at e1
      obtain ⟨_, _, e2⟩ := e1
      simp at e2
    | cons x xs => simp [PyData.eqv, PyData.eqvAll]
@[simp] theorem fl_str {x : Str} : flatT (.str x) = true := rfl
@[simp] theorem fl_int {x : Int} : flatT (.int x) = true := rfl
@[simp] theorem eqF_W {a b : String} : eqF (.str (Str.ofString a)) (.str (Str.ofString b)) = decide (a = b) := eqF_wT a b
@[simp] theorem eqF_iW {a : Int} {b : Str} : eqF (.int a) (.str b) = false := rfl
@[simp] theorem eqF_Wi {a : Int} {b : Str} : eqF (.str b) (.int a) = false := rfl
theorem in_tup {h : Hs} {x : T} {us : List T} (hx : flatT x = true) (hu : us.all flatT = true) : inT h x (.tup us) = some (us.any fun y => eqF y x) := by
  show (if flatT x && us.all flatT then some (us.any fun y => eqF y x) else none) = _
  rw [if_pos (by rw [hx, hu]; rfl)]
theorem in_lst {h : Hs} {x : T} {us : List T} (hx : flatT x = true) (hu : us.all flatT = true) : inT h x (.lst us) = some (us.any fun y => eqF y x) := by
  show (if flatT x && us.all flatT then some (us.any fun y => eqF y x) else inDeep x us) = _
  rw [if_pos (by rw [hx, hu]; rfl)]
inductive IsX (c : Bool) : Nat → T → Prop
  | num (d : Nat) (n : Int) : 0 ≤ n → n ≤ 99 → IsX c d (.tup [wT "number", .int n])
  | lea (d : Nat) (w : String) : w = "least" ∨ w = "most" → IsX c d (.tup [wT w])
  | its (d : Nat) : c = true → IsX c d (.tup [wT "its"])
  | nam (d : Nat) (w : String) : w = "n1" ∨ w = "spill" → IsX c d (.tup [wT "name", wT w])
  | bin (d : Nat) (w : String) (a b : T) : w = "greater" ∨ w = "less" ∨ w = "lesser" ∨ w = "plus" → IsX c d a → IsX c d b → IsX c (d + 1) (.tup [wT w, a, b])
inductive IsT (c : Bool) (e : Nat) : Nat → T → Prop
  | cmp (d : Nat) (w : String) (a b : T) : w = "below" ∨ w = "same" → IsX c e a → IsX c e b → IsT c e d (.tup [wT w, a, b])
  | full (d : Nat) : IsT c e d (.tup [wT "full"])
  | known (d : Nat) : c = true → IsT c e d (.tup [wT "known"])
  | nott (d : Nat) (a : T) : IsT c e d a → IsT c e (d + 1) (.tup [wT "not", a])
  | bin (d : Nat) (w : String) (a b : T) : w = "and" ∨ w = "or" → IsT c e d a → IsT c e d b → IsT c e (d + 1) (.tup [wT w, a, b])
inductive IsS (c : Bool) (e q : Nat) : Nat → T → Prop
  | one (d : Nat) (w : String) : (w = "halve" ∨ w = "clear") ∨ (c = true ∧ (w = "free" ∨ w = "visit")) → IsS c e q d (.tup [wT w])
  | ex (d : Nat) (w : String) (a : T) : w = "visitall" ∨ (c = true ∧ (w = "put" ∨ w = "oust" ∨ w = "count")) → IsX c e a → IsS c e q d (.tup [wT w, a])
  | lower (d : Nat) (a : T) (n : Int) : IsX c e a → 0 ≤ n → n ≤ 1 → IsS c e q d (.tup [wT "lower", a, .int n])
  | set (d : Nat) (w : String) (a : T) : w = "n1" ∨ w = "spill" → IsX c e a → IsS c e q d (.tup [wT "set", wT w, a])
  | iff (d : Nat) (t : T) (b1 b2 : List T) : IsT c e q t → (∀ s ∈ b1, IsS c e q d s) → (∀ s ∈ b2, IsS c e q d s) → b1.length ≤ 3 → b2.length ≤ 3 → IsS c e q (d + 1) (.tup [wT "if", t, .tup b1, .tup b2])
theorem all2 {P : T → Prop} {a b : T} (ha : P a) (hb : P b) : ∀ t ∈ [a, b], P t := by
  intro t ht
  rcases List.mem_cons.mp ht with rfl | ht
  · exact ha
  · rcases List.mem_cons.mp ht with rfl | ht
    · exact hb
    · cases ht
theorem all1 {P : T → Prop} {a : T} (ha : P a) : ∀ t ∈ [a], P t := by
  intro t ht
  rcases List.mem_cons.mp ht with rfl | ht
  · exact ha
  · cases ht
theorem all3 {P : T → Prop} {a b c : T} (ha : P a) (hb : P b) (hc : P c) : ∀ t ∈ [a, b, c], P t := by
  intro t ht
  rcases List.mem_cons.mp ht with rfl | ht
  · exact ha
  · exact all2 hb hc t ht
theorem all4 {P : T → Prop} {a b c d : T} (ha : P a) (hb : P b) (hc : P c) (hd : P d) : ∀ t ∈ [a, b, c, d], P t := by
  intro t ht
  rcases List.mem_cons.mp ht with rfl | ht
  · exact ha
  · exact all3 hb hc hd t ht
theorem IsX.shp {c : Bool} {d : Nat} {t : T} (h : IsX c d t) : Shp (d + 1) t := by
  induction h with
  | num d n h1 h2 => exact .tup (all2 ((Shp.word (by decide)).mono (Nat.zero_le _)) ((Shp.int (by omega)).mono (Nat.zero_le _)))
  | lea d w h => rcases h with rfl | rfl <;> exact .tup (all1 ((Shp.word (by decide)).mono (Nat.zero_le _)))
  | its d h => exact .tup (all1 ((Shp.word (by decide)).mono (Nat.zero_le _)))
  | nam d w h => rcases h with rfl | rfl <;> exact .tup (all2 ((Shp.word (by decide)).mono (Nat.zero_le _)) ((Shp.word (by decide)).mono (Nat.zero_le _)))
  | bin d w a b h _ _ ih1 ih2 => rcases h with rfl | rfl | rfl | rfl <;> exact .tup (all3 ((Shp.word (by decide)).mono (Nat.zero_le _)) ih1 ih2)
theorem IsT.shp {c : Bool} {e d : Nat} {t : T} (h : IsT c e d t) : Shp (e + d + 2) t := by
  induction h with
  | cmp d w a b h h1 h2 => rcases h with rfl | rfl <;> exact .tup (all3 ((Shp.word (by decide)).mono (Nat.zero_le _)) (h1.shp.mono (by omega)) (h2.shp.mono (by omega)))
  | full d => exact .tup (all1 ((Shp.word (by decide)).mono (Nat.zero_le _)))
  | known d h => exact .tup (all1 ((Shp.word (by decide)).mono (Nat.zero_le _)))
  | nott d a _ ih => exact .tup (all2 ((Shp.word (by decide)).mono (Nat.zero_le _)) (ih.mono (by omega)))
  | bin d w a b h _ _ ih1 ih2 => rcases h with rfl | rfl <;> exact .tup (all3 ((Shp.word (by decide)).mono (Nat.zero_le _)) (ih1.mono (by omega)) (ih2.mono (by omega)))
theorem IsS.shp {c : Bool} {e q d : Nat} {t : T} (h : IsS c e q d t) : Shp (e + q + 2 * d + 3) t := by
  have z : ∀ {w : String} {k : Nat}, w.toList.all (fun c => decide (c.toNat < 128)) = true → Shp k (wT w) := fun h => (Shp.word h).mono (Nat.zero_le _)
  induction h with
  | one d w h => rcases h with (rfl | rfl) | ⟨_, rfl | rfl⟩ <;> exact .tup (all1 (z (by decide)))
  | ex d w a h h1 => rcases h with rfl | ⟨_, rfl | rfl | rfl⟩ <;> exact .tup (all2 (z (by decide)) (h1.shp.mono (by omega)))
  | lower d a n h h1 h2 => exact .tup (all3 (z (by decide)) (h.shp.mono (by omega)) ((Shp.int (by omega)).mono (Nat.zero_le _)))
  | set d w a h h1 => rcases h with rfl | rfl <;> exact .tup (all3 (z (by decide)) (z (by decide)) (h1.shp.mono (by omega)))
  | iff d t b1 b2 h h1 h2 l1 l2 ih1 ih2 => exact .tup (all4 (z (by decide)) (h.shp.mono (by omega)) ((Shp.tup ih1).mono (by omega)) ((Shp.tup ih2).mono (by omega)))
section
variable {D : Tb} {x : Ix} (H : HasV D x) {W : Nat}
include H
theorem number_ok {n : Nat} {h : Hs} {i : Int} : callN D W (n + 1) x.f_is_number [.int i] h = .ok (.bl true) h := by
  rw [callN_eq H.f_is_number rfl (by simp)]
  simp [b_is_number, Kd.is]
theorem between_ok {n : Nat} {h : Hs} {i a b : Int} : callN D W (n + 2) x.f_is_between [.int i, .int a, .int b] h = .ok (.bl (decide (a ≤ i) && decide (i ≤ b))) h := by
  rw [callN_eq H.f_is_between rfl (by simp)]
  have := number_ok H (W := W) (n := n) (h := h) (i := i)
  by_cases h1 : a ≤ i <;> simp [b_is_between, this, h1]
theorem worded_ok {n d : Nat} {h : Hs} {w : String} {r us : List T} (s : Shp d (.tup (wT w :: r))) (hd : d ≤ 60) (hu : us.all flatT = true) : callN D W (n + 1) x.f_is_worded [.tup (wT w :: r), .tup us] h = .ok (.bl (us.any fun y => eqF y (wT w))) h := by
  rw [callN_eq H.f_is_worded rfl (by simp)]
  have e := tup_nil (h := h) s hd
  have i := in_tup (h := h) (x := wT w) rfl hu
  rw [decide_eq_false (by simp)] at e
  simp [b_is_worded, Kd.is, e, i]
theorem name_ok {n : Nat} {h : Hs} {w : String} (hw : w = "n1" ∨ w = "spill") : callN D W (n + 1) x.f_is_name [wT w] h = .ok (.bl true) h := by
  obtain ⟨c, r, hl, hc, hr, hlen, hn, hi⟩ : ∃ (c : Nat) (r : List Nat), (Str.ofString w).cps.toList = c :: r ∧ isLet c = true ∧ (c :: r).all isAl = true ∧ (Str.ofString w).length = r.length + 1 ∧ r.length ≤ 7 ∧
      ∀ us : List T, (D.cns[x.g_RESERVED]?.map (·.2)) = some (.tup us) → inT h (wT w) (.tup us) = some false := by
    rcases hw with rfl | rfl
    · refine ⟨110, [49], by decide, by decide, by decide, by decide, by decide, fun us e => ?_⟩
      rw [H.g_RESERVED] at e
      cases e
      rw [in_tup rfl (by simp)]
      simp
    · refine ⟨115, [112, 105, 108, 108], by decide, by decide, by decide, by decide, by decide, fun us e => ?_⟩
      rw [H.g_RESERVED] at e
      cases e
      rw [in_tup rfl (by simp)]
      simp
  rw [callN_eq H.f_is_name rfl (by simp)]
  have hs : (Str.ofString "abcdefghijklmnopqrstuvwxyz").length + (Str.ofString "0123456789").length ≤ 1000000 := by decide
  have c1 : D.cns[x.g_LETTERS]?.map (·.2) = some (T.str (Str.ofString "abcdefghijklmnopqrstuvwxyz")) := by rw [H.g_LETTERS]; rfl
  have c2 : D.cns[x.g_DIGITS]?.map (·.2) = some (T.str (Str.ofString "0123456789")) := by rw [H.g_DIGITS]; rfl
  have c3 : D.cns[x.g_MOST_LETTERS]?.map (·.2) = some (T.int 8) := by rw [H.g_MOST_LETTERS]; rfl
  obtain ⟨us, c4⟩ : ∃ us, D.cns[x.g_RESERVED]?.map (·.2) = some (T.tup us) := by
    rw [H.g_RESERVED]
    exact ⟨_, rfl⟩
  have hr4 := hi us c4
  have cc := ev_compM (D := D) (cl := callN D W n) (env := [some (wT w), none]) (h := h) (h1 := h) (i := 1) (it := .seq (.var 0)) (e := .cmp .inn (.var 1) (.bin .add (.glob x.g_LETTERS) (.glob x.g_DIGITS))) (vs := [1]) (xs := (c :: r).map sgn) (g := fun y => .bl (isAl (sgC y))) (by simp [hl]) (by simp; omega) (fun y hy => by
    obtain ⟨z, hz, rfl⟩ := List.mem_map.mp hy
    simp [wipeT, c1, c2, hs, in_al, sgC_sgn])
  rw [List.map_map, show ((fun y => T.bl (isAl (sgC y))) ∘ sgn) = (fun c => T.bl (isAl c)) from rfl] at cc
  have b : bools ((c :: r).map fun c => T.bl (isAl c)) = some ((c :: r).map isAl) := bools_map _
  have b2 : ((c :: r).map isAl).all id = true := by rw [List.all_map]; exact hr
  have l1 : (Str.ofString w).length ≤ 1000000 := by omega
  have l2 : (1 : Int) ≤ (((Str.ofString w).length : Nat) : Int) := by omega
  have l3 : (((Str.ofString w).length : Nat) : Int) ≤ 8 := by omega
  simp only [b_is_name, evSs_cons, evS_ifs, ev_orv, evO_two, evO_one, ev_nott, ev_bi, evL_cons, evL_nil, ev_var, ev_cmp, ev_cmp2, ev_int, ev_glob, ev_ix, evS_ret, ev_andv, evA_two, evA_one, c1, c3, c4, cc]
  generalize (c :: r).map (fun c => T.bl (isAl c)) = ys at b cc ⊢
  generalize (c :: r).map isAl = bs at b b2
  simp [Kd.is, l1, l2, l3, hl, in_let, hc, hr4, cc, b, b2]
end
end Gt
end

section
set_option Elab.async false
set_option linter.all false
set_option maxRecDepth 10000
/-! G2: the package takes what is drawn for what it is. -/
namespace Gt
open PySem Fs Fp
section
variable {D : Tb} {x : Ix} (H : HasV D x) {W : Nat}
include H
theorem c_PAIRS : D.cns[x.g_PAIRS]?.map (·.2) = some (T.tup [wT "greater", wT "less", wT "lesser", wT "plus"]) := by rw [H.g_PAIRS]; rfl
theorem c_NUM : D.cns[x.g_MOST_NUMBER]?.map (·.2) = some (T.int 99) := by rw [H.g_MOST_NUMBER]; rfl
theorem expr_ok {c : Bool} {d : Nat} {t : T} (s : IsX c d t) : ∀ (n : Nat) (h : Hs), d ≤ 40 → d + 4 ≤ n → callN D W n x.f_is_expr [t] h = .ok (.bl true) h := by
  have cP := c_PAIRS H
  have cN := c_NUM H
  induction s with
  | num d i h1 h2 =>
    intro n h hd hn
    obtain ⟨n, rfl⟩ : ∃ m, n = m + 3 := ⟨n - 3, by omega⟩
    have w := fun us hu => worded_ok H (W := W) (n := n + 1) (h := h) (us := us) (IsX.num (c := c) d i h1 h2).shp (by omega) hu
    have b := between_ok H (W := W) (n := n) (h := h) (i := i) (a := 0) (b := 99)
    rw [callN_eq H.f_is_expr rfl (by simp)]
    simp [b_is_expr, w, b, cN, h1, h2]
  | lea d y hy =>
    intro n h hd hn
    obtain ⟨n, rfl⟩ : ∃ m, n = m + 3 := ⟨n - 3, by omega⟩
    have w := fun us hu => worded_ok H (W := W) (n := n + 1) (h := h) (us := us) (IsX.lea (c := c) d y hy).shp (by omega) hu
    rw [callN_eq H.f_is_expr rfl (by simp)]
    rcases hy with rfl | rfl <;> simp [b_is_expr, w]
  | its d hc =>
    intro n h hd hn
    obtain ⟨n, rfl⟩ : ∃ m, n = m + 3 := ⟨n - 3, by omega⟩
    have w := fun us hu => worded_ok H (W := W) (n := n + 1) (h := h) (us := us) (IsX.its (c := c) d hc).shp (by omega) hu
    rw [callN_eq H.f_is_expr rfl (by simp)]
    simp [b_is_expr, w]
  | nam d y hy =>
    intro n h hd hn
    obtain ⟨n, rfl⟩ : ∃ m, n = m + 3 := ⟨n - 3, by omega⟩
    have w := fun us hu => worded_ok H (W := W) (n := n + 1) (h := h) (us := us) (IsX.nam (c := c) d y hy).shp (by omega) hu
    have b := name_ok H (W := W) (n := n + 1) (h := h) hy
    rw [callN_eq H.f_is_expr rfl (by simp)]
    simp [b_is_expr, w, b]
  | bin d y a b hy sa sb iha ihb =>
    intro n h hd hn
    obtain ⟨n, rfl⟩ : ∃ m, n = m + 3 := ⟨n - 3, by omega⟩
    have w := fun us hu => worded_ok H (W := W) (n := n + 1) (h := h) (us := us) (IsX.bin (c := c) d y a b hy sa sb).shp (by omega) hu
    have ea := iha (n + 2) h (by omega) (by omega)
    have eb := ihb (n + 2) h (by omega) (by omega)
    rw [callN_eq H.f_is_expr rfl (by simp)]
    rcases hy with rfl | rfl | rfl | rfl <;> simp [b_is_expr, w, cP, ea, eb]
theorem test_ok {c : Bool} {e d : Nat} {t : T} (s : IsT c e d t) (he : e ≤ 20) : ∀ (n : Nat) (h : Hs), d ≤ 20 → e + d + 5 ≤ n → callN D W n x.f_is_test [t] h = .ok (.bl true) h := by
  induction s with
  | cmp d y a b hy sa sb =>
    intro n h hd hn
    obtain ⟨n, rfl⟩ : ∃ m, n = m + 3 := ⟨n - 3, by omega⟩
    have w := fun us hu => worded_ok H (W := W) (n := n + 1) (h := h) (us := us) (IsT.cmp (c := c) d y a b hy sa sb).shp (by omega) hu
    have ea := expr_ok H (W := W) sa (n + 2) h (by omega) (by omega)
    have eb := expr_ok H (W := W) sb (n + 2) h (by omega) (by omega)
    rw [callN_eq H.f_is_test rfl (by simp)]
    rcases hy with rfl | rfl <;> simp [b_is_test, w, ea, eb]
  | full d =>
    intro n h hd hn
    obtain ⟨n, rfl⟩ : ∃ m, n = m + 3 := ⟨n - 3, by omega⟩
    have w := fun us hu => worded_ok H (W := W) (n := n + 1) (h := h) (us := us) (IsT.full (c := c) (e := e) d).shp (by omega) hu
    rw [callN_eq H.f_is_test rfl (by simp)]
    simp [b_is_test, w]
  | known d hc =>
    intro n h hd hn
    obtain ⟨n, rfl⟩ : ∃ m, n = m + 3 := ⟨n - 3, by omega⟩
    have w := fun us hu => worded_ok H (W := W) (n := n + 1) (h := h) (us := us) (IsT.known (c := c) (e := e) d hc).shp (by omega) hu
    rw [callN_eq H.f_is_test rfl (by simp)]
    simp [b_is_test, w]
  | nott d a sa iha =>
    intro n h hd hn
    obtain ⟨n, rfl⟩ : ∃ m, n = m + 3 := ⟨n - 3, by omega⟩
    have w := fun us hu => worded_ok H (W := W) (n := n + 1) (h := h) (us := us) (IsT.nott (c := c) d a sa).shp (by omega) hu
    have ea := iha (n + 2) h (by omega) (by omega)
    rw [callN_eq H.f_is_test rfl (by simp)]
    simp [b_is_test, w, ea]
  | bin d y a b hy sa sb iha ihb =>
    intro n h hd hn
    obtain ⟨n, rfl⟩ : ∃ m, n = m + 3 := ⟨n - 3, by omega⟩
    have w := fun us hu => worded_ok H (W := W) (n := n + 1) (h := h) (us := us) (IsT.bin (c := c) d y a b hy sa sb).shp (by omega) hu
    have ea := iha (n + 2) h (by omega) (by omega)
    have eb := ihb (n + 2) h (by omega) (by omega)
    rw [callN_eq H.f_is_test rfl (by simp)]
    rcases hy with rfl | rfl <;> simp [b_is_test, w, ea, eb]
/-- a tuple of things of a kind -/
theorem tupleof_ok {n f : Nat} {h : Hs} {ts : List T} (hf : f < D.fns.length) (hl : ts.length ≤ 1000000) (e : ∀ t ∈ ts, callN D W n f [t] h = .ok (.bl true) h) : callN D W (n + 1) x.f_is_tuple_of [.tup ts, .fn f] h = .ok (.bl true) h := by
  rw [callN_eq H.f_is_tuple_of rfl (by simp)]
  have cc := ev_compM (D := D) (cl := callN D W n) (env := [some (.tup ts), some (.fn f), none]) (h := h) (h1 := h) (i := 2) (it := .seq (.var 0)) (e := .callV 1 (.cons (.var 2) (.nil))) (vs := [2]) (xs := ts) (g := fun _ => .bl true) (by simp) (by simpa using hl) (fun t ht => by
    simp [wipeT, hf, e t ht])
  have b : ∀ ts : List T, bools (ts.map fun _ => T.bl true) = some (ts.map fun _ => true) := fun ts => by
    induction ts with
    | nil => rfl
    | cons t r ih => simp only [List.map_cons, bools, ih, Option.map_some]
  have b := b ts
  simp only [b_is_tuple_of, evSs_cons, evS_ret, ev_andv, evA_two, evA_one, ev_bi, evL_cons, evL_nil, ev_var]
  generalize hm : (ts.map fun _ => T.bl true) = ys at b cc
  simp [Kd.is, cc, b]
theorem stmt_lt : x.f_is_statement < D.fns.length := (List.getElem?_eq_some_iff.mp H.f_is_statement).1
theorem named_lt : x.f_is_named_number < D.fns.length := (List.getElem?_eq_some_iff.mp H.f_is_named_number).1
theorem body_of {n : Nat} {h : Hs} {b : List T} (hl : b.length ≤ 1000) (e : ∀ s ∈ b, callN D W n x.f_is_statement [s] h = .ok (.bl true) h) : callN D W (n + 2) x.f_is_body [.tup b] h = .ok (.bl true) h := by
  rw [callN_eq H.f_is_body rfl (by simp)]
  have := tupleof_ok H (W := W) (n := n) (f := x.f_is_statement) (h := h) (ts := b) (stmt_lt H) (by omega) e
  simp [b_is_body, this]
theorem stmt_ok {c : Bool} {e q d : Nat} {t : T} (s : IsS c e q d t) (he : e ≤ 12) (hq : q ≤ 12) : ∀ (n : Nat) (h : Hs), d ≤ 12 → e + q + 3 * d + 6 ≤ n → callN D W n x.f_is_statement [t] h = .ok (.bl true) h := by
  induction s with
  | one d y hy =>
    intro n h hd hn
    obtain ⟨n, rfl⟩ : ∃ m, n = m + 3 := ⟨n - 3, by omega⟩
    have w := fun us hu => worded_ok H (W := W) (n := n + 1) (h := h) (us := us) (IsS.one (c := c) (e := e) (q := q) d y hy).shp (by omega) hu
    rw [callN_eq H.f_is_statement rfl (by simp)]
    rcases hy with (rfl | rfl) | ⟨_, rfl | rfl⟩ <;> simp [b_is_statement, w]
  | ex d y a hy sa =>
    intro n h hd hn
    obtain ⟨n, rfl⟩ : ∃ m, n = m + 3 := ⟨n - 3, by omega⟩
    have w := fun us hu => worded_ok H (W := W) (n := n + 1) (h := h) (us := us) (IsS.ex (c := c) (e := e) (q := q) d y a hy sa).shp (by omega) hu
    have ea := expr_ok H (W := W) sa (n + 2) h (by omega) (by omega)
    rw [callN_eq H.f_is_statement rfl (by simp)]
    rcases hy with rfl | ⟨_, rfl | rfl | rfl⟩ <;> simp [b_is_statement, w, ea]
  | lower d a i sa h1 h2 =>
    intro n h hd hn
    obtain ⟨n, rfl⟩ : ∃ m, n = m + 3 := ⟨n - 3, by omega⟩
    have w := fun us hu => worded_ok H (W := W) (n := n + 1) (h := h) (us := us) (IsS.lower (c := c) (e := e) (q := q) d a i sa h1 h2).shp (by omega) hu
    have ea := expr_ok H (W := W) sa (n + 2) h (by omega) (by omega)
    have b := between_ok H (W := W) (n := n) (h := h) (i := i) (a := 0) (b := 1)
    rw [callN_eq H.f_is_statement rfl (by simp)]
    simp [b_is_statement, w, ea, b, h1, h2]
  | set d y a hy sa =>
    intro n h hd hn
    obtain ⟨n, rfl⟩ : ∃ m, n = m + 3 := ⟨n - 3, by omega⟩
    have w := fun us hu => worded_ok H (W := W) (n := n + 1) (h := h) (us := us) (IsS.set (c := c) (e := e) (q := q) d y a hy sa).shp (by omega) hu
    have ea := expr_ok H (W := W) sa (n + 2) h (by omega) (by omega)
    have b := name_ok H (W := W) (n := n + 1) (h := h) hy
    rw [callN_eq H.f_is_statement rfl (by simp)]
    simp [b_is_statement, w, ea, b]
  | iff d t b1 b2 st s1 s2 l1 l2 ih1 ih2 =>
    intro n h hd hn
    obtain ⟨n, rfl⟩ : ∃ m, n = m + 3 := ⟨n - 3, by omega⟩
    have w := fun us hu => worded_ok H (W := W) (n := n + 1) (h := h) (us := us) (IsS.iff (c := c) (e := e) (q := q) d t b1 b2 st s1 s2 l1 l2).shp (by omega) hu
    have et := test_ok H (W := W) st (by omega) (n + 2) h (by omega) (by omega)
    have eb1 := body_of H (W := W) (n := n) (h := h) (b := b1) (by omega) fun s hs => ih1 s hs n h (by omega) (by omega)
    have eb2 := body_of H (W := W) (n := n) (h := h) (b := b2) (by omega) fun s hs => ih2 s hs n h (by omega) (by omega)
    rw [callN_eq H.f_is_statement rfl (by simp)]
    simp [b_is_statement, w, et, eb1, eb2]
/-- a tracker as drawn -/
structure IsTr (c1 c2 : Bool) (e q d : Nat) (slots most period : Int) (nums : List (String × Int × Int)) (came turn : List T) : Prop where
  sl : 1 ≤ slots ∧ slots ≤ 4
  mo : 1 ≤ most ∧ most ≤ 30
  pe : 0 ≤ period ∧ period ≤ 32
  nu : nums.length ≤ 2 ∧ (nums.map (·.1)).Nodup ∧ ∀ y ∈ nums, (y.1 = "n1" ∨ y.1 = "spill") ∧ (0 ≤ y.2.1 ∧ y.2.1 ≤ 30) ∧ (0 ≤ y.2.2 ∧ y.2.2 ≤ y.2.1)
  ca : (∀ s ∈ came, IsS c1 e q d s) ∧ came.length ≤ 50
  tu : (∀ s ∈ turn, IsS c2 e q d s) ∧ turn.length ≤ 50
def numT (y : String × Int × Int) : T := .tup [wT y.1, .int y.2.1, .int y.2.2]
def trT (slots most period : Int) (nums : List (String × Int × Int)) (came turn : List T) : T := .tup [.int slots, .int most, .tup (nums.map numT), .tup came, .int period, .tup turn]
theorem sized_ok {n : Nat} {h : Hs} {ts : List T} {m : Int} : callN D W (n + 1) x.f_is_sized [.tup ts, .int m] h = .ok (.bl (decide ((ts.length : Int) = m))) h := by
  rw [callN_eq H.f_is_sized rfl (by simp)]
  simp [b_is_sized, Kd.is]
theorem named_ok {n : Nat} {h : Hs} {y : String × Int × Int} (h1 : y.1 = "n1" ∨ y.1 = "spill") (h2 : 0 ≤ y.2.1 ∧ y.2.1 ≤ 30) (h3 : 0 ≤ y.2.2 ∧ y.2.2 ≤ y.2.1) : callN D W (n + 3) x.f_is_named_number [numT y] h = .ok (.bl true) h := by
  rw [callN_eq H.f_is_named_number rfl (by simp)]
  have cC : D.cns[x.g_MOST_COUNT]?.map (·.2) = some (T.int 30) := by rw [H.g_MOST_COUNT]; rfl
  have a := sized_ok H (W := W) (n := n + 1) (h := h) (ts := [wT y.1, .int y.2.1, .int y.2.2]) (m := 3)
  have b := name_ok H (W := W) (n := n + 1) (h := h) h1
  have c := between_ok H (W := W) (n := n) (h := h) (i := y.2.1) (a := 0) (b := 30)
  have d := between_ok H (W := W) (n := n) (h := h) (i := y.2.2) (a := 0) (b := y.2.1)
  simp [b_is_named_number, numT, a, b, c, d, cC, h2, h3]
theorem tracker_ok {c1 c2 : Bool} {e q d : Nat} {slots most period : Int} {nums : List (String × Int × Int)} {came turn : List T} (s : IsTr c1 c2 e q d slots most period nums came turn) (he : e ≤ 12) (hq : q ≤ 12) (hd : d ≤ 12) {n : Nat} {h : Hs} (hn : e + q + 3 * d + 9 ≤ n) :
    callN D W n x.f_is_tracker [trT slots most period nums came turn] h = .ok (.bl true) h := by
  obtain ⟨n, rfl⟩ : ∃ m, n = m + 5 := ⟨n - 5, by omega⟩
  rw [callN_eq H.f_is_tracker rfl (by simp)]
  have k1 : D.cns[x.g_MOST_SLOTS]?.map (·.2) = some (T.int 4) := by rw [H.g_MOST_SLOTS]; rfl
  have k2 : D.cns[x.g_MOST_COUNT]?.map (·.2) = some (T.int 30) := by rw [H.g_MOST_COUNT]; rfl
  have k3 : D.cns[x.g_MOST_NUMBERS]?.map (·.2) = some (T.int 2) := by rw [H.g_MOST_NUMBERS]; rfl
  have k4 : D.cns[x.g_MOST_PERIOD]?.map (·.2) = some (T.int 32) := by rw [H.g_MOST_PERIOD]; rfl
  have a := sized_ok H (W := W) (n := n + 3) (h := h) (ts := [.int slots, .int most, .tup (nums.map numT), .tup came, .int period, .tup turn]) (m := 6)
  have b1 := between_ok H (W := W) (n := n + 2) (h := h) (i := slots) (a := 1) (b := 4)
  have b2 := between_ok H (W := W) (n := n + 2) (h := h) (i := most) (a := 1) (b := 30)
  have b3 := between_ok H (W := W) (n := n + 2) (h := h) (i := period) (a := 0) (b := 32)
  have nn := tupleof_ok H (W := W) (n := n + 3) (f := x.f_is_named_number) (h := h) (ts := nums.map numT) (named_lt H) (by have := s.nu.1; simp; omega) fun t ht => by
    obtain ⟨y, hy, rfl⟩ := List.mem_map.mp ht
    obtain ⟨z1, z2, z3⟩ := s.nu.2.2 y hy
    exact named_ok H z1 z2 z3
  have bc := body_of H (W := W) (n := n + 2) (h := h) (b := came) (by have := s.ca.2; omega) fun t ht => stmt_ok H (s.ca.1 t ht) he hq (n + 2) h hd (by omega)
  have bt := body_of H (W := W) (n := n + 2) (h := h) (b := turn) (by have := s.tu.2; omega) fun t ht => stmt_ok H (s.tu.1 t ht) he hq (n + 2) h hd (by omega)
  have ln : ¬ (2 : Int) < (nums.length : Int) := by have := s.nu.1; omega
  have dc : (ev D (callN D W (n + 4)) (.dcomp (.nm 7) (.seq (.var 3)) (.absent) (.ix (.var 7) (.int 0)) (.bl true) [7]) [some (trT slots most period nums came turn), some (.int slots), some (.int most), some (.tup (nums.map numT)), some (.tup came), some (.int period), some (.tup turn), none] h).v = .ok (.dct (nums.map fun y => .inr (Str.ofString y.1)) (nums.map fun _ => .bl true)) h := by
    rw [ev_dcompE]
    have it : evI D (callN D W (n + 4)) (.seq (.var 3)) [some (trT slots most period nums came turn), some (.int slots), some (.int most), some (.tup (nums.map numT)), some (.tup came), some (.int period), some (.tup turn), none] h = .ok (nums.map numT) h := by simp
    have l2 : (nums.map numT).length ≤ lim := by have := s.nu.1; simp; omega
    have dd := dcL_new (f := dcBody D (callN D W (n + 4)) 7 .absent (.ix (.var 7) (.int 0)) (.bl true) [7] [some (trT slots most period nums came turn), some (.int slots), some (.int most), some (.tup (nums.map numT)), some (.tup came), some (.int period), some (.tup turn), none]) (h := h) (t := numT) (g := fun y => (.inr (Str.ofString y.1), .bl true)) nums (fun y hy => by
      simp [dcBody, numT, wipeT, keyT]) [] [] (by
      rw [List.nil_append]
      have := s.nu.2.1
      rw [show (nums.map fun y => (Sum.inr (Str.ofString y.1) : L2.Key)) = (nums.map (·.1)).map (fun w => Sum.inr (Str.ofString w)) by rw [List.map_map]; rfl]
      exact (List.pairwise_map.mpr (this.imp fun hne e => hne (ofS_inj.mp (Sum.inr.inj e)))))
    rw [it, R.bind_ok, if_pos l2, dd]
    rfl
  unfold trT at dc
  simp [b_is_tracker, trT, a, b1, b2, b3, k1, k2, k3, k4, nn, bc, bt, ln, dc, s.sl, s.mo, s.pe, bindG, bindTs, lenT]
end
end Gt
end

section
set_option Elab.async false
set_option linter.all false
set_option maxRecDepth 10000
/-! G3: parts of expressions and tests. -/
namespace Gt
open PySem Fs Fp
/-- below the words ws: how deep they stand in one another; the parts that are none -/
inductive PP (ws : List String) : T → Nat → List T → Prop
  | leaf (w : String) (r : List T) : w ∉ ws → PP ws (.tup (wT w :: r)) 0 [.tup (wT w :: r)]
  | one (w : String) (a : T) (k : Nat) (ps : List T) : w ∈ ws → PP ws a k ps → PP ws (.tup [wT w, a]) (k + 1) ps
  | two (w : String) (a b : T) (ka kb : Nat) (pa pb : List T) : w ∈ ws → PP ws a ka pa → PP ws b kb pb → PP ws (.tup [wT w, a, b]) (max ka kb + 1) (pa ++ pb)
theorem PP.tup {ws : List String} {t : T} {k : Nat} {ps : List T} (p : PP ws t k ps) : ∃ r, t = .tup r := by
  cases p <;> exact ⟨_, rfl⟩
theorem PP.pos {ws : List String} {t : T} {k : Nat} {ps : List T} (p : PP ws t k ps) : 1 ≤ ps.length ∧ ps.length ≤ 2 ^ k := by
  induction p with
  | leaf w r h => exact ⟨Nat.le_refl 1, Nat.le_refl 1⟩
  | one w a k ps _ _ ih =>
    rw [Nat.pow_succ]
    omega
  | two w a b ka kb pa pb _ _ _ iha ihb =>
    rw [List.length_append, Nat.pow_succ]
    have h1 : 2 ^ ka ≤ 2 ^ max ka kb := Nat.pow_le_pow_right (by decide) (Nat.le_max_left _ _)
    have h2 : 2 ^ kb ≤ 2 ^ max ka kb := Nat.pow_le_pow_right (by decide) (Nat.le_max_right _ _)
    omega
def isTup : T → Bool
  | .tup _ => true
  | _ => false
/-- a thing whose kind is plain to see -/
def plainK : T → Bool
  | .tup _ => true
  | .int _ => true
  | .str _ => true
  | _ => false
theorem kind_tup {h : Hs} {t : T} (p : plainK t = true) : (kind h t).map (fun k => T.bl (k.is .tup)) = some (.bl (isTup t)) := by
  cases t <;> first | rfl | cases p
theorem in_ws {h : Hs} {w : String} {ws : List String} : inT h (wT w) (.tup (ws.map wT)) = some (decide (w ∈ ws)) := inW_tup
section
variable {D : Tb} {x : Ix} (H : HasK D x) {W : Nat}
include H
theorem inner_ok {n : Nat} {h : Hs} {w : T} {r : List T} (hp : ∀ t ∈ r, plainK t = true) (hl : r.length ≤ 1000) : callN D W (n + 1) x.f_inner [.tup (w :: r)] h = .ok (.lst (r.filter isTup)) h := by
  rw [callN_eq H.f_inner rfl (by simp)]
  have sl : cutL (w :: r) (some 1) none = r := by
    unfold cutL
    have e1 : HT.sIx (w :: r).length 0 (some 1) = 1 := by
      have := HT.sIx_nat (w :: r).length 0 1
      rw [show ((1 : Nat) : Int) = 1 from rfl] at this
      rw [this, List.length_cons]
      omega
    rw [e1, HT.sIx_none, List.length_cons]
    simp
  have cc := ev_compF (D := D) (cl := callN D W n) (env := [some (.tup (w :: r)), none]) (h := h) (h1 := h) (i := 1) (it := .seq (.sl (.var 0) (.int 1) (.absent))) (c := .bi (.isinst .tup) (.cons (.var 1) .nil)) (e := .var 1) (vs := [1]) (xs := r) (p := isTup) (g := fun y => y) rfl (by simp [slT, sl]) (by simp; omega) (fun y hy => by
    have k := kind_tup (h := h) (hp y hy)
    simp [wipeT, k]) (fun y hy _ => by simp [wipeT])
  rw [List.map_id'] at cc
  simp [b_inner, cc]
theorem PP.plain {ws : List String} {t : T} {k : Nat} {ps : List T} (p : PP ws t k ps) : plainK t = true ∧ isTup t = true := by
  obtain ⟨r, rfl⟩ := p.tup
  exact ⟨rfl, rfl⟩
theorem deep_ok {ws : List String} {t : T} {k : Nat} {ps : List T} (p : PP ws t k ps) : ∀ (n : Nat) (h : Hs), k + 2 ≤ n → callN D W n x.f_deep [t, .tup (ws.map wT)] h = .ok (.int (k : Int)) h := by
  induction p with
  | leaf w r hw =>
    intro n h hn
    obtain ⟨n, rfl⟩ : ∃ m, n = m + 1 := ⟨n - 1, by omega⟩
    rw [callN_eq H.f_deep rfl (by simp)]
    have i := in_ws (h := h) (w := w) (ws := ws)
    rw [decide_eq_false hw] at i
    simp [b_deep, i]
  | one w a k ps hw pa ih =>
    intro n h hn
    obtain ⟨n, rfl⟩ : ∃ m, n = m + 2 := ⟨n - 2, by omega⟩
    rw [callN_eq H.f_deep rfl (by simp)]
    have i := in_ws (h := h) (w := w) (ws := ws)
    rw [decide_eq_true hw] at i
    have inn := inner_ok H (W := W) (n := n) (h := h) (w := wT w) (r := [a]) (all1 (PP.plain H pa).1) (by simp)
    have ea := ih (n + 1) h (by omega)
    have cc := ev_compM (D := D) (cl := callN D W (n + 1)) (env := [some (.tup [wT w, a]), some (.tup (ws.map wT)), none]) (h := h) (h1 := h) (i := 2) (it := .seq (.call x.f_inner (.cons (.var 0) (.nil)))) (e := .call x.f_deep (.cons (.var 2) (.cons (.var 1) (.nil)))) (vs := [2]) (xs := [a]) (g := fun _ => .int (k : Int)) (by simp [inn, (PP.plain H pa).2]) (by simp) (all1 (by simp [wipeT, ea]))
    simp [b_deep, i, cc, biT, lstOf, intsT, maxL]
    omega
  | two w a b ka kb pa pb hw ppa ppb iha ihb =>
    intro n h hn
    obtain ⟨n, rfl⟩ : ∃ m, n = m + 2 := ⟨n - 2, by omega⟩
    rw [callN_eq H.f_deep rfl (by simp)]
    have i := in_ws (h := h) (w := w) (ws := ws)
    rw [decide_eq_true hw] at i
    have inn := inner_ok H (W := W) (n := n) (h := h) (w := wT w) (r := [a, b]) (all2 (PP.plain H ppa).1 (PP.plain H ppb).1) (by simp)
    have ea := iha (n + 1) h (by omega)
    have eb := ihb (n + 1) h (by omega)
    have cc : ev D (callN D W (n + 1)) (.comp false (.nm 2) (.seq (.call x.f_inner (.cons (.var 0) (.nil)))) (.absent) (.call x.f_deep (.cons (.var 2) (.cons (.var 1) (.nil)))) [2]) [some (.tup [wT w, a, b]), some (.tup (ws.map wT)), none] h = mkV (.ok (.lst [.int (ka : Int), .int (kb : Int)]) h) := by
      rw [ev_compE]
      simp [inn, (PP.plain H ppa).2, (PP.plain H ppb).2, compL, cBody, wipeT, ea, eb]
    have mx : ((if (kb : Int) > (ka : Int) then (kb : Int) else (ka : Int)) : Int) = ((max ka kb : Nat) : Int) := by
      by_cases q : ka < kb
      · rw [if_pos (by omega), Nat.max_eq_right (by omega)]
      · rw [if_neg (by omega), Nat.max_eq_left (by omega)]
    have bm : biT .max1 h [.lst [.int (ka : Int), .int (kb : Int)]] = some (.int ((max ka kb : Nat) : Int)) := by
      rw [← mx]
      rfl
    simp only [b_deep, evSs_cons, evS_ifs, ev_cmp, ev_ix, ev_var, ev_int, evS_ret, ev_bin, ev_bi, evL_cons, evL_nil, cc]
    simp [i, cc, bm]
    omega
def partB (x : Ix) : Ss := .cons (.ex (.bm .extend (.var 2) (.cons (.call x.f_plain_parts (.cons (.var 3) (.cons (.var 1) (.nil)))) (.nil)))) (.nil)
theorem parts_body : b_plain_parts x = .cons (.ifs (.cmp .nin (.ix (.var 0) (.int 0)) (.var 1)) (.cons (.ret (.lstI (.cons (.var 0) (.nil)))) (.nil)) (.nil)) (
    .cons (.set 2 (.lstM (.nil))) (.cons (.for_ (.nm 3) (.seq (.call x.f_inner (.cons (.var 0) (.nil)))) (partB x)) (.cons (.ret (.frz (.var 2))) (.nil)))) := rfl
theorem partB_ok {n : Nat} {h h' : Hs} {ws : List String} {t0 u : T} {k : Nat} {acc ps : List T} (e : callN D W n x.f_plain_parts [u, .tup (ws.map wT)] h = .ok (.lst ps) h') (g : Gr h h') (hk : h[k]? = some (.lst acc)) (hl : acc.length + ps.length ≤ 1000000) :
    ∃ h'', evSs D W (callN D W n) (partB x) [some t0, some (.tup (ws.map wT)), some (.ref k), some u] h = .nx [some t0, some (.tup (ws.map wT)), some (.ref k), some u] h'' ∧ h''[k]? = some (.lst (acc ++ ps)) ∧ But k h h'' := by
  have hk' := g.get hk
  refine ⟨h'.set k (.lst (acc ++ ps)), ?_, List.getElem?_set_self (List.getElem?_eq_some_iff.mp hk').1, (g.but k).trans But.set⟩
  simp [partB, e, bmOk_ext hk, bm_ext hk' hl]
theorem parts_ok {ws : List String} {t : T} {k : Nat} {ps : List T} (p : PP ws t k ps) : ∀ (n : Nat) (h : Hs), k + 2 ≤ n → k ≤ 15 → ∃ h', callN D W n x.f_plain_parts [t, .tup (ws.map wT)] h = .ok (.lst ps) h' ∧ Gr h h' := by
  have lim2 : ∀ {t : T} {k : Nat} {ps : List T}, PP ws t k ps → k ≤ 15 → ps.length ≤ 32768 := fun p hk => Nat.le_trans p.pos.2 (Nat.pow_le_pow_right (by decide) hk)
  induction p with
  | leaf w r hw =>
    intro n h hn hk
    obtain ⟨n, rfl⟩ : ∃ m, n = m + 1 := ⟨n - 1, by omega⟩
    rw [callN_eq H.f_plain_parts rfl (by simp), parts_body H]
    have i := in_ws (h := h) (w := w) (ws := ws)
    rw [decide_eq_false hw] at i
    exact ⟨h, by simp [i], Gr.refl⟩
  | one w a k ps hw pa ih =>
    intro n h hn hk
    obtain ⟨n, rfl⟩ : ∃ m, n = m + 2 := ⟨n - 2, by omega⟩
    rw [callN_eq H.f_plain_parts rfl (by simp), parts_body H]
    have i := in_ws (h := h) (w := w) (ws := ws)
    rw [decide_eq_true hw] at i
    have inn := inner_ok H (W := W) (n := n) (h := h ++ [.lst []]) (w := wT w) (r := [a]) (all1 (PP.plain H pa).1) (by simp)
    obtain ⟨h1, e1, g1⟩ := ih (n + 1) (h ++ [.lst []]) (by omega) (by omega)
    obtain ⟨h2, e2, k2, b2⟩ := partB_ok H (W := W) (t0 := .tup [wT w, a]) (ws := ws) (acc := []) (k := h.length) e1 g1 (by simp) (by have := lim2 pa (by omega); simp; omega)
    have fs : evS D W (callN D W (n + 1)) (.for_ (.nm 3) (.seq (.call x.f_inner (.cons (.var 0) (.nil)))) (partB x)) [some (.tup [wT w, a]), some (.tup (ws.map wT)), some (.ref h.length), none] (h ++ [.lst []]) = .nx [some (.tup [wT w, a]), some (.tup (ws.map wT)), some (.ref h.length), some a] h2 := by
      rw [evS_for]
      simp [inn, (PP.plain H pa).2]
      rw [forL_nx e2, forL_nil]
    refine ⟨h2.set h.length .gone, ?_, but_gr _ (b2.trans But.set)⟩
    simp [i, fs, frz_ref k2]
  | two w a b ka kb pa pb hw ppa ppb iha ihb =>
    intro n h hn hk
    obtain ⟨n, rfl⟩ : ∃ m, n = m + 2 := ⟨n - 2, by omega⟩
    rw [callN_eq H.f_plain_parts rfl (by simp), parts_body H]
    have i := in_ws (h := h) (w := w) (ws := ws)
    rw [decide_eq_true hw] at i
    have inn := inner_ok H (W := W) (n := n) (h := h ++ [.lst []]) (w := wT w) (r := [a, b]) (all2 (PP.plain H ppa).1 (PP.plain H ppb).1) (by simp)
    have la := lim2 ppa (by omega)
    have lb := lim2 ppb (by omega)
    obtain ⟨h1, e1, g1⟩ := iha (n + 1) (h ++ [.lst []]) (by omega) (by omega)
    obtain ⟨h2, e2, k2, b2⟩ := partB_ok H (W := W) (t0 := .tup [wT w, a, b]) (ws := ws) (acc := []) (k := h.length) e1 g1 (by simp) (by simp; omega)
    obtain ⟨h3, e3, g3⟩ := ihb (n + 1) h2 (by omega) (by omega)
    obtain ⟨h4, e4, k4, b4⟩ := partB_ok H (W := W) (t0 := .tup [wT w, a, b]) (ws := ws) (k := h.length) e3 g3 k2 (by simp; omega)
    have fs : evS D W (callN D W (n + 1)) (.for_ (.nm 3) (.seq (.call x.f_inner (.cons (.var 0) (.nil)))) (partB x)) [some (.tup [wT w, a, b]), some (.tup (ws.map wT)), some (.ref h.length), none] (h ++ [.lst []]) = .nx [some (.tup [wT w, a, b]), some (.tup (ws.map wT)), some (.ref h.length), some b] h4 := by
      rw [evS_for]
      simp [inn, (PP.plain H ppa).2, (PP.plain H ppb).2]
      rw [forL_nx e2, forL_nx e4, forL_nil]
    refine ⟨h4.set h.length .gone, ?_, but_gr _ ((b2.trans b4).trans But.set)⟩
    rw [List.nil_append] at k4
    simp [i, fs, frz_ref k4]
end
end Gt
end

section
set_option Elab.async false
set_option linter.all false
set_option maxRecDepth 10000
/-! G4: statements in order, how deep blocks stand, a statement's expressions. -/
namespace Gt
open PySem Fs Fp
abbrev pairs : List String := ["greater", "less", "lesser", "plus"]
abbrev tws : List String := ["not", "and", "or"]
/-- the statements of a body, each ahead of those in it; how deep blocks stand (k) -/
inductive AO : Nat → List T → List T → Prop
  | nil (k : Nat) : AO k [] []
  | other (k : Nat) (w : String) (r0 r l : List T) : w ≠ "if" → AO k r l → AO k (.tup (wT w :: r0) :: r) (.tup (wT w :: r0) :: l)
  | iff (k : Nat) (t : T) (b1 b2 r l1 l2 l : List T) : AO k b1 l1 → AO k b2 l2 → AO (k + 1) r l → AO (k + 1) (.tup [wT "if", t, .tup b1, .tup b2] :: r) (.tup [wT "if", t, .tup b1, .tup b2] :: (l1 ++ l2) ++ l)
theorem AO.mono {k : Nat} {b l : List T} (a : AO k b l) : ∀ k', k ≤ k' → AO k' b l := by
  induction a with
  | nil k => exact fun k' _ => .nil k'
  | other k w r0 r l hw _ ih => exact fun k' h => .other k' w r0 r l hw (ih k' h)
  | iff k t b1 b2 r l1 l2 l _ _ _ ih1 ih2 ih =>
    intro k' h
    obtain ⟨j, rfl⟩ : ∃ j, k' = j + 1 := ⟨k' - 1, by omega⟩
    exact .iff j t b1 b2 r l1 l2 l (ih1 j (by omega)) (ih2 j (by omega)) (ih (j + 1) (by omega))
def leafArgs : T → List T
  | .tup (_ :: r) => r
  | _ => []
/-- the expressions of a statement -/
inductive EX : T → List T → Prop
  | one (w : String) : w ≠ "if" → w ≠ "set" → EX (.tup [wT w]) []
  | ex (w : String) (a : List T) : w ≠ "if" → w ≠ "set" → EX (.tup [wT w, .tup a]) [.tup a]
  | lower (a : List T) (n : Int) : EX (.tup [wT "lower", .tup a, .int n]) [.tup a]
  | set (w : String) (a : List T) : EX (.tup [wT "set", wT w, .tup a]) [.tup a]
  | iff (t b1 b2 : T) (k : Nat) (ps : List T) : PP tws t k ps → k ≤ 15 → (∀ p ∈ ps, ∃ w r, p = .tup (wT w :: r) ∧ r.length ≤ 2 ∧ ∀ a ∈ r, ∃ s, a = .tup s) → EX (.tup [wT "if", t, b1, b2]) (ps.map leafArgs).flatten
section
variable {D : Tb} {x : Ix} (H : HasK D x) {W : Nat}
include H
theorem bodies_if {n : Nat} {h : Hs} {t b1 b2 : T} : callN D W (n + 1) x.f_bodies_in [.tup [wT "if", t, b1, b2]] h = .ok (.lst [b1, b2]) h := by
  rw [callN_eq H.f_bodies_in rfl (by simp)]
  simp [b_bodies_in]
theorem bodies_no {n : Nat} {h : Hs} {w : String} {r : List T} (hw : w ≠ "if") : callN D W (n + 1) x.f_bodies_in [.tup (wT w :: r)] h = .ok (.lst []) h := by
  rw [callN_eq H.f_bodies_in rfl (by simp)]
  simp [b_bodies_in, hw]
def ordI (x : Ix) : Ss := .cons (.ex (.bm .extend (.var 1) (.cons (.call x.f_in_order (.cons (.var 3) (.nil))) (.nil)))) (.nil)
def ordB (x : Ix) : Ss := .cons (.ex (.bm .append (.var 1) (.cons (.var 2) (.nil)))) (.cons (.for_ (.nm 3) (.seq (.call x.f_bodies_in (.cons (.var 2) (.nil)))) (ordI x)) (.nil))
theorem ord_body : b_in_order x = .cons (.set 1 (.lstM (.nil))) (.cons (.for_ (.nm 2) (.seq (.var 0)) (ordB x)) (.cons (.ret (.frz (.var 1))) (.nil))) := rfl
def OrdL (D : Tb) (W : Nat) (x : Ix) (n : Nat) (b l : List T) : Prop := ∀ (h : Hs) (k : Nat) (acc : List T) (o0 o2 o3 : Option T), h[k]? = some (.lst acc) → acc.length + l.length ≤ 1000000 →
  ∃ o2' o3' h', forL (.nm 2) (fun env2 h2 => evSs D W (callN D W n) (ordB x) env2 h2) b [o0, some (.ref k), o2, o3] h = .nx [o0, some (.ref k), o2', o3'] h' ∧ h'[k]? = some (.lst (acc ++ l)) ∧ But k h h'
theorem ord_call {n : Nat} {b l : List T} (a : OrdL D W x n b l) (hl : l.length ≤ 1000000) (h : Hs) : ∃ h', callN D W (n + 1) x.f_in_order [.tup b] h = .ok (.lst l) h' ∧ Gr h h' := by
  obtain ⟨o2, o3, h1, e1, k1, b1⟩ := a (h ++ [.lst []]) h.length [] (some (.tup b)) none none (by simp) (by simpa using hl)
  rw [List.nil_append] at k1
  have fs : evS D W (callN D W n) (.for_ (.nm 2) (.seq (.var 0)) (ordB x)) [some (.tup b), some (.ref h.length), none, none] (h ++ [.lst []]) = .nx [some (.tup b), some (.ref h.length), o2, o3] h1 := by
    rw [evS_for]
    simp
    exact e1
  refine ⟨h1.set h.length .gone, ?_, but_gr _ (b1.trans But.set)⟩
  rw [callN_eq H.f_in_order rfl (by simp), ord_body H]
  simp [fs, frz_ref k1]
theorem ordI_ok {n k : Nat} {h h' : Hs} {o0 o2 : Option T} {b : List T} {acc l : List T} (e : callN D W n x.f_in_order [.tup b] h = .ok (.lst l) h') (g : Gr h h') (hk : h[k]? = some (.lst acc)) (hl : acc.length + l.length ≤ 1000000) :
    ∃ h'', evSs D W (callN D W n) (ordI x) [o0, some (.ref k), o2, some (.tup b)] h = .nx [o0, some (.ref k), o2, some (.tup b)] h'' ∧ h''[k]? = some (.lst (acc ++ l)) ∧ But k h h'' := by
  have hk' := g.get hk
  refine ⟨h'.set k (.lst (acc ++ l)), ?_, List.getElem?_set_self (List.getElem?_eq_some_iff.mp hk').1, (g.but k).trans But.set⟩
  simp [ordI, e, bmOk_ext hk, bm_ext hk' hl]
theorem ord_lp {k : Nat} {b l : List T} (a : AO k b l) : ∀ n, k + 1 ≤ n → OrdL D W x n b l := by
  induction a with
  | nil k =>
    intro n hn h k acc o0 o2 o3 hk hl
    exact ⟨o2, o3, h, rfl, by rw [List.append_nil]; exact hk, But.refl⟩
  | other k w r0 r l hw _ ih =>
    intro n hn h kf acc o0 o2 o3 hk hl
    obtain ⟨n, rfl⟩ : ∃ m, n = m + 1 := ⟨n - 1, by omega⟩
    have hk1 : (h.set kf (.lst (acc ++ [.tup (wT w :: r0)])))[kf]? = some (.lst (acc ++ [.tup (wT w :: r0)])) := List.getElem?_set_self (List.getElem?_eq_some_iff.mp hk).1
    simp only [List.length_cons] at hl
    obtain ⟨p2, p3, h', e', k', b'⟩ := ih (n + 1) hn (h.set kf (.lst (acc ++ [.tup (wT w :: r0)]))) kf (acc ++ [.tup (wT w :: r0)]) o0 (some (.tup (wT w :: r0))) o3 hk1 (by simp; omega)
    refine ⟨p2, p3, h', ?_, by rw [k']; simp, But.set.trans b'⟩
    have bn := bodies_no H (W := W) (n := n) (h := h.set kf (.lst (acc ++ [.tup (wT w :: r0)]))) (r := r0) hw
    have fs : evS D W (callN D W (n + 1)) (.for_ (.nm 3) (.seq (.call x.f_bodies_in (.cons (.var 2) (.nil)))) (ordI x)) [o0, some (.ref kf), some (.tup (wT w :: r0)), o3] (h.set kf (.lst (acc ++ [.tup (wT w :: r0)]))) = .nx [o0, some (.ref kf), some (.tup (wT w :: r0)), o3] (h.set kf (.lst (acc ++ [.tup (wT w :: r0)]))) := by
      rw [evS_for]
      simp [bn, forL_nil]
    rw [forL_nx (env2 := [o0, some (.ref kf), some (.tup (wT w :: r0)), o3]) (h2 := h.set kf (.lst (acc ++ [.tup (wT w :: r0)])))]
    · exact e'
    · simp [ordB, bmOk_app hk, bm_app hk (show acc.length < 1000000 by omega), fs]
  | iff k t b1 b2 r l1 l2 l _ _ _ ih1 ih2 ih =>
    intro n hn h kf acc o0 o2 o3 hk hl
    obtain ⟨n, rfl⟩ : ∃ m, n = m + 1 := ⟨n - 1, by omega⟩
    simp only [List.length_cons, List.length_append] at hl
    have hk1 : (h.set kf (.lst (acc ++ [.tup [wT "if", t, .tup b1, .tup b2]])))[kf]? = some (.lst (acc ++ [.tup [wT "if", t, .tup b1, .tup b2]])) := List.getElem?_set_self (List.getElem?_eq_some_iff.mp hk).1
    obtain ⟨h1, e1, g1⟩ := ord_call H (ih1 n (by omega)) (by omega) (h.set kf (.lst (acc ++ [.tup [wT "if", t, .tup b1, .tup b2]])))
    obtain ⟨h2, e2, k2, q2⟩ := ordI_ok H (W := W) (n := n + 1) (o0 := o0) (o2 := some (.tup [wT "if", t, .tup b1, .tup b2])) e1 g1 hk1 (by simp; omega)
    obtain ⟨h3, e3, g3⟩ := ord_call H (ih2 n (by omega)) (by omega) h2
    obtain ⟨h4, e4, k4, q4⟩ := ordI_ok H (W := W) (n := n + 1) (o0 := o0) (o2 := some (.tup [wT "if", t, .tup b1, .tup b2])) e3 g3 k2 (by simp; omega)
    obtain ⟨p2, p3, h', e', k', b'⟩ := ih (n + 1) hn h4 kf _ o0 (some (.tup [wT "if", t, .tup b1, .tup b2])) (some (.tup b2)) k4 (by simp; omega)
    refine ⟨p2, p3, h', ?_, by rw [k']; simp, ((But.set.trans q2).trans q4).trans b'⟩
    have bn := bodies_if H (W := W) (n := n) (h := h.set kf (.lst (acc ++ [.tup [wT "if", t, .tup b1, .tup b2]]))) (t := t) (b1 := .tup b1) (b2 := .tup b2)
    have fs : evS D W (callN D W (n + 1)) (.for_ (.nm 3) (.seq (.call x.f_bodies_in (.cons (.var 2) (.nil)))) (ordI x)) [o0, some (.ref kf), some (.tup [wT "if", t, .tup b1, .tup b2]), o3] (h.set kf (.lst (acc ++ [.tup [wT "if", t, .tup b1, .tup b2]]))) = .nx [o0, some (.ref kf), some (.tup [wT "if", t, .tup b1, .tup b2]), some (.tup b2)] h4 := by
      rw [evS_for]
      simp [bn]
      rw [forL_nx e2, forL_nx e4, forL_nil]
    rw [forL_nx (env2 := [o0, some (.ref kf), some (.tup [wT "if", t, .tup b1, .tup b2]), some (.tup b2)]) (h2 := h4)]
    · exact e'
    · simp [ordB, bmOk_app hk, bm_app hk (show acc.length < 1000000 by omega), fs]
theorem order_ok {k n : Nat} {b l : List T} (a : AO k b l) (hn : k + 2 ≤ n) (hl : l.length ≤ 1000000) (h : Hs) : ∃ h', callN D W n x.f_in_order [.tup b] h = .ok (.lst l) h' ∧ Gr h h' := by
  obtain ⟨n, rfl⟩ : ∃ m, n = m + 1 := ⟨n - 1, by omega⟩
  exact ord_call H (ord_lp H a n (by omega)) hl h
end
end Gt
end

section
set_option Elab.async false
set_option linter.all false
set_option maxRecDepth 10000
/-! G5: how deep blocks stand, a statement's expressions, its sizes. -/
namespace Gt
open PySem Fs Fp
inductive BD : List T → Nat → Prop
  | nil : BD [] 0
  | other (w : String) (r0 r : List T) (k : Nat) : w ≠ "if" → BD r k → BD (.tup (wT w :: r0) :: r) k
  | iff (t : T) (b1 b2 r : List T) (k1 k2 k : Nat) : BD b1 k1 → BD b2 k2 → BD r k → BD (.tup [wT "if", t, .tup b1, .tup b2] :: r) (max (1 + max k1 k2) k)
def szO (k m : Nat) (w : String) (n : Nat) : Option (String × Int) := if 6 < k then some ("deep", 6) else if n < m then some (w, (n : Int)) else none
/-- what is too large in expressions, first -/
inductive SE : List T → Option (String × Int) → Prop
  | nil : SE [] none
  | hit (e : T) (k : Nat) (ps r : List T) (o : String × Int) : PP pairs e k ps → k ≤ 15 → szO k ps.length "parts" 12 = some o → SE (e :: r) (some o)
  | next (e : T) (k : Nat) (ps r : List T) (o : Option (String × Int)) : PP pairs e k ps → k ≤ 15 → szO k ps.length "parts" 12 = none → SE r o → SE (e :: r) o
inductive SZ : T → Option (String × Int) → Prop
  | plain (w : String) (r es : List T) (o : Option (String × Int)) : w ≠ "if" → EX (.tup (wT w :: r)) es → SE es o → SZ (.tup (wT w :: r)) o
  | hit (t b1 b2 : T) (k : Nat) (ps : List T) (o : String × Int) : PP tws t k ps → k ≤ 15 → szO k ps.length "tests" 8 = some o → SZ (.tup [wT "if", t, b1, b2]) (some o)
  | next (t b1 b2 : T) (k : Nat) (ps es : List T) (o : Option (String × Int)) : PP tws t k ps → k ≤ 15 → szO k ps.length "tests" 8 = none → EX (.tup [wT "if", t, b1, b2]) es → SE es o → SZ (.tup [wT "if", t, b1, b2]) o
section
variable {D : Tb} {x : Ix} (H : HasK D x) {W : Nat}
include H
def bdI (x : Ix) : Ss := .cons (.set 1 (.bi .max2 (.cons (.var 1) (.cons (.bin .add (.int 1) (.call x.f_blocks_deep (.cons (.var 3) (.nil)))) (.nil))))) (.nil)
def bdB (x : Ix) : Ss := .cons (.for_ (.nm 3) (.seq (.call x.f_bodies_in (.cons (.var 2) (.nil)))) (bdI x)) (.nil)
theorem bd_body : b_blocks_deep x = .cons (.set 1 (.int 0)) (.cons (.for_ (.nm 2) (.seq (.var 0)) (bdB x)) (.cons (.ret (.var 1)) (.nil))) := rfl
def BdL (D : Tb) (W : Nat) (x : Ix) (n : Nat) (b : List T) (k : Nat) : Prop := ∀ (h : Hs) (m : Nat) (o0 o2 o3 : Option T), ∃ o2' o3', forL (.nm 2) (fun env2 h2 => evSs D W (callN D W n) (bdB x) env2 h2) b [o0, some (.int (m : Int)), o2, o3] h = .nx [o0, some (.int ((max m k : Nat) : Int)), o2', o3'] h
theorem bd_call {n : Nat} {b : List T} {k : Nat} (a : BdL D W x n b k) (h : Hs) : callN D W (n + 1) x.f_blocks_deep [.tup b] h = .ok (.int (k : Int)) h := by
  obtain ⟨o2, o3, e⟩ := a h 0 (some (.tup b)) none none
  rw [Nat.zero_max] at e
  have fs : evS D W (callN D W n) (.for_ (.nm 2) (.seq (.var 0)) (bdB x)) [some (.tup b), some (.int 0), none, none] h = .nx [some (.tup b), some (.int (k : Int)), o2, o3] h := by
    rw [evS_for]
    simp
    exact e
  rw [callN_eq H.f_blocks_deep rfl (by simp), bd_body H]
  simp [fs]
theorem max_T {h : Hs} {a b : Nat} : biT .max2 h [.int (a : Int), .int (b : Int)] = some (.int ((max a b : Nat) : Int)) := by
  show some (T.int (if (b : Int) > (a : Int) then (b : Int) else (a : Int))) = _
  by_cases q : a < b
  · rw [if_pos (by omega), Nat.max_eq_right (by omega)]
  · rw [if_neg (by omega), Nat.max_eq_left (by omega)]
theorem bdI_ok {n m k : Nat} {h : Hs} {o0 o2 : Option T} {b : List T} (e : callN D W n x.f_blocks_deep [.tup b] h = .ok (.int (k : Int)) h) :
    evSs D W (callN D W n) (bdI x) [o0, some (.int (m : Int)), o2, some (.tup b)] h = .nx [o0, some (.int ((max m (1 + k) : Nat) : Int)), o2, some (.tup b)] h := by
  have mx := max_T H (h := h) (a := m) (b := 1 + k)
  rw [show (((1 + k : Nat)) : Int) = 1 + (k : Int) by omega] at mx
  simp [bdI, e, mx]
theorem bd_lp {b : List T} {k : Nat} (a : BD b k) : ∀ n, k + 1 ≤ n → BdL D W x n b k := by
  induction a with
  | nil =>
    intro n hn h m o0 o2 o3
    exact ⟨o2, o3, by rw [Nat.max_zero]; rfl⟩
  | other w r0 r k hw _ ih =>
    intro n hn h m o0 o2 o3
    obtain ⟨n, rfl⟩ : ∃ m, n = m + 1 := ⟨n - 1, by omega⟩
    obtain ⟨p2, p3, e⟩ := ih (n + 1) hn h m o0 (some (.tup (wT w :: r0))) o3
    refine ⟨p2, p3, ?_⟩
    have bn := bodies_no H (W := W) (n := n) (h := h) (r := r0) hw
    have fs : evS D W (callN D W (n + 1)) (.for_ (.nm 3) (.seq (.call x.f_bodies_in (.cons (.var 2) (.nil)))) (bdI x)) [o0, some (.int (m : Int)), some (.tup (wT w :: r0)), o3] h = .nx [o0, some (.int (m : Int)), some (.tup (wT w :: r0)), o3] h := by
      rw [evS_for]
      simp [bn, forL_nil]
    rw [forL_nx (env2 := [o0, some (.int (m : Int)), some (.tup (wT w :: r0)), o3]) (h2 := h) (by simp [bdB, fs])]
    exact e
  | iff t b1 b2 r k1 k2 k _ _ _ ih1 ih2 ih =>
    intro n hn h m o0 o2 o3
    obtain ⟨n, rfl⟩ : ∃ m, n = m + 1 := ⟨n - 1, by omega⟩
    have e1 := bdI_ok H (W := W) (n := n + 1) (m := m) (o0 := o0) (o2 := some (.tup [wT "if", t, .tup b1, .tup b2])) (bd_call H (ih1 n (by omega)) h)
    have e2 := bdI_ok H (W := W) (n := n + 1) (m := max m (1 + k1)) (o0 := o0) (o2 := some (.tup [wT "if", t, .tup b1, .tup b2])) (bd_call H (ih2 n (by omega)) h)
    obtain ⟨p2, p3, e⟩ := ih (n + 1) (by omega) h (max (max m (1 + k1)) (1 + k2)) o0 (some (.tup [wT "if", t, .tup b1, .tup b2])) (some (.tup b2))
    refine ⟨p2, p3, ?_⟩
    have bn := bodies_if H (W := W) (n := n) (h := h) (t := t) (b1 := .tup b1) (b2 := .tup b2)
    have fs : evS D W (callN D W (n + 1)) (.for_ (.nm 3) (.seq (.call x.f_bodies_in (.cons (.var 2) (.nil)))) (bdI x)) [o0, some (.int (m : Int)), some (.tup [wT "if", t, .tup b1, .tup b2]), o3] h = .nx [o0, some (.int ((max (max m (1 + k1)) (1 + k2) : Nat) : Int)), some (.tup [wT "if", t, .tup b1, .tup b2]), some (.tup b2)] h := by
      rw [evS_for]
      simp only [evI_seq, ev_call, evL_cons, evL_nil, ev_var]
      simp [bn]
      rw [forL_nx e1, forL_nx e2, forL_nil]
      simp
    rw [forL_nx (env2 := [o0, some (.int ((max (max m (1 + k1)) (1 + k2) : Nat) : Int)), some (.tup [wT "if", t, .tup b1, .tup b2]), some (.tup b2)]) (h2 := h) (by
      simp only [bdB, evSs_cons, evSs_nil]
      rw [List.set_cons_succ, List.set_cons_succ, List.set_cons_zero, fs]
      rfl)]
    rw [e, show max (max (max m (1 + k1)) (1 + k2)) k = max m (max (1 + max k1 k2) k) by omega]
theorem blocks_ok {b : List T} {k n : Nat} (a : BD b k) (hn : k + 2 ≤ n) (h : Hs) : callN D W n x.f_blocks_deep [.tup b] h = .ok (.int (k : Int)) h := by
  obtain ⟨n, rfl⟩ : ∃ m, n = m + 1 := ⟨n - 1, by omega⟩
  exact bd_call H (bd_lp H a n (by omega)) h
theorem cut1 {w : T} {r : List T} : cutL (w :: r) (some 1) none = r := by
  unfold cutL
  have e1 : HT.sIx (w :: r).length 0 (some 1) = 1 := by
    have := HT.sIx_nat (w :: r).length 0 1
    rw [show ((1 : Nat) : Int) = 1 from rfl] at this
    rw [this, List.length_cons]
    omega
  rw [e1, HT.sIx_none, List.length_cons]
  simp
def exB (x : Ix) : Ss := .cons (.ex (.bm .extend (.var 2) (.cons (.call x.f_inner (.cons (.var 3) (.nil))) (.nil)))) (.nil)
theorem ex_body : b_exprs_in x = .cons (.ifs (.cmp .ne (.ix (.var 0) (.int 0)) (.str "if")) (.cons (.ret (.comp false (.nm 1) (.seq (.sl (.var 0) (.int 1) (.absent))) (.bi (.isinst .tup) (.cons (.var 1) .nil)) (.var 1) [1])) (.nil)) (.nil)) (
    .cons (.set 2 (.lstM (.nil))) (.cons (.for_ (.nm 3) (.seq (.call x.f_plain_parts (.cons (.ix (.var 0) (.int 1)) (.cons (.tup (.cons (.str "not") (.cons (.str "and") (.cons (.str "or") (.nil))))) (.nil))))) (exB x)) (.cons (.ret (.frz (.var 2))) (.nil)))) := rfl
theorem ex_plain {n : Nat} {h : Hs} {w : String} {r : List T} (hw : w ≠ "if") (hp : ∀ t ∈ r, plainK t = true) (hl : r.length ≤ 1000) : callN D W (n + 1) x.f_exprs_in [.tup (wT w :: r)] h = .ok (.lst (r.filter isTup)) h := by
  rw [callN_eq H.f_exprs_in rfl (by simp), ex_body H]
  have cc := ev_compF (D := D) (cl := callN D W n) (env := [some (.tup (wT w :: r)), none, none, none]) (h := h) (h1 := h) (i := 1) (it := .seq (.sl (.var 0) (.int 1) (.absent))) (c := .bi (.isinst .tup) (.cons (.var 1) .nil)) (e := .var 1) (vs := [1]) (xs := r) (p := isTup) (g := fun y => y) rfl (by simp [slT, cut1 H]) (by simp; omega) (fun y hy => by
    have k := kind_tup (h := h) (hp y hy)
    simp [wipeT, k]) (fun y hy _ => by simp [wipeT])
  rw [List.map_id'] at cc
  simp [hw, cc]
theorem filt_all {r : List T} (h : ∀ a ∈ r, ∃ s, a = .tup s) : r.filter isTup = r := by
  rw [List.filter_eq_self]
  intro a ha
  obtain ⟨s, rfl⟩ := h a ha
  rfl
theorem ex_loop {n : Nat} (hn : 1 ≤ n) : ∀ (ps : List T) (h : Hs) (k : Nat) (acc : List T) (o0 o1 o3 : Option T), (∀ p ∈ ps, ∃ w r, p = .tup (wT w :: r) ∧ r.length ≤ 2 ∧ ∀ a ∈ r, ∃ s, a = .tup s) → h[k]? = some (.lst acc) → acc.length + 2 * ps.length ≤ 1000000 →
    ∃ o3' h', forL (.nm 3) (fun env2 h2 => evSs D W (callN D W n) (exB x) env2 h2) ps [o0, o1, some (.ref k), o3] h = .nx [o0, o1, some (.ref k), o3'] h' ∧ h'[k]? = some (.lst (acc ++ (ps.map leafArgs).flatten)) ∧ But k h h'
  | [], h, k, acc, o0, o1, o3, _, hk, _ => ⟨o3, h, rfl, by simpa using hk, But.refl⟩
  | p :: ps, h, k, acc, o0, o1, o3, hp, hk, hl => by
    obtain ⟨n, rfl⟩ : ∃ m, n = m + 1 := ⟨n - 1, by omega⟩
    obtain ⟨w, r, rfl, hr, ha⟩ := hp p List.mem_cons_self
    simp only [List.length_cons] at hl
    have hk1 : (h.set k (.lst (acc ++ r)))[k]? = some (.lst (acc ++ r)) := List.getElem?_set_self (List.getElem?_eq_some_iff.mp hk).1
    obtain ⟨o3', h', e, k', b⟩ := ex_loop (n := n + 1) (by omega) ps (h.set k (.lst (acc ++ r))) k (acc ++ r) o0 o1 (some (.tup (wT w :: r))) (fun p hp' => hp p (List.mem_cons_of_mem _ hp')) hk1 (by simp; omega)
    have inn := inner_ok H (W := W) (n := n) (h := h) (w := wT w) (r := r) (fun t ht => by obtain ⟨s, rfl⟩ := ha t ht; rfl) (by omega)
    rw [filt_all H ha] at inn
    refine ⟨o3', h', ?_, by rw [k']; simp [leafArgs], But.set.trans b⟩
    rw [forL_nx (env2 := [o0, o1, some (.ref k), some (.tup (wT w :: r))]) (h2 := h.set k (.lst (acc ++ r))) (by
      simp [exB, inn, bmOk_ext hk, bm_ext hk (show acc.length + r.length ≤ 1000000 by omega)])]
    exact e
theorem exprs_ok {s : T} {es : List T} (e : EX s es) : ∀ (n : Nat) (h : Hs), 18 ≤ n → ∃ h', callN D W n x.f_exprs_in [s] h = .ok (.lst es) h' ∧ Gr h h' := by
  intro n h hn
  obtain ⟨n, rfl⟩ : ∃ m, n = m + 1 := ⟨n - 1, by omega⟩
  cases e with
  | one w hw =>
    have := ex_plain H (W := W) (n := n) (h := h) (r := []) hw (fun t ht => by cases ht) (by decide)
    exact ⟨h, this, Gr.refl⟩
  | ex w a hw =>
    have := ex_plain H (W := W) (n := n) (h := h) (r := [.tup a]) hw (all1 rfl) (by simp)
    exact ⟨h, this, Gr.refl⟩
  | lower a i =>
    have := ex_plain H (W := W) (n := n) (h := h) (w := "lower") (r := [.tup a, .int i]) (by decide) (all2 rfl rfl) (by simp)
    exact ⟨h, this, Gr.refl⟩
  | set w a =>
    have := ex_plain H (W := W) (n := n) (h := h) (w := "set") (r := [wT w, .tup a]) (by decide) (all2 rfl rfl) (by simp)
    exact ⟨h, this, Gr.refl⟩
  | iff t b1 b2 k ps pp hk hps =>
    obtain ⟨h1, e1, g1⟩ := parts_ok H (W := W) pp n (h ++ [.lst []]) (by omega) hk
    have l1 : ps.length ≤ 32768 := Nat.le_trans pp.pos.2 (Nat.pow_le_pow_right (by decide) hk)
    have hk1 : h1[h.length]? = some (.lst []) := g1.get (by simp)
    obtain ⟨o3, h2, e2, k2, b2'⟩ := ex_loop H (W := W) (n := n) (by omega) ps h1 h.length [] (some (.tup [wT "if", t, b1, b2])) none none hps hk1 (by simp; omega)
    rw [List.nil_append] at k2
    have fs : evS D W (callN D W n) (.for_ (.nm 3) (.seq (.call x.f_plain_parts (.cons (.ix (.var 0) (.int 1)) (.cons (.tup (.cons (.str "not") (.cons (.str "and") (.cons (.str "or") (.nil))))) (.nil))))) (exB x)) [some (.tup [wT "if", t, b1, b2]), none, some (.ref h.length), none] (h ++ [.lst []]) = .nx [some (.tup [wT "if", t, b1, b2]), none, some (.ref h.length), o3] h2 := by
      rw [evS_for]
      simp only [List.map_cons, List.map_nil] at e1
      simp [e1]
      exact e2
    refine ⟨h2.set h.length .gone, ?_, but_gr _ (((g1.but h.length).trans b2').trans But.set)⟩
    rw [callN_eq H.f_exprs_in rfl (by simp), ex_body H]
    simp [fs, frz_ref k2]
end
end Gt
end

section
set_option Elab.async false
set_option linter.all false
set_option maxRecDepth 10000
/-! G6: a statement's sizes, names, whether it asks for the key that came. -/
namespace Gt
open PySem Fs Fp
/-- a loop's, a call's end: none, or what is raised -/
def endS (c : Nat) (o : Option (List T)) (env : En) (h : Hs) : SR := match o with
  | none => .nx env h
  | some xs => .exc c xs env h
def endR (c : Nat) (o : Option (List T)) (v : T) (h : Hs) : R T := match o with
  | none => .ok v h
  | some xs => .exc c xs h
def lgO (o : Option (String × Int)) : Option (List T) := o.map fun p => [wT p.1, .int p.2]
theorem endS_fin {c : Nat} {o : Option (List T)} {env : En} {h : Hs} : (endS c o env h).fin = endR c o .non h := by
  cases o <;> rfl
/-- the parts of expressions that are no expressions of parts -/
inductive LX : T → Prop
  | num (n : Int) : LX (.tup [wT "number", .int n])
  | word (w : String) : w = "least" ∨ w = "most" ∨ w = "its" → LX (.tup [wT w])
  | nam (w : String) : LX (.tup [wT "name", wT w])
inductive AP : List T → List T → Prop
  | nil : AP [] []
  | cons (e : T) (k : Nat) (ps r qs : List T) : PP pairs e k ps → k ≤ 15 → AP r qs → AP (e :: r) (ps ++ qs)
def partBad (ns : List String) : T → Bool
  | .tup [.str a, .str b] => decide (a = Str.ofString "name") && !(ns.any fun n => decide (Str.ofString n = b))
  | _ => false
def setBad (ns : List String) : T → Bool
  | .tup [.str a, .str b, _] => decide (a = Str.ofString "set") && !(ns.any fun n => decide (Str.ofString n = b))
  | _ => false
theorem in_ns {h : Hs} {w : String} {ns : List String} : inT h (wT w) (.lst (ns.map wT)) = some (ns.any fun n => decide (Str.ofString n = Str.ofString w)) := by
  rw [inW_lst]
  congr 1
  rw [Bool.eq_iff_iff, List.any_eq_true, decide_eq_true_eq]
  constructor
  · intro m
    exact ⟨w, m, by simp⟩
  · rintro ⟨a, ha, e⟩
    rw [← ofS_inj.mp (of_decide_eq_true e)]
    exact ha
section
variable {D : Tb} {x : Ix} (H : HasK D x) (V : HasV D x) {W : Nat}
include H V
theorem exc_large {w : String} {m : Int} : excOk D x.c_TooLarge [wT w, .int m] = true := by
  obtain ⟨nm, up, e⟩ := H.c_TooLarge
  unfold excOk
  rw [e]
  rfl
theorem exc_kind {a b : T} : excOk D x.c_BadKind [a, b] = true := by
  obtain ⟨nm, up, e⟩ := H.c_BadKind
  unfold excOk
  rw [e]
  rfl
def szB (x : Ix) : Ss := .cons (.ifs (.cmp .gt (.call x.f_deep (.cons (.var 1) (.cons (.glob x.g_PAIRS) (.nil)))) (.glob x.g_MOST_DEEP)) (.cons (.rais x.c_TooLarge (.cons (.str "deep") (.cons (.glob x.g_MOST_DEEP) (.nil)))) (.nil)) (.nil)) (
  .cons (.ifs (.cmp .gt (.bi .len (.cons (.call x.f_plain_parts (.cons (.var 1) (.cons (.glob x.g_PAIRS) (.nil)))) (.nil))) (.glob x.g_MOST_PARTS)) (.cons (.rais x.c_TooLarge (.cons (.str "parts") (.cons (.glob x.g_MOST_PARTS) (.nil)))) (.nil)) (.nil)) (.nil))
def szI (x : Ix) : S := .ifs (.cmp .eq (.ix (.var 0) (.int 0)) (.str "if")) (.cons (.ifs (.cmp .gt (.call x.f_deep (.cons (.ix (.var 0) (.int 1)) (.cons (.tup (.cons (.str "not") (.cons (.str "and") (.cons (.str "or") (.nil))))) (.nil)))) (.glob x.g_MOST_DEEP)) (.cons (.rais x.c_TooLarge (.cons (.str "deep") (.cons (.glob x.g_MOST_DEEP) (.nil)))) (.nil)) (.nil)) (
  .cons (.ifs (.cmp .gt (.bi .len (.cons (.call x.f_plain_parts (.cons (.ix (.var 0) (.int 1)) (.cons (.tup (.cons (.str "not") (.cons (.str "and") (.cons (.str "or") (.nil))))) (.nil)))) (.nil))) (.glob x.g_MOST_TESTS)) (.cons (.rais x.c_TooLarge (.cons (.str "tests") (.cons (.glob x.g_MOST_TESTS) (.nil)))) (.nil)) (.nil)) (.nil))) (.nil)
theorem sz_body : b_check_sizes x = .cons (szI x) (.cons (.for_ (.nm 1) (.seq (.call x.f_exprs_in (.cons (.var 0) (.nil)))) (szB x)) (.nil)) := rfl
theorem szB_ok {n k : Nat} {h : Hs} {o0 : Option T} {e : T} {ps : List T} (p : PP pairs e k ps) (hk : k ≤ 15) (hn : 18 ≤ n) : ∃ h', evSs D W (callN D W n) (szB x) [o0, some e] h = endS x.c_TooLarge (lgO (szO k ps.length "parts" 12)) [o0, some e] h' ∧ Gr h h' := by
  have c1 : D.cns[x.g_MOST_DEEP]?.map (·.2) = some (T.int 6) := by rw [H.g_MOST_DEEP]; rfl
  have c2 : D.cns[x.g_MOST_PARTS]?.map (·.2) = some (T.int 12) := by rw [H.g_MOST_PARTS]; rfl
  have c3 := c_PAIRS V
  have d := deep_ok H (W := W) p n h (by omega)
  obtain ⟨h', e1, g⟩ := parts_ok H (W := W) p n h (by omega) hk
  simp only [List.map_cons, List.map_nil] at d e1
  unfold szO
  by_cases q : 6 < k
  · have q' : (6 : Int) < (k : Int) := by omega
    refine ⟨h, ?_, Gr.refl⟩
    simp [szB, c1, c3, d, q', exc_large H V, q, lgO, endS]
  · have q' : ¬ (6 : Int) < (k : Int) := by omega
    refine ⟨h', ?_, g⟩
    by_cases r : 12 < ps.length
    · have r' : (12 : Int) < (ps.length : Int) := by omega
      simp [szB, c1, c2, c3, d, q', e1, r', exc_large H V, q, r, lgO, endS]
    · have r' : ¬ (12 : Int) < (ps.length : Int) := by omega
      simp [szB, c1, c2, c3, d, q', e1, r', q, r, lgO, endS]
theorem se_loop {n : Nat} (hn : 18 ≤ n) {es : List T} {o : Option (String × Int)} (s : SE es o) : ∀ (h : Hs) (o0 o1 : Option T), ∃ o1' h', forL (.nm 1) (fun env2 h2 => evSs D W (callN D W n) (szB x) env2 h2) es [o0, o1] h = endS x.c_TooLarge (lgO o) [o0, o1'] h' ∧ Gr h h' := by
  induction s with
  | nil => exact fun h o0 o1 => ⟨o1, h, rfl, Gr.refl⟩
  | hit e k ps r o p hk hz =>
    intro h o0 o1
    obtain ⟨h', e1, g⟩ := szB_ok H V (W := W) (h := h) (o0 := o0) p hk hn
    rw [hz] at e1
    exact ⟨some e, h', by rw [forL_exc e1]; rfl, g⟩
  | next e k ps r o p hk hz _ ih =>
    intro h o0 o1
    obtain ⟨h', e1, g⟩ := szB_ok H V (W := W) (h := h) (o0 := o0) p hk hn
    rw [hz] at e1
    obtain ⟨o1', h'', e2, g2⟩ := ih h' o0 (some e)
    exact ⟨o1', h'', by rw [forL_nx e1]; exact e2, g.trans g2⟩
theorem sz_for {n : Nat} (hn : 18 ≤ n) {s : T} {es : List T} {o : Option (String × Int)} (e : EX s es) (z : SE es o) (h : Hs) : ∃ o1' h', evS D W (callN D W n) (.for_ (.nm 1) (.seq (.call x.f_exprs_in (.cons (.var 0) (.nil)))) (szB x)) [some s, none] h = endS x.c_TooLarge (lgO o) [some s, o1'] h' ∧ Gr h h' := by
  obtain ⟨h1, e1, g1⟩ := exprs_ok H (W := W) e n h hn
  obtain ⟨o1, h2, e2, g2⟩ := se_loop H V (W := W) hn z h1 (some s) none
  refine ⟨o1, h2, ?_, g1.trans g2⟩
  rw [evS_for]
  simp [e1]
  exact e2
theorem sizes_ok {n : Nat} (hn : 19 ≤ n) {s : T} {o : Option (String × Int)} (z : SZ s o) (h : Hs) : ∃ h', callN D W n x.f_check_sizes [s] h = endR x.c_TooLarge (lgO o) .non h' ∧ Gr h h' := by
  obtain ⟨n, rfl⟩ : ∃ m, n = m + 1 := ⟨n - 1, by omega⟩
  have c1 : D.cns[x.g_MOST_DEEP]?.map (·.2) = some (T.int 6) := by rw [H.g_MOST_DEEP]; rfl
  have c2 : D.cns[x.g_MOST_TESTS]?.map (·.2) = some (T.int 8) := by rw [H.g_MOST_TESTS]; rfl
  rw [callN_eq H.f_check_sizes rfl (by simp), sz_body H V]
  have fin : ∀ {a : T} {o : Option (String × Int)} {o1 : Option T} {h' : Hs}, ((endS x.c_TooLarge (lgO o) [some a, o1] h').andThen fun env1 h1 => evSs D W (callN D W n) .nil env1 h1).fin = endR x.c_TooLarge (lgO o) .non h' := fun {a o o1 h'} => by
    cases o <;> simp [lgO, endS, endR]
  cases z with
  | plain w r es o hw ex se =>
    obtain ⟨o1, h', e1, g⟩ := sz_for H V (W := W) (n := n) (by omega) ex se h
    refine ⟨h', ?_, g⟩
    have i : evS D W (callN D W n) (szI x) [some (.tup (wT w :: r)), none] h = .nx [some (.tup (wT w :: r)), none] h := by
      simp [szI, hw]
    show ((evS D W (callN D W n) (szI x) [some (.tup (wT w :: r)), none] h).andThen _).fin = _
    rw [i, andThen_nx, evSs_cons, e1]
    exact fin
  | hit t b1 b2 k ps o p hk hz =>
    have d := deep_ok H (W := W) p n h (by omega)
    obtain ⟨h', e1, g⟩ := parts_ok H (W := W) p n h (by omega) hk
    simp only [List.map_cons, List.map_nil] at d e1
    unfold szO at hz
    by_cases q : 6 < k
    · rw [if_pos q] at hz
      cases hz
      have q' : (6 : Int) < (k : Int) := by omega
      refine ⟨h, ?_, Gr.refl⟩
      simp [szI, c1, d, q', exc_large H V, lgO, endR]
    · rw [if_neg q] at hz
      have q' : ¬ (6 : Int) < (k : Int) := by omega
      by_cases r : 8 < ps.length
      · rw [if_pos r] at hz
        cases hz
        have r' : (8 : Int) < (ps.length : Int) := by omega
        refine ⟨h', ?_, g⟩
        simp [szI, c1, c2, d, q', e1, r', exc_large H V, lgO, endR]
      · rw [if_neg r] at hz
        cases hz
  | next t b1 b2 k ps es o p hk hz ex se =>
    have d := deep_ok H (W := W) p n h (by omega)
    obtain ⟨h1, e1, g1⟩ := parts_ok H (W := W) p n h (by omega) hk
    simp only [List.map_cons, List.map_nil] at d e1
    unfold szO at hz
    by_cases q : 6 < k
    · rw [if_pos q] at hz
      cases hz
    rw [if_neg q] at hz
    by_cases r : 8 < ps.length
    · rw [if_pos r] at hz
      cases hz
    have q' : ¬ (6 : Int) < (k : Int) := by omega
    have r' : ¬ (8 : Int) < (ps.length : Int) := by omega
    obtain ⟨o1, h', e2, g2⟩ := sz_for H V (W := W) (n := n) (by omega) ex se h1
    refine ⟨h', ?_, g1.trans g2⟩
    have i : evS D W (callN D W n) (szI x) [some (.tup [wT "if", t, b1, b2]), none] h = .nx [some (.tup [wT "if", t, b1, b2]), none] h1 := by
      simp [szI, c1, c2, d, q', e1, r']
    show ((evS D W (callN D W n) (szI x) [some (.tup [wT "if", t, b1, b2]), none] h).andThen _).fin = _
    rw [i, andThen_nx, evSs_cons, e2]
    exact fin
/-! names -/
def nmI (x : Ix) : Ss := .cons (.ifs (.andv (.cons (.cmp .eq (.ix (.var 4) (.int 0)) (.str "name")) (.cons (.cmp .nin (.ix (.var 4) (.int 1)) (.var 2)) (.nil)))) (.cons (.rais x.c_BadKind (.cons (.var 0) (.cons (.str "name") (.nil)))) (.nil)) (.nil)) (.nil)
def nmB (x : Ix) : Ss := .cons (.for_ (.nm 4) (.seq (.call x.f_plain_parts (.cons (.var 3) (.cons (.glob x.g_PAIRS) (.nil))))) (nmI x)) (.nil)
def nmH (x : Ix) : S := .ifs (.andv (.cons (.cmp .eq (.ix (.var 1) (.int 0)) (.str "set")) (.cons (.cmp .nin (.ix (.var 1) (.int 1)) (.var 2)) (.nil)))) (.cons (.rais x.c_BadKind (.cons (.var 0) (.cons (.str "name") (.nil)))) (.nil)) (.nil)
theorem nm_body : b_check_names x = .cons (nmH x) (.cons (.for_ (.nm 3) (.seq (.call x.f_exprs_in (.cons (.var 1) (.nil)))) (nmB x)) (.nil)) := rfl
def nmO (w : T) (b : Bool) : Option (List T) := if b = true then some [w, wT "name"] else none
theorem nmI_ok {n : Nat} {h : Hs} {w p : T} {o1 o3 : Option T} {ns : List String} (l : LX p) : evSs D W (callN D W n) (nmI x) [some w, o1, some (.lst (ns.map wT)), o3, some p] h = endS x.c_BadKind (nmO w (partBad ns p)) [some w, o1, some (.lst (ns.map wT)), o3, some p] h := by
  cases l with
  | num i => simp [nmI, partBad, nmO, endS]
  | word a ha => rcases ha with rfl | rfl | rfl <;> simp [nmI, partBad, nmO, endS]
  | nam a =>
    have i := in_ns (h := h) (w := a) (ns := ns)
    simp only [partBad]
    generalize (ns.any fun n => decide (Str.ofString n = Str.ofString a)) = b at i
    cases b <;> simp [nmI, i, nmO, endS, exc_kind H V]
theorem nm_loop {n : Nat} {w : T} {ns : List String} : ∀ (ps : List T) (h : Hs) (o1 o3 o4 : Option T), (∀ p ∈ ps, LX p) → ∃ o4', forL (.nm 4) (fun env2 h2 => evSs D W (callN D W n) (nmI x) env2 h2) ps [some w, o1, some (.lst (ns.map wT)), o3, o4] h = endS x.c_BadKind (nmO w (ps.any (partBad ns))) [some w, o1, some (.lst (ns.map wT)), o3, o4'] h
  | [], h, o1, o3, o4, _ => ⟨o4, rfl⟩
  | p :: ps, h, o1, o3, o4, hp => by
    have e := nmI_ok H V (W := W) (n := n) (h := h) (w := w) (o1 := o1) (o3 := o3) (ns := ns) (hp p List.mem_cons_self)
    rw [List.any_cons]
    cases b : partBad ns p with
    | true =>
      rw [b] at e
      exact ⟨some p, by rw [forL_exc e]; rfl⟩
    | false =>
      rw [b] at e
      obtain ⟨o4', e2⟩ := nm_loop ps h o1 o3 (some p) fun q hq => hp q (List.mem_cons_of_mem _ hq)
      exact ⟨o4', by rw [forL_nx e, e2, Bool.false_or]⟩
theorem nm_loop2 {n : Nat} {w : T} {ns : List String} (hn : 18 ≤ n) {es ps : List T} (a : AP es ps) : ∀ (h : Hs) (o1 o3 o4 : Option T), (∀ p ∈ ps, LX p) → ∃ o3' o4' h', forL (.nm 3) (fun env2 h2 => evSs D W (callN D W n) (nmB x) env2 h2) es [some w, o1, some (.lst (ns.map wT)), o3, o4] h = endS x.c_BadKind (nmO w (ps.any (partBad ns))) [some w, o1, some (.lst (ns.map wT)), o3', o4'] h' ∧ Gr h h' := by
  have c3 := c_PAIRS V
  induction a with
  | nil => exact fun h o1 o3 o4 _ => ⟨o3, o4, h, rfl, Gr.refl⟩
  | cons e k ps r qs p hk _ ih =>
    intro h o1 o3 o4 hp
    obtain ⟨h1, e1, g1⟩ := parts_ok H (W := W) p n h (by omega) hk
    simp only [List.map_cons, List.map_nil] at e1
    obtain ⟨o4', e2⟩ := nm_loop H V (W := W) (n := n) (w := w) (ns := ns) ps h1 o1 (some e) o4 fun q hq => hp q (List.mem_append_left _ hq)
    have fs : evS D W (callN D W n) (.for_ (.nm 4) (.seq (.call x.f_plain_parts (.cons (.var 3) (.cons (.glob x.g_PAIRS) (.nil))))) (nmI x)) [some w, o1, some (.lst (ns.map wT)), some e, o4] h = endS x.c_BadKind (nmO w (ps.any (partBad ns))) [some w, o1, some (.lst (ns.map wT)), some e, o4'] h1 := by
      rw [evS_for]
      simp [c3, e1]
      exact e2
    rw [List.any_append]
    cases b : ps.any (partBad ns) with
    | true =>
      rw [b] at fs
      refine ⟨some e, o4', h1, ?_, g1⟩
      rw [forL_exc (c := x.c_BadKind) (xs := [w, wT "name"]) (env2 := [some w, o1, some (.lst (ns.map wT)), some e, o4']) (h2 := h1) (by simp [nmB, fs, nmO, endS])]
      rfl
    | false =>
      rw [b] at fs
      obtain ⟨p3, p4, h2, e3, g2⟩ := ih h1 o1 (some e) o4' fun q hq => hp q (List.mem_append_right _ hq)
      refine ⟨p3, p4, h2, ?_, g1.trans g2⟩
      rw [forL_nx (env2 := [some w, o1, some (.lst (ns.map wT)), some e, o4']) (h2 := h1) (by simp [nmB, fs, nmO, endS]), e3, Bool.false_or]
theorem names_ok {n : Nat} (hn : 19 ≤ n) {w s : T} {ns : List String} {es ps : List T} (ex : EX s es) (a : AP es ps) (hp : ∀ p ∈ ps, LX p) (h : Hs) : ∃ h', callN D W n x.f_check_names [w, s, .lst (ns.map wT)] h = endR x.c_BadKind (nmO w (setBad ns s || ps.any (partBad ns))) .non h' ∧ Gr h h' := by
  obtain ⟨n, rfl⟩ : ∃ m, n = m + 1 := ⟨n - 1, by omega⟩
  obtain ⟨h1, e1, g1⟩ := exprs_ok H (W := W) ex n h (by omega)
  obtain ⟨o3, o4, h2, e2, g2⟩ := nm_loop2 H V (W := W) (n := n) (w := w) (ns := ns) (by omega) a h1 (some s) none none hp
  have fs : evS D W (callN D W n) (.for_ (.nm 3) (.seq (.call x.f_exprs_in (.cons (.var 1) (.nil)))) (nmB x)) [some w, some s, some (.lst (ns.map wT)), none, none] h = endS x.c_BadKind (nmO w (ps.any (partBad ns))) [some w, some s, some (.lst (ns.map wT)), o3, o4] h2 := by
    rw [evS_for]
    simp [e1]
    exact e2
  have hd : evS D W (callN D W n) (nmH x) [some w, some s, some (.lst (ns.map wT)), none, none] h = endS x.c_BadKind (nmO w (setBad ns s)) [some w, some s, some (.lst (ns.map wT)), none, none] h := by
    cases ex with
    | one y hi hy => simp [nmH, setBad, nmO, endS, hy]
    | ex y b hi hy => simp [nmH, setBad, nmO, endS, hy]
    | lower a i => simp [nmH, setBad, nmO, endS]
    | set y b =>
      have i := in_ns (h := h) (w := y) (ns := ns)
      simp only [setBad]
      generalize (ns.any fun n => decide (Str.ofString n = Str.ofString y)) = b at i
      cases b <;> simp [nmH, i, nmO, endS, exc_kind H V]
    | iff t b1 b2 k ps' pp hk hps => simp [nmH, setBad, nmO, endS]
  rw [callN_eq H.f_check_names rfl (by simp), nm_body H V]
  cases b : setBad ns s with
  | true =>
    rw [b] at hd
    refine ⟨h, ?_, Gr.refl⟩
    simp [hd, nmO, endS, endR]
  | false =>
    rw [b] at hd
    refine ⟨h2, ?_, g1.trans g2⟩
    cases c : ps.any (partBad ns) <;> rw [c] at fs <;> simp [hd, fs, nmO, endS, endR]
end
end Gt
end

section
set_option Elab.async false
set_option linter.all false
set_option maxRecDepth 10000
/-! G7: the checked tracker: what is told of it, first. -/
namespace Gt
open PySem Fs Fp
def isW (v : String) : T → Bool
  | .tup [.str a] => decide (a = Str.ofString v)
  | _ => false
/-- one statement, and what is known of it -/
structure SI where
  s : T
  w : String
  ps : List T
  tps : List T
  o : Option (String × Int)
def SIok (i : SI) : Prop := ∃ (r es : List T), i.s = .tup (wT i.w :: r) ∧ EX i.s es ∧ AP es i.ps ∧ (∀ p ∈ i.ps, LX p ∧ Shp 40 p) ∧ SZ i.s i.o ∧ es.length ≤ 100000 ∧
  (i.w = "if" → ∃ t b1 b2 k, i.s = .tup [wT "if", t, b1, b2] ∧ PP tws t k i.tps ∧ k ≤ 15 ∧ ∀ p ∈ i.tps, (∃ w r, p = .tup (wT w :: r)) ∧ Shp 40 p)
def nbI (ns : List String) (i : SI) : Bool := setBad ns i.s || i.ps.any (partBad ns)
abbrev comeW : List String := ["put", "oust", "count", "free", "visit"]
def cmI (i : SI) : Bool := decide (i.w ∈ comeW) || (i.ps.any (isW "its") || (decide (i.w = "if") && i.tps.any (isW "known")))
theorem LX.form {p : T} (l : LX p) : ∃ w r, p = .tup (wT w :: r) := by
  cases l <;> exact ⟨_, _, rfl⟩
theorem isW_form {v w : String} {r : List T} : isW v (.tup (wT w :: r)) = (decide (w = v) && decide (r = [])) := by
  cases r with
  | nil => simp [isW, ofS_inj]
  | cons t r => simp [isW]
/-- a word alone in a list of things that begin with words -/
theorem deep_in {h : Hs} {v : String} {ps : List T} (hv : Shp 1 (.tup [wT v])) (hp : ∀ p ∈ ps, (∃ w r, p = .tup (wT w :: r)) ∧ Shp 40 p) : inT h (.tup [wT v]) (.lst ps) = some (ps.any (isW v)) := by
  show (if flatT (.tup [wT v]) && ps.all flatT then some (ps.any fun y => eqF y (.tup [wT v])) else inDeep (.tup [wT v]) ps) = _
  rw [if_neg (by show ¬ (false && ps.all flatT) = true; simp)]
  obtain ⟨X, eX, gX⟩ := hv
  obtain ⟨xs, e1, l, a, b, c, s, f, kk⟩ := good_all (d := 40) ps fun t ht => (hp t ht).2
  have s1 : SeqAt.shaped (.list xs) = true := by
    unfold SeqAt.shaped
    simp only [PyData.canLay0, a, PyData.depth, Bool.true_and]
    exact decide_eq_true (Nat.le_trans (Nat.add_le_add_right b 1) (by decide))
  have eX' : X = .tuple [.str (Str.ofString v)] := by
    simp [toD, toDs] at eX
    exact eX.symm
  unfold inDeep
  rw [eX, e1, Option.bind_some, Option.bind_some, if_pos (by rw [gX.shaped (by decide), s1]; rfl)]
  congr 1
  subst eX'
  have go : ∀ (ps : List T) (xs : List PyData), (∀ p ∈ ps, (∃ w r, p = .tup (wT w :: r)) ∧ Shp 40 p) → toDs ps = some xs → (xs.any fun z => PyData.eqv z (.tuple [.str (Str.ofString v)])) = ps.any (isW v) := by
    intro ps
    induction ps with
    | nil => intro xs _ e; simp [toDs] at e; subst e; rfl
    | cons p ps ih =>
      intro xs hp e
      simp only [toDs, Option.bind_eq_some_iff, Option.map_eq_some_iff] at e
      obtain ⟨d, ed, ds, eds, rfl⟩ := e
      obtain ⟨⟨w, r, rfl⟩, _⟩ := hp p List.mem_cons_self
      rw [List.any_cons, List.any_cons, ih ds (fun q hq => hp q (List.mem_cons_of_mem _ hq)) eds, isW_form]
      congr 1
      simp only [toD, toDs, Option.map_eq_some_iff, Option.bind_eq_some_iff] at ed
      obtain ⟨ys, ⟨d1, e1, d2, e2, rfl⟩, rfl⟩ := ed
      cases e1
      simp only [PyData.eqv, PyData.eqvAll]
      cases r with
      | nil =>
        simp [toDs] at e2
        subst e2
        simp [PyData.eqvAll]
        exact Bool.eq_iff_iff.mpr (by simp [ofS_inj])
      | cons t r =>
        cases d2 with
        | nil =>
          simp only [toDs, Option.bind_eq_some_iff, Option.map_eq_some_iff] at e2
          obtain ⟨_, _, _, _, e3⟩ := e2
          cases e3
        | cons y ys => simp [PyData.eqvAll]
  exact go ps xs hp e1
section
variable {D : Tb} {x : Ix} (H : HasK D x) (V : HasV D x) {W : Nat}
include H V
theorem its_loop {n : Nat} (hn : 18 ≤ n) {s : T} {es ps : List T} (a : AP es ps) : ∀ (h : Hs), (∀ p ∈ ps, LX p ∧ Shp 40 p) → ∃ m h', compL (cBody D (callN D W n) 1 (.cmp .inn (.tup (.cons (.str "its") (.nil))) (.call x.f_plain_parts (.cons (.var 1) (.cons (.glob x.g_PAIRS) (.nil))))) (.int 1) [1] [some s, none]) es h = .ok (List.replicate m (.int 1)) h' ∧ Gr h h' ∧ m ≤ es.length ∧ decide (m ≠ 0) = ps.any (isW "its") := by
  have c3 := c_PAIRS V
  induction a with
  | nil => exact fun h _ => ⟨0, h, rfl, Gr.refl, Nat.zero_le _, rfl⟩
  | cons e k ps r qs p hk _ ih =>
    intro h hp
    obtain ⟨h1, e1, g1⟩ := parts_ok H (W := W) p n h (by omega) hk
    simp only [List.map_cons, List.map_nil] at e1
    obtain ⟨m, h2, e2, g2, l2, d2⟩ := ih h1 fun q hq => hp q (List.mem_append_right _ hq)
    have i := deep_in (h := h1) (v := "its") (ps := ps) (.tup (all1 (Shp.word (by decide)))) fun q hq => ⟨(hp q (List.mem_append_left _ hq)).1.form, (hp q (List.mem_append_left _ hq)).2⟩
    cases b : ps.any (isW "its") with
    | true =>
      rw [b] at i
      refine ⟨m + 1, h2, ?_, g1.trans g2, by simp; omega, by rw [List.any_append, b]; simp⟩
      have st : cBody D (callN D W n) 1 (.cmp .inn (.tup (.cons (.str "its") (.nil))) (.call x.f_plain_parts (.cons (.var 1) (.cons (.glob x.g_PAIRS) (.nil))))) (.int 1) [1] [some s, none] e h = .ok (some (.int 1)) h1 := by
        simp [cBody, wipeT, c3, e1, i]
      simp only [compL, st, R.bind_ok, e2, List.replicate_succ]
    | false =>
      rw [b] at i
      refine ⟨m, h2, ?_, g1.trans g2, by simp; omega, by rw [List.any_append, b, d2]; simp⟩
      have st : cBody D (callN D W n) 1 (.cmp .inn (.tup (.cons (.str "its") (.nil))) (.call x.f_plain_parts (.cons (.var 1) (.cons (.glob x.g_PAIRS) (.nil))))) (.int 1) [1] [some s, none] e h = .ok none h1 := by
        simp [cBody, wipeT, c3, e1, i]
      simp only [compL, st, R.bind_ok, e2]
theorem come_ok {n : Nat} (hn : 19 ≤ n) {i : SI} (k : SIok i) (h : Hs) : ∃ h', callN D W n x.f_does_ask_come [i.s] h = .ok (.bl (cmI i)) h' ∧ Gr h h' := by
  obtain ⟨n, rfl⟩ : ∃ m, n = m + 1 := ⟨n - 1, by omega⟩
  obtain ⟨r, es, es1, ex, ap, lx, sz, el, tp⟩ := k
  have cC : D.cns[x.g_COME]?.map (·.2) = some (T.tup (comeW.map wT)) := by rw [H.g_COME]; rfl
  have ic := inW_tup (h := h) (w := i.w) (ws := comeW)
  rw [callN_eq H.f_does_ask_come rfl (by simp)]
  unfold cmI
  by_cases q : i.w ∈ comeW
  · rw [decide_eq_true q] at ic ⊢
    refine ⟨h, ?_, Gr.refl⟩
    rw [es1]
    simp only [List.map_cons, List.map_nil] at cC ic
    simp [b_does_ask_come, cC, ic]
  rw [decide_eq_false q] at ic ⊢
  obtain ⟨h1, e1, g1⟩ := exprs_ok H (W := W) ex n h (by omega)
  obtain ⟨m, h2, e2, g2, l2, d2⟩ := its_loop H V (W := W) (s := i.s) (n := n) (by omega) ap h1 lx
  have cc : ev D (callN D W n) (.comp false (.nm 1) (.seq (.call x.f_exprs_in (.cons (.var 0) (.nil)))) (.cmp .inn (.tup (.cons (.str "its") (.nil))) (.call x.f_plain_parts (.cons (.var 1) (.cons (.glob x.g_PAIRS) (.nil))))) (.int 1) [1]) [some i.s, none] h = mkV (.ok (.lst (List.replicate m (.int 1))) h2) := by
    have it : evI D (callN D W n) (.seq (.call x.f_exprs_in (.cons (.var 0) (.nil)))) [some i.s, none] h = .ok es h1 := by simp [e1]
    rw [ev_compE, it, R.bind_ok, e2]
    simp only [R.nox_ok, R.bind_ok]
    rw [if_pos (by rw [List.length_replicate]; simp only [lim_eq]; omega)]
  have nl : eqT h2 (.lst (List.replicate m (.int 1))) (.lst []) = some (decide (m = 0)) := by
    rw [lst_nil (d := 0) (fun t ht => by
      rw [List.eq_of_mem_replicate ht]
      exact Shp.int (by decide)) (by decide)]
    congr 1
    exact Bool.eq_iff_iff.mpr (by simp)
  rw [es1] at cc ⊢
  simp only [List.map_cons, List.map_nil] at cC ic
  cases b : i.ps.any (isW "its") with
  | true =>
    rw [b] at d2
    have m0 : m ≠ 0 := of_decide_eq_true d2
    rw [decide_eq_false m0] at nl
    refine ⟨h2, ?_, g1.trans g2⟩
    simp only [b_does_ask_come, evSs_cons, evS_ifs, ev_cmp, cc]
    simp [cC, ic, cc, nl]
  | false =>
    rw [b] at d2
    have m0 : m = 0 := by
      have := of_decide_eq_false d2
      omega
    rw [decide_eq_true m0] at nl
    by_cases w : i.w = "if"
    · obtain ⟨t, b1, b2, k, es2, pp, hk, fm⟩ := tp w
      obtain ⟨h3, e3, g3⟩ := parts_ok H (W := W) pp n h2 (by omega) hk
      have kn := deep_in (h := h3) (v := "known") (ps := i.tps) (.tup (all1 (Shp.word (by decide)))) fm
      have hr : r = [t, b1, b2] := by
        rw [es1] at es2
        injection es2 with e
        injection e with _ e
      subst hr
      simp only [List.map_cons, List.map_nil] at e3
      rw [w] at ic cc ⊢
      refine ⟨h3, ?_, (g1.trans g2).trans g3⟩
      simp only [b_does_ask_come, evSs_cons, evS_ifs, ev_cmp, cc]
      simp [cC, ic, cc, nl, e3, kn]
    · refine ⟨h2, ?_, g1.trans g2⟩
      simp only [b_does_ask_come, evSs_cons, evS_ifs, ev_cmp, cc]
      simp [cC, ic, cc, nl, w]
end
end Gt
end

section
set_option Elab.async false
set_option linter.all false
set_option maxRecDepth 10000
/-! G8: numbered, the limits, the checked tracker. -/
namespace Gt
open PySem Fs Fp
def firstO : List SI → Option (String × Int)
  | [] => none
  | i :: r => match i.o with
    | some p => some p
    | none => firstO r
def firstN (ns : List String) (tag : String) : Nat → List SI → Option (List T)
  | _, [] => none
  | n, i :: r => if nbI ns i = true then some [.tup [wT tag, .int (n : Int)], wT "name"] else firstN ns tag (n + 1) r
def firstT (ns : List String) : Nat → List SI → Option (List T)
  | _, [] => none
  | n, i :: r => if nbI ns i = true then some [.tup [wT "turn", .int (n : Int)], wT "name"] else if cmI i = true then some [.tup [wT "turn", .int (n : Int)], wT "come"] else firstT ns (n + 1) r
def limO (nc bc bt : Nat) (l : List SI) : Option (String × Int) := if 30 < nc then some ("lines", 30) else if 4 < max bc bt then some ("blocks", 4) else firstO l
/-- a tracker's bodies, taken apart -/
structure Bod (came turn : List T) (cs ts : List SI) (kc kt bc bt : Nat) : Prop where
  pca : AO kc came (cs.map SI.s)
  ptu : AO kt turn (ts.map SI.s)
  pbc : BD came bc
  pbt : BD turn bt
  pok : ∀ i ∈ cs ++ ts, SIok i
  pln : cs.length ≤ 400000 ∧ ts.length ≤ 400000
  pkl : kc ≤ 10 ∧ kt ≤ 10 ∧ bc ≤ 10 ∧ bt ≤ 10
section
variable {D : Tb} {x : Ix} (H : HasK D x) (V : HasV D x) {W : Nat}
include H V
theorem numbered_ok {c1 c2 : Bool} {e q d : Nat} {slots most period : Int} {nums : List (String × Int × Int)} {came turn : List T} {cs ts : List SI} {kc kt bc bt : Nat} (s : IsTr c1 c2 e q d slots most period nums came turn) (b : Bod came turn cs ts kc kt bc bt) (he : e ≤ 12) (hq : q ≤ 12) (hd : d ≤ 12) {n : Nat} (hn : 75 ≤ n) (h : Hs) :
    ∃ h', callN D W n x.f_numbered [trT slots most period nums came turn] h = .ok (.tup ((cs ++ ts).map SI.s)) h' ∧ Gr h h' := by
  obtain ⟨n, rfl⟩ : ∃ m, n = m + 1 := ⟨n - 1, by omega⟩
  have kl := b.pkl
  have ln := b.pln
  have t := tracker_ok V (W := W) (n := n) (h := h) s he hq hd (by omega)
  obtain ⟨h1, e1, g1⟩ := order_ok H (W := W) (n := n) b.pca (by omega) (by rw [List.length_map]; omega) h
  obtain ⟨h2, e2, g2⟩ := order_ok H (W := W) (n := n) b.ptu (by omega) (by rw [List.length_map]; omega) h1
  refine ⟨h2, ?_, g1.trans g2⟩
  rw [callN_eq H.f_numbered rfl (by simp)]
  have l3 : cs.length + ts.length ≤ 1000000 := by omega
  unfold trT at t ⊢
  simp [b_numbered, t, e1, e2, l3]
def limB (x : Ix) : Ss := .cons (.ex (.call x.f_check_sizes (.cons (.var 2) (.nil)))) (.nil)
theorem lim_loop {n : Nat} (hn : 19 ≤ n) : ∀ (l : List SI) (h : Hs) (o0 o1 o2 : Option T), (∀ i ∈ l, SIok i) → ∃ o2' h', forL (.nm 2) (fun env2 h2 => evSs D W (callN D W n) (limB x) env2 h2) (l.map SI.s) [o0, o1, o2] h = endS x.c_TooLarge (lgO (firstO l)) [o0, o1, o2'] h' ∧ Gr h h'
  | [], h, o0, o1, o2, _ => ⟨o2, h, rfl, Gr.refl⟩
  | i :: l, h, o0, o1, o2, hk => by
    obtain ⟨r, es, es1, ex, ap, lx, sz, el, tp⟩ := hk i List.mem_cons_self
    obtain ⟨h1, e1, g1⟩ := sizes_ok H V (W := W) hn sz h
    rw [List.map_cons]
    simp only [firstO]
    cases q : i.o with
    | some p =>
      rw [q] at e1
      refine ⟨some i.s, h1, ?_, g1⟩
      rw [forL_exc (c := x.c_TooLarge) (xs := [wT p.1, .int p.2]) (env2 := [o0, o1, some i.s]) (h2 := h1) (by simp [limB, e1, lgO, endR])]
      rfl
    | none =>
      rw [q] at e1
      obtain ⟨p2, h2, e2, g2⟩ := lim_loop hn l h1 o0 o1 (some i.s) fun j hj => hk j (List.mem_cons_of_mem _ hj)
      refine ⟨p2, h2, ?_, g1.trans g2⟩
      rw [forL_nx (env2 := [o0, o1, some i.s]) (h2 := h1) (by simp [limB, e1, lgO, endR])]
      exact e2
theorem lim_body : b_check_limits x = .cons (.set 1 (.call x.f_numbered (.cons (.var 0) (.nil)))) (.cons (.ifs (.cmp .gt (.bi .len (.cons (.var 1) (.nil))) (.glob x.g_MOST_LINES)) (.cons (.rais x.c_TooLarge (.cons (.str "lines") (.cons (.glob x.g_MOST_LINES) (.nil)))) (.nil)) (.nil)) (
    .cons (.ifs (.cmp .gt (.bi .max2 (.cons (.call x.f_blocks_deep (.cons (.ix (.var 0) (.int 3)) (.nil))) (.cons (.call x.f_blocks_deep (.cons (.ix (.var 0) (.int 5)) (.nil))) (.nil)))) (.glob x.g_MOST_BLOCKS)) (.cons (.rais x.c_TooLarge (.cons (.str "blocks") (.cons (.glob x.g_MOST_BLOCKS) (.nil)))) (.nil)) (.nil)) (
    .cons (.for_ (.nm 2) (.seq (.var 1)) (limB x)) (.nil)))) := rfl
theorem limits_ok {c1 c2 : Bool} {e q d : Nat} {slots most period : Int} {nums : List (String × Int × Int)} {came turn : List T} {cs ts : List SI} {kc kt bc bt : Nat} (s : IsTr c1 c2 e q d slots most period nums came turn) (b : Bod came turn cs ts kc kt bc bt) (he : e ≤ 12) (hq : q ≤ 12) (hd : d ≤ 12) {n : Nat} (hn : 76 ≤ n) (h : Hs) :
    ∃ h', callN D W n x.f_check_limits [trT slots most period nums came turn] h = endR x.c_TooLarge (lgO (limO (cs.length + ts.length) bc bt (cs ++ ts))) .non h' ∧ Gr h h' := by
  obtain ⟨n, rfl⟩ : ∃ m, n = m + 1 := ⟨n - 1, by omega⟩
  have kl := b.pkl
  have ln := b.pln
  have k1 : D.cns[x.g_MOST_LINES]?.map (·.2) = some (T.int 30) := by rw [H.g_MOST_LINES]; rfl
  have k2 : D.cns[x.g_MOST_BLOCKS]?.map (·.2) = some (T.int 4) := by rw [H.g_MOST_BLOCKS]; rfl
  obtain ⟨h1, e1, g1⟩ := numbered_ok H V (W := W) s b he hq hd (n := n) (by omega) h
  have e2 := blocks_ok H (W := W) (n := n) b.pbc (by omega) h1
  have e3 := blocks_ok H (W := W) (n := n) b.pbt (by omega) h1
  have mx := max_T H (h := h1) (a := bc) (b := bt)
  obtain ⟨o2, h2, e4, g2⟩ := lim_loop H V (W := W) (n := n) (by omega) (cs ++ ts) h1 (some (trT slots most period nums came turn)) (some (.tup ((cs ++ ts).map SI.s))) none b.pok
  have fs : evS D W (callN D W n) (.for_ (.nm 2) (.seq (.var 1)) (limB x)) [some (trT slots most period nums came turn), some (.tup ((cs ++ ts).map SI.s)), none] h1 = endS x.c_TooLarge (lgO (firstO (cs ++ ts))) [some (trT slots most period nums came turn), some (.tup ((cs ++ ts).map SI.s)), o2] h2 := by
    rw [evS_for]
    simp only [evI_seq, ev_var]
    exact e4
  rw [callN_eq H.f_check_limits rfl (by simp), lim_body H V]
  unfold limO
  generalize hT : trT slots most period nums came turn = tr at *
  have i3 : ixT h1 tr (.int 3) = some (.tup came) := by rw [← hT]; rfl
  have i5 : ixT h1 tr (.int 5) = some (.tup turn) := by rw [← hT]; rfl
  have ll : (((cs ++ ts).map SI.s).length : Int) = ((cs.length + ts.length : Nat) : Int) := by simp
  generalize (cs ++ ts).map SI.s = us at *
  generalize cs.length + ts.length = nc at *
  by_cases q1 : 30 < nc
  · have q1' : (30 : Int) < (us.length : Int) := by omega
    refine ⟨h1, ?_, g1⟩
    simp [e1, k1, q1, q1', exc_large H V, lgO, endR]
  have q1' : ¬ (30 : Int) < (us.length : Int) := by omega
  by_cases q2 : 4 < max bc bt
  · have q2' : (4 : Int) < ((max bc bt : Nat) : Int) := by omega
    refine ⟨h1, ?_, g1⟩
    rw [if_neg q1, if_pos q2]
    simp only [evSs_cons, evSs_nil, evS_set, evS_ifs, evS_rais, ev_call, ev_cmp, ev_bi, evL_cons, evL_nil, ev_var, ev_ix, ev_int, ev_glob, ev_str]
    simp [e1, k1, k2, q1', e2, e3, i3, i5]
    rw [mx]
    simp [q2', exc_large H V, lgO, endR]
  · have q2' : ¬ (4 : Int) < ((max bc bt : Nat) : Int) := by omega
    refine ⟨h2, ?_, g1.trans g2⟩
    rw [if_neg q1, if_neg q2]
    simp only [evSs_cons, evSs_nil, evS_set, evS_ifs, evS_rais, ev_call, ev_cmp, ev_bi, evL_cons, evL_nil, ev_var, ev_ix, ev_int, ev_glob, ev_str]
    simp [e1, k1, k2, q1', e2, e3, i3, i5]
    rw [mx]
    simp [q2', fs]
    cases firstO (cs ++ ts) <;> simp [lgO, endS, endR]
end
end Gt
end

section
set_option Elab.async false
set_option linter.all false
set_option maxRecDepth 10000
/-! G9: the checked tracker. -/
namespace Gt
open PySem Fs Fp
def outR (cl ck : Nat) (tr : T) (lim : Option (List T)) (a : Option (List T)) (per : Bool) (b : Option (List T)) (h : Hs) : R T := match lim with
  | some xs => .exc cl xs h
  | none => match a with
    | some xs => .exc ck xs h
    | none => if per = true then .exc ck [.tup [wT "turn", .int 0], wT "period"] h else match b with
      | some xs => .exc ck xs h
      | none => .ok tr h
section
variable {D : Tb} {x : Ix} (H : HasK D x) (V : HasV D x) {W : Nat}
include H V
def chA (x : Ix) : Ss := .cons (.ex (.call x.f_check_names (.cons (.tup (.cons (.str "came") (.cons (.var 3) (.nil)))) (.cons (.var 4) (.cons (.var 1) (.nil)))))) (.nil)
def chB (x : Ix) : Ss := .cons (.ex (.call x.f_check_names (.cons (.tup (.cons (.str "turn") (.cons (.var 3) (.nil)))) (.cons (.var 4) (.cons (.var 1) (.nil)))))) (
  .cons (.ifs (.call x.f_does_ask_come (.cons (.var 4) (.nil))) (.cons (.rais x.c_BadKind (.cons (.tup (.cons (.str "turn") (.cons (.var 3) (.nil)))) (.cons (.str "come") (.nil)))) (.nil)) (.nil)) (.nil))
def chP (x : Ix) : S := .ifs (.andv (.cons (.cmp .eq (.ix (.var 0) (.int 4)) (.int 0)) (.cons (.cmp .ne (.ix (.var 0) (.int 5)) (.tup (.nil))) (.nil)))) (.cons (.rais x.c_BadKind (.cons (.tup (.cons (.str "turn") (.cons (.int 0) (.nil)))) (.cons (.str "period") (.nil)))) (.nil)) (.nil)
theorem ch_body : b_checked_tracker x = .cons (.ex (.call x.f_check_limits (.cons (.var 0) (.nil)))) (.cons (.set 1 (.comp false (.nm 2) (.seq (.ix (.var 0) (.int 2))) (.absent) (.ix (.var 2) (.int 0)) [2])) (
    .cons (.for_ (.tp [3, 4]) (.enum (.call x.f_in_order (.cons (.ix (.var 0) (.int 3)) (.nil)))) (chA x)) (.cons (chP x) (
    .cons (.for_ (.tp [3, 4]) (.enum (.call x.f_in_order (.cons (.ix (.var 0) (.int 5)) (.nil)))) (chB x)) (.cons (.ret (.var 0)) (.nil)))))) := rfl
theorem chA_loop {n : Nat} (hn : 19 ≤ n) {ns : List String} : ∀ (l : List SI) (m : Nat) (h : Hs) (o0 o2 o3 o4 : Option T), (∀ i ∈ l, SIok i) → ∃ o3' o4' h', forL (.tp [3, 4]) (fun env2 h2 => evSs D W (callN D W n) (chA x) env2 h2) (enumT m (l.map SI.s)) [o0, some (.lst (ns.map wT)), o2, o3, o4] h =
    endS x.c_BadKind (firstN ns "came" m l) [o0, some (.lst (ns.map wT)), o2, o3', o4'] h' ∧ Gr h h'
  | [], m, h, o0, o2, o3, o4, _ => ⟨o3, o4, h, rfl, Gr.refl⟩
  | i :: l, m, h, o0, o2, o3, o4, hk => by
    obtain ⟨r, es, es1, ex, ap, lx, sz, el, tp⟩ := hk i List.mem_cons_self
    obtain ⟨h1, e1, g1⟩ := names_ok H V (W := W) hn (w := .tup [wT "came", .int (m : Int)]) (ns := ns) ex ap (fun p hp => (lx p hp).1) h
    rw [List.map_cons]
    simp only [enumT, firstN]
    have bd : bindG (.tp [3, 4]) (.tup [.int (m : Int), i.s]) [o0, some (.lst (ns.map wT)), o2, o3, o4] = some [o0, some (.lst (ns.map wT)), o2, some (.int (m : Int)), some i.s] := rfl
    have q0 : nbI ns i = (setBad ns i.s || i.ps.any (partBad ns)) := rfl
    rw [← q0] at e1
    cases q : nbI ns i with
    | true =>
      rw [q] at e1
      refine ⟨some (.int (m : Int)), some i.s, h1, ?_, g1⟩
      rw [forT_exc bd (c := x.c_BadKind) (xs := [.tup [wT "came", .int (m : Int)], wT "name"]) (env2 := [o0, some (.lst (ns.map wT)), o2, some (.int (m : Int)), some i.s]) (h2 := h1) (by simp [chA, e1, nmO, endR])]
      simp [endS]
    | false =>
      rw [q] at e1
      obtain ⟨p3, p4, h2, e2, g2⟩ := chA_loop hn l (m + 1) h1 o0 o2 (some (.int (m : Int))) (some i.s) fun j hj => hk j (List.mem_cons_of_mem _ hj)
      refine ⟨p3, p4, h2, ?_, g1.trans g2⟩
      rw [forT_nx bd (env2 := [o0, some (.lst (ns.map wT)), o2, some (.int (m : Int)), some i.s]) (h2 := h1) (by simp [chA, e1, nmO, endR])]
      simpa using e2
theorem chB_loop {n : Nat} (hn : 19 ≤ n) {ns : List String} : ∀ (l : List SI) (m : Nat) (h : Hs) (o0 o2 o3 o4 : Option T), (∀ i ∈ l, SIok i) → ∃ o3' o4' h', forL (.tp [3, 4]) (fun env2 h2 => evSs D W (callN D W n) (chB x) env2 h2) (enumT m (l.map SI.s)) [o0, some (.lst (ns.map wT)), o2, o3, o4] h =
    endS x.c_BadKind (firstT ns m l) [o0, some (.lst (ns.map wT)), o2, o3', o4'] h' ∧ Gr h h'
  | [], m, h, o0, o2, o3, o4, _ => ⟨o3, o4, h, rfl, Gr.refl⟩
  | i :: l, m, h, o0, o2, o3, o4, hk => by
    have ki := hk i List.mem_cons_self
    obtain ⟨r, es, es1, ex, ap, lx, sz, el, tp⟩ := hk i List.mem_cons_self
    obtain ⟨h1, e1, g1⟩ := names_ok H V (W := W) hn (w := .tup [wT "turn", .int (m : Int)]) (ns := ns) ex ap (fun p hp => (lx p hp).1) h
    obtain ⟨h2, e2, g2⟩ := come_ok H V (W := W) hn ki h1
    rw [List.map_cons]
    simp only [enumT, firstT]
    have bd : bindG (.tp [3, 4]) (.tup [.int (m : Int), i.s]) [o0, some (.lst (ns.map wT)), o2, o3, o4] = some [o0, some (.lst (ns.map wT)), o2, some (.int (m : Int)), some i.s] := rfl
    have q0 : nbI ns i = (setBad ns i.s || i.ps.any (partBad ns)) := rfl
    rw [← q0] at e1
    cases q : nbI ns i with
    | true =>
      rw [q] at e1
      refine ⟨some (.int (m : Int)), some i.s, h1, ?_, g1⟩
      rw [forT_exc bd (c := x.c_BadKind) (xs := [.tup [wT "turn", .int (m : Int)], wT "name"]) (env2 := [o0, some (.lst (ns.map wT)), o2, some (.int (m : Int)), some i.s]) (h2 := h1) (by simp [chB, e1, nmO, endR])]
      simp [endS]
    | false =>
      rw [q] at e1
      cases c : cmI i with
      | true =>
        rw [c] at e2
        refine ⟨some (.int (m : Int)), some i.s, h2, ?_, g1.trans g2⟩
        rw [forT_exc bd (c := x.c_BadKind) (xs := [.tup [wT "turn", .int (m : Int)], wT "come"]) (env2 := [o0, some (.lst (ns.map wT)), o2, some (.int (m : Int)), some i.s]) (h2 := h2) (by simp [chB, e1, e2, nmO, endR, exc_kind H V])]
        simp [endS]
      | false =>
        rw [c] at e2
        obtain ⟨p3, p4, h3, e3, g3⟩ := chB_loop hn l (m + 1) h2 o0 o2 (some (.int (m : Int))) (some i.s) fun j hj => hk j (List.mem_cons_of_mem _ hj)
        refine ⟨p3, p4, h3, ?_, (g1.trans g2).trans g3⟩
        rw [forT_nx bd (env2 := [o0, some (.lst (ns.map wT)), o2, some (.int (m : Int)), some i.s]) (h2 := h2) (by simp [chB, e1, e2, nmO, endR])]
        simpa using e3
theorem checked_ok {c1 c2 : Bool} {e q d : Nat} {slots most period : Int} {nums : List (String × Int × Int)} {came turn : List T} {cs ts : List SI} {kc kt bc bt : Nat} (s : IsTr c1 c2 e q d slots most period nums came turn) (b : Bod came turn cs ts kc kt bc bt) (he : e ≤ 12) (hq : q ≤ 12) (hd : d ≤ 12) {n : Nat} (hn : 77 ≤ n) (h : Hs) :
    ∃ h', callN D W n x.f_checked_tracker [trT slots most period nums came turn] h = outR x.c_TooLarge x.c_BadKind (trT slots most period nums came turn) (lgO (limO (cs.length + ts.length) bc bt (cs ++ ts))) (firstN (nums.map (·.1)) "came" 0 cs) (decide (period = 0) && !decide (turn = [])) (firstT (nums.map (·.1)) 0 ts) h' ∧ Gr h h' := by
  obtain ⟨n, rfl⟩ : ∃ m, n = m + 1 := ⟨n - 1, by omega⟩
  have kl := b.pkl
  have ln := b.pln
  obtain ⟨h1, e1, g1⟩ := limits_ok H V (W := W) s b he hq hd (n := n) (by omega) h
  obtain ⟨h2, e2, g2⟩ := order_ok H (W := W) (n := n) b.pca (by omega) (by rw [List.length_map]; omega) h1
  obtain ⟨a3, a4, h3, e3, g3⟩ := chA_loop H V (W := W) (n := n) (by omega) (ns := nums.map (·.1)) cs 0 h2 (some (trT slots most period nums came turn)) none none none fun i hi => b.pok i (List.mem_append_left _ hi)
  obtain ⟨h4, e4, g4⟩ := order_ok H (W := W) (n := n) b.ptu (by omega) (by rw [List.length_map]; omega) h3
  obtain ⟨b3, b4, h5, e5, g5⟩ := chB_loop H V (W := W) (n := n) (by omega) (ns := nums.map (·.1)) ts 0 h4 (some (trT slots most period nums came turn)) none a3 a4 fun i hi => b.pok i (List.mem_append_right _ hi)
  have nm : ev D (callN D W n) (.comp false (.nm 2) (.seq (.ix (.var 0) (.int 2))) (.absent) (.ix (.var 2) (.int 0)) [2]) [some (trT slots most period nums came turn), none, none, none, none] h1 = mkV (.ok (.lst ((nums.map (·.1)).map wT)) h1) := by
    have cc := ev_compM (D := D) (cl := callN D W n) (env := [some (trT slots most period nums came turn), none, none, none, none]) (h := h1) (h1 := h1) (i := 2) (it := .seq (.ix (.var 0) (.int 2))) (e := .ix (.var 2) (.int 0)) (vs := [2]) (xs := nums.map numT) (g := fun t => match t with
      | .tup (w :: _) => w
      | _ => .non) (by simp [trT]) (by have := s.nu.1; simp; omega) (fun t ht => by
        obtain ⟨y, hy, rfl⟩ := List.mem_map.mp ht
        simp [wipeT, numT])
    rw [cc, List.map_map, List.map_map]
    rfl
  have tn : ∀ h : Hs, eqT h (.tup turn) (.tup []) = some (decide (turn = [])) := fun h => tup_nil (d := 60) ((Shp.tup fun t ht => (s.tu.1 t ht).shp).mono (by omega)) (by decide)
  have f1 : evS D W (callN D W n) (.for_ (.tp [3, 4]) (.enum (.call x.f_in_order (.cons (.ix (.var 0) (.int 3)) (.nil)))) (chA x)) [some (trT slots most period nums came turn), some (.lst ((nums.map (·.1)).map wT)), none, none, none] h1 = endS x.c_BadKind (firstN (nums.map (·.1)) "came" 0 cs) [some (trT slots most period nums came turn), some (.lst ((nums.map (·.1)).map wT)), none, a3, a4] h3 := by
    rw [evS_for, evI_enum (ts := cs.map SI.s) (h1 := h2) (by simp [trT, e2]), R.toS_ok]
    exact e3
  have f2 : evS D W (callN D W n) (.for_ (.tp [3, 4]) (.enum (.call x.f_in_order (.cons (.ix (.var 0) (.int 5)) (.nil)))) (chB x)) [some (trT slots most period nums came turn), some (.lst ((nums.map (·.1)).map wT)), none, a3, a4] h3 = endS x.c_BadKind (firstT (nums.map (·.1)) 0 ts) [some (trT slots most period nums came turn), some (.lst ((nums.map (·.1)).map wT)), none, b3, b4] h5 := by
    rw [evS_for, evI_enum (ts := ts.map SI.s) (h1 := h4) (by simp [trT, e4]), R.toS_ok]
    exact e5
  have pp : evS D W (callN D W n) (chP x) [some (trT slots most period nums came turn), some (.lst ((nums.map (·.1)).map wT)), none, a3, a4] h3 = endS x.c_BadKind (if (decide (period = 0) && !decide (turn = [])) = true then some [.tup [wT "turn", .int 0], wT "period"] else none) [some (trT slots most period nums came turn), some (.lst ((nums.map (·.1)).map wT)), none, a3, a4] h3 := by
    have t0 := tn h3
    by_cases p0 : period = 0 <;> by_cases q0 : turn = [] <;> simp [chP, trT, p0, q0, t0, endS, exc_kind H V] <;> simp [q0, t0, endS, exc_kind H V] at t0 ⊢ <;> simp [t0]
  rw [callN_eq H.f_checked_tracker rfl (by simp), ch_body H V]
  generalize trT slots most period nums came turn = tr at *
  generalize (nums.map (·.1)).map wT = nl at *
  generalize lgO (limO (cs.length + ts.length) bc bt (cs ++ ts)) = lo at *
  generalize firstN (nums.map (·.1)) "came" 0 cs = fa at *
  generalize firstT (nums.map (·.1)) 0 ts = fb at *
  generalize (decide (period = 0) && !decide (turn = [])) = per at *
  cases lo with
  | some xs => exact ⟨h1, by simp [e1, endR, outR], g1⟩
  | none =>
    cases fa with
    | some xs => exact ⟨h3, by simp [e1, nm, f1, endR, endS, outR], (g1.trans g2).trans g3⟩
    | none =>
      cases per with
      | true => exact ⟨h3, by simp [e1, nm, f1, pp, endR, endS, outR], (g1.trans g2).trans g3⟩
      | false =>
        refine ⟨h5, ?_, (((g1.trans g2).trans g3).trans g4).trans g5⟩
        cases fb <;> simp [e1, nm, f1, pp, f2, endR, endS, outR]
end
end Gt
end

section
set_option Elab.async false
set_option linter.all false
set_option maxRecDepth 10000
/-! G10: what is drawn can be taken apart. -/
namespace Gt
open PySem Fs Fp
theorem IsX.pp {c : Bool} {d : Nat} {t : T} (s : IsX c d t) : d ≤ 30 → ∃ k ps, k ≤ d ∧ PP pairs t k ps ∧ ∀ p ∈ ps, LX p ∧ Shp 40 p := by
  induction s with
  | num d n h1 h2 => exact fun hd => ⟨0, _, Nat.zero_le _, .leaf "number" _ (by decide), all1 ⟨.num n, (IsX.num (c := c) d n h1 h2).shp.mono (by omega)⟩⟩
  | lea d w h =>
    intro hd
    have sh := (IsX.lea (c := c) d w h).shp.mono (show d + 1 ≤ 40 by omega)
    rcases h with rfl | rfl
    · exact ⟨0, _, Nat.zero_le _, .leaf "least" _ (by decide), all1 ⟨.word _ (.inl rfl), sh⟩⟩
    · exact ⟨0, _, Nat.zero_le _, .leaf "most" _ (by decide), all1 ⟨.word _ (.inr (.inl rfl)), sh⟩⟩
  | its d h => exact fun hd => ⟨0, _, Nat.zero_le _, .leaf "its" _ (by decide), all1 ⟨.word _ (.inr (.inr rfl)), (IsX.its (c := c) d h).shp.mono (by omega)⟩⟩
  | nam d w h => exact fun hd => ⟨0, _, Nat.zero_le _, .leaf "name" _ (by decide), all1 ⟨.nam w, (IsX.nam (c := c) d w h).shp.mono (by omega)⟩⟩
  | bin d w a b h _ _ iha ihb =>
    intro hd
    obtain ⟨ka, pa, la, ppa, fa⟩ := iha (by omega)
    obtain ⟨kb, pb, lb, ppb, fb⟩ := ihb (by omega)
    exact ⟨max ka kb + 1, pa ++ pb, by omega, .two w a b ka kb pa pb (by rcases h with rfl | rfl | rfl | rfl <;> decide) ppa ppb, fun p hp => (List.mem_append.mp hp).elim (fa p) (fb p)⟩
theorem IsX.tup {c : Bool} {d : Nat} {t : T} (s : IsX c d t) : ∃ r, t = .tup r := by
  cases s <;> exact ⟨_, rfl⟩
theorem IsT.pp {c : Bool} {e d : Nat} {t : T} (s : IsT c e d t) (he : e ≤ 15) : d ≤ 15 → ∃ k ps, k ≤ d ∧ PP tws t k ps ∧ ∀ p ∈ ps, (∃ w r, p = .tup (wT w :: r) ∧ r.length ≤ 2 ∧ ∀ a ∈ r, IsX c e a) ∧ Shp 40 p := by
  induction s with
  | cmp d w a b h sa sb =>
    intro hd
    have sh := (IsT.cmp (c := c) d w a b h sa sb).shp.mono (show e + d + 2 ≤ 40 by omega)
    refine ⟨0, _, Nat.zero_le _, .leaf w [a, b] (by rcases h with rfl | rfl <;> decide), all1 ⟨⟨w, [a, b], rfl, by simp, all2 sa sb⟩, sh⟩⟩
  | full d => exact fun hd => ⟨0, _, Nat.zero_le _, .leaf "full" [] (by decide), all1 ⟨⟨"full", [], rfl, by simp, fun a ha => by cases ha⟩, (IsT.full (c := c) (e := e) d).shp.mono (by omega)⟩⟩
  | known d h => exact fun hd => ⟨0, _, Nat.zero_le _, .leaf "known" [] (by decide), all1 ⟨⟨"known", [], rfl, by simp, fun a ha => by cases ha⟩, (IsT.known (c := c) (e := e) d h).shp.mono (by omega)⟩⟩
  | nott d a _ iha =>
    intro hd
    obtain ⟨ka, pa, la, ppa, fa⟩ := iha (by omega)
    exact ⟨ka + 1, pa, by omega, .one "not" a ka pa (by decide) ppa, fa⟩
  | bin d w a b h _ _ iha ihb =>
    intro hd
    obtain ⟨ka, pa, la, ppa, fa⟩ := iha (by omega)
    obtain ⟨kb, pb, lb, ppb, fb⟩ := ihb (by omega)
    exact ⟨max ka kb + 1, pa ++ pb, by omega, .two w a b ka kb pa pb (by rcases h with rfl | rfl <;> decide) ppa ppb, fun p hp => (List.mem_append.mp hp).elim (fa p) (fb p)⟩
/-- a list of expressions -/
theorem exprs_all {c : Bool} {d : Nat} (hd : d ≤ 15) : ∀ es : List T, (∀ e ∈ es, IsX c d e) → ∃ o ps, SE es o ∧ AP es ps ∧ ∀ p ∈ ps, LX p ∧ Shp 40 p
  | [], _ => ⟨none, [], .nil, .nil, fun p hp => by cases hp⟩
  | e :: es, h => by
    obtain ⟨k, ps, lk, pp, fp⟩ := (h e List.mem_cons_self).pp (by omega)
    obtain ⟨o, qs, se, ap, fq⟩ := exprs_all hd es fun a ha => h a (List.mem_cons_of_mem _ ha)
    have f : ∀ p ∈ ps ++ qs, LX p ∧ Shp 40 p := fun p hp => (List.mem_append.mp hp).elim (fp p) (fq p)
    cases z : szO k ps.length "parts" 12 with
    | some y => exact ⟨some y, ps ++ qs, .hit e k ps es y pp (by omega) z, .cons e k ps es qs pp (by omega) ap, f⟩
    | none => exact ⟨o, ps ++ qs, .next e k ps es o pp (by omega) z se, .cons e k ps es qs pp (by omega) ap, f⟩
theorem IsS.si {c : Bool} {e q d : Nat} {s : T} (h : IsS c e q d s) (he : e ≤ 15) (hq : q ≤ 15) : ∃ i : SI, i.s = s ∧ SIok i := by
  have one : ∀ {w : String} {r es : List T}, w ≠ "if" → EX (.tup (wT w :: r)) es → (∀ a ∈ es, IsX c e a) → es.length ≤ 10 → ∃ i : SI, i.s = .tup (wT w :: r) ∧ SIok i := fun {w r es} hw ex hx hl => by
    obtain ⟨o, ps, se, ap, f⟩ := exprs_all he es hx
    exact ⟨⟨.tup (wT w :: r), w, ps, [], o⟩, rfl, r, es, rfl, ex, ap, f, .plain w r es o hw ex se, by omega, fun z => absurd z hw⟩
  cases h with
  | one d w hw =>
    have z : w ≠ "if" ∧ w ≠ "set" := by rcases hw with (rfl | rfl) | ⟨_, rfl | rfl⟩ <;> decide
    exact one (es := []) z.1 (.one w z.1 z.2) (fun a ha => by cases ha) (Nat.zero_le _)
  | ex d w a hw sa =>
    have z : w ≠ "if" ∧ w ≠ "set" := by rcases hw with rfl | ⟨_, rfl | rfl | rfl⟩ <;> decide
    obtain ⟨r, rfl⟩ := sa.tup
    exact one z.1 (.ex w r z.1 z.2) (all1 sa) (by simp)
  | lower d a n sa h1 h2 =>
    obtain ⟨r, rfl⟩ := sa.tup
    exact one (by decide) (.lower r n) (all1 sa) (by simp)
  | set d w a hw sa =>
    obtain ⟨r, rfl⟩ := sa.tup
    exact one (by decide) (.set w r) (all1 sa) (by simp)
  | iff d t b1 b2 st s1 s2 l1 l2 =>
    obtain ⟨k, ps, lk, pp, f⟩ := st.pp he hq
    have hps : ∀ p ∈ ps, ∃ w r, p = .tup (wT w :: r) ∧ r.length ≤ 2 ∧ ∀ a ∈ r, ∃ s, a = .tup s := fun p hp => by
      obtain ⟨⟨w, r, e1, e2, e3⟩, _⟩ := f p hp
      exact ⟨w, r, e1, e2, fun a ha => (e3 a ha).tup⟩
    have ex : EX (.tup [wT "if", t, .tup b1, .tup b2]) (ps.map leafArgs).flatten := .iff t (.tup b1) (.tup b2) k ps pp (by omega) hps
    have hx : ∀ a ∈ (ps.map leafArgs).flatten, IsX c e a := fun a ha => by
      obtain ⟨l, hl, hal⟩ := List.mem_flatten.mp ha
      obtain ⟨p, hp, rfl⟩ := List.mem_map.mp hl
      obtain ⟨⟨w, r, rfl, _, e3⟩, _⟩ := f p hp
      exact e3 a hal
    have ll : (ps.map leafArgs).flatten.length ≤ 100000 := by
      have l0 : 2 ^ k ≤ 2 ^ 15 := Nat.pow_le_pow_right (by decide) (by omega)
      have l1 : ps.length ≤ 32768 := Nat.le_trans pp.pos.2 l0
      have : ∀ ps : List T, (∀ p ∈ ps, ∃ w r, p = .tup (wT w :: r) ∧ r.length ≤ 2 ∧ ∀ a ∈ r, ∃ s, a = .tup s) → (ps.map leafArgs).flatten.length ≤ 2 * ps.length := fun ps => by
        induction ps with
        | nil => intro _; simp
        | cons p ps ih =>
          intro h
          obtain ⟨w, r, rfl, hr, _⟩ := h p List.mem_cons_self
          have := ih fun q hq => h q (List.mem_cons_of_mem _ hq)
          simp only [List.map_cons, List.flatten_cons, List.length_append, leafArgs, List.length_cons]
          omega
      have := this ps hps
      omega
    obtain ⟨o, qs, se, ap, fq⟩ := exprs_all he _ hx
    have tp : "if" = "if" → ∃ t' b1' b2' k', (T.tup [wT "if", t, .tup b1, .tup b2]) = .tup [wT "if", t', b1', b2'] ∧ PP tws t' k' ps ∧ k' ≤ 15 ∧ ∀ p ∈ ps, (∃ w r, p = .tup (wT w :: r)) ∧ Shp 40 p := fun _ => ⟨t, .tup b1, .tup b2, k, rfl, pp, by omega, fun p hp => by
      obtain ⟨⟨w, r, e1, _⟩, e2⟩ := f p hp
      exact ⟨⟨w, r, e1⟩, e2⟩⟩
    cases z : szO k ps.length "tests" 8 with
    | some y => exact ⟨⟨_, "if", qs, ps, some y⟩, rfl, _, _, rfl, ex, ap, fq, .hit t (.tup b1) (.tup b2) k ps y pp (by omega) z, ll, tp⟩
    | none => exact ⟨⟨_, "if", qs, ps, o⟩, rfl, _, _, rfl, ex, ap, fq, .next t (.tup b1) (.tup b2) k ps _ o pp (by omega) z ex se, ll, tp⟩
theorem IsS.iff_inv {c : Bool} {e q d : Nat} {t : T} {b1 b2 : List T} (hs : IsS c e q d (.tup [wT "if", t, .tup b1, .tup b2])) : ∃ d', d = d' + 1 ∧ IsT c e q t ∧ (∀ s ∈ b1, IsS c e q d' s) ∧ (∀ s ∈ b2, IsS c e q d' s) ∧ b1.length ≤ 3 ∧ b2.length ≤ 3 := by
  generalize hg : (T.tup [wT "if", t, .tup b1, .tup b2]) = g at hs
  cases hs with
  | iff d t' b1' b2' st s1 s2 l1 l2 =>
    injection hg with hg
    injection hg with _ hg
    injection hg with e0 hg
    injection hg with e1 hg
    injection hg with e2 _
    injection e1 with e1
    injection e2 with e2
    subst e0 e1 e2
    exact ⟨d, rfl, st, s1, s2, l1, l2⟩
  | one d w hw => injection hg with hg; injection hg with _ hg; cases hg
  | ex d w a hw sa => injection hg with hg; injection hg with _ hg; injection hg with _ hg; cases hg
  | lower d a n sa h1 h2 => injection hg with hg; injection hg with _ hg; injection hg with _ hg; injection hg with _ hg; cases hg
  | set d w a hw sa => injection hg with hg; injection hg with _ hg; injection hg with _ hg; injection hg with _ hg; cases hg
def cntS : Nat → Nat
  | 0 => 1
  | d + 1 => 6 * cntS d + 1
/-- a body's statements -/
theorem bodies {c : Bool} {e q : Nat} (he : e ≤ 15) (hq : q ≤ 15) : ∀ (d : Nat) (b : List T), (∀ s ∈ b, IsS c e q d s) → ∃ (l : List SI) (k : Nat), AO d b (l.map SI.s) ∧ (∀ i ∈ l, SIok i) ∧ BD b k ∧ k ≤ d ∧ l.length ≤ b.length * cntS d := by
  have plain : ∀ {d : Nat} {s : T} {r : List T} {l : List SI} {k : Nat}, IsS c e q d s → (∀ t b1 b2, s ≠ .tup [wT "if", t, .tup b1, .tup b2]) → AO d r (l.map SI.s) → (∀ i ∈ l, SIok i) → BD r k → l.length ≤ r.length * cntS d → 1 ≤ cntS d →
      ∃ (l' : List SI), AO d (s :: r) (l'.map SI.s) ∧ (∀ i ∈ l', SIok i) ∧ BD (s :: r) k ∧ l'.length ≤ (s :: r).length * cntS d := fun {d s r l k} hs hni ao ok bd ll h1 => by
    obtain ⟨i, es, ki⟩ := hs.si he hq
    obtain ⟨w, r0, ew, hw⟩ : ∃ w r0, s = .tup (wT w :: r0) ∧ w ≠ "if" := by
      cases hs with
      | one d w hw => exact ⟨w, _, rfl, by rcases hw with (rfl | rfl) | ⟨_, rfl | rfl⟩ <;> decide⟩
      | ex d w a hw sa => exact ⟨w, _, rfl, by rcases hw with rfl | ⟨_, rfl | rfl | rfl⟩ <;> decide⟩
      | lower d a n sa h1 h2 => exact ⟨"lower", _, rfl, by decide⟩
      | set d w a hw sa => exact ⟨"set", _, rfl, by decide⟩
      | iff d t b1 b2 st s1 s2 l1 l2 => exact absurd rfl (hni t b1 b2)
    refine ⟨i :: l, ?_, fun j hj => ?_, ?_, ?_⟩
    · rw [List.map_cons, es, ew]
      exact .other d w r0 r _ hw ao
    · rcases List.mem_cons.mp hj with rfl | hj
      · exact ki
      · exact ok j hj
    · rw [ew]
      exact .other w r0 r k hw bd
    · simp only [List.length_cons, Nat.add_mul]
      omega
  intro d
  induction d with
  | zero =>
    intro b
    induction b with
    | nil => exact fun _ => ⟨[], 0, .nil 0, (fun i hi => by cases hi), .nil, Nat.le_refl _, Nat.zero_le _⟩
    | cons s r ih =>
      intro h
      obtain ⟨l, k, ao, ok, bd, kd, ll⟩ := ih fun t ht => h t (List.mem_cons_of_mem _ ht)
      obtain ⟨l', a1, a2, a3, a4⟩ := plain (h s List.mem_cons_self) (fun t b1 b2 z => by
        have := h s List.mem_cons_self
        rw [z] at this
        obtain ⟨d', e', _⟩ := this.iff_inv
        omega) ao ok bd ll (by decide)
      exact ⟨l', k, a1, a2, a3, kd, a4⟩
  | succ d ihd =>
    intro b
    induction b with
    | nil => exact fun _ => ⟨[], 0, .nil _, (fun i hi => by cases hi), .nil, Nat.zero_le _, Nat.zero_le _⟩
    | cons s r ih =>
      intro h
      obtain ⟨l, k, ao, ok, bd, kd, ll⟩ := ih fun t ht => h t (List.mem_cons_of_mem _ ht)
      have c1 : 1 ≤ cntS (d + 1) := by simp [cntS]
      by_cases z : ∃ t b1 b2, s = .tup [wT "if", t, .tup b1, .tup b2]
      · obtain ⟨t, b1, b2, rfl⟩ := z
        have hs := h _ List.mem_cons_self
        obtain ⟨i, es, ki⟩ := hs.si he hq
        obtain ⟨d', e', st, s1, s2, l1, l2⟩ := hs.iff_inv
        obtain rfl : d = d' := by omega
        obtain ⟨m1, k1, a1, o1, d1, kk1, n1⟩ := ihd b1 s1
        obtain ⟨m2, k2, a2, o2, d2, kk2, n2⟩ := ihd b2 s2
        have m1' : b1.length * cntS d ≤ 3 * cntS d := Nat.mul_le_mul_right _ l1
        have m2' : b2.length * cntS d ≤ 3 * cntS d := Nat.mul_le_mul_right _ l2
        refine ⟨i :: (m1 ++ m2) ++ l, max (1 + max k1 k2) k, ?_, fun j hj => ?_, .iff t b1 b2 r k1 k2 k d1 d2 bd, by omega, ?_⟩
        · simp only [List.map_append, List.map_cons, List.cons_append, es]
          have := AO.iff d t b1 b2 r _ _ _ a1 a2 ao
          simpa using this
        · simp only [List.cons_append, List.mem_cons, List.mem_append] at hj
          rcases hj with rfl | (hj | hj) | hj
          · exact ki
          · exact o1 j hj
          · exact o2 j hj
          · exact ok j hj
        · simp only [List.length_cons, List.length_append, Nat.add_mul, cntS] at ll ⊢
          omega
      · obtain ⟨l', a1, a2, a3, a4⟩ := plain (h s List.mem_cons_self) (fun t b1 b2 q => z ⟨t, b1, b2, q⟩) ao ok bd ll c1
        exact ⟨l', k, a1, a2, a3, kd, a4⟩
end Gt
end

section
set_option Elab.async false
set_option linter.all false
set_option maxRecDepth 10000
/-! G11: what is drawn. -/
namespace Gt
open PySem Fs Fp
section
variable {D : Tb} {x : Ix} (A : HasD D x) (L : LB D x.f__law_take x.f__law_some) {W k : Nat}
include A L
theorem any_expr {c : Bool} : ∀ (d n : Nat) (h : Hs), d + 3 ≤ n → Bag h k → ∃ t h', callN D W n x.f__law_any_expr [.ref k, .int (d : Int), .bl c] h = .ok t h' ∧ IsX c d t ∧ Bag h' k ∧ But k h h' := by
  have base : ∀ {d n : Nat} {h h1 : Hs} {v : Int}, Bag h1 k → But k h h1 → 0 ≤ v → v < 4 →
      (∀ (env : En) (h2 : Hs), True) → ∃ t h', (evSs D W (callN D W (n + 2)) (match b__law_any_expr x with
        | .cons _ r => r
        | .nil => .nil) [some (.ref k), some (.int (d : Int)), some (.bl c), some (.int v)] h1).fin = .ok t h' ∧ IsX c d t ∧ Bag h' k ∧ But k h h' := by
    intro d n h h1 v B1 b1 v0 v4 _
    by_cases q : v = 0
    · subst q
      obtain ⟨y, h2, e2, m2, B2, b2, _⟩ := some_call (W := W) L (n := n) (xs := [.int 0, .int 1, .int 7, .int 99]) B1 (by simp) (by simp)
      refine ⟨.tup [wT "number", y], h2, by simp [b__law_any_expr, e2], ?_, B2, b1.trans b2⟩
      simp only [List.mem_cons, List.not_mem_nil, or_false] at m2
      rcases m2 with rfl | rfl | rfl | rfl <;> exact .num d _ (by decide) (by decide)
    · cases c with
      | true =>
        obtain ⟨y, h2, e2, m2, B2, b2, _⟩ := some_call (W := W) L (n := n) (xs := [.tup [wT "least"], .tup [wT "most"], .tup [wT "name", wT "n1"], .tup [wT "name", wT "spill"], .tup [wT "its"]]) B1 (by simp) (by simp)
        refine ⟨y, h2, by simp [b__law_any_expr, e2, q, v4], ?_, B2, b1.trans b2⟩
        simp only [List.mem_cons, List.not_mem_nil, or_false] at m2
        rcases m2 with rfl | rfl | rfl | rfl | rfl
        · exact .lea d _ (.inl rfl)
        · exact .lea d _ (.inr rfl)
        · exact .nam d _ (.inl rfl)
        · exact .nam d _ (.inr rfl)
        · exact .its d rfl
      | false =>
        obtain ⟨y, h2, e2, m2, B2, b2, _⟩ := some_call (W := W) L (n := n) (xs := [.tup [wT "least"], .tup [wT "most"], .tup [wT "name", wT "n1"], .tup [wT "name", wT "spill"]]) B1 (by simp) (by simp)
        refine ⟨y, h2, by simp [b__law_any_expr, e2, q, v4], ?_, B2, b1.trans b2⟩
        simp only [List.mem_cons, List.not_mem_nil, or_false] at m2
        rcases m2 with rfl | rfl | rfl | rfl
        · exact .lea d _ (.inl rfl)
        · exact .lea d _ (.inr rfl)
        · exact .nam d _ (.inl rfl)
        · exact .nam d _ (.inr rfl)
  intro d
  induction d with
  | zero =>
    intro n h hn B
    obtain ⟨n, rfl⟩ : ∃ m, n = m + 3 := ⟨n - 3, by omega⟩
    obtain ⟨v, h1, e1, v0, v1, B1, b1, _⟩ := take_call (W := W) L (n := n + 1) (m := 4) B (by decide) (by decide)
    obtain ⟨t, h', e, s, B', b'⟩ := base (d := 0) (n := n) B1 b1 v0 v1 (fun _ _ => trivial)
    refine ⟨t, h', ?_, s, B', b'⟩
    rw [callN_eq A.f__law_any_expr rfl (by simp)]
    rw [← e]
    simp [b__law_any_expr, e1]
  | succ d ih =>
    intro n h hn B
    obtain ⟨n, rfl⟩ : ∃ m, n = m + 3 := ⟨n - 3, by omega⟩
    obtain ⟨v, h1, e1, v0, v1, B1, b1, _⟩ := take_call (W := W) L (n := n + 1) (m := 8) B (by decide) (by decide)
    have hp : (0 : Int) < (d : Int) + 1 := by omega
    rw [callN_eq A.f__law_any_expr rfl (by simp)]
    by_cases v4 : v < 4
    · obtain ⟨t, h', e, s, B', b'⟩ := base (d := d + 1) (n := n) B1 b1 v0 v4 (fun _ _ => trivial)
      refine ⟨t, h', ?_, s, B', b'⟩
      rw [← e]
      simp [b__law_any_expr, e1, hp]
    · have q : ¬ v = 0 := by omega
      obtain ⟨y, h2, e2, m2, B2, b2, _⟩ := some_call (W := W) L (n := n) (xs := [wT "plus", wT "less", wT "lesser", wT "greater"]) B1 (by simp) (by simp)
      obtain ⟨ta, h3, e3, s3, B3, b3⟩ := ih (n + 2) h2 (by omega) B2
      obtain ⟨tb, h4, e4, s4, B4, b4⟩ := ih (n + 2) h3 (by omega) B3
      refine ⟨.tup [y, ta, tb], h4, by simp [b__law_any_expr, e1, e2, e3, e4, hp, q, v4], ?_, B4, ((b1.trans b2).trans b3).trans b4⟩
      simp only [List.mem_cons, List.not_mem_nil, or_false] at m2
      rcases m2 with rfl | rfl | rfl | rfl
      · exact .bin d _ ta tb (.inr (.inr (.inr rfl))) s3 s4
      · exact .bin d _ ta tb (.inr (.inl rfl)) s3 s4
      · exact .bin d _ ta tb (.inr (.inr (.inl rfl))) s3 s4
      · exact .bin d _ ta tb (.inl rfl) s3 s4
theorem any_test {c : Bool} : ∀ (d n : Nat) (h : Hs), d + 5 ≤ n → Bag h k → ∃ t h', callN D W n x.f__law_any_test [.ref k, .int (d : Int), .bl c] h = .ok t h' ∧ IsT c 1 d t ∧ Bag h' k ∧ But k h h' := by
  have base : ∀ {d n : Nat} {h h1 : Hs} {v : Int}, Bag h1 k → But k h h1 → 0 ≤ v → v < 3 →
      ∃ t h', (evSs D W (callN D W (n + 4)) (match b__law_any_test x with
        | .cons _ r => r
        | .nil => .nil) [some (.ref k), some (.int (d : Int)), some (.bl c), some (.int v)] h1).fin = .ok t h' ∧ IsT c 1 d t ∧ Bag h' k ∧ But k h h' := by
    intro d n h h1 v B1 b1 v0 v3
    by_cases q : v < 2
    · obtain ⟨y, h2, e2, m2, B2, b2, _⟩ := some_call (W := W) L (n := n + 2) (xs := [wT "below", wT "same"]) B1 (by simp) (by simp)
      obtain ⟨ta, h3, e3, s3, B3, b3⟩ := any_expr A L (W := W) (c := c) 1 (n + 4) h2 (by omega) B2
      obtain ⟨tb, h4, e4, s4, B4, b4⟩ := any_expr A L (W := W) (c := c) 1 (n + 4) h3 (by omega) B3
      have e3 : callN D W (n + 4) x.f__law_any_expr [.ref k, .int 1, .bl c] h2 = .ok ta h3 := e3
      have e4 : callN D W (n + 4) x.f__law_any_expr [.ref k, .int 1, .bl c] h3 = .ok tb h4 := e4
      refine ⟨.tup [y, ta, tb], h4, by simp [b__law_any_test, e2, e3, e4, q], ?_, B4, ((b1.trans b2).trans b3).trans b4⟩
      simp only [List.mem_cons, List.not_mem_nil, or_false] at m2
      rcases m2 with rfl | rfl
      · exact .cmp d _ ta tb (.inl rfl) s3 s4
      · exact .cmp d _ ta tb (.inr rfl) s3 s4
    · have q2 : v = 2 := by omega
      subst q2
      cases c with
      | true =>
        obtain ⟨y, h2, e2, m2, B2, b2, _⟩ := some_call (W := W) L (n := n + 2) (xs := [.tup [wT "full"], .tup [wT "known"]]) B1 (by simp) (by simp)
        refine ⟨y, h2, by simp [b__law_any_test, e2], ?_, B2, b1.trans b2⟩
        simp only [List.mem_cons, List.not_mem_nil, or_false] at m2
        rcases m2 with rfl | rfl
        · exact .full d
        · exact .known d rfl
      | false => exact ⟨.tup [wT "full"], h1, by simp [b__law_any_test], .full d, B1, b1⟩
  intro d
  induction d with
  | zero =>
    intro n h hn B
    obtain ⟨n, rfl⟩ : ∃ m, n = m + 5 := ⟨n - 5, by omega⟩
    obtain ⟨v, h1, e1, v0, v1, B1, b1, _⟩ := take_call (W := W) L (n := n + 3) (m := 3) B (by decide) (by decide)
    obtain ⟨t, h', e, s, B', b'⟩ := base (d := 0) (n := n) B1 b1 v0 v1
    refine ⟨t, h', ?_, s, B', b'⟩
    rw [callN_eq A.f__law_any_test rfl (by simp)]
    rw [← e]
    simp [b__law_any_test, e1]
  | succ d ih =>
    intro n h hn B
    obtain ⟨n, rfl⟩ : ∃ m, n = m + 5 := ⟨n - 5, by omega⟩
    obtain ⟨v, h1, e1, v0, v1, B1, b1, _⟩ := take_call (W := W) L (n := n + 3) (m := 7) B (by decide) (by decide)
    have hp : (0 : Int) < (d : Int) + 1 := by omega
    rw [callN_eq A.f__law_any_test rfl (by simp)]
    by_cases v3 : v < 3
    · obtain ⟨t, h', e, s, B', b'⟩ := base (d := d + 1) (n := n) B1 b1 v0 v3
      refine ⟨t, h', ?_, s, B', b'⟩
      rw [← e]
      simp [b__law_any_test, e1, hp]
    · have q : ¬ v < 2 := by omega
      have q2 : ¬ v = 2 := by omega
      by_cases q3 : v = 3
      · obtain ⟨ta, h2, e2, s2, B2, b2⟩ := ih (n + 4) h1 (by omega) B1
        exact ⟨.tup [wT "not", ta], h2, by simp [b__law_any_test, e1, e2, hp, q, q2, q3], .nott d ta s2, B2, b1.trans b2⟩
      · obtain ⟨y, h2, e2, m2, B2, b2, _⟩ := some_call (W := W) L (n := n + 2) (xs := [wT "and", wT "or"]) B1 (by simp) (by simp)
        obtain ⟨ta, h3, e3, s3, B3, b3⟩ := ih (n + 4) h2 (by omega) B2
        obtain ⟨tb, h4, e4, s4, B4, b4⟩ := ih (n + 4) h3 (by omega) B3
        refine ⟨.tup [y, ta, tb], h4, by simp [b__law_any_test, e1, e2, e3, e4, hp, q, q2, q3], ?_, B4, ((b1.trans b2).trans b3).trans b4⟩
        simp only [List.mem_cons, List.not_mem_nil, or_false] at m2
        rcases m2 with rfl | rfl
        · exact .bin d _ ta tb (.inl rfl) s3 s4
        · exact .bin d _ ta tb (.inr rfl) s3 s4
end
end Gt
end

section
set_option Elab.async false
set_option linter.all false
set_option maxRecDepth 10000
/-! G12: drawn bodies, claims. -/
namespace Gt
open PySem Fs Fp
structure Bt (k f : Nat) (h h' : Hs) : Prop where
  len : h.length ≤ h'.length
  old : ∀ i, i < h.length → i ≠ k → i ≠ f → h'[i]? = h[i]?
theorem Bt.of {k f : Nat} {h h' : Hs} (b : But k h h') : Bt k f h h' := ⟨b.len, fun i a n _ => b.old i a n⟩
theorem Bt.trans {k f : Nat} {h1 h2 h3 : Hs} (a : Bt k f h1 h2) (b : Bt k f h2 h3) : Bt k f h1 h3 :=
  ⟨Nat.le_trans a.len b.len, fun i h n m => (b.old i (Nat.lt_of_lt_of_le h a.len) n m).trans (a.old i h n m)⟩
theorem Bt.set {k f : Nat} {h : Hs} {o : Ob} : Bt k f h (h.set f o) := ⟨by simp, fun i _ _ n => by rw [List.getElem?_set_ne (Ne.symm n)]⟩
theorem bag_set {h : Hs} {k f : Nat} {o : Ob} (B : Bag h k) (hf : f ≠ k) : Bag (h.set f o) k := by
  obtain ⟨a, b, c, cells, e, r⟩ := B
  exact ⟨a, b, c, cells, by rw [List.getElem?_set_ne hf]; exact e, r⟩
theorem bag_push {h : Hs} {k : Nat} {o : Ob} (B : Bag h k) : Bag (h ++ [o]) k := by
  obtain ⟨a, b, c, cells, e, r⟩ := B
  exact ⟨a, b, c, cells, by rw [List.getElem?_append_left (List.getElem?_eq_some_iff.mp e).1]; exact e, r⟩
theorem IsX.up {c : Bool} {d : Nat} {t : T} (s : IsX c d t) : IsX c (d + 1) t := by
  induction s with
  | num d n h1 h2 => exact .num _ n h1 h2
  | lea d w h => exact .lea _ w h
  | its d h => exact .its _ h
  | nam d w h => exact .nam _ w h
  | bin d w a b h _ _ ia ib => exact .bin _ w a b h ia ib
theorem IsT.up {c : Bool} {e d : Nat} {t : T} (s : IsT c e d t) : IsT c (e + 1) d t := by
  induction s with
  | cmp d w a b h sa sb => exact .cmp d w a b h sa.up sb.up
  | full d => exact .full d
  | known d h => exact .known d h
  | nott d a _ ia => exact .nott d a ia
  | bin d w a b h _ _ ia ib => exact .bin d w a b h ia ib
section
variable {D : Tb} {x : Ix} (A : HasD D x) (L : LB D x.f__law_take x.f__law_some) {W k : Nat}
include A L
def dwB (x : Ix) : Ss := match b__law_any_body x with
  | .cons _ (.cons (.for_ _ _ b) _) => b
  | _ => .nil
theorem dw_body : b__law_any_body x = .cons (.set 3 (.lstM (.nil))) (.cons (.for_ (.nm 4) (.rng (.call x.f__law_take (.cons (.var 0) (.cons (.int 4) (.nil))))) (dwB x)) (.cons (.ret (.bi .tuple (.cons (.var 3) (.nil)))) (.nil))) := rfl
def BodyAt (D : Tb) (W k : Nat) (x : Ix) (c : Bool) (d n : Nat) : Prop := ∀ h, Bag h k → ∃ b h', callN D W n x.f__law_any_body [.ref k, .int (d : Int), .bl c] h = .ok (.tup b) h' ∧ (∀ s ∈ b, IsS c 2 2 d s) ∧ b.length ≤ 3 ∧ Bag h' k ∧ But k h h'
/-- one drawn statement -/
theorem dw_one {c : Bool} {d n f : Nat} {h : Hs} {acc : List T} {o4 o5 : Option T} (hn : 7 ≤ n) (ih : ∀ d', d = d' + 1 → BodyAt D W k x c d' n) (B : Bag h k) (hf : h[f]? = some (.lst acc)) (hk : f ≠ k) (hl : acc.length ≤ 100) :
    ∃ s o5' h', evSs D W (callN D W n) (dwB x) [some (.ref k), some (.int (d : Int)), some (.bl c), some (.ref f), o4, o5] h = .nx [some (.ref k), some (.int (d : Int)), some (.bl c), some (.ref f), o4, o5'] h' ∧ IsS c 2 2 d s ∧ h'[f]? = some (.lst (acc ++ [s])) ∧ Bag h' k ∧ Bt k f h h' := by
  obtain ⟨n, rfl⟩ : ∃ m, n = m + 7 := ⟨n - 7, by omega⟩
  obtain ⟨v, h1, e1, v0, v1, B1, b1, _⟩ := take_call (W := W) L (n := n + 6) (m := 6) B (by decide) (by decide)
  have get : ∀ {h' : Hs}, But k h h' → h'[f]? = some (.lst acc) := fun b => by rw [b.old f (List.getElem?_eq_some_iff.mp hf).1 hk]; exact hf
  have hf1 := get b1
  have fin : ∀ {h' : Hs} (s : T), But k h h' → Bag h' k → (h'.set f (.lst (acc ++ [s])))[f]? = some (.lst (acc ++ [s])) ∧ Bag (h'.set f (.lst (acc ++ [s]))) k ∧ Bt k f h (h'.set f (.lst (acc ++ [s]))) := fun s b B' =>
    ⟨List.getElem?_set_self (List.getElem?_eq_some_iff.mp (get b)).1, bag_set B' hk, (Bt.of b).trans Bt.set⟩
  have al : acc.length < 1000000 := by omega
  by_cases q : v = 0 ∧ 0 < d
  · obtain ⟨rfl, hd⟩ := q
    obtain ⟨d, rfl⟩ : ∃ m, d = m + 1 := ⟨d - 1, by omega⟩
    have hp : (0 : Int) < (d : Int) + 1 := by omega
    obtain ⟨t, h2, e2, s2, B2, b2⟩ := any_test A L (W := W) (c := c) 2 (n + 7) h1 (by omega) B1
    have e2 : callN D W (n + 7) x.f__law_any_test [.ref k, .int 2, .bl c] h1 = .ok t h2 := e2
    obtain ⟨p1, h3, e3, s3, l3, B3, b3⟩ := ih d rfl h2 B2
    obtain ⟨p2, h4, e4, s4, l4, B4, b4⟩ := ih d rfl h3 B3
    have bb := ((b1.trans b2).trans b3).trans b4
    obtain ⟨f1, f2, f3⟩ := fin (.tup [wT "if", t, .tup p1, .tup p2]) bb B4
    refine ⟨.tup [wT "if", t, .tup p1, .tup p2], some (.int 0), _, ?_, .iff d t p1 p2 s2.up s3 s4 l3 l4, f1, f2, f3⟩
    simp [dwB, b__law_any_body, e1, e2, e3, e4, hp, bmOk_app hf1, bm_app (get bb) al]
  have nd : (if v = 0 then (R.ok (decide (0 < d)) h1 : R Bool) else R.ok false h1) = R.ok false h1 := by
    by_cases v0 : v = 0
    · have d0 : ¬ 0 < d := fun z => q ⟨v0, z⟩
      rw [if_pos v0, decide_eq_false d0]
    · rw [if_neg v0]
  by_cases q1 : v = 1
  · subst q1
    cases c with
    | true =>
      obtain ⟨y, h2, e2, m2, B2, b2, _⟩ := some_call (W := W) L (n := n + 5) (xs := [.tup [wT "halve"], .tup [wT "clear"], .tup [wT "free"], .tup [wT "visit"]]) B1 (by simp) (by simp)
      have bb := b1.trans b2
      obtain ⟨f1, f2, f3⟩ := fin y bb B2
      refine ⟨y, some (.int 1), _, by simp [dwB, b__law_any_body, e1, e2, bmOk_app hf1, bm_app (get bb) al], ?_, f1, f2, f3⟩
      simp only [List.mem_cons, List.not_mem_nil, or_false] at m2
      rcases m2 with rfl | rfl | rfl | rfl
      · exact .one d _ (.inl (.inl rfl))
      · exact .one d _ (.inl (.inr rfl))
      · exact .one d _ (.inr ⟨rfl, .inl rfl⟩)
      · exact .one d _ (.inr ⟨rfl, .inr rfl⟩)
    | false =>
      obtain ⟨y, h2, e2, m2, B2, b2, _⟩ := some_call (W := W) L (n := n + 5) (xs := [.tup [wT "halve"], .tup [wT "clear"]]) B1 (by simp) (by simp)
      have bb := b1.trans b2
      obtain ⟨f1, f2, f3⟩ := fin y bb B2
      refine ⟨y, some (.int 1), _, by simp [dwB, b__law_any_body, e1, e2, bmOk_app hf1, bm_app (get bb) al], ?_, f1, f2, f3⟩
      simp only [List.mem_cons, List.not_mem_nil, or_false] at m2
      rcases m2 with rfl | rfl
      · exact .one d _ (.inl (.inl rfl))
      · exact .one d _ (.inl (.inr rfl))
  by_cases q2 : v = 2
  · subst q2
    obtain ⟨y, h2, e2, m2, B2, b2, _⟩ := some_call (W := W) L (n := n + 5) (xs := [wT "n1", wT "spill"]) B1 (by simp) (by simp)
    obtain ⟨t, h3, e3, s3, B3, b3⟩ := any_expr A L (W := W) (c := c) 2 (n + 7) h2 (by omega) B2
    have e3 : callN D W (n + 7) x.f__law_any_expr [.ref k, .int 2, .bl c] h2 = .ok t h3 := e3
    have bb := (b1.trans b2).trans b3
    obtain ⟨f1, f2, f3⟩ := fin (.tup [wT "set", y, t]) bb B3
    refine ⟨.tup [wT "set", y, t], some (.int 2), _, by simp [dwB, b__law_any_body, e1, e2, e3, bmOk_app hf1, bm_app (get bb) al], ?_, f1, f2, f3⟩
    simp only [List.mem_cons, List.not_mem_nil, or_false] at m2
    rcases m2 with rfl | rfl
    · exact .set d _ t (.inl rfl) s3
    · exact .set d _ t (.inr rfl) s3
  by_cases q3 : v = 3
  · subst q3
    obtain ⟨t, h2, e2, s2, B2, b2⟩ := any_expr A L (W := W) (c := c) 1 (n + 7) h1 (by omega) B1
    have e2 : callN D W (n + 7) x.f__law_any_expr [.ref k, .int 1, .bl c] h1 = .ok t h2 := e2
    obtain ⟨u, h3, e3, u0, u1, B3, b3, _⟩ := take_call (W := W) L (n := n + 6) (m := 2) B2 (by decide) (by decide)
    have bb := (b1.trans b2).trans b3
    obtain ⟨f1, f2, f3⟩ := fin (.tup [wT "lower", t, .int u]) bb B3
    exact ⟨.tup [wT "lower", t, .int u], some (.int 3), _, by simp [dwB, b__law_any_body, e1, e2, e3, bmOk_app hf1, bm_app (get bb) al], .lower d t u s2.up u0 (by omega), f1, f2, f3⟩
  have ws : ∃ y h2, callN D W (n + 7) x.f__law_some [.ref k, .lst ([wT "visitall"] ++ (if c = true then [wT "put", wT "oust", wT "count"] else []))] h1 = .ok y h2 ∧ (∃ w, y = wT w ∧ (w = "visitall" ∨ (c = true ∧ (w = "put" ∨ w = "oust" ∨ w = "count")))) ∧ Bag h2 k ∧ But k h1 h2 := by
    obtain ⟨y, h2, e2, m2, B2, b2, _⟩ := some_call (W := W) L (n := n + 5) (xs := [wT "visitall"] ++ (if c = true then [wT "put", wT "oust", wT "count"] else [])) B1 (by simp) (by cases c <;> simp)
    refine ⟨y, h2, e2, ?_, B2, b2⟩
    cases c with
    | true =>
      simp only [if_true, List.cons_append, List.nil_append, List.mem_cons, List.not_mem_nil, or_false] at m2
      rcases m2 with rfl | rfl | rfl | rfl
      · exact ⟨_, rfl, .inl rfl⟩
      · exact ⟨_, rfl, .inr ⟨rfl, .inl rfl⟩⟩
      · exact ⟨_, rfl, .inr ⟨rfl, .inr (.inl rfl)⟩⟩
      · exact ⟨_, rfl, .inr ⟨rfl, .inr (.inr rfl)⟩⟩
    | false =>
      simp at m2
      subst m2
      exact ⟨_, rfl, .inl rfl⟩
  obtain ⟨y, h2, e2, ⟨w, rfl, hw⟩, B2, b2⟩ := ws
  obtain ⟨t, h3, e3, s3, B3, b3⟩ := any_expr A L (W := W) (c := c) 2 (n + 7) h2 (by omega) B2
  have e3 : callN D W (n + 7) x.f__law_any_expr [.ref k, .int 2, .bl c] h2 = .ok t h3 := e3
  have bb := (b1.trans b2).trans b3
  obtain ⟨f1, f2, f3⟩ := fin (.tup [wT w, t]) bb B3
  refine ⟨.tup [wT w, t], some (.int v), _, ?_, .ex d w t hw s3, f1, f2, f3⟩
  cases c <;> simp at e2 <;> simp [dwB, b__law_any_body, e1, nd, q1, q2, q3, e2, e3, bmOk_app hf1, bm_app (get bb) al]
theorem dw_loop {c : Bool} {d n f : Nat} (hn : 7 ≤ n) (ih : ∀ d', d = d' + 1 → BodyAt D W k x c d' n) (hk : f ≠ k) : ∀ (l : List T) (h : Hs) (acc : List T) (o4 o5 : Option T), Bag h k → h[f]? = some (.lst acc) → (∀ s ∈ acc, IsS c 2 2 d s) → acc.length + l.length ≤ 100 →
    ∃ acc' o4' o5' h', forL (.nm 4) (fun env2 h2 => evSs D W (callN D W n) (dwB x) env2 h2) l [some (.ref k), some (.int (d : Int)), some (.bl c), some (.ref f), o4, o5] h = .nx [some (.ref k), some (.int (d : Int)), some (.bl c), some (.ref f), o4', o5'] h' ∧ h'[f]? = some (.lst acc') ∧ (∀ s ∈ acc', IsS c 2 2 d s) ∧ acc'.length = acc.length + l.length ∧ Bag h' k ∧ Bt k f h h'
  | [], h, acc, o4, o5, B, hf, ha, hl => ⟨acc, o4, o5, h, rfl, hf, ha, rfl, B, Bt.of But.refl⟩
  | t :: l, h, acc, o4, o5, B, hf, ha, hl => by
    simp only [List.length_cons] at hl
    obtain ⟨s, p5, h1, e1, s1, f1, B1, b1⟩ := dw_one A L (W := W) (o4 := some t) (o5 := o5) hn ih B hf hk (by omega)
    obtain ⟨acc', q4, q5, h2, e2, f2, a2, l2, B2, b2⟩ := dw_loop hn ih hk l h1 (acc ++ [s]) (some t) p5 B1 f1 (fun y hy => (List.mem_append.mp hy).elim (ha y) fun z => by
      simp only [List.mem_cons, List.not_mem_nil, or_false] at z
      subst z
      exact s1) (by simp; omega)
    refine ⟨acc', q4, q5, h2, ?_, f2, a2, by rw [l2]; simp; omega, B2, b1.trans b2⟩
    rw [forL_nx e1]
    exact e2
theorem any_body {c : Bool} : ∀ (d n : Nat), d + 8 ≤ n → BodyAt D W k x c d n := by
  intro d
  induction d with
  | zero =>
    intro n hn h B
    obtain ⟨n, rfl⟩ : ∃ m, n = m + 1 := ⟨n - 1, by omega⟩
    exact go n (fun d' e => by omega) h B hn
  | succ d ih =>
    intro n hn h B
    obtain ⟨n, rfl⟩ : ∃ m, n = m + 1 := ⟨n - 1, by omega⟩
    exact go n (fun d' e => by
      obtain rfl : d = d' := by omega
      exact ih n (by omega)) h B hn
where
  go {c : Bool} {d : Nat} (n : Nat) (ih : ∀ d', d = d' + 1 → BodyAt D W k x c d' n) (h : Hs) (B : Bag h k) (hn : d + 8 ≤ n + 1) : ∃ b h', callN D W (n + 1) x.f__law_any_body [.ref k, .int (d : Int), .bl c] h = .ok (.tup b) h' ∧ (∀ s ∈ b, IsS c 2 2 d s) ∧ b.length ≤ 3 ∧ Bag h' k ∧ But k h h' := by
    have kl := B.lt
    obtain ⟨m, rfl⟩ : ∃ m, n = m + 1 := ⟨n - 1, by omega⟩
    obtain ⟨v, h1, e1, v0, v1, B1, b1, l1⟩ := take_call (W := W) L (n := m) (m := 4) (bag_push (o := .lst []) B) (by decide) (by decide)
    have hf1 : h1[h.length]? = some (.lst []) := by
      rw [b1.old h.length (by simp) (by omega)]
      simp
    have hr := rangeT_nat v0 (by omega : v < 1000000000)
    obtain ⟨acc, q4, q5, h2, e2, f2, a2, l2, B2, b2⟩ := dw_loop A L (W := W) (k := k) (c := c) (d := d) (f := h.length) (by omega) ih (by omega) ((List.range v.toNat).map fun i : Nat => T.int (i : Int)) h1 [] none none B1 hf1 (fun s hs => by cases hs) (by simp; omega)
    have fs : evS D W (callN D W (m + 1)) (.for_ (.nm 4) (.rng (.call x.f__law_take (.cons (.var 0) (.cons (.int 4) (.nil))))) (dwB x)) [some (.ref k), some (.int (d : Int)), some (.bl c), some (.ref h.length), none, none] (h ++ [.lst []]) = .nx [some (.ref k), some (.int (d : Int)), some (.bl c), some (.ref h.length), q4, q5] h2 := by
      rw [evS_for, rng_ok (i := v) (h1 := h1) (by simp [e1]) hr, R.toS_ok]
      exact e2
    refine ⟨acc, h2, ?_, a2, by rw [l2]; simp; omega, B2, ?_⟩
    · rw [callN_eq A.f__law_any_body rfl (by simp), dw_body A L]
      simp [fs, tup_ref f2]
    · have ln := b1.len
      have ln2 := b2.len
      simp at ln
      refine ⟨by omega, fun i hi hik => ?_⟩
      rw [b2.old i (by omega) hik (by omega), b1.old i (by simp; omega) hik, List.getElem?_append_left hi]
end
end Gt
end

section
set_option Elab.async false
set_option linter.all false
set_option maxRecDepth 10000
/-! G13: claims, texts. -/
namespace Gt
open PySem Fs Fp
theorem IsX.mono {c : Bool} {d : Nat} {t : T} (s : IsX c d t) : ∀ {d'}, d ≤ d' → IsX true d' t := by
  induction s with
  | num d n h1 h2 => exact fun _ => .num _ n h1 h2
  | lea d w h => exact fun _ => .lea _ w h
  | its d h => exact fun _ => .its _ rfl
  | nam d w h => exact fun _ => .nam _ w h
  | bin d w a b h _ _ ia ib =>
    intro d' hd
    obtain ⟨j, rfl⟩ : ∃ j, d' = j + 1 := ⟨d' - 1, by omega⟩
    exact .bin j w a b h (ia (by omega)) (ib (by omega))
theorem IsT.mono {c : Bool} {e d : Nat} {t : T} (s : IsT c e d t) : ∀ {e' d'}, e ≤ e' → d ≤ d' → IsT true e' d' t := by
  induction s with
  | cmp d w a b h sa sb => exact fun he _ => .cmp _ w a b h (sa.mono he) (sb.mono he)
  | full d => exact fun _ _ => .full _
  | known d h => exact fun _ _ => .known _ rfl
  | nott d a _ ia =>
    intro e' d' he hd
    obtain ⟨j, rfl⟩ : ∃ j, d' = j + 1 := ⟨d' - 1, by omega⟩
    exact .nott j a (ia he (by omega))
  | bin d w a b h _ _ ia ib =>
    intro e' d' he hd
    obtain ⟨j, rfl⟩ : ∃ j, d' = j + 1 := ⟨d' - 1, by omega⟩
    exact .bin j w a b h (ia he (by omega)) (ib he (by omega))
theorem IsS.mono {c : Bool} {e q d : Nat} {t : T} (s : IsS c e q d t) : ∀ {e' q' d'}, e ≤ e' → q ≤ q' → d ≤ d' → IsS true e' q' d' t := by
  induction s with
  | one d w h => exact fun _ _ _ => .one _ w (h.imp id fun z => ⟨rfl, z.2⟩)
  | ex d w a h sa => exact fun he _ _ => .ex _ w a (h.imp id fun z => ⟨rfl, z.2⟩) (sa.mono he)
  | lower d a n sa h1 h2 => exact fun he _ _ => .lower _ a n (sa.mono he) h1 h2
  | set d w a h sa => exact fun he _ _ => .set _ w a h (sa.mono he)
  | iff d t b1 b2 st _ _ l1 l2 i1 i2 =>
    intro e' q' d' he hq hd
    obtain ⟨j, rfl⟩ : ∃ j, d' = j + 1 := ⟨d' - 1, by omega⟩
    exact .iff j t b1 b2 (st.mono he hq) (fun s hs => i1 s hs he hq (by omega)) (fun s hs => i2 s hs he hq (by omega)) l1 l2
inductive IsCl : T → Prop
  | vis (a b c : Int) : 0 ≤ a → a ≤ 2 → 1 ≤ b → b ≤ 3 → 0 ≤ c → c ≤ 3 → IsCl (.tup [wT "visits", .int a, .int b, .int c])
  | came (w : String) (f1 f2 f3 b : Int) : w = "always" ∨ w = "in" ∨ w = "out" → -9 ≤ f1 ∧ f1 ≤ 9 → -9 ≤ f2 ∧ f2 ≤ 9 → -9 ≤ f3 ∧ f3 ≤ 9 → -9999 ≤ b ∧ b ≤ 9999 → IsCl (.tup [wT "came", wT w, .int f1, .int f2, .int f3, .int b])
theorem IsCl.shp {t : T} (h : IsCl t) : Shp 1 t := by
  have iz : ∀ {i : Int}, -100000 ≤ i → i ≤ 100000 → Shp 0 (.int i) := fun h1 h2 => Shp.int (by omega)
  cases h with
  | vis a b c => exact .tup (all4 (Shp.word (by decide)) (iz (by omega) (by omega)) (iz (by omega) (by omega)) (iz (by omega) (by omega)))
  | came w f1 f2 f3 b hw h1 h2 h3 h4 =>
    have hww : Shp 0 (wT w) := by rcases hw with rfl | rfl | rfl <;> exact Shp.word (by decide)
    refine .tup fun t ht => ?_
    simp only [List.mem_cons, List.not_mem_nil, or_false] at ht
    rcases ht with rfl | rfl | rfl | rfl | rfl | rfl
    · exact Shp.word (by decide)
    · exact hww
    · exact iz (by omega) (by omega)
    · exact iz (by omega) (by omega)
    · exact iz (by omega) (by omega)
    · exact iz (by omega) (by omega)
section
variable {D : Tb} {x : Ix} (V : HasV D x) (C : HasC D x) {W : Nat}
include V C
theorem claim_lt : x.f_is_claim < D.fns.length := (List.getElem?_eq_some_iff.mp C.f_is_claim).1
theorem claim_ok {n : Nat} {h : Hs} {t : T} (s : IsCl t) : callN D W (n + 3) x.f_is_claim [t] h = .ok (.bl true) h := by
  have w := fun us hu => fun {v : String} {r : List T} (e : t = .tup (wT v :: r)) => worded_ok V (W := W) (n := n + 1) (h := h) (us := us) (w := v) (r := r) (d := 1) (by rw [← e]; exact s.shp) (by decide) hu
  have k1 : D.cns[x.g_MOST_FACTOR]?.map (·.2) = some (T.int 9) := by rw [C.g_MOST_FACTOR]; rfl
  have k2 : D.cns[x.g_MOST_BOUND]?.map (·.2) = some (T.int 9999) := by rw [C.g_MOST_BOUND]; rfl
  have k3 : D.cns[x.g_MOST_SHARE]?.map (·.2) = some (T.int 99) := by rw [C.g_MOST_SHARE]; rfl
  have k4 : D.cns[x.g_WHENS]?.map (·.2) = some (T.tup [wT "always", wT "in", wT "out"]) := by rw [C.g_WHENS]; rfl
  have bt := fun i a b => between_ok V (W := W) (n := n) (h := h) (i := i) (a := a) (b := b)
  rw [callN_eq C.f_is_claim rfl (by simp)]
  cases s with
  | vis a b c a1 a2 b1 b2 c1 c2 =>
    have w := fun us hu => w us hu (v := "visits") rfl
    have z1 : a ≤ 99 := by omega
    have z2 : b ≤ 99 := by omega
    have z3 : c ≤ 9999 := by omega
    simp [b_is_claim, w, bt, k2, k3, a1, b1, c1, z1, z2, z3]
  | came y f1 f2 f3 b hy h1 h2 h3 h4 =>
    have w := fun us hu => w us hu (v := "came") rfl
    have sl : cutL [wT "came", wT y, .int f1, .int f2, .int f3, .int b] (some 2) (some 5) = [.int f1, .int f2, .int f3] := rfl
    have iy : inT h (wT y) (.tup [wT "always", wT "in", wT "out"]) = some true := by
      rw [in_tup rfl (by simp)]
      rcases hy with rfl | rfl | rfl <;> simp
    have cc : ev D (callN D W (n + 2)) (.comp false (.nm 2) (.seq (.sl (.var 0) (.int 2) (.int 5))) (.absent) (.call x.f_is_between (.cons (.var 2) (.cons (.neg (.glob x.g_MOST_FACTOR)) (.cons (.glob x.g_MOST_FACTOR) (.nil))))) [2]) [some (.tup [wT "came", wT y, .int f1, .int f2, .int f3, .int b]), none, none] h = mkV (.ok (.lst [.bl true, .bl true, .bl true]) h) := by
      rw [ev_compE]
      simp [slT, sl, compL, cBody, wipeT, k1, bt, h1, h2, h3]
    simp only [b_is_claim, evSs_cons, evS_ifs, ev_call, evL_cons, evL_nil, ev_var, ev_tup, ev_str, ev_orv, evO_two, evO_one, ev_cmp, ev_bi, ev_nott, ev_ix, ev_int, ev_glob, evS_set, evS_ret, ev_andv, evA_two, evA_one]
    simp [w, Kd.is, k4, iy, cc, bools, k2, bt, h4]
theorem claims_ok {n : Nat} {h : Hs} {ts : List T} (s : ∀ t ∈ ts, IsCl t) (hl : ts.length ≤ 6) : callN D W (n + 5) x.f_are_claims [.tup ts] h = .ok (.bl true) h := by
  rw [callN_eq C.f_are_claims rfl (by simp)]
  have k : D.cns[x.g_MOST_CLAIMS]?.map (·.2) = some (T.int 6) := by rw [C.g_MOST_CLAIMS]; rfl
  have t := tupleof_ok V (W := W) (n := n + 3) (f := x.f_is_claim) (h := h) (ts := ts) (claim_lt V C) (by omega) fun t ht => claim_ok V C (s t ht)
  have l : (ts.length : Int) ≤ 6 := by omega
  simp [b_are_claims, t, k, l]
end
end Gt
end

section
set_option Elab.async false
set_option linter.all false
set_option maxRecDepth 10000
/-! G14: drawn claims, drawn texts; texts checked. -/
namespace Gt
open PySem Fs Fp
section
variable {D : Tb} {x : Ix} (A : HasD D x) (T' : HasT D x) (L : LB D x.f__law_take x.f__law_some) {W k : Nat}
include T' L
theorem draw_claim {n : Nat} (hn : 3 ≤ n) {h : Hs} (B : Bag h k) : ∃ t h', callN D W n x.f__law_claim [.ref k] h = .ok t h' ∧ IsCl t ∧ Bag h' k ∧ But k h h' := by
  obtain ⟨n, rfl⟩ : ∃ m, n = m + 3 := ⟨n - 3, by omega⟩
  obtain ⟨v, h1, e1, v0, v1, B1, b1, _⟩ := take_call (W := W) L (n := n + 1) (m := 5) B (by decide) (by decide)
  rw [callN_eq T'.f__law_claim rfl (by simp)]
  by_cases q : v = 0
  · subst q
    obtain ⟨a, h2, e2, a0, a1, B2, b2, _⟩ := take_call (W := W) L (n := n + 1) (m := 3) B1 (by decide) (by decide)
    obtain ⟨b, h3, e3, b0, b1', B3, b3, _⟩ := take_call (W := W) L (n := n + 1) (m := 3) B2 (by decide) (by decide)
    obtain ⟨c, h4, e4, c0, c1, B4, b4, _⟩ := take_call (W := W) L (n := n + 1) (m := 4) B3 (by decide) (by decide)
    exact ⟨.tup [wT "visits", .int a, .int (1 + b), .int c], h4, by simp [b__law_claim, e1, e2, e3, e4], .vis a (1 + b) c a0 (by omega) (by omega) (by omega) c0 (by omega), B4, ((b1.trans b2).trans b3).trans b4⟩
  obtain ⟨y, h2, e2, m2, B2, b2, _⟩ := some_call (W := W) L (n := n) (xs := [wT "always", wT "in", wT "out"]) B1 (by simp) (by simp)
  obtain ⟨w, rfl, hw⟩ : ∃ w, y = wT w ∧ (w = "always" ∨ w = "in" ∨ w = "out") := by
    simp only [List.mem_cons, List.not_mem_nil, or_false] at m2
    rcases m2 with rfl | rfl | rfl
    · exact ⟨_, rfl, .inl rfl⟩
    · exact ⟨_, rfl, .inr (.inl rfl)⟩
    · exact ⟨_, rfl, .inr (.inr rfl)⟩
  by_cases q3 : v < 3
  · obtain ⟨a, h3, e3, a0, a1, B3, b3, _⟩ := take_call (W := W) L (n := n + 1) (m := 9) B2 (by decide) (by decide)
    exact ⟨.tup [wT "came", wT w, .int 1, .int 0, .int 0, .int a], h3, by simp [b__law_claim, e1, e2, e3, q, q3], .came w 1 0 0 a hw (by omega) (by omega) (by omega) (by omega), B3, (b1.trans b2).trans b3⟩
  · obtain ⟨a, h3, e3, a0, a1, B3, b3, _⟩ := take_call (W := W) L (n := n + 1) (m := 5) B2 (by decide) (by decide)
    obtain ⟨b, h4, e4, b0, b1', B4, b4, _⟩ := take_call (W := W) L (n := n + 1) (m := 3) B3 (by decide) (by decide)
    obtain ⟨c, h5, e5, c0, c1, B5, b5, _⟩ := take_call (W := W) L (n := n + 1) (m := 4) B4 (by decide) (by decide)
    obtain ⟨d, h6, e6, d0, d1, B6, b6, _⟩ := take_call (W := W) L (n := n + 1) (m := 12) B5 (by decide) (by decide)
    exact ⟨.tup [wT "came", wT w, .int (a - 1), .int (b - 1), .int (c - 2), .int (d - 2)], h6, by simp [b__law_claim, e1, e2, e3, e4, e5, e6, q, q3], .came w (a - 1) (b - 1) (c - 2) (d - 2) hw (by omega) (by omega) (by omega) (by omega), B6, ((((b1.trans b2).trans b3).trans b4).trans b5).trans b6⟩
include A
/-- a drawn text: slots, most, numbers, period, bodies, claims -/
theorem draw_text {n : Nat} (hn : 13 ≤ n) {h : Hs} (B : Bag h k) : ∃ (slots most period : Int) (nums : List (String × Int × Int)) (came turn cl : List T) (h' : Hs), callN D W n x.f__law_any_text [.ref k] h = .ok (.tup [trT slots most period nums came turn, .tup cl]) h' ∧
    (1 ≤ slots ∧ slots ≤ 4) ∧ (1 ≤ most ∧ most ≤ 30) ∧ (period = 0 ∨ period = 1 ∨ period = 32) ∧ nums.length = 2 ∧ (nums.map (·.1)).Nodup ∧ (∀ y ∈ nums, (y.1 = "n1" ∨ y.1 = "spill") ∧ (0 ≤ y.2.1 ∧ y.2.1 ≤ 30) ∧ (0 ≤ y.2.2 ∧ y.2.2 ≤ y.2.1)) ∧
    (∀ s ∈ came, IsS true 2 2 3 s) ∧ came.length ≤ 3 ∧ (∀ s ∈ turn, IsS true 2 2 3 s) ∧ turn.length ≤ 3 ∧ (∀ t ∈ cl, IsCl t) ∧ cl.length ≤ 3 ∧ Bag h' k ∧ But k h h' := by
  obtain ⟨n, rfl⟩ : ∃ m, n = m + 13 := ⟨n - 13, by omega⟩
  rw [callN_eq T'.f__law_any_text rfl (by simp)]
  obtain ⟨y1, h1, e1, m1, B1, b1, _⟩ := some_call (W := W) L (n := n + 10) (xs := [.int 0, .int 9, .int 30]) B (by simp) (by simp)
  obtain ⟨i1, rfl, hi1⟩ : ∃ i : Int, y1 = .int i ∧ 0 ≤ i ∧ i ≤ 30 := by
    simp only [List.mem_cons, List.not_mem_nil, or_false] at m1
    rcases m1 with rfl | rfl | rfl <;> exact ⟨_, rfl, by decide, by decide⟩
  obtain ⟨y2, h2, e2, m2, B2, b2, _⟩ := some_call (W := W) L (n := n + 10) (xs := [.int 0, .int 3, .int 5]) B1 (by simp) (by simp)
  obtain ⟨i2, rfl, hi2⟩ : ∃ i : Int, y2 = .int i ∧ 0 ≤ i ∧ i ≤ 5 := by
    simp only [List.mem_cons, List.not_mem_nil, or_false] at m2
    rcases m2 with rfl | rfl | rfl <;> exact ⟨_, rfl, by decide, by decide⟩
  obtain ⟨y3, h3, e3, m3, B3, b3, _⟩ := some_call (W := W) L (n := n + 10) (xs := [.int 0, .int 1, .int 32]) B2 (by simp) (by simp)
  obtain ⟨p, rfl, hp⟩ : ∃ i : Int, y3 = .int i ∧ (i = 0 ∨ i = 1 ∨ i = 32) := by
    simp only [List.mem_cons, List.not_mem_nil, or_false] at m3
    rcases m3 with rfl | rfl | rfl
    · exact ⟨_, rfl, .inl rfl⟩
    · exact ⟨_, rfl, .inr (.inl rfl)⟩
    · exact ⟨_, rfl, .inr (.inr rfl)⟩
  have tu : ∃ turn h4, (if 0 < p then callN D W (n + 12) x.f__law_any_body [.ref k, .int 2, .bl false] h3 else (R.ok (T.tup []) h3 : R T)) = .ok (.tup turn) h4 ∧ (∀ s ∈ turn, IsS true 2 2 3 s) ∧ turn.length ≤ 3 ∧ Bag h4 k ∧ But k h3 h4 := by
    by_cases q : 0 < p
    · obtain ⟨b, h4, e4, s4, l4, B4, b4⟩ := any_body A L (W := W) (c := false) 2 (n + 12) (by omega) h3 B3
      have e4 : callN D W (n + 12) x.f__law_any_body [.ref k, .int 2, .bl false] h3 = .ok (.tup b) h4 := e4
      exact ⟨b, h4, by simp [q, e4], fun s hs => (s4 s hs).mono (by decide) (by decide) (by decide), l4, B4, b4⟩
    · exact ⟨[], h3, by simp [q], (fun s hs => by cases hs), Nat.zero_le _, B3, But.refl⟩
  obtain ⟨turn, h4, e4, s4, l4, B4, b4⟩ := tu
  obtain ⟨v, h5, e5, v0, v1, B5, b5, _⟩ := take_call (W := W) L (n := n + 11) (m := 4) B4 (by decide) (by decide)
  have hr := rangeT_nat v0 (by omega : v < 1000000000)
  obtain ⟨cl, h6, e6, c6, l6, B6, b6⟩ := ev_comp (D := D) (cl := callN D W (n + 12)) (env := [some (.ref k), some (.tup [.tup [wT "n1", .int i1, .int 0], .tup [wT "spill", .int 5, .int i2]]), some (.int p), some (.tup turn), none, none]) (h := h4) (h1 := h5) (i := 5) (it := .rng (.call x.f__law_take (.cons (.var 0) (.cons (.int 4) (.nil)))))
    (e := .call x.f__law_claim (.cons (.var 0) (.nil))) (vs := [5]) (I := fun h => Bag h k) (P := IsCl) (Z := But k) (rng_ok (i := v) (by simp [e5]) hr) B5 (fun _ => But.refl) (fun _ _ _ => But.trans) (by simp; omega) (fun y hy h' B' => by
      obtain ⟨t, h'', e, c, B'', b''⟩ := draw_claim T' L (W := W) (n := n + 12) (by omega) B'
      exact ⟨t, h'', by simp [wipeT, e], c, B'', b''⟩)
  obtain ⟨s, h7, e7, s0, s1, B7, b7, _⟩ := take_call (W := W) L (n := n + 11) (m := 4) B6 (by decide) (by decide)
  obtain ⟨m, h8, e8, m0, m1', B8, b8, _⟩ := take_call (W := W) L (n := n + 11) (m := 30) B7 (by decide) (by decide)
  obtain ⟨came, h9, e9, s9, l9, B9, b9⟩ := any_body A L (W := W) (c := true) 3 (n + 12) (by omega) h8 B8
  have e9 : callN D W (n + 12) x.f__law_any_body [.ref k, .int 3, .bl true] h8 = .ok (.tup came) h9 := e9
  refine ⟨1 + s, 1 + m, p, [("n1", i1, 0), ("spill", 5, i2)], came, turn, cl, h9, ?_, by omega, by omega, hp, rfl, by simp, ?_, s9, l9, s4, l4, c6, by rw [l6]; simp; omega, B9, (((((((b1.trans b2).trans b3).trans b4).trans b5).trans b6).trans b7).trans b8).trans b9⟩
  · simp only [b__law_any_text, evSs_cons, evSs_nil, evS_set, evS_ret]
    simp only [ev_tup, evL_cons, evL_nil, ev_str, ev_call, ev_var, ev_lstI, ev_int, ev_bi, ev_bin]
    simp [e1, e2, e3, e4, e6, e7, e8, e9, trT, numT]
  · intro y hy
    simp only [List.mem_cons, List.not_mem_nil, or_false] at hy
    rcases hy with rfl | rfl
    · exact ⟨.inl rfl, hi1, by simp; omega⟩
    · exact ⟨.inr rfl, ⟨by simp, by simp⟩, hi2⟩
end
section
variable {D : Tb} {x : Ix} (H : HasK D x) (V : HasV D x) (C : HasC D x) (X : HasX D x) {W : Nat}
include H V C X
theorem ctext_ok {n : Nat} {h h' : Hs} {tr : T} {cl : List T} (s : ∀ t ∈ cl, IsCl t) (hl : cl.length ≤ 6) (hn : 5 ≤ n) (e : callN D W n x.f_checked_tracker [tr] h = .ok tr h') : callN D W (n + 1) x.f_checked_text [.tup [tr, .tup cl]] h = .ok (.tup [tr, .tup cl]) h' := by
  obtain ⟨n, rfl⟩ : ∃ m, n = m + 5 := ⟨n - 5, by omega⟩
  rw [callN_eq X.f_checked_text rfl (by simp)]
  have c := claims_ok V C (W := W) (n := n) (h := h) s hl
  simp [b_checked_text, Kd.is, c, e]
end
end Gt
end

section
set_option Elab.async false
set_option linter.all false
set_option maxRecDepth 100000
/-! K06: the table of the law's defs (printed by print_fs.py). -/
namespace K06
open PySem Fs
abbrev top (i : Nat) : Stmt := PySem.Challenge.pw_fewslots_k06_trackers_that_are_kinded.main.body.getD i (.Pass ⟨0, 0, 0, 0⟩)
def inCls (st : Stmt) (j : Nat) : Stmt := match st with
  | .ClassDef (body := b) .. => b.getD j (.Pass ⟨0, 0, 0, 0⟩)
  | _ => .Pass ⟨0, 0, 0, 0⟩
/-- law: 0 script, 1 bag, 2 turn, 3 text, 4 slots, 5 most, 6 numbers, 7 came, 8 period, 9 turned, 10 way, 11 tracker, 12 due, 13 odd -/
def f_law : Ss := .cons (.set 1 (.call 1 (.cons (.var 0) (.nil)))) (
.cons (.for_ (.nm 2) (.rng (.int 12)) (.cons (.set 3 (.call 2 (.cons (.var 1) (.nil)))) (
.cons (.setT [4, 5, 6, 7, 8, 9] (.ix (.var 3) (.int 0))) (
.cons (.set 10 (.call 3 (.cons (.var 1) (.cons (.int 7) (.nil))))) (
.cons (.ifs (.cmp .eq (.var 10) (.int 0)) (.cons (.set 6 (.sl (.var 6) (.absent) (.call 3 (.cons (.var 1) (.cons (.int 2) (.nil)))))) (
.nil)) (.cons (.ifs (.cmp .eq (.var 10) (.int 1)) (.cons (.set 7 (.bin .add (.var 7) (.tup (.cons (.call 4 (.cons (.var 1) (.nil))) (.nil))))) (
.nil)) (.cons (.ifs (.cmp .eq (.var 10) (.int 2)) (.cons (.setT [8, 9] (.call 5 (.cons (.var 1) (.cons (.lstI (.cons (.tup (.cons (.int 0) (.cons (.var 9) (.nil)))) (.cons (.tup (.cons (.int 5) (.cons (.bin .add (.var 9) (.tup (.cons (.call 4 (.cons (.var 1) (.nil))) (.nil)))) (.nil)))) (.nil)))) (.nil))))) (
.nil)) (.cons (.ifs (.cmp .eq (.var 10) (.int 3)) (.cons (.par [8, 9] (.cons (.int 3) (.cons (.call 6 (.cons (.var 1) (.cons (.int 2) (.cons (.bl true) (.nil))))) (.nil)))) (
.nil)) (.cons (.ifs (.cmp .eq (.var 10) (.int 4)) (.cons (.set 7 (.bin .add (.var 7) (.bin .mul (.tup (.cons (.tup (.cons (.str "halve") (.nil))) (.nil))) (.call 5 (.cons (.var 1) (.cons (.lstI (.cons (.int 15) (.cons (.int 20) (.cons (.int 28) (.cons (.int 29) (.nil)))))) (.nil))))))) (
.nil)) (.nil)) (
.nil))) (
.nil))) (
.nil))) (
.nil))) (
.cons (.set 11 (.tup (.cons (.var 4) (.cons (.var 5) (.cons (.var 6) (.cons (.var 7) (.cons (.var 8) (.cons (.var 9) (.nil))))))))) (
.cons (.set 12 (.call 7 (.cons (.var 11) (.nil)))) (
.cons (.ifs (.nott (.call 8 (.cons (.call 9 (.cons (.var 11) (.nil))) (.cons (.var 12) (.nil))))) (.cons (.ret (.bl false)) (
.nil)) (.nil)) (
.cons (.ifs (.andv (.cons (.cmp .eq (.ix (.var 12) (.int 0)) (.str "told")) (.cons (.orv (.cons (.cmp .ne (.call 10 (.cons (.var 11) (.nil))) (.bi .tuple (.cons (.bin .add (.call 11 (.cons (.var 7) (.nil))) (.call 11 (.cons (.var 9) (.nil)))) (.nil)))) (.cons (.cmp .ne (.call 12 (.cons (.tup (.cons (.var 11) (.cons (.ix (.var 3) (.int 1)) (.nil)))) (.nil))) (.tup (.cons (.var 11) (.cons (.ix (.var 3) (.int 1)) (.nil))))) (.nil)))) (.nil)))) (.cons (.ret (.bl false)) (
.nil)) (.nil)) (
.cons (.for_ (.nm 13) (.seq (.tup (.cons (.non) (.cons (.bi .list (.cons (.var 11) (.nil))) (.cons (.sl (.var 11) (.absent) (.int 5)) (.nil)))))) (.cons (.tryy (.cons (.ex (.call 13 (.cons (.var 13) (.nil)))) (
.cons (.ret (.bl false)) (
.nil))) (.cons [0] none (.cons (.cont) (
.nil)) (.nil))) (
.nil))) (
.cons (.for_ (.nm 13) (.seq (.tup (.cons (.non) (.cons (.tup (.cons (.var 11) (.nil))) (.cons (.tup (.cons (.var 11) (.cons (.non) (.nil)))) (.cons (.tup (.cons (.non) (.cons (.tup (.nil)) (.nil)))) (.nil))))))) (.cons (.tryy (.cons (.ex (.call 12 (.cons (.var 13) (.nil)))) (
.cons (.ret (.bl false)) (
.nil))) (.cons [0] none (.cons (.cont) (
.nil)) (.nil))) (
.nil))) (
.nil)))))))))))) (
.cons (.ret (.bl true)) (
.nil)))
/-- _law_bag: 0 script, 1 cell -/
def f__law_bag : Ss := .cons (.ret (.lstM (.cons (.int 0) (.cons (.int 1234567891) (.cons (.int 0) (.cons (.comp false (.nm 1) (.seq (.sl (.var 0) (.absent) (.int 63))) (.absent) (.bi .abs (.cons (.var 1) (.nil))) [1]) (.nil))))))) (
.nil)
/-- _law_any_text: 0 bag, 1 numbers, 2 period, 3 turn, 4 claims, 5 lap -/
def f__law_any_text : Ss := .cons (.set 1 (.tup (.cons (.tup (.cons (.str "n1") (.cons (.call 5 (.cons (.var 0) (.cons (.lstI (.cons (.int 0) (.cons (.int 9) (.cons (.int 30) (.nil))))) (.nil)))) (.cons (.int 0) (.nil))))) (.cons (.tup (.cons (.str "spill") (.cons (.int 5) (.cons (.call 5 (.cons (.var 0) (.cons (.lstI (.cons (.int 0) (.cons (.int 3) (.cons (.int 5) (.nil))))) (.nil)))) (.nil))))) (.nil))))) (
.cons (.set 2 (.call 5 (.cons (.var 0) (.cons (.lstI (.cons (.int 0) (.cons (.int 1) (.cons (.int 32) (.nil))))) (.nil))))) (
.cons (.set 3 (.ite (.cmp .gt (.var 2) (.int 0)) (.call 6 (.cons (.var 0) (.cons (.int 2) (.cons (.bl false) (.nil))))) (.tup (.nil)))) (
.cons (.set 4 (.bi .tuple (.cons (.comp false (.nm 5) (.rng (.call 3 (.cons (.var 0) (.cons (.int 4) (.nil))))) (.absent) (.call 14 (.cons (.var 0) (.nil))) [5]) (.nil)))) (
.cons (.ret (.tup (.cons (.tup (.cons (.bin .add (.int 1) (.call 3 (.cons (.var 0) (.cons (.int 4) (.nil))))) (.cons (.bin .add (.int 1) (.call 3 (.cons (.var 0) (.cons (.int 30) (.nil))))) (.cons (.var 1) (.cons (.call 6 (.cons (.var 0) (.cons (.int 3) (.cons (.bl true) (.nil))))) (.cons (.var 2) (.cons (.var 3) (.nil)))))))) (.cons (.var 4) (.nil))))) (
.nil)))))
/-- _law_take: 0 bag, 1 many, 2 cell, 3 stirred, 4 value, 5 begin, 6 second -/
def f__law_take : Ss := .cons (.ifs (.cmp .eq (.ix (.var 0) (.int 0)) (.int 0)) (.cons (.set 2 (.ix (.bin .add (.sl (.ix (.var 0) (.int 3)) (.ix (.var 0) (.int 2)) (.absent)) (.lstI (.cons (.int 0) (.nil)))) (.int 0))) (
.cons (.augIx (.var 0) (.int 2) .add (.int 1)) (
.cons (.ifs (.cmp .ge (.var 2) (.bin .pow (.int 10) (.int 18))) (.cons (.setIx (.var 0) (.int 0) (.var 2)) (
.nil)) (.nil)) (
.cons (.set 3 (.bin .add (.bin .add (.bin .mul (.ix (.var 0) (.int 1)) (.int 48271)) (.bin .mod (.bi .int (.cons (.var 2) (.nil))) (.int 2147483647))) (.bin .mul (.int 7919) (.ix (.var 0) (.int 2))))) (
.cons (.setIx (.var 0) (.int 1) (.bin .mod (.bi .int (.cons (.var 3) (.nil))) (.int 2147483647))) (
.nil)))))) (.nil)) (
.cons (.ifs (.cmp .gt (.ix (.var 0) (.int 0)) (.int 0)) (.cons (.set 4 (.bin .mod (.bi .int (.cons (.ix (.var 0) (.int 0)) (.nil))) (.var 1))) (
.cons (.setIx (.var 0) (.int 0) (.bin .fdiv (.bi .int (.cons (.ix (.var 0) (.int 0)) (.nil))) (.var 1))) (
.cons (.ret (.var 4)) (
.nil)))) (.nil)) (
.cons (.set 5 (.bin .mod (.bi .int (.cons (.bin .mul (.bin .add (.ix (.var 0) (.int 1)) (.int 1)) (.int 39373)) (.nil))) (.int 1000000007))) (
.cons (.set 6 (.bin .mod (.bi .int (.cons (.bin .mul (.bin .mod (.bi .int (.cons (.bin .mul (.var 5) (.var 5)) (.nil))) (.int 998244353)) (.int 30011)) (.nil))) (.int 998244353))) (
.cons (.ret (.bin .mod (.bi .int (.cons (.bin .fdiv (.var 6) (.int 7)) (.nil))) (.var 1))) (
.nil)))))
/-- _law_large: 0 bag, 1 expr, 2 test, 3 way, 4 turn, 5 wide, 6 many, 7 deep_v -/
def f__law_large : Ss := .cons (.par [1, 2, 3] (.cons (.tup (.cons (.str "least") (.nil))) (.cons (.tup (.cons (.str "full") (.nil))) (.cons (.call 3 (.cons (.var 0) (.cons (.int 5) (.nil)))) (.nil))))) (
.cons (.for_ (.nm 4) (.rng (.call 5 (.cons (.var 0) (.cons (.lstI (.cons (.int 5) (.cons (.int 6) (.cons (.int 7) (.nil))))) (.nil))))) (.cons (.set 1 (.ite (.cmp .eq (.call 3 (.cons (.var 0) (.cons (.int 2) (.nil)))) (.int 0)) (.tup (.cons (.str "plus") (.cons (.var 1) (.cons (.tup (.cons (.str "number") (.cons (.int 1) (.nil)))) (.nil))))) (.tup (.cons (.str "less") (.cons (.tup (.cons (.str "most") (.nil))) (.cons (.var 1) (.nil))))))) (
.cons (.set 2 (.ite (.cmp .eq (.call 3 (.cons (.var 0) (.cons (.int 2) (.nil)))) (.int 0)) (.tup (.cons (.str "not") (.cons (.var 2) (.nil)))) (.tup (.cons (.str "or") (.cons (.tup (.cons (.str "full") (.nil))) (.cons (.var 2) (.nil))))))) (
.nil)))) (
.cons (.setT [5, 6] (.tup (.cons (.tup (.cons (.str "least") (.nil))) (.cons (.tup (.cons (.str "full") (.nil))) (.nil))))) (
.cons (.for_ (.nm 4) (.rng (.int 3)) (.cons (.par [5, 6] (.cons (.tup (.cons (.str "plus") (.cons (.var 5) (.cons (.var 5) (.nil))))) (.cons (.tup (.cons (.str "and") (.cons (.var 6) (.cons (.var 6) (.nil))))) (.nil)))) (
.nil))) (
.cons (.set 5 (.call 5 (.cons (.var 0) (.cons (.lstI (.cons (.tup (.cons (.str "less") (.cons (.var 5) (.cons (.tup (.cons (.str "plus") (.cons (.tup (.cons (.str "most") (.nil))) (.cons (.tup (.cons (.str "least") (.nil))) (.nil))))) (.nil))))) (.cons (.tup (.cons (.str "less") (.cons (.var 5) (.cons (.tup (.cons (.str "plus") (.cons (.tup (.cons (.str "plus") (.cons (.tup (.cons (.str "most") (.nil))) (.cons (.tup (.cons (.str "least") (.nil))) (.nil))))) (.cons (.tup (.cons (.str "plus") (.cons (.tup (.cons (.str "most") (.nil))) (.cons (.tup (.cons (.str "plus") (.cons (.tup (.cons (.str "least") (.nil))) (.cons (.tup (.cons (.str "most") (.nil))) (.nil))))) (.nil))))) (.nil))))) (.nil))))) (.nil)))) (.nil))))) (
.cons (.set 7 (.tup (.cons (.str "if") (.cons (.tup (.cons (.str "full") (.nil))) (.cons (.tup (.cons (.tup (.cons (.str "clear") (.nil))) (.nil))) (.cons (.tup (.nil)) (.nil))))))) (
.cons (.for_ (.nm 4) (.rng (.call 5 (.cons (.var 0) (.cons (.lstI (.cons (.int 3) (.cons (.int 4) (.nil)))) (.nil))))) (.cons (.set 7 (.tup (.cons (.str "if") (.cons (.tup (.cons (.str "full") (.nil))) (.cons (.tup (.nil)) (.cons (.tup (.cons (.var 7) (.nil))) (.nil))))))) (
.nil))) (
.cons (.ret (.call 5 (.cons (.var 0) (.cons (.lstI (.cons (.tup (.cons (.str "lower") (.cons (.var 1) (.cons (.int 0) (.nil))))) (.cons (.tup (.cons (.str "if") (.cons (.var 2) (.cons (.tup (.nil)) (.cons (.tup (.nil)) (.nil)))))) (.cons (.tup (.cons (.str "visitall") (.cons (.var 5) (.nil)))) (.cons (.tup (.cons (.str "if") (.cons (.call 5 (.cons (.var 0) (.cons (.lstI (.cons (.var 6) (.cons (.tup (.cons (.str "or") (.cons (.var 6) (.cons (.tup (.cons (.str "full") (.nil))) (.nil))))) (.nil)))) (.nil)))) (.cons (.tup (.nil)) (.cons (.tup (.nil)) (.nil)))))) (.cons (.var 7) (.nil))))))) (.nil))))) (
.nil))))))))
/-- _law_some: 0 bag, 1 things -/
def f__law_some : Ss := .cons (.ret (.ix (.var 1) (.call 3 (.cons (.var 0) (.cons (.bi .len (.cons (.var 1) (.nil))) (.nil)))))) (
.nil)
/-- _law_any_body: 0 bag, 1 deep_v, 2 come, 3 found, 4 turn, 5 way -/
def f__law_any_body : Ss := .cons (.set 3 (.lstM (.nil))) (
.cons (.for_ (.nm 4) (.rng (.call 3 (.cons (.var 0) (.cons (.int 4) (.nil))))) (.cons (.set 5 (.call 3 (.cons (.var 0) (.cons (.int 6) (.nil))))) (
.cons (.ifs (.andv (.cons (.cmp .eq (.var 5) (.int 0)) (.cons (.cmp .gt (.var 1) (.int 0)) (.nil)))) (.cons (.ex (.bm .append (.var 3) (.cons (.tup (.cons (.str "if") (.cons (.call 15 (.cons (.var 0) (.cons (.int 2) (.cons (.var 2) (.nil))))) (.cons (.call 6 (.cons (.var 0) (.cons (.bin .sub (.var 1) (.int 1)) (.cons (.var 2) (.nil))))) (.cons (.call 6 (.cons (.var 0) (.cons (.bin .sub (.var 1) (.int 1)) (.cons (.var 2) (.nil))))) (.nil)))))) (.nil)))) (
.nil)) (.cons (.ifs (.cmp .eq (.var 5) (.int 1)) (.cons (.ex (.bm .append (.var 3) (.cons (.call 5 (.cons (.var 0) (.cons (.bin .add (.lstI (.cons (.tup (.cons (.str "halve") (.nil))) (.cons (.tup (.cons (.str "clear") (.nil))) (.nil)))) (.ite (.var 2) (.lstI (.cons (.tup (.cons (.str "free") (.nil))) (.cons (.tup (.cons (.str "visit") (.nil))) (.nil)))) (.lstI (.nil)))) (.nil)))) (.nil)))) (
.nil)) (.cons (.ifs (.cmp .eq (.var 5) (.int 2)) (.cons (.ex (.bm .append (.var 3) (.cons (.tup (.cons (.str "set") (.cons (.call 5 (.cons (.var 0) (.cons (.lstI (.cons (.str "n1") (.cons (.str "spill") (.nil)))) (.nil)))) (.cons (.call 16 (.cons (.var 0) (.cons (.int 2) (.cons (.var 2) (.nil))))) (.nil))))) (.nil)))) (
.nil)) (.cons (.ifs (.cmp .eq (.var 5) (.int 3)) (.cons (.ex (.bm .append (.var 3) (.cons (.tup (.cons (.str "lower") (.cons (.call 16 (.cons (.var 0) (.cons (.int 1) (.cons (.var 2) (.nil))))) (.cons (.call 3 (.cons (.var 0) (.cons (.int 2) (.nil)))) (.nil))))) (.nil)))) (
.nil)) (.cons (.ex (.bm .append (.var 3) (.cons (.tup (.cons (.call 5 (.cons (.var 0) (.cons (.bin .add (.lstI (.cons (.str "visitall") (.nil))) (.ite (.var 2) (.lstI (.cons (.str "put") (.cons (.str "oust") (.cons (.str "count") (.nil))))) (.lstI (.nil)))) (.nil)))) (.cons (.call 16 (.cons (.var 0) (.cons (.int 2) (.cons (.var 2) (.nil))))) (.nil)))) (.nil)))) (
.nil))) (
.nil))) (
.nil))) (
.nil))) (
.nil)))) (
.cons (.ret (.bi .tuple (.cons (.var 3) (.nil)))) (
.nil)))
/-- _law_due_of: 0 tracker, 1 came, 2 turn, 3 one, 4 expr, 5 deep_v, 6 parts, 7 names, 8 number, 9 name, 10 word -/
def f__law_due_of : Ss := .cons (.par [1, 2] (.cons (.call 11 (.cons (.ix (.var 0) (.int 3)) (.nil))) (.cons (.call 11 (.cons (.ix (.var 0) (.int 5)) (.nil))) (.nil)))) (
.cons (.ifs (.cmp .gt (.bin .add (.bi .len (.cons (.var 1) (.nil))) (.bi .len (.cons (.var 2) (.nil)))) (.int 30)) (.cons (.ret (.tup (.cons (.str "large") (.cons (.str "lines") (.cons (.int 30) (.nil)))))) (
.nil)) (.nil)) (
.cons (.ifs (.cmp .gt (.bi .max2 (.cons (.call 17 (.cons (.ix (.var 0) (.int 3)) (.nil))) (.cons (.call 17 (.cons (.ix (.var 0) (.int 5)) (.nil))) (.nil)))) (.int 4)) (.cons (.ret (.tup (.cons (.str "large") (.cons (.str "blocks") (.cons (.int 4) (.nil)))))) (
.nil)) (.nil)) (
.cons (.for_ (.nm 3) (.seq (.bin .add (.var 1) (.var 2))) (.cons (.ifs (.andv (.cons (.cmp .eq (.ix (.var 3) (.int 0)) (.str "if")) (.cons (.cmp .gt (.call 18 (.cons (.ix (.var 3) (.int 1)) (.cons (.tup (.cons (.str "not") (.cons (.str "and") (.cons (.str "or") (.nil))))) (.nil)))) (.tup (.cons (.int 6) (.cons (.int 99) (.nil))))) (.nil)))) (.cons (.ret (.tup (.cons (.str "large") (.cons (.str "deep") (.cons (.int 6) (.nil)))))) (
.nil)) (.nil)) (
.cons (.ifs (.andv (.cons (.cmp .eq (.ix (.var 3) (.int 0)) (.str "if")) (.cons (.cmp .gt (.ix (.call 18 (.cons (.ix (.var 3) (.int 1)) (.cons (.tup (.cons (.str "not") (.cons (.str "and") (.cons (.str "or") (.nil))))) (.nil)))) (.int 1)) (.int 8)) (.nil)))) (.cons (.ret (.tup (.cons (.str "large") (.cons (.str "tests") (.cons (.int 8) (.nil)))))) (
.nil)) (.nil)) (
.cons (.for_ (.nm 4) (.seq (.call 19 (.cons (.var 3) (.nil)))) (.cons (.setT [5, 6] (.call 18 (.cons (.var 4) (.cons (.tup (.cons (.str "plus") (.cons (.str "less") (.cons (.str "lesser") (.cons (.str "greater") (.nil)))))) (.nil))))) (
.cons (.ifs (.orv (.cons (.cmp .gt (.var 5) (.int 6)) (.cons (.cmp .gt (.var 6) (.int 12)) (.nil)))) (.cons (.ret (.ite (.cmp .gt (.var 5) (.int 6)) (.tup (.cons (.str "large") (.cons (.str "deep") (.cons (.int 6) (.nil))))) (.tup (.cons (.str "large") (.cons (.str "parts") (.cons (.int 12) (.nil))))))) (
.nil)) (.nil)) (
.nil)))) (
.nil))))) (
.cons (.set 7 (.comp false (.nm 3) (.seq (.ix (.var 0) (.int 2))) (.absent) (.ix (.var 3) (.int 0)) [3])) (
.cons (.for_ (.tp [8, 3]) (.enum (.var 1)) (.cons (.ifs (.cmp .ne (.comp false (.nm 9) (.seq (.call 20 (.cons (.var 3) (.nil)))) (.cmp .nin (.var 9) (.var 7)) (.var 9) [9]) (.lstI (.nil))) (.cons (.ret (.tup (.cons (.str "kind") (.cons (.tup (.cons (.str "came") (.cons (.var 8) (.nil)))) (.cons (.str "name") (.nil)))))) (
.nil)) (.nil)) (
.nil))) (
.cons (.ifs (.andv (.cons (.cmp .eq (.ix (.var 0) (.int 4)) (.int 0)) (.cons (.cmp .ne (.ix (.var 0) (.int 5)) (.tup (.nil))) (.nil)))) (.cons (.ret (.tup (.cons (.str "kind") (.cons (.tup (.cons (.str "turn") (.cons (.int 0) (.nil)))) (.cons (.str "period") (.nil)))))) (
.nil)) (.nil)) (
.cons (.for_ (.tp [8, 3]) (.enum (.var 2)) (.cons (.ifs (.cmp .ne (.comp false (.nm 9) (.seq (.call 20 (.cons (.var 3) (.nil)))) (.cmp .nin (.var 9) (.var 7)) (.var 9) [9]) (.lstI (.nil))) (.cons (.ret (.tup (.cons (.str "kind") (.cons (.tup (.cons (.str "turn") (.cons (.var 8) (.nil)))) (.cons (.str "name") (.nil)))))) (
.nil)) (.nil)) (
.cons (.ifs (.cmp .ne (.comp false (.nm 10) (.seq (.call 21 (.cons (.var 3) (.nil)))) (.cmp .inn (.var 10) (.tup (.cons (.str "put") (.cons (.str "oust") (.cons (.str "count") (.cons (.str "free") (.cons (.str "visit") (.cons (.str "its") (.cons (.str "known") (.nil)))))))))) (.var 10) [10]) (.lstI (.nil))) (.cons (.ret (.tup (.cons (.str "kind") (.cons (.tup (.cons (.str "turn") (.cons (.var 8) (.nil)))) (.cons (.str "come") (.nil)))))) (
.nil)) (.nil)) (
.nil)))) (
.cons (.ret (.tup (.cons (.str "told") (.cons (.var 0) (.nil))))) (
.nil)))))))))
/-- _law_alike: 0 found, 1 wanted -/
def f__law_alike : Ss := .cons (.ret (.cmp .eq (.bi .repr (.cons (.var 0) (.nil))) (.bi .repr (.cons (.var 1) (.nil))))) (
.nil)
/-- _law_told_of: 0 tracker, 1 error -/
def f__law_told_of : Ss := .cons (.tryy (.cons (.ret (.tup (.cons (.str "told") (.cons (.call 13 (.cons (.var 0) (.nil))) (.nil))))) (
.nil)) (.cons [3] (some 1) (.cons (.ret (.tup (.cons (.str "kind") (.cons (.exf "where") (.cons (.exf "fault") (.nil)))))) (
.nil)) (.cons [2] (some 1) (.cons (.ret (.tup (.cons (.str "large") (.cons (.exf "what") (.cons (.exf "limit") (.nil)))))) (
.nil)) (.nil)))) (
.nil)
/-- numbered: 0 tracker -/
def f_numbered : Ss := .cons (.ifs (.nott (.call 22 (.cons (.var 0) (.nil)))) (.cons (.rais 0 (.nil)) (
.nil)) (.nil)) (
.cons (.ret (.bi .tuple (.cons (.bin .add (.call 23 (.cons (.ix (.var 0) (.int 3)) (.nil))) (.call 23 (.cons (.ix (.var 0) (.int 5)) (.nil)))) (.nil)))) (
.nil))
/-- _law_all: 0 body, 1 found, 2 one -/
def f__law_all : Ss := .cons (.set 1 (.lstI (.nil))) (
.cons (.for_ (.nm 2) (.seq (.var 0)) (.cons (.set 1 (.bin .add (.bin .add (.var 1) (.lstI (.cons (.var 2) (.nil)))) (.ite (.cmp .eq (.ix (.var 2) (.int 0)) (.str "if")) (.bin .add (.call 11 (.cons (.ix (.var 2) (.int 2)) (.nil))) (.call 11 (.cons (.ix (.var 2) (.int 3)) (.nil)))) (.lstI (.nil))))) (
.nil))) (
.cons (.ret (.var 1)) (
.nil)))
/-- checked_text: 0 thing -/
def f_checked_text : Ss := .cons (.ifs (.orv (.cons (.nott (.bi (.isinst .tup) (.cons (.var 0) .nil))) (.cons (.cmp .ne (.bi .len (.cons (.var 0) (.nil))) (.int 2)) (.cons (.nott (.call 24 (.cons (.ix (.var 0) (.int 1)) (.nil)))) (.nil))))) (.cons (.rais 0 (.nil)) (
.nil)) (.nil)) (
.cons (.ex (.call 13 (.cons (.ix (.var 0) (.int 0)) (.nil)))) (
.cons (.ret (.var 0)) (
.nil)))
/-- checked_tracker: 0 thing, 1 names, 2 one, 3 number, 4 statement -/
def f_checked_tracker : Ss := .cons (.ex (.call 25 (.cons (.var 0) (.nil)))) (
.cons (.set 1 (.comp false (.nm 2) (.seq (.ix (.var 0) (.int 2))) (.absent) (.ix (.var 2) (.int 0)) [2])) (
.cons (.for_ (.tp [3, 4]) (.enum (.call 23 (.cons (.ix (.var 0) (.int 3)) (.nil)))) (.cons (.ex (.call 26 (.cons (.tup (.cons (.str "came") (.cons (.var 3) (.nil)))) (.cons (.var 4) (.cons (.var 1) (.nil)))))) (
.nil))) (
.cons (.ifs (.andv (.cons (.cmp .eq (.ix (.var 0) (.int 4)) (.int 0)) (.cons (.cmp .ne (.ix (.var 0) (.int 5)) (.tup (.nil))) (.nil)))) (.cons (.rais 3 (.cons (.tup (.cons (.str "turn") (.cons (.int 0) (.nil)))) (.cons (.str "period") (.nil)))) (
.nil)) (.nil)) (
.cons (.for_ (.tp [3, 4]) (.enum (.call 23 (.cons (.ix (.var 0) (.int 5)) (.nil)))) (.cons (.ex (.call 26 (.cons (.tup (.cons (.str "turn") (.cons (.var 3) (.nil)))) (.cons (.var 4) (.cons (.var 1) (.nil)))))) (
.cons (.ifs (.call 27 (.cons (.var 4) (.nil))) (.cons (.rais 3 (.cons (.tup (.cons (.str "turn") (.cons (.var 3) (.nil)))) (.cons (.str "come") (.nil)))) (
.nil)) (.nil)) (
.nil)))) (
.cons (.ret (.var 0)) (
.nil))))))
/-- _law_claim: 0 bag, 1 way, 2 when -/
def f__law_claim : Ss := .cons (.set 1 (.call 3 (.cons (.var 0) (.cons (.int 5) (.nil))))) (
.cons (.ifs (.cmp .eq (.var 1) (.int 0)) (.cons (.ret (.tup (.cons (.str "visits") (.cons (.call 3 (.cons (.var 0) (.cons (.int 3) (.nil)))) (.cons (.bin .add (.int 1) (.call 3 (.cons (.var 0) (.cons (.int 3) (.nil))))) (.cons (.call 3 (.cons (.var 0) (.cons (.int 4) (.nil)))) (.nil))))))) (
.nil)) (.nil)) (
.cons (.set 2 (.call 5 (.cons (.var 0) (.cons (.lstI (.cons (.str "always") (.cons (.str "in") (.cons (.str "out") (.nil))))) (.nil))))) (
.cons (.ifs (.cmp .lt (.var 1) (.int 3)) (.cons (.ret (.tup (.cons (.str "came") (.cons (.var 2) (.cons (.int 1) (.cons (.int 0) (.cons (.int 0) (.cons (.call 3 (.cons (.var 0) (.cons (.int 9) (.nil)))) (.nil))))))))) (
.nil)) (.nil)) (
.cons (.ret (.tup (.cons (.str "came") (.cons (.var 2) (.cons (.bin .sub (.call 3 (.cons (.var 0) (.cons (.int 5) (.nil)))) (.int 1)) (.cons (.bin .sub (.call 3 (.cons (.var 0) (.cons (.int 3) (.nil)))) (.int 1)) (.cons (.bin .sub (.call 3 (.cons (.var 0) (.cons (.int 4) (.nil)))) (.int 2)) (.cons (.bin .sub (.call 3 (.cons (.var 0) (.cons (.int 12) (.nil)))) (.int 2)) (.nil))))))))) (
.nil)))))
/-- _law_any_test: 0 bag, 1 deep_v, 2 come, 3 way -/
def f__law_any_test : Ss := .cons (.set 3 (.ite (.cmp .gt (.var 1) (.int 0)) (.call 3 (.cons (.var 0) (.cons (.int 7) (.nil)))) (.call 3 (.cons (.var 0) (.cons (.int 3) (.nil)))))) (
.cons (.ifs (.cmp .lt (.var 3) (.int 2)) (.cons (.ret (.tup (.cons (.call 5 (.cons (.var 0) (.cons (.lstI (.cons (.str "below") (.cons (.str "same") (.nil)))) (.nil)))) (.cons (.call 16 (.cons (.var 0) (.cons (.int 1) (.cons (.var 2) (.nil))))) (.cons (.call 16 (.cons (.var 0) (.cons (.int 1) (.cons (.var 2) (.nil))))) (.nil)))))) (
.nil)) (.nil)) (
.cons (.ifs (.cmp .eq (.var 3) (.int 2)) (.cons (.ret (.ite (.var 2) (.call 5 (.cons (.var 0) (.cons (.lstI (.cons (.tup (.cons (.str "full") (.nil))) (.cons (.tup (.cons (.str "known") (.nil))) (.nil)))) (.nil)))) (.tup (.cons (.str "full") (.nil))))) (
.nil)) (.nil)) (
.cons (.ifs (.cmp .eq (.var 3) (.int 3)) (.cons (.ret (.tup (.cons (.str "not") (.cons (.call 15 (.cons (.var 0) (.cons (.bin .sub (.var 1) (.int 1)) (.cons (.var 2) (.nil))))) (.nil))))) (
.nil)) (.nil)) (
.cons (.ret (.tup (.cons (.call 5 (.cons (.var 0) (.cons (.lstI (.cons (.str "and") (.cons (.str "or") (.nil)))) (.nil)))) (.cons (.call 15 (.cons (.var 0) (.cons (.bin .sub (.var 1) (.int 1)) (.cons (.var 2) (.nil))))) (.cons (.call 15 (.cons (.var 0) (.cons (.bin .sub (.var 1) (.int 1)) (.cons (.var 2) (.nil))))) (.nil)))))) (
.nil)))))
/-- _law_any_expr: 0 bag, 1 deep_v, 2 come, 3 way -/
def f__law_any_expr : Ss := .cons (.set 3 (.ite (.cmp .gt (.var 1) (.int 0)) (.call 3 (.cons (.var 0) (.cons (.int 8) (.nil)))) (.call 3 (.cons (.var 0) (.cons (.int 4) (.nil)))))) (
.cons (.ifs (.cmp .eq (.var 3) (.int 0)) (.cons (.ret (.tup (.cons (.str "number") (.cons (.call 5 (.cons (.var 0) (.cons (.lstI (.cons (.int 0) (.cons (.int 1) (.cons (.int 7) (.cons (.int 99) (.nil)))))) (.nil)))) (.nil))))) (
.nil)) (.nil)) (
.cons (.ifs (.cmp .lt (.var 3) (.int 4)) (.cons (.ret (.call 5 (.cons (.var 0) (.cons (.bin .add (.lstI (.cons (.tup (.cons (.str "least") (.nil))) (.cons (.tup (.cons (.str "most") (.nil))) (.cons (.tup (.cons (.str "name") (.cons (.str "n1") (.nil)))) (.cons (.tup (.cons (.str "name") (.cons (.str "spill") (.nil)))) (.nil)))))) (.ite (.var 2) (.lstI (.cons (.tup (.cons (.str "its") (.nil))) (.nil))) (.lstI (.nil)))) (.nil))))) (
.nil)) (.nil)) (
.cons (.ret (.tup (.cons (.call 5 (.cons (.var 0) (.cons (.lstI (.cons (.str "plus") (.cons (.str "less") (.cons (.str "lesser") (.cons (.str "greater") (.nil)))))) (.nil)))) (.cons (.call 16 (.cons (.var 0) (.cons (.bin .sub (.var 1) (.int 1)) (.cons (.var 2) (.nil))))) (.cons (.call 16 (.cons (.var 0) (.cons (.bin .sub (.var 1) (.int 1)) (.cons (.var 2) (.nil))))) (.nil)))))) (
.nil))))
/-- _law_blocks: 0 body, 1 one -/
def f__law_blocks : Ss := .cons (.ret (.bi .max1 (.cons (.bin .add (.lstI (.cons (.int 0) (.nil))) (.comp false (.nm 1) (.seq (.var 0)) (.cmp .eq (.ix (.var 1) (.int 0)) (.str "if")) (.bin .add (.int 1) (.bi .max2 (.cons (.call 17 (.cons (.ix (.var 1) (.int 2)) (.nil))) (.cons (.call 17 (.cons (.ix (.var 1) (.int 3)) (.nil))) (.nil))))) [1])) (.nil)))) (
.nil)
/-- _law_size: 0 thing, 1 words, 2 its, 3 one -/
def f__law_size : Ss := .cons (.ifs (.cmp .nin (.ix (.var 0) (.int 0)) (.var 1)) (.cons (.ret (.tup (.cons (.int 0) (.cons (.int 1) (.nil))))) (
.nil)) (.nil)) (
.cons (.set 2 (.comp false (.nm 3) (.seq (.sl (.var 0) (.int 1) (.absent))) (.absent) (.call 18 (.cons (.var 3) (.cons (.var 1) (.nil)))) [3])) (
.cons (.ret (.tup (.cons (.bin .add (.int 1) (.bi .max1 (.cons (.comp false (.nm 3) (.seq (.var 2)) (.absent) (.ix (.var 3) (.int 0)) [3]) (.nil)))) (.cons (.bi .sum (.cons (.comp false (.nm 3) (.seq (.var 2)) (.absent) (.ix (.var 3) (.int 1)) [3]) (.nil))) (.nil))))) (
.nil)))
/-- _law_exprs: 0 one, 1 part -/
def f__law_exprs : Ss := .cons (.ifs (.cmp .eq (.ix (.var 0) (.int 0)) (.str "if")) (.cons (.ret (.call 28 (.cons (.ix (.var 0) (.int 1)) (.nil)))) (
.nil)) (.nil)) (
.cons (.ret (.comp false (.nm 1) (.seq (.sl (.var 0) (.int 1) (.absent))) (.bi (.isinst .tup) (.cons (.var 1) .nil)) (.var 1) [1])) (
.nil))
/-- _law_names: 0 one, 1 found, 2 its, 3 expr -/
def f__law_names : Ss := .cons (.set 1 (.comp false (.nm 2) (.seq (.bi .sumL (.cons (.comp false (.nm 3) (.seq (.call 19 (.cons (.var 0) (.nil)))) (.absent) (.call 29 (.cons (.var 3) (.nil))) [3]) (.cons (.lstI (.nil)) (.nil))))) (.cmp .eq (.ix (.var 2) (.int 0)) (.str "name")) (.ix (.var 2) (.int 1)) [2])) (
.cons (.ret (.bin .add (.ite (.cmp .eq (.ix (.var 0) (.int 0)) (.str "set")) (.lstI (.cons (.ix (.var 0) (.int 1)) (.nil))) (.lstI (.nil))) (.var 1))) (
.nil))
/-- _law_words: 0 thing, 1 parts, 2 one -/
def f__law_words : Ss := .cons (.ifs (.bi (.isinst .tup) (.cons (.var 0) .nil)) (.cons (.set 1 (.ite (.cmp .eq (.sl (.var 0) (.absent) (.int 1)) (.tup (.cons (.str "if") (.nil)))) (.sl (.var 0) (.absent) (.int 2)) (.var 0))) (
.cons (.ret (.bi .sumL (.cons (.comp false (.nm 2) (.seq (.var 1)) (.absent) (.call 21 (.cons (.var 2) (.nil))) [2]) (.cons (.lstI (.nil)) (.nil))))) (
.nil))) (.nil)) (
.cons (.ret (.lstI (.cons (.var 0) (.nil)))) (
.nil))
/-- is_tracker: 0 thing, 1 slots, 2 most, 3 numbers, 4 came, 5 period, 6 turn, 7 one -/
def f_is_tracker : Ss := .cons (.ifs (.orv (.cons (.nott (.call 30 (.cons (.var 0) (.cons (.int 6) (.nil))))) (.cons (.nott (.call 31 (.cons (.ix (.var 0) (.int 0)) (.cons (.int 1) (.cons (.glob 0) (.nil)))))) (.cons (.nott (.call 31 (.cons (.ix (.var 0) (.int 1)) (.cons (.int 1) (.cons (.glob 1) (.nil)))))) (.nil))))) (.cons (.ret (.bl false)) (
.nil)) (.nil)) (
.cons (.setT [1, 2, 3, 4, 5, 6] (.var 0)) (
.cons (.ifs (.orv (.cons (.nott (.call 32 (.cons (.var 3) (.cons (.fnv 33) (.nil))))) (.cons (.cmp .gt (.bi .len (.cons (.var 3) (.nil))) (.glob 2)) (.nil)))) (.cons (.ret (.bl false)) (
.nil)) (.nil)) (
.cons (.ifs (.cmp .lt (.bi .len (.cons (.dcomp (.nm 7) (.seq (.var 3)) (.absent) (.ix (.var 7) (.int 0)) (.bl true) [7]) (.nil))) (.bi .len (.cons (.var 3) (.nil)))) (.cons (.ret (.bl false)) (
.nil)) (.nil)) (
.cons (.ret (.andv (.cons (.call 34 (.cons (.var 4) (.nil))) (.cons (.call 31 (.cons (.var 5) (.cons (.int 0) (.cons (.glob 3) (.nil))))) (.cons (.call 34 (.cons (.var 6) (.nil))) (.nil)))))) (
.nil)))))
/-- in_order: 0 body, 1 found, 2 statement, 3 some -/
def f_in_order : Ss := .cons (.set 1 (.lstM (.nil))) (
.cons (.for_ (.nm 2) (.seq (.var 0)) (.cons (.ex (.bm .append (.var 1) (.cons (.var 2) (.nil)))) (
.cons (.for_ (.nm 3) (.seq (.call 35 (.cons (.var 2) (.nil)))) (.cons (.ex (.bm .extend (.var 1) (.cons (.call 23 (.cons (.var 3) (.nil))) (.nil)))) (
.nil))) (
.nil)))) (
.cons (.ret (.frz (.var 1))) (
.nil)))
/-- are_claims: 0 thing -/
def f_are_claims : Ss := .cons (.ret (.andv (.cons (.call 32 (.cons (.var 0) (.cons (.fnv 36) (.nil)))) (.cons (.cmp .le (.bi .len (.cons (.var 0) (.nil))) (.glob 4)) (.nil))))) (
.nil)
/-- check_limits: 0 tracker, 1 statements, 2 statement -/
def f_check_limits : Ss := .cons (.set 1 (.call 10 (.cons (.var 0) (.nil)))) (
.cons (.ifs (.cmp .gt (.bi .len (.cons (.var 1) (.nil))) (.glob 5)) (.cons (.rais 2 (.cons (.str "lines") (.cons (.glob 5) (.nil)))) (
.nil)) (.nil)) (
.cons (.ifs (.cmp .gt (.bi .max2 (.cons (.call 37 (.cons (.ix (.var 0) (.int 3)) (.nil))) (.cons (.call 37 (.cons (.ix (.var 0) (.int 5)) (.nil))) (.nil)))) (.glob 6)) (.cons (.rais 2 (.cons (.str "blocks") (.cons (.glob 6) (.nil)))) (
.nil)) (.nil)) (
.cons (.for_ (.nm 2) (.seq (.var 1)) (.cons (.ex (.call 38 (.cons (.var 2) (.nil)))) (
.nil))) (
.nil))))
/-- check_names: 0 where, 1 statement, 2 names, 3 expr, 4 part -/
def f_check_names : Ss := .cons (.ifs (.andv (.cons (.cmp .eq (.ix (.var 1) (.int 0)) (.str "set")) (.cons (.cmp .nin (.ix (.var 1) (.int 1)) (.var 2)) (.nil)))) (.cons (.rais 3 (.cons (.var 0) (.cons (.str "name") (.nil)))) (
.nil)) (.nil)) (
.cons (.for_ (.nm 3) (.seq (.call 39 (.cons (.var 1) (.nil)))) (.cons (.for_ (.nm 4) (.seq (.call 40 (.cons (.var 3) (.cons (.glob 7) (.nil))))) (.cons (.ifs (.andv (.cons (.cmp .eq (.ix (.var 4) (.int 0)) (.str "name")) (.cons (.cmp .nin (.ix (.var 4) (.int 1)) (.var 2)) (.nil)))) (.cons (.rais 3 (.cons (.var 0) (.cons (.str "name") (.nil)))) (
.nil)) (.nil)) (
.nil))) (
.nil))) (
.nil))
/-- does_ask_come: 0 statement, 1 expr -/
def f_does_ask_come : Ss := .cons (.ifs (.cmp .inn (.ix (.var 0) (.int 0)) (.glob 8)) (.cons (.ret (.bl true)) (
.nil)) (.nil)) (
.cons (.ifs (.cmp .ne (.comp false (.nm 1) (.seq (.call 39 (.cons (.var 0) (.nil)))) (.cmp .inn (.tup (.cons (.str "its") (.nil))) (.call 40 (.cons (.var 1) (.cons (.glob 7) (.nil))))) (.int 1) [1]) (.lstI (.nil))) (.cons (.ret (.bl true)) (
.nil)) (.nil)) (
.cons (.ret (.andv (.cons (.cmp .eq (.ix (.var 0) (.int 0)) (.str "if")) (.cons (.cmp .inn (.tup (.cons (.str "known") (.nil))) (.call 40 (.cons (.ix (.var 0) (.int 1)) (.cons (.tup (.cons (.str "not") (.cons (.str "and") (.cons (.str "or") (.nil))))) (.nil))))) (.nil))))) (
.nil)))
/-- _law_in_tests: 0 test, 1 its -/
def f__law_in_tests : Ss := .cons (.ifs (.cmp .inn (.ix (.var 0) (.int 0)) (.tup (.cons (.str "below") (.cons (.str "same") (.nil))))) (.cons (.ret (.bi .list (.cons (.sl (.var 0) (.int 1) (.absent)) (.nil)))) (
.nil)) (.nil)) (
.cons (.ret (.bi .sumL (.cons (.comp false (.nm 1) (.seq (.sl (.var 0) (.int 1) (.absent))) (.absent) (.call 28 (.cons (.var 1) (.nil))) [1]) (.cons (.lstI (.nil)) (.nil))))) (
.nil))
/-- _law_leaves: 0 expr -/
def f__law_leaves : Ss := .cons (.ifs (.cmp .inn (.ix (.var 0) (.int 0)) (.tup (.cons (.str "plus") (.cons (.str "less") (.cons (.str "lesser") (.cons (.str "greater") (.nil))))))) (.cons (.ret (.bin .add (.call 29 (.cons (.ix (.var 0) (.int 1)) (.nil))) (.call 29 (.cons (.ix (.var 0) (.int 2)) (.nil))))) (
.nil)) (.nil)) (
.cons (.ret (.lstI (.cons (.var 0) (.nil)))) (
.nil))
/-- is_sized: 0 thing, 1 many -/
def f_is_sized : Ss := .cons (.ret (.andv (.cons (.bi (.isinst .tup) (.cons (.var 0) .nil)) (.cons (.cmp .eq (.bi .len (.cons (.var 0) (.nil))) (.var 1)) (.nil))))) (
.nil)
/-- is_between: 0 thing, 1 low, 2 high -/
def f_is_between : Ss := .cons (.ret (.andv (.cons (.call 41 (.cons (.var 0) (.nil))) (.cons (.cmp2 .le .le (.var 1) (.var 0) (.var 2)) (.nil))))) (
.nil)
/-- is_tuple_of: 0 thing, 1 is_one, 2 one -/
def f_is_tuple_of : Ss := .cons (.ret (.andv (.cons (.bi (.isinst .tup) (.cons (.var 0) .nil)) (.cons (.bi .all (.cons (.comp false (.nm 2) (.seq (.var 0)) (.absent) (.callV 1 (.cons (.var 2) (.nil))) [2]) (.nil))) (.nil))))) (
.nil)
/-- is_named_number: 0 thing -/
def f_is_named_number : Ss := .cons (.ifs (.orv (.cons (.nott (.call 30 (.cons (.var 0) (.cons (.int 3) (.nil))))) (.cons (.nott (.call 42 (.cons (.ix (.var 0) (.int 0)) (.nil)))) (.cons (.nott (.call 31 (.cons (.ix (.var 0) (.int 1)) (.cons (.int 0) (.cons (.glob 1) (.nil)))))) (.nil))))) (.cons (.ret (.bl false)) (
.nil)) (.nil)) (
.cons (.ret (.call 31 (.cons (.ix (.var 0) (.int 2)) (.cons (.int 0) (.cons (.ix (.var 0) (.int 1)) (.nil)))))) (
.nil))
/-- is_body: 0 thing -/
def f_is_body : Ss := .cons (.ret (.call 32 (.cons (.var 0) (.cons (.fnv 43) (.nil))))) (
.nil)
/-- bodies_in: 0 statement -/
def f_bodies_in : Ss := .cons (.ret (.ite (.cmp .eq (.ix (.var 0) (.int 0)) (.str "if")) (.lstI (.cons (.ix (.var 0) (.int 2)) (.cons (.ix (.var 0) (.int 3)) (.nil)))) (.lstI (.nil)))) (
.nil)
/-- is_claim: 0 thing, 1 factors, 2 one -/
def f_is_claim : Ss := .cons (.ifs (.call 44 (.cons (.var 0) (.cons (.tup (.cons (.str "came") (.nil))) (.nil)))) (.cons (.ifs (.orv (.cons (.cmp .ne (.bi .len (.cons (.var 0) (.nil))) (.int 6)) (.cons (.nott (.bi (.isinst .str) (.cons (.ix (.var 0) (.int 1)) .nil))) (.cons (.cmp .nin (.ix (.var 0) (.int 1)) (.glob 9)) (.nil))))) (.cons (.ret (.bl false)) (
.nil)) (.nil)) (
.cons (.set 1 (.bi .all (.cons (.comp false (.nm 2) (.seq (.sl (.var 0) (.int 2) (.int 5))) (.absent) (.call 31 (.cons (.var 2) (.cons (.neg (.glob 10)) (.cons (.glob 10) (.nil))))) [2]) (.nil)))) (
.cons (.ret (.andv (.cons (.var 1) (.cons (.call 31 (.cons (.ix (.var 0) (.int 5)) (.cons (.neg (.glob 11)) (.cons (.glob 11) (.nil))))) (.nil))))) (
.nil)))) (.nil)) (
.cons (.ifs (.orv (.cons (.nott (.call 44 (.cons (.var 0) (.cons (.tup (.cons (.str "visits") (.nil))) (.nil))))) (.cons (.cmp .ne (.bi .len (.cons (.var 0) (.nil))) (.int 4)) (.cons (.nott (.call 31 (.cons (.ix (.var 0) (.int 1)) (.cons (.int 0) (.cons (.glob 12) (.nil)))))) (.nil))))) (.cons (.ret (.bl false)) (
.nil)) (.nil)) (
.cons (.ret (.andv (.cons (.call 31 (.cons (.ix (.var 0) (.int 2)) (.cons (.int 1) (.cons (.glob 12) (.nil))))) (.cons (.call 31 (.cons (.ix (.var 0) (.int 3)) (.cons (.int 0) (.cons (.glob 11) (.nil))))) (.nil))))) (
.nil)))
/-- blocks_deep: 0 body, 1 found, 2 statement, 3 some -/
def f_blocks_deep : Ss := .cons (.set 1 (.int 0)) (
.cons (.for_ (.nm 2) (.seq (.var 0)) (.cons (.for_ (.nm 3) (.seq (.call 35 (.cons (.var 2) (.nil)))) (.cons (.set 1 (.bi .max2 (.cons (.var 1) (.cons (.bin .add (.int 1) (.call 37 (.cons (.var 3) (.nil)))) (.nil))))) (
.nil))) (
.nil))) (
.cons (.ret (.var 1)) (
.nil)))
/-- check_sizes: 0 statement, 1 expr -/
def f_check_sizes : Ss := .cons (.ifs (.cmp .eq (.ix (.var 0) (.int 0)) (.str "if")) (.cons (.ifs (.cmp .gt (.call 45 (.cons (.ix (.var 0) (.int 1)) (.cons (.tup (.cons (.str "not") (.cons (.str "and") (.cons (.str "or") (.nil))))) (.nil)))) (.glob 13)) (.cons (.rais 2 (.cons (.str "deep") (.cons (.glob 13) (.nil)))) (
.nil)) (.nil)) (
.cons (.ifs (.cmp .gt (.bi .len (.cons (.call 40 (.cons (.ix (.var 0) (.int 1)) (.cons (.tup (.cons (.str "not") (.cons (.str "and") (.cons (.str "or") (.nil))))) (.nil)))) (.nil))) (.glob 14)) (.cons (.rais 2 (.cons (.str "tests") (.cons (.glob 14) (.nil)))) (
.nil)) (.nil)) (
.nil))) (.nil)) (
.cons (.for_ (.nm 1) (.seq (.call 39 (.cons (.var 0) (.nil)))) (.cons (.ifs (.cmp .gt (.call 45 (.cons (.var 1) (.cons (.glob 7) (.nil)))) (.glob 13)) (.cons (.rais 2 (.cons (.str "deep") (.cons (.glob 13) (.nil)))) (
.nil)) (.nil)) (
.cons (.ifs (.cmp .gt (.bi .len (.cons (.call 40 (.cons (.var 1) (.cons (.glob 7) (.nil)))) (.nil))) (.glob 15)) (.cons (.rais 2 (.cons (.str "parts") (.cons (.glob 15) (.nil)))) (
.nil)) (.nil)) (
.nil)))) (
.nil))
/-- exprs_in: 0 statement, 1 part, 2 found, 3 test -/
def f_exprs_in : Ss := .cons (.ifs (.cmp .ne (.ix (.var 0) (.int 0)) (.str "if")) (.cons (.ret (.comp false (.nm 1) (.seq (.sl (.var 0) (.int 1) (.absent))) (.bi (.isinst .tup) (.cons (.var 1) .nil)) (.var 1) [1])) (
.nil)) (.nil)) (
.cons (.set 2 (.lstM (.nil))) (
.cons (.for_ (.nm 3) (.seq (.call 40 (.cons (.ix (.var 0) (.int 1)) (.cons (.tup (.cons (.str "not") (.cons (.str "and") (.cons (.str "or") (.nil))))) (.nil))))) (.cons (.ex (.bm .extend (.var 2) (.cons (.call 46 (.cons (.var 3) (.nil))) (.nil)))) (
.nil))) (
.cons (.ret (.frz (.var 2))) (
.nil))))
/-- plain_parts: 0 thing, 1 words, 2 found, 3 part -/
def f_plain_parts : Ss := .cons (.ifs (.cmp .nin (.ix (.var 0) (.int 0)) (.var 1)) (.cons (.ret (.lstI (.cons (.var 0) (.nil)))) (
.nil)) (.nil)) (
.cons (.set 2 (.lstM (.nil))) (
.cons (.for_ (.nm 3) (.seq (.call 46 (.cons (.var 0) (.nil)))) (.cons (.ex (.bm .extend (.var 2) (.cons (.call 40 (.cons (.var 3) (.cons (.var 1) (.nil)))) (.nil)))) (
.nil))) (
.cons (.ret (.frz (.var 2))) (
.nil))))
/-- is_number: 0 thing -/
def f_is_number : Ss := .cons (.ret (.andv (.cons (.bi (.isinst .int) (.cons (.var 0) .nil)) (.cons (.nott (.bi (.isinst .bl) (.cons (.var 0) .nil))) (.nil))))) (
.nil)
/-- is_name: 0 thing, 1 sign -/
def f_is_name : Ss := .cons (.ifs (.orv (.cons (.nott (.bi (.isinst .str) (.cons (.var 0) .nil))) (.cons (.nott (.cmp2 .le .le (.int 1) (.bi .len (.cons (.var 0) (.nil))) (.glob 16))) (.cons (.cmp .nin (.ix (.var 0) (.int 0)) (.glob 17)) (.nil))))) (.cons (.ret (.bl false)) (
.nil)) (.nil)) (
.cons (.ret (.andv (.cons (.cmp .nin (.var 0) (.glob 18)) (.cons (.bi .all (.cons (.comp false (.nm 1) (.seq (.var 0)) (.absent) (.cmp .inn (.var 1) (.bin .add (.glob 17) (.glob 19))) [1]) (.nil))) (.nil))))) (
.nil))
/-- is_statement: 0 thing -/
def f_is_statement : Ss := .cons (.ifs (.call 44 (.cons (.var 0) (.cons (.tup (.cons (.str "put") (.cons (.str "oust") (.cons (.str "count") (.cons (.str "visitall") (.nil)))))) (.nil)))) (.cons (.ret (.andv (.cons (.cmp .eq (.bi .len (.cons (.var 0) (.nil))) (.int 2)) (.cons (.call 47 (.cons (.ix (.var 0) (.int 1)) (.nil))) (.nil))))) (
.nil)) (.nil)) (
.cons (.ifs (.call 44 (.cons (.var 0) (.cons (.tup (.cons (.str "free") (.cons (.str "halve") (.cons (.str "clear") (.cons (.str "visit") (.nil)))))) (.nil)))) (.cons (.ret (.cmp .eq (.bi .len (.cons (.var 0) (.nil))) (.int 1))) (
.nil)) (.nil)) (
.cons (.ifs (.call 44 (.cons (.var 0) (.cons (.tup (.cons (.str "lower") (.nil))) (.nil)))) (.cons (.ret (.andv (.cons (.cmp .eq (.bi .len (.cons (.var 0) (.nil))) (.int 3)) (.cons (.call 47 (.cons (.ix (.var 0) (.int 1)) (.nil))) (.cons (.call 31 (.cons (.ix (.var 0) (.int 2)) (.cons (.int 0) (.cons (.int 1) (.nil))))) (.nil)))))) (
.nil)) (.nil)) (
.cons (.ifs (.call 44 (.cons (.var 0) (.cons (.tup (.cons (.str "set") (.nil))) (.nil)))) (.cons (.ret (.andv (.cons (.cmp .eq (.bi .len (.cons (.var 0) (.nil))) (.int 3)) (.cons (.call 42 (.cons (.ix (.var 0) (.int 1)) (.nil))) (.cons (.call 47 (.cons (.ix (.var 0) (.int 2)) (.nil))) (.nil)))))) (
.nil)) (.nil)) (
.cons (.ifs (.orv (.cons (.nott (.call 44 (.cons (.var 0) (.cons (.tup (.cons (.str "if") (.nil))) (.nil))))) (.cons (.cmp .ne (.bi .len (.cons (.var 0) (.nil))) (.int 4)) (.nil)))) (.cons (.ret (.bl false)) (
.nil)) (.nil)) (
.cons (.ret (.andv (.cons (.call 48 (.cons (.ix (.var 0) (.int 1)) (.nil))) (.cons (.call 34 (.cons (.ix (.var 0) (.int 2)) (.nil))) (.cons (.call 34 (.cons (.ix (.var 0) (.int 3)) (.nil))) (.nil)))))) (
.nil))))))
/-- is_worded: 0 thing, 1 words -/
def f_is_worded : Ss := .cons (.ret (.andv (.cons (.bi (.isinst .tup) (.cons (.var 0) .nil)) (.cons (.cmp .ne (.var 0) (.tup (.nil))) (.cons (.bi (.isinst .str) (.cons (.ix (.var 0) (.int 0)) .nil)) (.cons (.cmp .inn (.ix (.var 0) (.int 0)) (.var 1)) (.nil))))))) (
.nil)
/-- deep: 0 thing, 1 words, 2 part -/
def f_deep : Ss := .cons (.ifs (.cmp .nin (.ix (.var 0) (.int 0)) (.var 1)) (.cons (.ret (.int 0)) (
.nil)) (.nil)) (
.cons (.ret (.bin .add (.int 1) (.bi .max1 (.cons (.comp false (.nm 2) (.seq (.call 46 (.cons (.var 0) (.nil)))) (.absent) (.call 45 (.cons (.var 2) (.cons (.var 1) (.nil)))) [2]) (.nil))))) (
.nil))
/-- inner: 0 thing, 1 part -/
def f_inner : Ss := .cons (.ret (.comp false (.nm 1) (.seq (.sl (.var 0) (.int 1) (.absent))) (.bi (.isinst .tup) (.cons (.var 1) .nil)) (.var 1) [1])) (
.nil)
/-- is_expr: 0 thing -/
def f_is_expr : Ss := .cons (.ifs (.call 44 (.cons (.var 0) (.cons (.tup (.cons (.str "number") (.nil))) (.nil)))) (.cons (.ret (.andv (.cons (.cmp .eq (.bi .len (.cons (.var 0) (.nil))) (.int 2)) (.cons (.call 31 (.cons (.ix (.var 0) (.int 1)) (.cons (.int 0) (.cons (.glob 20) (.nil))))) (.nil))))) (
.nil)) (.nil)) (
.cons (.ifs (.call 44 (.cons (.var 0) (.cons (.tup (.cons (.str "its") (.cons (.str "least") (.cons (.str "most") (.nil))))) (.nil)))) (.cons (.ret (.cmp .eq (.bi .len (.cons (.var 0) (.nil))) (.int 1))) (
.nil)) (.nil)) (
.cons (.ifs (.call 44 (.cons (.var 0) (.cons (.tup (.cons (.str "name") (.nil))) (.nil)))) (.cons (.ret (.andv (.cons (.cmp .eq (.bi .len (.cons (.var 0) (.nil))) (.int 2)) (.cons (.call 42 (.cons (.ix (.var 0) (.int 1)) (.nil))) (.nil))))) (
.nil)) (.nil)) (
.cons (.ret (.andv (.cons (.call 44 (.cons (.var 0) (.cons (.glob 7) (.nil)))) (.cons (.cmp .eq (.bi .len (.cons (.var 0) (.nil))) (.int 3)) (.cons (.call 47 (.cons (.ix (.var 0) (.int 1)) (.nil))) (.cons (.call 47 (.cons (.ix (.var 0) (.int 2)) (.nil))) (.nil))))))) (
.nil))))
/-- is_test: 0 thing -/
def f_is_test : Ss := .cons (.ifs (.call 44 (.cons (.var 0) (.cons (.tup (.cons (.str "below") (.cons (.str "same") (.nil)))) (.nil)))) (.cons (.ret (.andv (.cons (.cmp .eq (.bi .len (.cons (.var 0) (.nil))) (.int 3)) (.cons (.call 47 (.cons (.ix (.var 0) (.int 1)) (.nil))) (.cons (.call 47 (.cons (.ix (.var 0) (.int 2)) (.nil))) (.nil)))))) (
.nil)) (.nil)) (
.cons (.ifs (.call 44 (.cons (.var 0) (.cons (.tup (.cons (.str "full") (.cons (.str "known") (.nil)))) (.nil)))) (.cons (.ret (.cmp .eq (.bi .len (.cons (.var 0) (.nil))) (.int 1))) (
.nil)) (.nil)) (
.cons (.ifs (.call 44 (.cons (.var 0) (.cons (.tup (.cons (.str "not") (.nil))) (.nil)))) (.cons (.ret (.andv (.cons (.cmp .eq (.bi .len (.cons (.var 0) (.nil))) (.int 2)) (.cons (.call 48 (.cons (.ix (.var 0) (.int 1)) (.nil))) (.nil))))) (
.nil)) (.nil)) (
.cons (.ret (.andv (.cons (.call 44 (.cons (.var 0) (.cons (.tup (.cons (.str "and") (.cons (.str "or") (.nil)))) (.nil)))) (.cons (.cmp .eq (.bi .len (.cons (.var 0) (.nil))) (.int 3)) (.cons (.call 48 (.cons (.ix (.var 0) (.int 1)) (.nil))) (.cons (.call 48 (.cons (.ix (.var 0) (.int 2)) (.nil))) (.nil))))))) (
.nil))))
def fnT : List Fn := [⟨none, "law", 1, 14, f_law⟩,
  ⟨none, "_law_bag", 1, 2, f__law_bag⟩,
  ⟨none, "_law_any_text", 1, 6, f__law_any_text⟩,
  ⟨none, "_law_take", 2, 7, f__law_take⟩,
  ⟨none, "_law_large", 1, 8, f__law_large⟩,
  ⟨none, "_law_some", 2, 2, f__law_some⟩,
  ⟨none, "_law_any_body", 3, 6, f__law_any_body⟩,
  ⟨none, "_law_due_of", 1, 11, f__law_due_of⟩,
  ⟨none, "_law_alike", 2, 2, f__law_alike⟩,
  ⟨none, "_law_told_of", 1, 2, f__law_told_of⟩,
  ⟨none, "numbered", 1, 1, f_numbered⟩,
  ⟨none, "_law_all", 1, 3, f__law_all⟩,
  ⟨none, "checked_text", 1, 1, f_checked_text⟩,
  ⟨none, "checked_tracker", 1, 5, f_checked_tracker⟩,
  ⟨none, "_law_claim", 1, 3, f__law_claim⟩,
  ⟨none, "_law_any_test", 3, 4, f__law_any_test⟩,
  ⟨none, "_law_any_expr", 3, 4, f__law_any_expr⟩,
  ⟨none, "_law_blocks", 1, 2, f__law_blocks⟩,
  ⟨none, "_law_size", 2, 4, f__law_size⟩,
  ⟨none, "_law_exprs", 1, 2, f__law_exprs⟩,
  ⟨none, "_law_names", 1, 4, f__law_names⟩,
  ⟨none, "_law_words", 1, 3, f__law_words⟩,
  ⟨none, "is_tracker", 1, 8, f_is_tracker⟩,
  ⟨none, "in_order", 1, 4, f_in_order⟩,
  ⟨none, "are_claims", 1, 1, f_are_claims⟩,
  ⟨none, "check_limits", 1, 3, f_check_limits⟩,
  ⟨none, "check_names", 3, 5, f_check_names⟩,
  ⟨none, "does_ask_come", 1, 2, f_does_ask_come⟩,
  ⟨none, "_law_in_tests", 1, 2, f__law_in_tests⟩,
  ⟨none, "_law_leaves", 1, 1, f__law_leaves⟩,
  ⟨none, "is_sized", 2, 2, f_is_sized⟩,
  ⟨none, "is_between", 3, 3, f_is_between⟩,
  ⟨none, "is_tuple_of", 2, 3, f_is_tuple_of⟩,
  ⟨none, "is_named_number", 1, 1, f_is_named_number⟩,
  ⟨none, "is_body", 1, 1, f_is_body⟩,
  ⟨none, "bodies_in", 1, 1, f_bodies_in⟩,
  ⟨none, "is_claim", 1, 3, f_is_claim⟩,
  ⟨none, "blocks_deep", 1, 4, f_blocks_deep⟩,
  ⟨none, "check_sizes", 1, 2, f_check_sizes⟩,
  ⟨none, "exprs_in", 1, 4, f_exprs_in⟩,
  ⟨none, "plain_parts", 2, 4, f_plain_parts⟩,
  ⟨none, "is_number", 1, 1, f_is_number⟩,
  ⟨none, "is_name", 1, 2, f_is_name⟩,
  ⟨none, "is_statement", 1, 1, f_is_statement⟩,
  ⟨none, "is_worded", 2, 2, f_is_worded⟩,
  ⟨none, "deep", 2, 3, f_deep⟩,
  ⟨none, "inner", 1, 2, f_inner⟩,
  ⟨none, "is_expr", 1, 1, f_is_expr⟩,
  ⟨none, "is_test", 1, 1, f_is_test⟩]
def clT : List Cl := [.exc "Nothing" [] [0, 1], .exc "SlotError" [] [1], .exc "TooLarge" ["what", "limit"] [2, 1], .exc "BadKind" ["where", "fault"] [3, 1]]
def cnT : List (Str × T) := [("MOST_SLOTS", .int 4), ("MOST_COUNT", .int 30), ("MOST_NUMBERS", .int 2), ("MOST_PERIOD", .int 32), ("MOST_CLAIMS", .int 6), ("MOST_LINES", .int 30), ("MOST_BLOCKS", .int 4), ("PAIRS", .tup [.str "greater", .str "less", .str "lesser", .str "plus"]), ("COME", .tup [.str "put", .str "oust", .str "count", .str "free", .str "visit"]), ("WHENS", .tup [.str "always", .str "in", .str "out"]), ("MOST_FACTOR", .int 9), ("MOST_BOUND", .int 9999), ("MOST_SHARE", .int 99), ("MOST_DEEP", .int 6), ("MOST_TESTS", .int 8), ("MOST_PARTS", .int 12), ("MOST_LETTERS", .int 8), ("LETTERS", .str "abcdefghijklmnopqrstuvwxyz"), ("RESERVED", .tup [.str "all", .str "always", .str "and", .str "any", .str "at", .str "below", .str "came", .str "claim", .str "clear", .str "count", .str "each", .str "else", .str "end", .str "events", .str "free", .str "full", .str "greater", .str "halve", .str "if", .str "in", .str "is", .str "its", .str "known", .str "least", .str "less", .str "lesser", .str "lower", .str "most", .str "not", .str "number", .str "of", .str "or", .str "oust", .str "out", .str "period", .str "plus", .str "put", .str "same", .str "set", .str "slots", .str "start", .str "to", .str "turn", .str "unknown", .str "visit", .str "visits", .str "whenever"]), ("DIGITS", .str "0123456789"), ("MOST_NUMBER", .int 99)]
abbrev D : Tb := ⟨fnT, clT, cnT⟩
abbrev d0 : Dd := ⟨("law", none), "law", ["script", "bag", "turn", "text", "slots", "most", "numbers", "came", "period", "turned", "way", "tracker", "due", "odd"], ["script"], top 78⟩
abbrev d1 : Dd := ⟨("_law_bag", none), "_law_bag", ["script", "cell"], ["script"], top 60⟩
abbrev d2 : Dd := ⟨("_law_any_text", none), "_law_any_text", ["bag", "numbers", "period", "turn", "claims", "lap"], ["bag"], top 65⟩
abbrev d3 : Dd := ⟨("_law_take", none), "_law_take", ["bag", "many", "cell", "stirred", "value", "begin", "second"], ["bag", "many"], top 58⟩
abbrev d4 : Dd := ⟨("_law_large", none), "_law_large", ["bag", "expr", "test", "way", "turn", "wide", "many", "deep_v"], ["bag"], top 77⟩
abbrev d5 : Dd := ⟨("_law_some", none), "_law_some", ["bag", "things"], ["bag", "things"], top 59⟩
abbrev d6 : Dd := ⟨("_law_any_body", none), "_law_any_body", ["bag", "deep_v", "come", "found", "turn", "way"], ["bag", "deep_v", "come"], top 63⟩
abbrev d7 : Dd := ⟨("_law_due_of", none), "_law_due_of", ["tracker", "came", "turn", "one", "expr", "deep_v", "parts", "names", "number", "name", "word"], ["tracker"], top 75⟩
abbrev d8 : Dd := ⟨("_law_alike", none), "_law_alike", ["found", "wanted"], ["found", "wanted"], top 66⟩
abbrev d9 : Dd := ⟨("_law_told_of", none), "_law_told_of", ["tracker", "error"], ["tracker"], top 76⟩
abbrev d10 : Dd := ⟨("numbered", none), "numbered", ["tracker"], ["tracker"], top 53⟩
abbrev d11 : Dd := ⟨("_law_all", none), "_law_all", ["body", "found", "one"], ["body"], top 67⟩
abbrev d12 : Dd := ⟨("checked_text", none), "checked_text", ["thing"], ["thing"], top 56⟩
abbrev d13 : Dd := ⟨("checked_tracker", none), "checked_tracker", ["thing", "names", "one", "number", "statement"], ["thing"], top 55⟩
abbrev d14 : Dd := ⟨("_law_claim", none), "_law_claim", ["bag", "way", "when"], ["bag"], top 64⟩
abbrev d15 : Dd := ⟨("_law_any_test", none), "_law_any_test", ["bag", "deep_v", "come", "way"], ["bag", "deep_v", "come"], top 62⟩
abbrev d16 : Dd := ⟨("_law_any_expr", none), "_law_any_expr", ["bag", "deep_v", "come", "way"], ["bag", "deep_v", "come"], top 61⟩
abbrev d17 : Dd := ⟨("_law_blocks", none), "_law_blocks", ["body", "one"], ["body"], top 68⟩
abbrev d18 : Dd := ⟨("_law_size", none), "_law_size", ["thing", "words", "its", "one"], ["thing", "words"], top 71⟩
abbrev d19 : Dd := ⟨("_law_exprs", none), "_law_exprs", ["one", "part"], ["one"], top 69⟩
abbrev d20 : Dd := ⟨("_law_names", none), "_law_names", ["one", "found", "its", "expr"], ["one"], top 73⟩
abbrev d21 : Dd := ⟨("_law_words", none), "_law_words", ["thing", "parts", "one"], ["thing"], top 72⟩
abbrev d22 : Dd := ⟨("is_tracker", none), "is_tracker", ["thing", "slots", "most", "numbers", "came", "period", "turn", "one"], ["thing"], top 33⟩
abbrev d23 : Dd := ⟨("in_order", none), "in_order", ["body", "found", "statement", "some"], ["body"], top 44⟩
abbrev d24 : Dd := ⟨("are_claims", none), "are_claims", ["thing"], ["thing"], top 35⟩
abbrev d25 : Dd := ⟨("check_limits", none), "check_limits", ["tracker", "statements", "statement"], ["tracker"], top 54⟩
abbrev d26 : Dd := ⟨("check_names", none), "check_names", ["where", "statement", "names", "expr", "part"], ["where", "statement", "names"], top 51⟩
abbrev d27 : Dd := ⟨("does_ask_come", none), "does_ask_come", ["statement", "expr"], ["statement"], top 52⟩
abbrev d28 : Dd := ⟨("_law_in_tests", none), "_law_in_tests", ["test", "its"], ["test"], top 70⟩
abbrev d29 : Dd := ⟨("_law_leaves", none), "_law_leaves", ["expr"], ["expr"], top 74⟩
abbrev d30 : Dd := ⟨("is_sized", none), "is_sized", ["thing", "many"], ["thing", "many"], top 25⟩
abbrev d31 : Dd := ⟨("is_between", none), "is_between", ["thing", "low", "high"], ["thing", "low", "high"], top 23⟩
abbrev d32 : Dd := ⟨("is_tuple_of", none), "is_tuple_of", ["thing", "is_one", "one"], ["thing", "is_one"], top 26⟩
abbrev d33 : Dd := ⟨("is_named_number", none), "is_named_number", ["thing"], ["thing"], top 32⟩
abbrev d34 : Dd := ⟨("is_body", none), "is_body", ["thing"], ["thing"], top 31⟩
abbrev d35 : Dd := ⟨("bodies_in", none), "bodies_in", ["statement"], ["statement"], top 43⟩
abbrev d36 : Dd := ⟨("is_claim", none), "is_claim", ["thing", "factors", "one"], ["thing"], top 34⟩
abbrev d37 : Dd := ⟨("blocks_deep", none), "blocks_deep", ["body", "found", "statement", "some"], ["body"], top 45⟩
abbrev d38 : Dd := ⟨("check_sizes", none), "check_sizes", ["statement", "expr"], ["statement"], top 50⟩
abbrev d39 : Dd := ⟨("exprs_in", none), "exprs_in", ["statement", "part", "found", "test"], ["statement"], top 49⟩
abbrev d40 : Dd := ⟨("plain_parts", none), "plain_parts", ["thing", "words", "found", "part"], ["thing", "words"], top 48⟩
abbrev d41 : Dd := ⟨("is_number", none), "is_number", ["thing"], ["thing"], top 22⟩
abbrev d42 : Dd := ⟨("is_name", none), "is_name", ["thing", "sign"], ["thing"], top 24⟩
abbrev d43 : Dd := ⟨("is_statement", none), "is_statement", ["thing"], ["thing"], top 30⟩
abbrev d44 : Dd := ⟨("is_worded", none), "is_worded", ["thing", "words"], ["thing", "words"], top 27⟩
abbrev d45 : Dd := ⟨("deep", none), "deep", ["thing", "words", "part"], ["thing", "words"], top 47⟩
abbrev d46 : Dd := ⟨("inner", none), "inner", ["thing", "part"], ["thing"], top 46⟩
abbrev d47 : Dd := ⟨("is_expr", none), "is_expr", ["thing"], ["thing"], top 28⟩
abbrev d48 : Dd := ⟨("is_test", none), "is_test", ["thing"], ["thing"], top 29⟩
abbrev dd : List Dd := [d0, d1, d2, d3, d4, d5, d6, d7, d8, d9, d10, d11, d12, d13, d14, d15, d16, d17, d18, d19, d20, d21, d22, d23, d24, d25, d26, d27, d28, d29, d30, d31, d32, d33, d34, d35, d36, d37, d38, d39, d40, d41, d42, d43, d44, d45, d46, d47, d48]
theorem b0 : BindD d0 := fun _ _ _ _ _ _ us hl => match us, hl with | [_], _ => rfl
theorem b1 : BindD d1 := fun _ _ _ _ _ _ us hl => match us, hl with | [_], _ => rfl
theorem b2 : BindD d2 := fun _ _ _ _ _ _ us hl => match us, hl with | [_], _ => rfl
theorem b3 : BindD d3 := fun _ _ _ _ _ _ us hl => match us, hl with | [_, _], _ => rfl
theorem b4 : BindD d4 := fun _ _ _ _ _ _ us hl => match us, hl with | [_], _ => rfl
theorem b5 : BindD d5 := fun _ _ _ _ _ _ us hl => match us, hl with | [_, _], _ => rfl
theorem b6 : BindD d6 := fun _ _ _ _ _ _ us hl => match us, hl with | [_, _, _], _ => rfl
theorem b7 : BindD d7 := fun _ _ _ _ _ _ us hl => match us, hl with | [_], _ => rfl
theorem b8 : BindD d8 := fun _ _ _ _ _ _ us hl => match us, hl with | [_, _], _ => rfl
theorem b9 : BindD d9 := fun _ _ _ _ _ _ us hl => match us, hl with | [_], _ => rfl
theorem b10 : BindD d10 := fun _ _ _ _ _ _ us hl => match us, hl with | [_], _ => rfl
theorem b11 : BindD d11 := fun _ _ _ _ _ _ us hl => match us, hl with | [_], _ => rfl
theorem b12 : BindD d12 := fun _ _ _ _ _ _ us hl => match us, hl with | [_], _ => rfl
theorem b13 : BindD d13 := fun _ _ _ _ _ _ us hl => match us, hl with | [_], _ => rfl
theorem b14 : BindD d14 := fun _ _ _ _ _ _ us hl => match us, hl with | [_], _ => rfl
theorem b15 : BindD d15 := fun _ _ _ _ _ _ us hl => match us, hl with | [_, _, _], _ => rfl
theorem b16 : BindD d16 := fun _ _ _ _ _ _ us hl => match us, hl with | [_, _, _], _ => rfl
theorem b17 : BindD d17 := fun _ _ _ _ _ _ us hl => match us, hl with | [_], _ => rfl
theorem b18 : BindD d18 := fun _ _ _ _ _ _ us hl => match us, hl with | [_, _], _ => rfl
theorem b19 : BindD d19 := fun _ _ _ _ _ _ us hl => match us, hl with | [_], _ => rfl
theorem b20 : BindD d20 := fun _ _ _ _ _ _ us hl => match us, hl with | [_], _ => rfl
theorem b21 : BindD d21 := fun _ _ _ _ _ _ us hl => match us, hl with | [_], _ => rfl
theorem b22 : BindD d22 := fun _ _ _ _ _ _ us hl => match us, hl with | [_], _ => rfl
theorem b23 : BindD d23 := fun _ _ _ _ _ _ us hl => match us, hl with | [_], _ => rfl
theorem b24 : BindD d24 := fun _ _ _ _ _ _ us hl => match us, hl with | [_], _ => rfl
theorem b25 : BindD d25 := fun _ _ _ _ _ _ us hl => match us, hl with | [_], _ => rfl
theorem b26 : BindD d26 := fun _ _ _ _ _ _ us hl => match us, hl with | [_, _, _], _ => rfl
theorem b27 : BindD d27 := fun _ _ _ _ _ _ us hl => match us, hl with | [_], _ => rfl
theorem b28 : BindD d28 := fun _ _ _ _ _ _ us hl => match us, hl with | [_], _ => rfl
theorem b29 : BindD d29 := fun _ _ _ _ _ _ us hl => match us, hl with | [_], _ => rfl
theorem b30 : BindD d30 := fun _ _ _ _ _ _ us hl => match us, hl with | [_, _], _ => rfl
theorem b31 : BindD d31 := fun _ _ _ _ _ _ us hl => match us, hl with | [_, _, _], _ => rfl
theorem b32 : BindD d32 := fun _ _ _ _ _ _ us hl => match us, hl with | [_, _], _ => rfl
theorem b33 : BindD d33 := fun _ _ _ _ _ _ us hl => match us, hl with | [_], _ => rfl
theorem b34 : BindD d34 := fun _ _ _ _ _ _ us hl => match us, hl with | [_], _ => rfl
theorem b35 : BindD d35 := fun _ _ _ _ _ _ us hl => match us, hl with | [_], _ => rfl
theorem b36 : BindD d36 := fun _ _ _ _ _ _ us hl => match us, hl with | [_], _ => rfl
theorem b37 : BindD d37 := fun _ _ _ _ _ _ us hl => match us, hl with | [_], _ => rfl
theorem b38 : BindD d38 := fun _ _ _ _ _ _ us hl => match us, hl with | [_], _ => rfl
theorem b39 : BindD d39 := fun _ _ _ _ _ _ us hl => match us, hl with | [_], _ => rfl
theorem b40 : BindD d40 := fun _ _ _ _ _ _ us hl => match us, hl with | [_, _], _ => rfl
theorem b41 : BindD d41 := fun _ _ _ _ _ _ us hl => match us, hl with | [_], _ => rfl
theorem b42 : BindD d42 := fun _ _ _ _ _ _ us hl => match us, hl with | [_], _ => rfl
theorem b43 : BindD d43 := fun _ _ _ _ _ _ us hl => match us, hl with | [_], _ => rfl
theorem b44 : BindD d44 := fun _ _ _ _ _ _ us hl => match us, hl with | [_, _], _ => rfl
theorem b45 : BindD d45 := fun _ _ _ _ _ _ us hl => match us, hl with | [_, _], _ => rfl
theorem b46 : BindD d46 := fun _ _ _ _ _ _ us hl => match us, hl with | [_], _ => rfl
theorem b47 : BindD d47 := fun _ _ _ _ _ _ us hl => match us, hl with | [_], _ => rfl
theorem b48 : BindD d48 := fun _ _ _ _ _ _ us hl => match us, hl with | [_], _ => rfl
theorem bAll : BindAll dd := (ball_cons b0 (ball_cons b1 (ball_cons b2 (ball_cons b3 (ball_cons b4 (ball_cons b5 (ball_cons b6 (ball_cons b7 (ball_cons b8 (ball_cons b9 (ball_cons b10 (ball_cons b11 (ball_cons b12 (ball_cons b13 (ball_cons b14 (ball_cons b15 (ball_cons b16 (ball_cons b17 (ball_cons b18 (ball_cons b19 (ball_cons b20 (ball_cons b21 (ball_cons b22 (ball_cons b23 (ball_cons b24 (ball_cons b25 (ball_cons b26 (ball_cons b27 (ball_cons b28 (ball_cons b29 (ball_cons b30 (ball_cons b31 (ball_cons b32 (ball_cons b33 (ball_cons b34 (ball_cons b35 (ball_cons b36 (ball_cons b37 (ball_cons b38 (ball_cons b39 (ball_cons b40 (ball_cons b41 (ball_cons b42 (ball_cons b43 (ball_cons b44 (ball_cons b45 (ball_cons b46 (ball_cons b47 (ball_cons b48 ball_nil)))))))))))))))))))))))))))))))))))))))))))))))))
theorem t0 : txtB D d0 ⟨none, "law", 1, 14, f_law⟩ = true := by decide +kernel
theorem t1 : txtB D d1 ⟨none, "_law_bag", 1, 2, f__law_bag⟩ = true := by decide +kernel
theorem t2 : txtB D d2 ⟨none, "_law_any_text", 1, 6, f__law_any_text⟩ = true := by decide +kernel
theorem t3 : txtB D d3 ⟨none, "_law_take", 2, 7, f__law_take⟩ = true := by decide +kernel
theorem t4 : txtB D d4 ⟨none, "_law_large", 1, 8, f__law_large⟩ = true := by decide +kernel
theorem t5 : txtB D d5 ⟨none, "_law_some", 2, 2, f__law_some⟩ = true := by decide +kernel
theorem t6 : txtB D d6 ⟨none, "_law_any_body", 3, 6, f__law_any_body⟩ = true := by decide +kernel
theorem t7 : txtB D d7 ⟨none, "_law_due_of", 1, 11, f__law_due_of⟩ = true := by decide +kernel
theorem t8 : txtB D d8 ⟨none, "_law_alike", 2, 2, f__law_alike⟩ = true := by decide +kernel
theorem t9 : txtB D d9 ⟨none, "_law_told_of", 1, 2, f__law_told_of⟩ = true := by decide +kernel
theorem t10 : txtB D d10 ⟨none, "numbered", 1, 1, f_numbered⟩ = true := by decide +kernel
theorem t11 : txtB D d11 ⟨none, "_law_all", 1, 3, f__law_all⟩ = true := by decide +kernel
theorem t12 : txtB D d12 ⟨none, "checked_text", 1, 1, f_checked_text⟩ = true := by decide +kernel
theorem t13 : txtB D d13 ⟨none, "checked_tracker", 1, 5, f_checked_tracker⟩ = true := by decide +kernel
theorem t14 : txtB D d14 ⟨none, "_law_claim", 1, 3, f__law_claim⟩ = true := by decide +kernel
theorem t15 : txtB D d15 ⟨none, "_law_any_test", 3, 4, f__law_any_test⟩ = true := by decide +kernel
theorem t16 : txtB D d16 ⟨none, "_law_any_expr", 3, 4, f__law_any_expr⟩ = true := by decide +kernel
theorem t17 : txtB D d17 ⟨none, "_law_blocks", 1, 2, f__law_blocks⟩ = true := by decide +kernel
theorem t18 : txtB D d18 ⟨none, "_law_size", 2, 4, f__law_size⟩ = true := by decide +kernel
theorem t19 : txtB D d19 ⟨none, "_law_exprs", 1, 2, f__law_exprs⟩ = true := by decide +kernel
theorem t20 : txtB D d20 ⟨none, "_law_names", 1, 4, f__law_names⟩ = true := by decide +kernel
theorem t21 : txtB D d21 ⟨none, "_law_words", 1, 3, f__law_words⟩ = true := by decide +kernel
theorem t22 : txtB D d22 ⟨none, "is_tracker", 1, 8, f_is_tracker⟩ = true := by decide +kernel
theorem t23 : txtB D d23 ⟨none, "in_order", 1, 4, f_in_order⟩ = true := by decide +kernel
theorem t24 : txtB D d24 ⟨none, "are_claims", 1, 1, f_are_claims⟩ = true := by decide +kernel
theorem t25 : txtB D d25 ⟨none, "check_limits", 1, 3, f_check_limits⟩ = true := by decide +kernel
theorem t26 : txtB D d26 ⟨none, "check_names", 3, 5, f_check_names⟩ = true := by decide +kernel
theorem t27 : txtB D d27 ⟨none, "does_ask_come", 1, 2, f_does_ask_come⟩ = true := by decide +kernel
theorem t28 : txtB D d28 ⟨none, "_law_in_tests", 1, 2, f__law_in_tests⟩ = true := by decide +kernel
theorem t29 : txtB D d29 ⟨none, "_law_leaves", 1, 1, f__law_leaves⟩ = true := by decide +kernel
theorem t30 : txtB D d30 ⟨none, "is_sized", 2, 2, f_is_sized⟩ = true := by decide +kernel
theorem t31 : txtB D d31 ⟨none, "is_between", 3, 3, f_is_between⟩ = true := by decide +kernel
theorem t32 : txtB D d32 ⟨none, "is_tuple_of", 2, 3, f_is_tuple_of⟩ = true := by decide +kernel
theorem t33 : txtB D d33 ⟨none, "is_named_number", 1, 1, f_is_named_number⟩ = true := by decide +kernel
theorem t34 : txtB D d34 ⟨none, "is_body", 1, 1, f_is_body⟩ = true := by decide +kernel
theorem t35 : txtB D d35 ⟨none, "bodies_in", 1, 1, f_bodies_in⟩ = true := by decide +kernel
theorem t36 : txtB D d36 ⟨none, "is_claim", 1, 3, f_is_claim⟩ = true := by decide +kernel
theorem t37 : txtB D d37 ⟨none, "blocks_deep", 1, 4, f_blocks_deep⟩ = true := by decide +kernel
theorem t38 : txtB D d38 ⟨none, "check_sizes", 1, 2, f_check_sizes⟩ = true := by decide +kernel
theorem t39 : txtB D d39 ⟨none, "exprs_in", 1, 4, f_exprs_in⟩ = true := by decide +kernel
theorem t40 : txtB D d40 ⟨none, "plain_parts", 2, 4, f_plain_parts⟩ = true := by decide +kernel
theorem t41 : txtB D d41 ⟨none, "is_number", 1, 1, f_is_number⟩ = true := by decide +kernel
theorem t42 : txtB D d42 ⟨none, "is_name", 1, 2, f_is_name⟩ = true := by decide +kernel
theorem t43 : txtB D d43 ⟨none, "is_statement", 1, 1, f_is_statement⟩ = true := by decide +kernel
theorem t44 : txtB D d44 ⟨none, "is_worded", 2, 2, f_is_worded⟩ = true := by decide +kernel
theorem t45 : txtB D d45 ⟨none, "deep", 2, 3, f_deep⟩ = true := by decide +kernel
theorem t46 : txtB D d46 ⟨none, "inner", 1, 2, f_inner⟩ = true := by decide +kernel
theorem t47 : txtB D d47 ⟨none, "is_expr", 1, 1, f_is_expr⟩ = true := by decide +kernel
theorem t48 : txtB D d48 ⟨none, "is_test", 1, 1, f_is_test⟩ = true := by decide +kernel
theorem tAll : zipAll (txtB D) dd D.fns = true := by
  simp only [zipAll, D, dd, fnT, Bool.and_true, Bool.and_eq_true]
  exact ⟨t0, t1, t2, t3, t4, t5, t6, t7, t8, t9, t10, t11, t12, t13, t14, t15, t16, t17, t18, t19, t20, t21, t22, t23, t24, t25, t26, t27, t28, t29, t30, t31, t32, t33, t34, t35, t36, t37, t38, t39, t40, t41, t42, t43, t44, t45, t46, t47, t48⟩
abbrev x0 : Xd := ⟨"TooLarge", "TooLarge.__init__", ["what", "limit"], inCls (top 5) 0⟩
theorem xb0 : BindX x0 := fun _ _ _ _ _ _ _ us hl => match us, hl with | [_, _, _], _ => rfl
theorem xt0 : xtB x0 = true := by decide +kernel
abbrev x1 : Xd := ⟨"BadKind", "BadKind.__init__", ["where", "fault"], inCls (top 3) 0⟩
theorem xb1 : BindX x1 := fun _ _ _ _ _ _ _ us hl => match us, hl with | [_, _, _], _ => rfl
theorem xt1 : xtB x1 = true := by decide +kernel
abbrev xs : List Xd := [x0, x1]
theorem xAll : ∀ x ∈ xs, xtB x = true ∧ BindX x := by
  intro x h
  simp only [xs, List.mem_cons, List.not_mem_nil, or_false] at h
  rcases h with rfl | rfl
  · exact ⟨xt0, xb0⟩
  · exact ⟨xt1, xb1⟩
end K06
end

section
set_option Elab.async false
set_option linter.all false
set_option maxRecDepth 100000
/-! K06i: where the shared defs stand (printed by print_ix.py). -/
namespace K06
open PySem Fs Fp Gt
abbrev x : Ix := { f_is_number := 41, f_is_between := 31, f_is_name := 42, f_is_sized := 30, f_is_tuple_of := 32, f_is_worded := 44, f_is_expr := 47, f_is_test := 48, f_is_body := 34, f_is_statement := 43, f_is_named_number := 33, f_is_tracker := 22, f_is_claim := 36, f_are_claims := 24, f_bodies_in := 35, f_in_order := 23, f_blocks_deep := 37, f_inner := 46, f_deep := 45, f_plain_parts := 40, f_exprs_in := 39, f_check_sizes := 38, f_check_names := 26, f_does_ask_come := 27, f_numbered := 10, f_check_limits := 25, f_checked_tracker := 13, f_checked_text := 12, f__law_take := 3, f__law_some := 5, f__law_any_expr := 16, f__law_any_test := 15, f__law_any_body := 6, f__law_claim := 14, f__law_any_text := 2, g_MOST_LETTERS := 16, g_LETTERS := 17, g_RESERVED := 18, g_DIGITS := 19, g_MOST_NUMBER := 20, g_PAIRS := 7, g_MOST_COUNT := 1, g_MOST_SLOTS := 0, g_MOST_NUMBERS := 2, g_MOST_PERIOD := 3, g_WHENS := 9, g_MOST_FACTOR := 10, g_MOST_BOUND := 11, g_MOST_SHARE := 12, g_MOST_CLAIMS := 4, g_MOST_DEEP := 13, g_MOST_TESTS := 14, g_MOST_PARTS := 15, g_COME := 8, g_MOST_LINES := 5, g_MOST_BLOCKS := 6, c_TooLarge := 2, c_BadKind := 3, c_Nothing := 0 }
theorem hV : HasV D x := ⟨rfl, rfl, rfl, rfl, rfl, rfl, rfl, rfl, rfl, rfl, rfl, rfl, rfl, rfl, rfl, rfl, rfl, rfl, rfl, rfl, rfl, rfl⟩
theorem hC : HasC D x := ⟨rfl, rfl, rfl, rfl, rfl, rfl, rfl⟩
theorem hK : HasK D x := ⟨rfl, rfl, rfl, rfl, rfl, rfl, rfl, rfl, rfl, rfl, rfl, rfl, rfl, rfl, rfl, rfl, rfl, rfl, rfl, rfl, ⟨_, _, rfl⟩, ⟨_, _, rfl⟩, ⟨_, _, rfl⟩⟩
theorem hX : HasX D x := ⟨rfl, ⟨_, _, rfl⟩⟩
theorem hD : HasD D x := ⟨rfl, rfl, rfl⟩
theorem hT : HasT D x := ⟨rfl, rfl⟩
theorem hL : LB D x.f__law_take x.f__law_some := ⟨rfl, rfl⟩
end K06
end

section
set_option Elab.async false
set_option linter.all false
set_option maxRecDepth 10000
/-! K06a: the law's own looks: sizes, blocks, all statements. -/
namespace K06
open PySem Fs Fp Gt
theorem PP_inv {ws : List String} {w : String} {r ps : List T} {k : Nat} (p : PP ws (.tup (wT w :: r)) k ps) : (w ∉ ws ∧ k = 0 ∧ ps = [.tup (wT w :: r)]) ∨ (w ∈ ws ∧ ∃ a k', r = [a] ∧ k = k' + 1 ∧ PP ws a k' ps) ∨
    (w ∈ ws ∧ ∃ a b ka kb pa pb, r = [a, b] ∧ k = max ka kb + 1 ∧ ps = pa ++ pb ∧ PP ws a ka pa ∧ PP ws b kb pb) := by
  generalize ht : (T.tup (wT w :: r)) = t at p
  cases p with
  | leaf w' r' h =>
    injection ht with ht
    injection ht with h1 h2
    injection h1 with h1
    have := ofS_inj.mp h1
    subst this h2
    exact .inl ⟨h, rfl, rfl⟩
  | one w' a k' ps' h p1 =>
    injection ht with ht
    injection ht with h1 h2
    injection h1 with h1
    have := ofS_inj.mp h1
    subst this h2
    exact .inr (.inl ⟨h, a, k', rfl, rfl, p1⟩)
  | two w' a b ka kb pa pb h p1 p2 =>
    injection ht with ht
    injection ht with h1 h2
    injection h1 with h1
    have := ofS_inj.mp h1
    subst this h2
    exact .inr (.inr ⟨h, a, b, ka, kb, pa, pb, rfl, rfl, rfl, p1, p2⟩)
theorem PP_conv {ws ws' : List String} (hw : ∀ w, w ∈ ws ↔ w ∈ ws') {t : T} {k : Nat} {ps : List T} (p : PP ws t k ps) : PP ws' t k ps := by
  induction p with
  | leaf w r h => exact .leaf w r fun z => h ((hw w).mpr z)
  | one w a k ps h _ ih => exact .one w a k ps ((hw w).mp h) ih
  | two w a b ka kb pa pb h _ _ ia ib => exact .two w a b ka kb pa pb ((hw w).mp h) ia ib
section
variable {W : Nat}
theorem max_1 {h : Hs} {a : Int} : biT .max1 h [.lst [.int a]] = some (.int a) := rfl
theorem max_2 {h : Hs} {a b : Nat} : biT .max1 h [.lst [.int (a : Int), .int (b : Int)]] = some (.int ((max a b : Nat) : Int)) := by
  show some (T.int (if (b : Int) > (a : Int) then (b : Int) else (a : Int))) = _
  by_cases q : a < b
  · rw [if_pos (by omega), Nat.max_eq_right (by omega)]
  · rw [if_neg (by omega), Nat.max_eq_left (by omega)]
theorem sum_1 {h : Hs} {a : Int} : biT .sum h [.lst [.int a]] = some (.int a) := by
  simp [biT, lstOf, intsT]
theorem sum_2 {h : Hs} {a b : Int} : biT .sum h [.lst [.int a, .int b]] = some (.int (a + b)) := by
  simp [biT, lstOf, intsT]
theorem size_ok {ws : List String} {t : T} {k : Nat} {ps : List T} (p : PP ws t k ps) : ∀ (n : Nat) (h : Hs), k + 1 ≤ n → callN D W n 18 [t, .tup (ws.map wT)] h = .ok (.tup [.int (k : Int), .int (ps.length : Int)]) h := by
  induction p with
  | leaf w r hw =>
    intro n h hn
    obtain ⟨n, rfl⟩ : ∃ m, n = m + 1 := ⟨n - 1, by omega⟩
    rw [callN_eq (fn := ⟨none, "_law_size", 2, 4, f__law_size⟩) rfl rfl (by decide)]
    have i := in_ws (h := h) (w := w) (ws := ws)
    rw [decide_eq_false hw] at i
    simp [f__law_size, i]
  | one w a k ps hw pa ih =>
    intro n h hn
    obtain ⟨n, rfl⟩ : ∃ m, n = m + 1 := ⟨n - 1, by omega⟩
    rw [callN_eq (fn := ⟨none, "_law_size", 2, 4, f__law_size⟩) rfl rfl (by decide)]
    have i := in_ws (h := h) (w := w) (ws := ws)
    rw [decide_eq_true hw] at i
    have ea := ih n h (by omega)
    have cu : cutL [wT w, a] (some 1) none = [a] := rfl
    simp only [f__law_size, evSs_cons, evSs_nil, evS_ifs, evS_set, evS_ret, ev_cmp, ev_ix, ev_var, ev_int, ev_tup, evL_cons, evL_nil, ev_bin, ev_bi, ev_compE, evI_seq, ev_sl]
    simp [i, slT, cu, compL, cBody, wipeT, ea, max_1, sum_1]
    omega
  | two w a b ka kb pa pb hw ppa ppb iha ihb =>
    intro n h hn
    obtain ⟨n, rfl⟩ : ∃ m, n = m + 1 := ⟨n - 1, by omega⟩
    rw [callN_eq (fn := ⟨none, "_law_size", 2, 4, f__law_size⟩) rfl rfl (by decide)]
    have i := in_ws (h := h) (w := w) (ws := ws)
    rw [decide_eq_true hw] at i
    have ea := iha n h (by omega)
    have eb := ihb n h (by omega)
    have cu : cutL [wT w, a, b] (some 1) none = [a, b] := rfl
    simp only [f__law_size, evSs_cons, evSs_nil, evS_ifs, evS_set, evS_ret, ev_cmp, ev_ix, ev_var, ev_int, ev_tup, evL_cons, evL_nil, ev_bin, ev_bi, ev_compE, evI_seq, ev_sl]
    simp [i, slT, cu, compL, cBody, wipeT, ea, eb]
    have m2 := max_2 (h := h) (a := ka) (b := kb)
    have s2 := sum_2 (h := h) (a := (pa.length : Int)) (b := (pb.length : Int))
    simp [m2, s2]
    omega
end
end K06
end

section
set_option Elab.async false
set_option linter.all false
set_option maxRecDepth 10000
/-! K06b: all statements, how deep blocks stand. -/
namespace K06
open PySem Fs Fp Gt
section
variable {W : Nat}
def alB : Ss := .cons (.set 1 (.bin .add (.bin .add (.var 1) (.lstI (.cons (.var 2) (.nil)))) (.ite (.cmp .eq (.ix (.var 2) (.int 0)) (.str "if")) (.bin .add (.call 11 (.cons (.ix (.var 2) (.int 2)) (.nil))) (.call 11 (.cons (.ix (.var 2) (.int 3)) (.nil)))) (.lstI (.nil))))) (.nil)
theorem al_body : f__law_all = .cons (.set 1 (.lstI (.nil))) (.cons (.for_ (.nm 2) (.seq (.var 0)) alB) (.cons (.ret (.var 1)) (.nil))) := rfl
def AllL (W n : Nat) (b l : List T) : Prop := ∀ (h : Hs) (acc : List T) (o0 o2 : Option T), acc.length + l.length ≤ 1000000 → ∃ o2', forL (.nm 2) (fun env2 h2 => evSs D W (callN D W n) alB env2 h2) b [o0, some (.lst acc), o2] h = .nx [o0, some (.lst (acc ++ l)), o2'] h
theorem all_call {n : Nat} {b l : List T} (a : AllL W n b l) (hl : l.length ≤ 1000000) (h : Hs) : callN D W (n + 1) 11 [.tup b] h = .ok (.lst l) h := by
  obtain ⟨o2, e⟩ := a h [] (some (.tup b)) none (by simpa using hl)
  rw [List.nil_append] at e
  have fs : evS D W (callN D W n) (.for_ (.nm 2) (.seq (.var 0)) alB) [some (.tup b), some (.lst []), none] h = .nx [some (.tup b), some (.lst l), o2] h := by
    rw [evS_for]
    simp
    exact e
  rw [callN_eq (fn := ⟨none, "_law_all", 1, 3, f__law_all⟩) rfl rfl (by decide), al_body]
  simp [fs]
theorem all_lp {k : Nat} {b l : List T} (a : AO k b l) : ∀ n, k ≤ n → AllL W n b l := by
  induction a with
  | nil k =>
    intro n hn h acc o0 o2 hl
    exact ⟨o2, by rw [List.append_nil]; rfl⟩
  | other k w r0 r l hw _ ih =>
    intro n hn h acc o0 o2 hl
    simp only [List.length_cons] at hl
    obtain ⟨p2, e⟩ := ih n hn h (acc ++ [.tup (wT w :: r0)]) o0 (some (.tup (wT w :: r0))) (by simp; omega)
    refine ⟨p2, ?_⟩
    have z1 : acc.length + 1 ≤ 1000000 := by omega
    rw [forL_nx (env2 := [o0, some (.lst (acc ++ [.tup (wT w :: r0)])), some (.tup (wT w :: r0))]) (h2 := h) (by simp [alB, hw, z1])]
    rw [e]
    simp
  | iff k t b1 b2 r l1 l2 l _ _ _ ih1 ih2 ih =>
    intro n hn h acc o0 o2 hl
    obtain ⟨n, rfl⟩ : ∃ m, n = m + 1 := ⟨n - 1, by omega⟩
    simp only [List.length_cons, List.length_append] at hl
    have e1 := all_call (W := W) (ih1 n (by omega)) (by omega) h
    have e2 := all_call (W := W) (ih2 n (by omega)) (by omega) h
    obtain ⟨p2, e⟩ := ih (n + 1) hn h (acc ++ [.tup [wT "if", t, .tup b1, .tup b2]] ++ (l1 ++ l2)) o0 (some (.tup [wT "if", t, .tup b1, .tup b2])) (by simp; omega)
    refine ⟨p2, ?_⟩
    have z1 : acc.length + 1 ≤ 1000000 := by omega
    have z2 : l1.length + l2.length ≤ 1000000 := by omega
    have z3 : acc.length + 1 + (l1.length + l2.length) ≤ 1000000 := by omega
    rw [forL_nx (env2 := [o0, some (.lst (acc ++ [.tup [wT "if", t, .tup b1, .tup b2]] ++ (l1 ++ l2))), some (.tup [wT "if", t, .tup b1, .tup b2])]) (h2 := h) (by simp [alB, e1, e2, z1, z2, z3])]
    rw [e]
    simp
theorem all_ok {k n : Nat} {b l : List T} (a : AO k b l) (hn : k + 1 ≤ n) (hl : l.length ≤ 1000000) (h : Hs) : callN D W n 11 [.tup b] h = .ok (.lst l) h := by
  obtain ⟨n, rfl⟩ : ∃ m, n = m + 1 := ⟨n - 1, by omega⟩
  exact all_call (all_lp a n (by omega)) hl h
/-! blocks -/
def isIf : T → Bool
  | .tup (.str a :: _) => decide (a = Str.ofString "if")
  | _ => false
theorem isIf_w {w : String} {r : List T} : isIf (.tup (wT w :: r)) = decide (w = "if") := Bool.eq_iff_iff.mpr (by simp [isIf, ofS_inj])
theorem maxL_acc : ∀ (xs : List Int) (a : Int), xs.foldl (fun m x => if x > m then x else m) a = max a (xs.foldl (fun m x => if x > m then x else m) a)
  | [], a => by simp
  | x :: xs, a => by
    simp only [List.foldl_cons]
    rw [maxL_acc xs]
    split <;> omega
theorem BD_other {w : String} {r0 r : List T} {k : Nat} (hw : w ≠ "if") (b : BD (.tup (wT w :: r0) :: r) k) : BD r k := by
  generalize ht : (T.tup (wT w :: r0)) :: r = t at b
  cases b with
  | nil => cases ht
  | other w' r0' r' k hw' b =>
    injection ht with _ ht
    subst ht
    exact b
  | iff t b1 b2 r' k1 k2 k' _ _ _ =>
    injection ht with h1 h2
    injection h1 with h1
    injection h1 with h1 _
    injection h1 with h1
    exact absurd (ofS_inj.mp h1) hw
theorem BD_if {t : T} {b1 b2 r : List T} {k : Nat} (b : BD (.tup [wT "if", t, .tup b1, .tup b2] :: r) k) : ∃ k1 k2 k', k = max (1 + max k1 k2) k' ∧ BD b1 k1 ∧ BD b2 k2 ∧ BD r k' := by
  generalize ht : (T.tup [wT "if", t, .tup b1, .tup b2]) :: r = l at b
  cases b with
  | nil => cases ht
  | other w' r0' r' k hw' b =>
    injection ht with h1 h2
    injection h1 with h1
    injection h1 with h1 _
    injection h1 with h1
    exact absurd (ofS_inj.mp h1).symm hw'
  | iff t' b1' b2' r' k1 k2 k' p1 p2 p3 =>
    injection ht with h1 h2
    injection h1 with h1
    injection h1 with _ h1
    injection h1 with _ h1
    injection h1 with h3 h1
    injection h1 with h4 _
    injection h3 with h3
    injection h4 with h4
    subst h2 h3 h4
    exact ⟨k1, k2, k', rfl, p1, p2, p3⟩
abbrev bkC : E := .cmp .eq (.ix (.var 1) (.int 0)) (.str "if")
abbrev bkE : E := .bin .add (.int 1) (.bi .max2 (.cons (.call 17 (.cons (.ix (.var 1) (.int 2)) (.nil))) (.cons (.call 17 (.cons (.ix (.var 1) (.int 3)) (.nil))) (.nil))))
theorem bk_body : f__law_blocks = .cons (.ret (.bi .max1 (.cons (.bin .add (.lstI (.cons (.int 0) (.nil))) (.comp false (.nm 1) (.seq (.var 0)) bkC bkE [1])) (.nil)))) (.nil) := rfl
def BlkC (W n : Nat) (b : List T) (k : Nat) : Prop := ∀ (h : Hs) (o0 : Option T), ∃ ns : List Int, compL (cBody D (callN D W n) 1 bkC bkE [1] [o0, none]) b h = .ok (ns.map T.int) h ∧ ns.length ≤ b.length ∧ ∀ m : Nat, ns.foldl (fun m x => if x > m then x else m) (m : Int) = ((max m k : Nat) : Int)
theorem intsT_map : ∀ ns : List Int, intsT (ns.map T.int) = some ns
  | [] => rfl
  | n :: ns => by simp [intsT, intsT_map ns]
theorem blk_call {n k : Nat} {b : List T} (c : BlkC W n b k) (hl : b.length ≤ 900000) (h : Hs) : callN D W (n + 1) 17 [.tup b] h = .ok (.int (k : Int)) h := by
  obtain ⟨ns, e, l, f⟩ := c h (some (.tup b))
  have cc : ev D (callN D W n) (.comp false (.nm 1) (.seq (.var 0)) bkC bkE [1]) [some (.tup b), none] h = mkV (.ok (.lst (ns.map T.int)) h) := by
    have it : evI D (callN D W n) (.seq (.var 0)) [some (.tup b), none] h = .ok b h := by simp
    rw [ev_compE, it, R.bind_ok, e]
    simp only [R.nox_ok, R.bind_ok]
    rw [if_pos (by rw [List.length_map]; simp only [lim_eq]; omega)]
  have mx : biT .max1 h [.lst (.int 0 :: ns.map T.int)] = some (.int (k : Int)) := by
    show (intsT (.int 0 :: ns.map T.int)).bind _ = _
    have : intsT (.int 0 :: ns.map T.int) = some (0 :: ns) := intsT_map (0 :: ns)
    rw [this]
    show some (T.int (ns.foldl (fun m x => if x > m then x else m) 0)) = _
    have f0 : ns.foldl (fun m x => if x > m then x else m) (0 : Int) = (k : Int) := by
      have := f 0
      rw [Nat.zero_max] at this
      exact this
    rw [f0]
  rw [callN_eq (fn := ⟨none, "_law_blocks", 1, 2, f__law_blocks⟩) rfl rfl (by decide), bk_body]
  have z : 1 + ns.length ≤ 1000000 := by omega
  simp only [evSs_cons, evS_ret, ev_bi, evL_cons, evL_nil, ev_bin, cc]
  simp [z, mx, cc]
theorem max_3 {h : Hs} {a b : Nat} : biT .max2 h [.int (a : Int), .int (b : Int)] = some (.int ((max a b : Nat) : Int)) := by
  show some (T.int (if (b : Int) > (a : Int) then (b : Int) else (a : Int))) = _
  by_cases q : a < b
  · rw [if_pos (by omega), Nat.max_eq_right (by omega)]
  · rw [if_neg (by omega), Nat.max_eq_left (by omega)]
theorem AO_len {k : Nat} {b l : List T} (a : AO k b l) : b.length ≤ l.length := by
  induction a with
  | nil => exact Nat.le_refl _
  | other k w r0 r l hw _ ih => simp; omega
  | iff k t b1 b2 r l1 l2 l _ _ _ _ _ ih => simp; omega
theorem blk_lp {j : Nat} {b l : List T} (a : AO j b l) : ∀ n k, j ≤ n → l.length ≤ 900000 → BD b k → BlkC W n b k := by
  induction a with
  | nil j =>
    intro n k hn hl bd h o0
    cases bd
    exact ⟨[], rfl, Nat.le_refl _, fun m => by simp⟩
  | other j w r0 r l hw _ ih =>
    intro n k hn hl bd h o0
    simp only [List.length_cons] at hl
    obtain ⟨ns, e, l, f⟩ := ih n k hn (by omega) (BD_other hw bd) h o0
    refine ⟨ns, ?_, by simp; omega, f⟩
    have st : cBody D (callN D W n) 1 bkC bkE [1] [o0, none] (.tup (wT w :: r0)) h = .ok none h := by
      simp [cBody, wipeT, hw]
    simp only [compL, st, R.bind_ok, e]
  | iff j t b1 b2 r l1 l2 l a1 a2 _ ih1 ih2 ih =>
    intro n k hn hl bd h o0
    obtain ⟨k1, k2, k', rfl, d1, d2, d3⟩ := BD_if bd
    obtain ⟨n, rfl⟩ : ∃ m, n = m + 1 := ⟨n - 1, by omega⟩
    simp only [List.length_cons, List.length_append] at hl
    have n1 := AO_len a1
    have n2 := AO_len a2
    have c1 := blk_call (ih1 n k1 (by omega) (by omega) d1) (by omega) h
    have c2 := blk_call (ih2 n k2 (by omega) (by omega) d2) (by omega) h
    obtain ⟨ns, e, l, f⟩ := ih (n + 1) k' hn (by omega) d3 h o0
    have m3 := max_3 (h := h) (a := k1) (b := k2)
    refine ⟨((1 + max k1 k2 : Nat) : Int) :: ns, ?_, by simp; omega, fun m => ?_⟩
    · have st : cBody D (callN D W (n + 1)) 1 bkC bkE [1] [o0, none] (.tup [wT "if", t, .tup b1, .tup b2]) h = .ok (some (.int ((1 + max k1 k2 : Nat) : Int))) h := by
        simp [cBody, wipeT, c1, c2, m3]
      simp only [compL, st, R.bind_ok, e, List.map_cons]
    · simp only [List.foldl_cons]
      have : ∀ j : Nat, (if (j : Int) > (m : Int) then (j : Int) else (m : Int)) = ((max m j : Nat) : Int) := fun j => by
        by_cases q : m < j
        · rw [if_pos (by omega), Nat.max_eq_right (by omega)]
        · rw [if_neg (by omega), Nat.max_eq_left (by omega)]
      rw [this, f, Nat.max_assoc]
theorem blk_ok {j n k : Nat} {b l : List T} (a : AO j b l) (bd : BD b k) (hn : j + 1 ≤ n) (hl : l.length ≤ 900000) (h : Hs) : callN D W n 17 [.tup b] h = .ok (.int (k : Int)) h := by
  obtain ⟨n, rfl⟩ : ∃ m, n = m + 1 := ⟨n - 1, by omega⟩
  exact blk_call (blk_lp a n k (by omega) hl bd) (Nat.le_trans (AO_len a) hl) h
end
end K06
end

section
set_option Elab.async false
set_option linter.all false
set_option maxRecDepth 10000
/-! K06c: the law's own looks: expressions, leaves, names. -/
namespace K06
open PySem Fs Fp Gt
theorem IsX_le {c : Bool} {d : Nat} {t : T} (s : IsX c d t) : ∀ {k ps}, PP pairs t k ps → k ≤ d := by
  induction s with
  | num d n h1 h2 =>
    intro k ps p
    rcases PP_inv p with ⟨_, rfl, _⟩ | ⟨h, _⟩ | ⟨h, _⟩
    · exact Nat.zero_le _
    · exact absurd h (by decide)
    · exact absurd h (by decide)
  | lea d w h =>
    intro k ps p
    rcases PP_inv p with ⟨_, rfl, _⟩ | ⟨_, a, k', h, _⟩ | ⟨_, a, b, ka, kb, pa, pb, h, _⟩
    · exact Nat.zero_le _
    · cases h
    · cases h
  | its d h =>
    intro k ps p
    rcases PP_inv p with ⟨_, rfl, _⟩ | ⟨_, a, k', h, _⟩ | ⟨_, a, b, ka, kb, pa, pb, h, _⟩
    · exact Nat.zero_le _
    · cases h
    · cases h
  | nam d w h =>
    intro k ps p
    rcases PP_inv p with ⟨_, rfl, _⟩ | ⟨h, _⟩ | ⟨h, _⟩
    · exact Nat.zero_le _
    · exact absurd h (by decide)
    · exact absurd h (by decide)
  | bin d w a b h _ _ ia ib =>
    intro k ps p
    rcases PP_inv p with ⟨_, rfl, _⟩ | ⟨_, a, k', h, _⟩ | ⟨_, a', b', ka, kb, pa, pb, h, rfl, rfl, p1, p2⟩
    · exact Nat.zero_le _
    · cases h
    · cases h
      have := ia p1
      have := ib p2
      omega
/-- a test's parts -/
def TF (c : Bool) (e : Nat) (p : T) : Prop := ∃ w r, p = .tup (wT w :: r) ∧ r.length ≤ 2 ∧ (∀ a ∈ r, IsX c e a) ∧ (w = "below" ∨ w = "same" ∨ (r = [] ∧ (w = "full" ∨ w = "known")))
theorem IsT_le {c : Bool} {e d : Nat} {t : T} (s : IsT c e d t) : ∀ {k ps}, PP tws t k ps → k ≤ d ∧ ∀ p ∈ ps, TF c e p := by
  induction s with
  | cmp d w a b h sa sb =>
    intro k ps p
    have hw : w ∉ tws := by rcases h with rfl | rfl <;> decide
    rcases PP_inv p with ⟨_, rfl, rfl⟩ | ⟨h, _⟩ | ⟨h, _⟩
    · exact ⟨Nat.zero_le _, all1 ⟨w, [a, b], rfl, by simp, all2 sa sb, h.imp id .inl⟩⟩
    · exact absurd h hw
    · exact absurd h hw
  | full d =>
    intro k ps p
    rcases PP_inv p with ⟨_, rfl, rfl⟩ | ⟨h, _⟩ | ⟨h, _⟩
    · exact ⟨Nat.zero_le _, all1 ⟨_, [], rfl, by simp, (fun a ha => by cases ha), .inr (.inr ⟨rfl, .inl rfl⟩)⟩⟩
    · exact absurd h (by decide)
    · exact absurd h (by decide)
  | known d h =>
    intro k ps p
    rcases PP_inv p with ⟨_, rfl, rfl⟩ | ⟨h, _⟩ | ⟨h, _⟩
    · exact ⟨Nat.zero_le _, all1 ⟨_, [], rfl, by simp, (fun a ha => by cases ha), .inr (.inr ⟨rfl, .inr rfl⟩)⟩⟩
    · exact absurd h (by decide)
    · exact absurd h (by decide)
  | nott d a _ ia =>
    intro k ps p
    rcases PP_inv p with ⟨h, _⟩ | ⟨_, a', k', h, rfl, p1⟩ | ⟨_, a', b', ka, kb, pa, pb, h, _⟩
    · exact absurd (by decide) h
    · cases h
      exact ⟨Nat.succ_le_succ (ia p1).1, (ia p1).2⟩
    · cases h
  | bin d w a b h _ _ ia ib =>
    intro k ps p
    have hw : w ∈ tws := by rcases h with rfl | rfl <;> decide
    rcases PP_inv p with ⟨h, _⟩ | ⟨_, a', k', h, rfl, p1⟩ | ⟨_, a', b', ka, kb, pa, pb, h, rfl, rfl, p1, p2⟩
    · exact absurd hw h
    · cases h
    · cases h
      have h1 := ia p1
      have h2 := ib p2
      exact ⟨by omega, fun p hp => (List.mem_append.mp hp).elim (h1.2 p) (h2.2 p)⟩
theorem pow_le {k d : Nat} (h : k ≤ d) : 2 ^ k ≤ 2 ^ d := Nat.pow_le_pow_right (by decide) h
theorem args_len {c : Bool} {e : Nat} : ∀ ps : List T, (∀ p ∈ ps, TF c e p) → (ps.map leafArgs).flatten.length ≤ 2 * ps.length ∧ ∀ a ∈ (ps.map leafArgs).flatten, IsX c e a
  | [], _ => ⟨by simp, fun a ha => by simp at ha⟩
  | p :: ps, h => by
    obtain ⟨l, m⟩ := args_len ps fun q hq => h q (List.mem_cons_of_mem _ hq)
    obtain ⟨w, r, rfl, hr, hx, _⟩ := h p List.mem_cons_self
    rw [List.map_cons, List.flatten_cons]
    refine ⟨by simp only [List.length_append, leafArgs, List.length_cons]; omega, fun a ha => ?_⟩
    rcases List.mem_append.mp ha with ha | ha
    · exact hx a ha
    · exact m a ha
theorem IsS_if {c : Bool} {e q d : Nat} {t b1 b2 : T} (hs : IsS c e q d (.tup [wT "if", t, b1, b2])) : IsT c e q t := by
  generalize hg : (T.tup [wT "if", t, b1, b2]) = g at hs
  cases hs with
  | iff d t' b1' b2' st s1 s2 l1 l2 =>
    injection hg with hg
    injection hg with _ hg
    injection hg with e0 hg
    subst e0
    exact st
  | one d w hw => injection hg with hg; injection hg with _ hg; cases hg
  | ex d w a hw sa => injection hg with hg; injection hg with _ hg; injection hg with _ hg; cases hg
  | lower d a n sa h1 h2 => injection hg with hg; injection hg with _ hg; injection hg with _ hg; injection hg with _ hg; cases hg
  | set d w a hw sa => injection hg with hg; injection hg with _ hg; injection hg with _ hg; injection hg with _ hg; cases hg
theorem sumL_all {h : Hs} (lss : List (List T)) (hl : lss.flatten.length ≤ 1000000) : biT .sumL h [.lst (lss.map T.lst), .lst []] = some (.lst lss.flatten) := by
  have : ∀ lss : List (List T), lstsT (lss.map T.lst) = some lss := fun lss => by
    induction lss with
    | nil => rfl
    | cons l r ih => simp [lstsT, ih]
  show (if ([] : List T).isEmpty then (lstsT (lss.map T.lst)).bind (fun tss => if tss.flatten.length ≤ lim then some (T.lst tss.flatten) else none) else none) = _
  rw [this]
  simp
  simpa using hl
section
variable {W : Nat}
theorem c1_cut {w : T} {r : List T} : cutL (w :: r) (some 1) none = r := cut1 hK
theorem tests_ok {c : Bool} {e d : Nat} {t : T} (s : IsT c e d t) : ∀ {k ps}, PP tws t k ps → d ≤ 10 → ∀ (n : Nat) (h : Hs), d + 1 ≤ n → callN D W n 28 [t] h = .ok (.lst (ps.map leafArgs).flatten) h := by
  have len : ∀ {d : Nat} {t : T} (s : IsT c e d t), d ≤ 10 → ∀ {k ps}, PP tws t k ps → (ps.map leafArgs).flatten.length ≤ 2048 := fun {d t} s hd {k ps} p => by
    have h1 := IsT_le s p
    have h2 := (args_len ps h1.2).1
    have h3 := p.pos.2
    have h4 := pow_le (Nat.le_trans h1.1 hd)
    omega
  induction s with
  | cmp d w a b hw sa sb =>
    intro k ps p hd n h hn
    obtain ⟨n, rfl⟩ : ∃ m, n = m + 1 := ⟨n - 1, by omega⟩
    rw [callN_eq (fn := ⟨none, "_law_in_tests", 1, 2, f__law_in_tests⟩) rfl rfl (by decide)]
    have nw : w ∉ tws := by rcases hw with rfl | rfl <;> decide
    have i : inT h (wT w) (.tup (["below", "same"].map wT)) = some true := by
      rw [inW_tup]
      rcases hw with rfl | rfl <;> rfl
    simp only [List.map_cons, List.map_nil] at i
    rcases PP_inv p with ⟨_, rfl, rfl⟩ | ⟨h, _⟩ | ⟨h, _⟩
    · simp [f__law_in_tests, i, slT, c1_cut, leafArgs, biT, toLst]
    · exact absurd h nw
    · exact absurd h nw
  | full d =>
    intro k ps p hd n h hn
    obtain ⟨n, rfl⟩ : ∃ m, n = m + 1 := ⟨n - 1, by omega⟩
    rw [callN_eq (fn := ⟨none, "_law_in_tests", 1, 2, f__law_in_tests⟩) rfl rfl (by decide)]
    have i : inT h (wT "full") (.tup (["below", "same"].map wT)) = some false := by
      rw [inW_tup]
      rfl
    simp only [List.map_cons, List.map_nil] at i
    have sm := sumL_all (h := h) [] (by simp)
    rcases PP_inv p with ⟨_, rfl, rfl⟩ | ⟨h, _⟩ | ⟨h, _⟩
    · simp at sm
      simp [f__law_in_tests, i, slT, c1_cut, leafArgs, ev_compE, compL, sm]
    · exact absurd h (by decide)
    · exact absurd h (by decide)
  | known d hk =>
    intro k ps p hd n h hn
    obtain ⟨n, rfl⟩ : ∃ m, n = m + 1 := ⟨n - 1, by omega⟩
    rw [callN_eq (fn := ⟨none, "_law_in_tests", 1, 2, f__law_in_tests⟩) rfl rfl (by decide)]
    have i : inT h (wT "known") (.tup (["below", "same"].map wT)) = some false := by
      rw [inW_tup]
      rfl
    simp only [List.map_cons, List.map_nil] at i
    have sm := sumL_all (h := h) [] (by simp)
    rcases PP_inv p with ⟨_, rfl, rfl⟩ | ⟨h, _⟩ | ⟨h, _⟩
    · simp at sm
      simp [f__law_in_tests, i, slT, c1_cut, leafArgs, ev_compE, compL, sm]
    · exact absurd h (by decide)
    · exact absurd h (by decide)
  | nott d a sa ia =>
    intro k ps p hd n h hn
    obtain ⟨n, rfl⟩ : ∃ m, n = m + 1 := ⟨n - 1, by omega⟩
    rw [callN_eq (fn := ⟨none, "_law_in_tests", 1, 2, f__law_in_tests⟩) rfl rfl (by decide)]
    have i : inT h (wT "not") (.tup (["below", "same"].map wT)) = some false := by
      rw [inW_tup]
      rfl
    simp only [List.map_cons, List.map_nil] at i
    rcases PP_inv p with ⟨h, _⟩ | ⟨_, a', k', h', rfl, p1⟩ | ⟨_, a', b', ka, kb, pa, pb, h', _⟩
    · exact absurd (by decide) h
    · cases h'
      have ea := ia p1 (by omega) n h (by omega)
      have la := len sa (by omega) p1
      have sm := sumL_all (h := h) [(ps.map leafArgs).flatten] (by rw [List.flatten_cons, List.flatten_nil, List.append_nil]; omega)
      generalize (ps.map leafArgs).flatten = L at *
      simp at sm
      simp [f__law_in_tests, i, slT, c1_cut, ev_compE, compL, cBody, wipeT, ea, sm]
    · cases h'
  | bin d w a b hw sa sb ia ib =>
    intro k ps p hd n h hn
    obtain ⟨n, rfl⟩ : ∃ m, n = m + 1 := ⟨n - 1, by omega⟩
    rw [callN_eq (fn := ⟨none, "_law_in_tests", 1, 2, f__law_in_tests⟩) rfl rfl (by decide)]
    have yw : w ∈ tws := by rcases hw with rfl | rfl <;> decide
    have i : inT h (wT w) (.tup (["below", "same"].map wT)) = some false := by
      rw [inW_tup]
      rcases hw with rfl | rfl <;> rfl
    simp only [List.map_cons, List.map_nil] at i
    rcases PP_inv p with ⟨h, _⟩ | ⟨_, a', k', h', rfl, p1⟩ | ⟨_, a', b', ka, kb, pa, pb, h', rfl, rfl, p1, p2⟩
    · exact absurd yw h
    · cases h'
    · cases h'
      have ea := ia p1 (by omega) n h (by omega)
      have eb := ib p2 (by omega) n h (by omega)
      have la := len sa (by omega) p1
      have lb := len sb (by omega) p2
      have sm := sumL_all (h := h) [(pa.map leafArgs).flatten, (pb.map leafArgs).flatten] (by rw [List.flatten_cons, List.flatten_cons, List.flatten_nil, List.append_nil, List.length_append]; omega)
      rw [List.map_append, List.flatten_append]
      generalize (pa.map leafArgs).flatten = L1 at *
      generalize (pb.map leafArgs).flatten = L2 at *
      simp at sm
      simp [f__law_in_tests, i, slT, c1_cut, ev_compE, compL, cBody, wipeT, ea, eb, sm]
theorem lexprs_ok {c : Bool} {e q d : Nat} {s : T} {es : List T} (hs : IsS c e q d s) (ex : EX s es) (hq : q ≤ 10) : ∀ (n : Nat) (h : Hs), q + 2 ≤ n → callN D W n 19 [s] h = .ok (.lst es) h := by
  intro n h hn
  obtain ⟨n, rfl⟩ : ∃ m, n = m + 1 := ⟨n - 1, by omega⟩
  rw [callN_eq (fn := ⟨none, "_law_exprs", 1, 2, f__law_exprs⟩) rfl rfl (by decide)]
  have pl : ∀ {w : String} {r : List T}, w ≠ "if" → (∀ t ∈ r, plainK t = true) → r.length ≤ 1000 → (evSs D W (callN D W n) f__law_exprs [some (.tup (wT w :: r)), none] h).fin = .ok (.lst (r.filter isTup)) h := fun {w r} hw hp hl => by
    have cc := ev_compF (D := D) (cl := callN D W n) (env := [some (.tup (wT w :: r)), none]) (h := h) (h1 := h) (i := 1) (it := .seq (.sl (.var 0) (.int 1) (.absent))) (c := .bi (.isinst .tup) (.cons (.var 1) .nil)) (e := .var 1) (vs := [1]) (xs := r) (p := isTup) (g := fun y => y) rfl (by simp [slT, c1_cut]) (by simp; omega) (fun y hy => by
      have k := kind_tup (h := h) (hp y hy)
      simp [wipeT, k]) (fun y hy _ => by simp [wipeT])
    rw [List.map_id'] at cc
    simp [f__law_exprs, hw, cc]
  cases ex with
  | one w hw => exact pl (r := []) hw (fun t ht => by cases ht) (by decide)
  | ex w a hw => exact pl (r := [.tup a]) hw (all1 rfl) (by simp)
  | lower a i => exact pl (w := "lower") (r := [.tup a, .int i]) (by decide) (all2 rfl rfl) (by simp)
  | set w a => exact pl (w := "set") (r := [wT w, .tup a]) (by decide) (all2 rfl rfl) (by simp)
  | iff t b1 b2 k ps pp hk hps =>
    have e1 := tests_ok (W := W) (IsS_if hs) pp hq n h (by omega)
    generalize (ps.map leafArgs).flatten = L at *
    simp [f__law_exprs, e1]
theorem leaves_ok {c : Bool} {d : Nat} {t : T} (s : IsX c d t) : ∀ {k ps}, PP pairs t k ps → d ≤ 10 → ∀ (n : Nat) (h : Hs), d + 1 ≤ n → callN D W n 29 [t] h = .ok (.lst ps) h := by
  have lf : ∀ {w : String} {r : List T} {k : Nat} {ps : List T} (n : Nat) (h : Hs), w ∉ pairs → PP pairs (.tup (wT w :: r)) k ps → 1 ≤ n → callN D W n 29 [.tup (wT w :: r)] h = .ok (.lst ps) h := fun {w r k ps} n h hw p hn => by
    obtain ⟨n, rfl⟩ : ∃ m, n = m + 1 := ⟨n - 1, by omega⟩
    rw [callN_eq (fn := ⟨none, "_law_leaves", 1, 1, f__law_leaves⟩) rfl rfl (by decide)]
    have i : inT h (wT w) (.tup (["plus", "less", "lesser", "greater"].map wT)) = some false := by
      rw [inW_tup, decide_eq_false]
      intro z
      apply hw
      simp only [List.mem_cons, List.not_mem_nil, or_false] at z ⊢
      rcases z with rfl | rfl | rfl | rfl <;> simp
    simp only [List.map_cons, List.map_nil] at i
    rcases PP_inv p with ⟨_, rfl, rfl⟩ | ⟨h, _⟩ | ⟨h, _⟩
    · simp [f__law_leaves, i]
    · exact absurd h hw
    · exact absurd h hw
  induction s with
  | num d m h1 h2 => exact fun p _ n h hn => lf n h (by decide) p (by omega)
  | lea d w hw => exact fun p _ n h hn => lf n h (by rcases hw with rfl | rfl <;> decide) p (by omega)
  | its d hc => exact fun p _ n h hn => lf n h (by decide) p (by omega)
  | nam d w hw => exact fun p _ n h hn => lf n h (by decide) p (by omega)
  | bin d w a b hw sa sb ia ib =>
    intro k ps p hd n h hn
    obtain ⟨n, rfl⟩ : ∃ m, n = m + 1 := ⟨n - 1, by omega⟩
    rw [callN_eq (fn := ⟨none, "_law_leaves", 1, 1, f__law_leaves⟩) rfl rfl (by decide)]
    have yw : w ∈ pairs := by rcases hw with rfl | rfl | rfl | rfl <;> decide
    have i : inT h (wT w) (.tup (["plus", "less", "lesser", "greater"].map wT)) = some true := by
      rw [inW_tup]
      rcases hw with rfl | rfl | rfl | rfl <;> rfl
    simp only [List.map_cons, List.map_nil] at i
    rcases PP_inv p with ⟨h, _⟩ | ⟨_, a', k', h', rfl, p1⟩ | ⟨_, a', b', ka, kb, pa, pb, h', rfl, rfl, p1, p2⟩
    · exact absurd yw h
    · cases h'
    · cases h'
      have ea := ia p1 (by omega) n h (by omega)
      have eb := ib p2 (by omega) n h (by omega)
      have la := Nat.le_trans p1.pos.2 (pow_le (Nat.le_trans (IsX_le sa p1) (show d ≤ 10 by omega)))
      have lb := Nat.le_trans p2.pos.2 (pow_le (Nat.le_trans (IsX_le sb p2) (show d ≤ 10 by omega)))
      have z : pa.length + pb.length ≤ 1000000 := by omega
      simp [f__law_leaves, i, ea, eb, z]
end
end K06
end

section
set_option Elab.async false
set_option linter.all false
set_option maxRecDepth 10000
/-! K06d: the law's own looks: names, words. -/
namespace K06
open PySem Fs Fp Gt
inductive NX : T → Prop
  | num (n : Int) : 0 ≤ n → n ≤ 99 → NX (.tup [wT "number", .int n])
  | word (w : String) : w = "least" ∨ w = "most" ∨ w = "its" → NX (.tup [wT w])
  | nam (w : String) : w = "n1" ∨ w = "spill" → NX (.tup [wT "name", wT w])
theorem IsX_nx {c : Bool} {d : Nat} {t : T} (s : IsX c d t) : ∀ {k ps}, PP pairs t k ps → ∀ p ∈ ps, NX p := by
  have lf : ∀ {w : String} {r : List T} {k : Nat} {ps : List T}, w ∉ pairs → PP pairs (.tup (wT w :: r)) k ps → NX (.tup (wT w :: r)) → ∀ p ∈ ps, NX p := fun {w r k ps} hw p hn => by
    rcases PP_inv p with ⟨_, rfl, rfl⟩ | ⟨h, _⟩ | ⟨h, _⟩
    · exact all1 hn
    · exact absurd h hw
    · exact absurd h hw
  induction s with
  | num d n h1 h2 => exact fun p => lf (by decide) p (.num n h1 h2)
  | lea d w h => exact fun p => lf (by rcases h with rfl | rfl <;> decide) p (.word w (h.imp id .inl))
  | its d h => exact fun p => lf (by decide) p (.word _ (.inr (.inr rfl)))
  | nam d w h => exact fun p => lf (by decide) p (.nam w h)
  | bin d w a b h _ _ ia ib =>
    intro k ps p
    rcases PP_inv p with ⟨h', _⟩ | ⟨_, a', k', h', rfl, p1⟩ | ⟨_, a', b', ka, kb, pa, pb, h', rfl, rfl, p1, p2⟩
    · exact absurd (by rcases h with rfl | rfl | rfl | rfl <;> decide) h'
    · cases h'
    · cases h'
      exact fun p hp => (List.mem_append.mp hp).elim (ia p1 p) (ib p2 p)
/-- a name that is none of these -/
def badW (ns : List String) (w : String) : Bool := !(ns.any fun n => decide (Str.ofString n = Str.ofString w))
def nmP : T → Bool
  | .tup [.str a, _] => decide (a = Str.ofString "name")
  | _ => false
def nmG : T → T
  | .tup [_, y] => y
  | y => y
theorem names_of : ∀ qs : List T, (∀ p ∈ qs, NX p) → ∃ L : List String, (qs.filter nmP).map nmG = L.map wT ∧ (∀ w ∈ L, w = "n1" ∨ w = "spill") ∧ (∀ ns, L.any (badW ns) = qs.any (partBad ns)) ∧ L.length ≤ qs.length
  | [], _ => ⟨[], rfl, (fun w hw => by cases hw), fun _ => rfl, Nat.le_refl _⟩
  | p :: qs, h => by
    obtain ⟨L, e, a, b, l⟩ := names_of qs fun q hq => h q (List.mem_cons_of_mem _ hq)
    cases h p List.mem_cons_self with
    | num n h1 h2 =>
      refine ⟨L, ?_, a, fun ns => ?_, by simp; omega⟩
      · rw [List.filter_cons_of_neg (by simp [nmP, ofS_inj]), e]
      · simp [List.any_cons, partBad, ofS_inj, b ns]
    | word w hw =>
      refine ⟨L, ?_, a, fun ns => ?_, by simp; omega⟩
      · rw [List.filter_cons_of_neg (by simp [nmP]), e]
      · simp [List.any_cons, partBad, b ns]
    | nam w hw =>
      refine ⟨w :: L, ?_, fun v hv => ?_, fun ns => ?_, by simp; omega⟩
      · rw [List.filter_cons_of_pos (by simp [nmP]), List.map_cons, e]
        rfl
      · rcases List.mem_cons.mp hv with rfl | hv
        · exact hw
        · exact a v hv
      · rw [List.any_cons, List.any_cons, b ns]
        simp [partBad, badW]
theorem AP_len {c : Bool} {e : Nat} {es qs : List T} (a : AP es qs) : (∀ a ∈ es, IsX c e a) → qs.length ≤ es.length * 2 ^ e ∧ ∀ p ∈ qs, NX p := by
  induction a with
  | nil => exact fun _ => ⟨by simp, fun p hp => by cases hp⟩
  | cons t k ps r qs p hk _ ih =>
    intro hx
    have ht := hx t List.mem_cons_self
    obtain ⟨l, m⟩ := ih fun a ha => hx a (List.mem_cons_of_mem _ ha)
    have l2 := Nat.le_trans p.pos.2 (pow_le (IsX_le ht p))
    refine ⟨?_, fun y hy => (List.mem_append.mp hy).elim (IsX_nx ht p y) (m y)⟩
    rw [List.length_append, List.length_cons, Nat.add_mul]
    omega
theorem IsS_set {c : Bool} {e q d : Nat} {w : String} {a : T} (hs : IsS c e q d (.tup [wT "set", wT w, a])) : (w = "n1" ∨ w = "spill") ∧ IsX c e a := by
  generalize hg : (T.tup [wT "set", wT w, a]) = g at hs
  cases hs with
  | iff d t' b1' b2' st s1 s2 l1 l2 => injection hg with hg; injection hg with _ hg; injection hg with _ hg; injection hg with _ hg; cases hg
  | one d w hw => injection hg with hg; injection hg with _ hg; cases hg
  | ex d w a hw sa => injection hg with hg; injection hg with _ hg; injection hg with _ hg; cases hg
  | lower d a n sa h1 h2 =>
    injection hg with hg
    injection hg with hg _
    injection hg with hg
    exact absurd (ofS_inj.mp hg) (by decide)
  | set d w' a hw sa =>
    injection hg with hg
    injection hg with _ hg
    injection hg with h1 hg
    injection hg with h2 _
    injection h1 with h1
    have := ofS_inj.mp h1
    subst this h2
    exact ⟨hw, sa⟩
abbrev stW : List String := ["halve", "clear", "free", "visit", "visitall", "put", "oust", "count", "lower", "set", "if"]
/-- a statement's word and its expressions -/
theorem IsS_ex {c : Bool} {e q d : Nat} {s : T} {es : List T} (hs : IsS c e q d s) (ex : EX s es) : (∃ w r, s = .tup (wT w :: r) ∧ w ∈ stW) ∧ (∀ a ∈ es, IsX c e a) ∧ es.length ≤ 2 * 2 ^ q := by
  have p1 : 1 ≤ 2 ^ q := Nat.pos_of_ne_zero (by simp)
  have sh : ∃ w r, s = .tup (wT w :: r) ∧ w ∈ stW := by
    cases hs with
    | one d w hw => exact ⟨w, _, rfl, by rcases hw with (rfl | rfl) | ⟨_, rfl | rfl⟩ <;> decide⟩
    | ex d w a hw sa => exact ⟨w, _, rfl, by rcases hw with rfl | ⟨_, rfl | rfl | rfl⟩ <;> decide⟩
    | lower d a n sa h1 h2 => exact ⟨_, _, rfl, by decide⟩
    | set d w a hw sa => exact ⟨_, _, rfl, by decide⟩
    | iff d t b1 b2 st s1 s2 l1 l2 => exact ⟨_, _, rfl, by decide⟩
  refine ⟨sh, ?_⟩
  cases ex with
  | one w hw => exact ⟨(fun a ha => by cases ha), Nat.zero_le _⟩
  | ex w a hw hw2 =>
    refine ⟨all1 ?_, by simp; omega⟩
    generalize hg : (T.tup [wT w, .tup a]) = g at hs
    cases hs with
    | one d w hw => injection hg with hg; injection hg with _ hg; cases hg
    | ex d w' a' hw' sa =>
      injection hg with hg
      injection hg with _ hg
      injection hg with h1 _
      subst h1
      exact sa
    | lower d a n sa h1 h2 => injection hg with hg; injection hg with _ hg; injection hg with _ hg; cases hg
    | set d w a hw sa => injection hg with hg; injection hg with _ hg; injection hg with _ hg; cases hg
    | iff d t b1 b2 st s1 s2 l1 l2 => injection hg with hg; injection hg with _ hg; injection hg with _ hg; cases hg
  | lower a i =>
    refine ⟨all1 ?_, by simp; omega⟩
    generalize hg : (T.tup [wT "lower", .tup a, .int i]) = g at hs
    cases hs with
    | one d w hw => injection hg with hg; injection hg with _ hg; cases hg
    | ex d w a hw sa => injection hg with hg; injection hg with _ hg; injection hg with _ hg; cases hg
    | lower d a n sa h1 h2 =>
      injection hg with hg
      injection hg with _ hg
      injection hg with h1 _
      subst h1
      exact sa
    | set d w a hw sa =>
      injection hg with hg
      injection hg with _ hg
      injection hg with h1 _
      cases h1
    | iff d t b1 b2 st s1 s2 l1 l2 => injection hg with hg; injection hg with _ hg; injection hg with _ hg; injection hg with _ hg; cases hg
  | set w a => exact ⟨all1 (IsS_set hs).2, by simp; omega⟩
  | iff t b1 b2 k ps pp hk hps =>
    have h1 := IsT_le (IsS_if hs) pp
    have h2 := args_len ps h1.2
    have h3 := Nat.le_trans pp.pos.2 (pow_le h1.1)
    exact ⟨h2.2, by omega⟩
section
variable {W : Nat}
abbrev lvE : E := .call 29 (.cons (.var 3) (.nil))
theorem leaves_comp {c : Bool} {e : Nat} (he : e ≤ 10) {es qs : List T} (a : AP es qs) (n : Nat) (h : Hs) (env : En) (hn : e + 1 ≤ n) (hx : ∀ a ∈ es, IsX c e a) (henv : 3 < env.length) :
    ∃ lss : List (List T), compL (cBody D (callN D W n) 3 .absent lvE [3] env) es h = .ok (lss.map T.lst) h ∧ lss.flatten = qs ∧ lss.length = es.length := by
  induction a with
  | nil => exact ⟨[], rfl, rfl, rfl⟩
  | cons t k ps r qs p hk _ ih =>
    obtain ⟨lss, e1, f, l⟩ := ih fun a ha => hx a (List.mem_cons_of_mem _ ha)
    have lv := leaves_ok (W := W) (hx t List.mem_cons_self) p he n h hn
    refine ⟨ps :: lss, ?_, by rw [List.flatten_cons, f], by simp [l]⟩
    have st : cBody D (callN D W n) 3 .absent lvE [3] env t h = .ok (some (.lst ps)) h := by
      simp [cBody, wipeT, lv, henv]
    simp only [compL, st, R.bind_ok, e1, List.map_cons]
theorem lnames_ok {c : Bool} {e q d : Nat} {i : SI} (hs : IsS c e q d i.s) (ok : SIok i) (he : e ≤ 8) (hq : q ≤ 8) : ∃ L : List String, (∀ w ∈ L, w = "n1" ∨ w = "spill") ∧ (∀ ns, L.any (badW ns) = nbI ns i) ∧ L.length ≤ 900000 ∧
    ∀ (n : Nat) (h : Hs), 12 ≤ n → callN D W n 20 [i.s] h = .ok (.lst (L.map wT)) h := by
  obtain ⟨r, es, es1, ex, ap, lx, sz, el, tp⟩ := ok
  obtain ⟨sh, hx, ln⟩ := IsS_ex hs ex
  obtain ⟨l1, nx⟩ := AP_len ap hx
  obtain ⟨L, eL, aL, bL, lL⟩ := names_of i.ps nx
  have q1 : 2 ^ q ≤ 2 ^ 8 := pow_le hq
  have q2 : 2 ^ e ≤ 2 ^ 8 := pow_le he
  have q3 : es.length * 2 ^ e ≤ 512 * 2 ^ 8 := Nat.mul_le_mul (by omega) q2
  have call : ∀ (n : Nat) (h : Hs), 11 ≤ n → ev D (callN D W n) (.comp false (.nm 2) (.seq (.bi .sumL (.cons (.comp false (.nm 3) (.seq (.call 19 (.cons (.var 0) (.nil)))) (.absent) (.call 29 (.cons (.var 3) (.nil))) [3]) (.cons (.lstI (.nil)) (.nil))))) (.cmp .eq (.ix (.var 2) (.int 0)) (.str "name")) (.ix (.var 2) (.int 1)) [2]) [some i.s, none, none, none] h = mkV (.ok (.lst (L.map wT)) h) := by
    intro n h hn
    have e19 := lexprs_ok (W := W) hs ex (by omega) n h (by omega)
    obtain ⟨lss, e1, f, l⟩ := leaves_comp (W := W) (by omega) ap n h [some i.s, none, none, none] (by omega) hx (by simp)
    have c1 : ev D (callN D W n) (.comp false (.nm 3) (.seq (.call 19 (.cons (.var 0) (.nil)))) (.absent) (.call 29 (.cons (.var 3) (.nil))) [3]) [some i.s, none, none, none] h = mkV (.ok (.lst (lss.map T.lst)) h) := by
      have it : evI D (callN D W n) (.seq (.call 19 (.cons (.var 0) (.nil)))) [some i.s, none, none, none] h = .ok es h := by simp [e19]
      rw [ev_compE, it, R.bind_ok, e1]
      simp only [R.nox_ok, R.bind_ok]
      rw [if_pos (by rw [List.length_map]; simp only [lim_eq]; omega)]
    have sm := sumL_all (h := h) lss (by rw [f]; omega)
    rw [f] at sm
    have cc := ev_compF (D := D) (cl := callN D W n) (env := [some i.s, none, none, none]) (h := h) (h1 := h) (i := 2) (it := .seq (.bi .sumL (.cons (.comp false (.nm 3) (.seq (.call 19 (.cons (.var 0) (.nil)))) (.absent) (.call 29 (.cons (.var 3) (.nil))) [3]) (.cons (.lstI (.nil)) (.nil))))) (c := .cmp .eq (.ix (.var 2) (.int 0)) (.str "name")) (e := .ix (.var 2) (.int 1)) (vs := [2]) (xs := i.ps) (p := nmP) (g := nmG) rfl
      (by simp only [evI_seq, ev_bi, evL_cons, evL_nil, c1]; simp [sm]) (by simp only [lim_eq]; omega) (fun y hy => by
        cases nx y hy with
        | num m h1 h2 => simp [wipeT, nmP, ofS_inj]
        | word w hw => rcases hw with rfl | rfl | rfl <;> simp [wipeT, nmP]
        | nam w hw => simp [wipeT, nmP]) (fun y hy hp => by
        cases nx y hy with
        | num m h1 h2 => simp [nmP, ofS_inj] at hp
        | word w hw => simp [nmP] at hp
        | nam w hw => simp [wipeT, nmG])
    rw [eL] at cc
    exact cc
  have fin : ∀ (M : List String), (∀ w ∈ M, w = "n1" ∨ w = "spill") → (∀ ns, M.any (badW ns) = setBad ns i.s) → M.length ≤ 1 →
      (∀ (n : Nat) (h : Hs) (o1 : Option T), (ev D (callN D W n) (.ite (.cmp .eq (.ix (.var 0) (.int 0)) (.str "set")) (.lstI (.cons (.ix (.var 0) (.int 1)) (.nil))) (.lstI (.nil))) [some i.s, o1, none, none] h).v = .ok (.lst (M.map wT)) h) →
      ∃ L : List String, (∀ w ∈ L, w = "n1" ∨ w = "spill") ∧ (∀ ns, L.any (badW ns) = nbI ns i) ∧ L.length ≤ 900000 ∧ ∀ (n : Nat) (h : Hs), 12 ≤ n → callN D W n 20 [i.s] h = .ok (.lst (L.map wT)) h := by
    intro M m1 m2 m3 m4
    refine ⟨M ++ L, fun w hw => (List.mem_append.mp hw).elim (m1 w) (aL w), fun ns => by rw [List.any_append, m2, bL]; rfl, by rw [List.length_append]; omega, fun n h hn => ?_⟩
    obtain ⟨n, rfl⟩ : ∃ m, n = m + 1 := ⟨n - 1, by omega⟩
    rw [callN_eq (fn := ⟨none, "_law_names", 1, 4, f__law_names⟩) rfl rfl (by decide)]
    have c1 := call n h (by omega)
    have c2 := m4 n h (some (.lst (L.map wT)))
    have z : M.length + L.length ≤ 1000000 := by omega
    have cL : biT .sumL = biT .sumL := rfl
    show ((evS D W (callN D W n) (.set 1 _) [some i.s, none, none, none] h).andThen _).fin = _
    rw [evS_set, c1]
    simp only [mkV_v', R.toS_ok, andThen_nx, List.set_cons_succ, List.set_cons_zero, evSs_cons, evSs_nil, evS_ret, ev_bin, c2]
    simp [z]
  have none_ : ∀ {w : String} {r : List T}, i.s = .tup (wT w :: r) → w ≠ "set" → ∃ L : List String, (∀ w ∈ L, w = "n1" ∨ w = "spill") ∧ (∀ ns, L.any (badW ns) = nbI ns i) ∧ L.length ≤ 900000 ∧ ∀ (n : Nat) (h : Hs), 12 ≤ n → callN D W n 20 [i.s] h = .ok (.lst (L.map wT)) h := fun {w r} e hw => by
    refine fin [] (fun w hw => by cases hw) (fun ns => ?_) (by simp) fun n h o1 => ?_
    · rw [e]
      cases r with
      | nil => rfl
      | cons a r =>
        cases r with
        | nil => cases a <;> rfl
        | cons b r =>
          cases r with
          | nil => cases a <;> simp [setBad, ofS_inj, hw]
          | cons _ _ => cases a <;> rfl
    · rw [e]
      simp [hw]
  generalize hsv : i.s = s at ex hs
  cases ex with
  | one w h1 h2 => rw [← hsv]; exact none_ hsv h2
  | ex w a h1 h2 => rw [← hsv]; exact none_ hsv h2
  | lower a j => rw [← hsv]; exact none_ hsv (by decide)
  | iff t b1 b2 k ps pp hk hps => rw [← hsv]; exact none_ hsv (by decide)
  | set w a =>
    rw [← hsv]
    refine fin [w] (fun v hv => ?_) (fun ns => ?_) (by simp) fun n h o1 => ?_
    · rcases List.mem_cons.mp hv with rfl | hv
      · exact (IsS_set hs).1
      · cases hv
    · rw [hsv]
      simp [setBad, badW]
    · rw [hsv]
      simp
end
end K06
end

section
set_option Elab.async false
set_option linter.all false
set_option maxRecDepth 10000
/-! K06e: the law's own looks: words. -/
namespace K06
open PySem Fs Fp Gt
mutual
def flatW : T → List T
  | .tup ts => flatWs ts
  | t => [t]
def flatWs : List T → List T
  | [] => []
  | t :: r => flatW t ++ flatWs r
end
theorem flatWs_eq : ∀ ts : List T, flatWs ts = (ts.map flatW).flatten
  | [] => rfl
  | t :: r => by simp [flatWs, flatWs_eq r]
abbrev sevW : List String := ["put", "oust", "count", "free", "visit", "its", "known"]
def pc (x : T) : Bool := (sevW.map wT).any fun y => eqF y x
theorem pc_w (w : String) : pc (wT w) = decide (w ∈ sevW) := by
  unfold pc
  rw [List.any_map, Bool.eq_iff_iff, List.any_eq_true, decide_eq_true_eq]
  constructor
  · rintro ⟨a, ha, e⟩
    have : decide (a = w) = true := by rw [← eqF_wT]; exact e
    rw [← of_decide_eq_true this]
    exact ha
  · intro m
    exact ⟨w, m, by show eqF (wT w) (wT w) = true; rw [eqF_wT]; simp⟩
theorem pc_i (n : Int) : pc (.int n) = false := by simp [pc]
/-- a word or a number -/
def At (x : T) : Prop := Shp 0 x ∧ flatT x = true
theorem At.w {w : String} (h : w.toList.all (fun c => decide (c.toNat < 128)) = true) : At (wT w) := ⟨Shp.word h, rfl⟩
theorem At.i {n : Int} (h : 0 ≤ n) (h2 : n ≤ 99) : At (.int n) := ⟨Shp.int (by omega), rfl⟩
theorem eq_one {h : Hs} {a b : String} : eqT h (.tup [wT a]) (.tup [wT b]) = some (decide (a = b)) := by
  have s1 : ∀ w : String, SeqAt.shaped (.tuple [.str (Str.ofString w)]) = true := fun w => by
    unfold SeqAt.shaped
    simp [PyData.canLay0, PyData.canLayAll0, PyData.depth, PyData.depthAll, ofS_ok]
  have e : PyData.eqv (.tuple [.str (Str.ofString a)]) (.tuple [.str (Str.ofString b)]) = decide (a = b) := by
    simp only [PyData.eqv, PyData.eqvAll, Bool.and_true]
    exact Bool.eq_iff_iff.mpr (by simp [ofS_inj])
  simp only [eqT, toDh, toD, toDs, Option.bind_some, Option.map_some, s1, Bool.and_self, if_true, e]
section
variable {W : Nat}
def Wd (W m : Nat) (t : T) : Prop := ∀ (n : Nat) (h : Hs), m ≤ n → callN D W n 21 [t] h = .ok (.lst (flatW t)) h
theorem Wd.mono {m m' : Nat} {t : T} (w : Wd W m t) (h : m ≤ m') : Wd W m' t := fun n h' hn => w n h' (Nat.le_trans h hn)
theorem wd_w {w : String} : Wd W 1 (wT w) := fun n h hn => by
  obtain ⟨n, rfl⟩ : ∃ m, n = m + 1 := ⟨n - 1, by omega⟩
  rw [callN_eq (fn := ⟨none, "_law_words", 1, 3, f__law_words⟩) rfl rfl (by decide)]
  simp [f__law_words, Kd.is, flatW]
theorem wd_i {i : Int} : Wd W 1 (.int i) := fun n h hn => by
  obtain ⟨n, rfl⟩ : ∃ m, n = m + 1 := ⟨n - 1, by omega⟩
  rw [callN_eq (fn := ⟨none, "_law_words", 1, 3, f__law_words⟩) rfl rfl (by decide)]
  simp [f__law_words, Kd.is, flatW]
theorem cut_to {w : T} {r : List T} : cutL (w :: r) none (some 1) = [w] := by
  unfold cutL
  have e1 : HT.sIx (w :: r).length (w :: r).length (some 1) = 1 := by
    have := HT.sIx_nat (w :: r).length (w :: r).length 1
    rw [show ((1 : Nat) : Int) = 1 from rfl] at this
    rw [this, List.length_cons]
    omega
  rw [e1, HT.sIx_none]
  simp
def wdS : E := .bi .sumL (.cons (.comp false (.nm 2) (.seq (.var 1)) (.absent) (.call 21 (.cons (.var 2) (.nil))) [2]) (.cons (.lstI (.nil)) (.nil)))
def wdP : E := .ite (.cmp .eq (.sl (.var 0) (.absent) (.int 1)) (.tup (.cons (.str "if") (.nil)))) (.sl (.var 0) (.absent) (.int 2)) (.var 0)
theorem wd_body : f__law_words = .cons (.ifs (.bi (.isinst .tup) (.cons (.var 0) .nil)) (.cons (.set 1 wdP) (.cons (.ret wdS) (.nil))) (.nil)) (.cons (.ret (.lstI (.cons (.var 0) (.nil)))) (.nil)) := rfl
theorem sum_words {n : Nat} {h : Hs} {env : En} {ts : List T} (henv : env = [env[0]?.getD none, some (.tup ts), none]) (e : ∀ t ∈ ts, callN D W n 21 [t] h = .ok (.lst (flatW t)) h) (hl : (flatWs ts).length ≤ 1000000) (hr : ts.length ≤ 1000) :
    (ev D (callN D W n) wdS env h).v = .ok (.lst (flatWs ts)) h := by
  unfold wdS
  have cc := ev_compM (D := D) (cl := callN D W n) (env := env) (h := h) (h1 := h) (i := 2) (it := .seq (.var 1)) (e := .call 21 (.cons (.var 2) (.nil))) (vs := [2]) (xs := ts) (g := fun t => .lst (flatW t)) (by rw [henv]; simp) (by simp only [lim_eq]; omega) (fun y hy => by
    rw [henv]
    simp [wipeT, e y hy])
  have sm := sumL_all (h := h) (ts.map flatW) (by rw [← flatWs_eq]; exact hl)
  rw [List.map_map, ← flatWs_eq] at sm
  simp only [ev_bi, evL_cons, evL_nil, cc, mkV_v', R.bind_ok, ev_lstI, List.length_nil]
  simp only [lim_eq, Nat.zero_le, if_true, R.bind_ok]
  rw [show (ts.map fun t => T.lst (flatW t)) = ts.map (T.lst ∘ flatW) from rfl, sm]
  rfl
theorem wd_tup {m : Nat} {w : String} {r : List T} (hw : w ≠ "if") (e : ∀ t ∈ r, Wd W m t) (hm : 1 ≤ m) (hl : (flatWs (wT w :: r)).length ≤ 1000000) (hr : r.length ≤ 100) : Wd W (m + 1) (.tup (wT w :: r)) := fun n h hn => by
  obtain ⟨n, rfl⟩ : ∃ m, n = m + 1 := ⟨n - 1, by omega⟩
  rw [callN_eq (fn := ⟨none, "_law_words", 1, 3, f__law_words⟩) rfl rfl (by decide)]
  have q := eq_one (h := h) (a := w) (b := "if")
  rw [decide_eq_false hw] at q
  have sm := sum_words (W := W) (n := n) (h := h) (env := [some (.tup (wT w :: r)), some (.tup (wT w :: r)), none]) (ts := wT w :: r) rfl (fun t ht => by
    rcases List.mem_cons.mp ht with rfl | ht
    · exact wd_w n h (by omega)
    · exact e t ht n h (by omega)) hl (by simp; omega)
  have ep : (ev D (callN D W n) wdP [some (.tup (wT w :: r)), none, none] h).v = .ok (.tup (wT w :: r)) h := by
    simp [wdP, slT, cut_to, q]
  rw [wd_body]
  simp [Kd.is, ep, sm, flatW]
theorem wd_if {m : Nat} {t b1 b2 : T} (e : Wd W m t) (hm : 1 ≤ m) (hl : (flatW t).length ≤ 999999) : ∀ (n : Nat) (h : Hs), m + 1 ≤ n → callN D W n 21 [.tup [wT "if", t, b1, b2]] h = .ok (.lst (wT "if" :: flatW t)) h := fun n h hn => by
  obtain ⟨n, rfl⟩ : ∃ m, n = m + 1 := ⟨n - 1, by omega⟩
  rw [callN_eq (fn := ⟨none, "_law_words", 1, 3, f__law_words⟩) rfl rfl (by decide)]
  have q := eq_one (h := h) (a := "if") (b := "if")
  rw [decide_eq_true rfl] at q
  have sm := sum_words (W := W) (n := n) (h := h) (env := [some (.tup [wT "if", t, b1, b2]), some (.tup [wT "if", t]), none]) (ts := [wT "if", t]) rfl (all2 (wd_w n h (by omega)) (e n h (by omega))) (by simp [flatWs, flatW]; omega) (by simp)
  have c2 : cutL [wT "if", t, b1, b2] none (some 2) = [wT "if", t] := rfl
  have ep : (ev D (callN D W n) wdP [some (.tup [wT "if", t, b1, b2]), none, none] h).v = .ok (.tup [wT "if", t]) h := by
    simp [wdP, slT, cut_to, q, c2]
  rw [wd_body]
  simp [Kd.is, ep, sm, flatWs, flatW]
theorem wd_X {c : Bool} {d : Nat} {t : T} (s : IsX c d t) : d ≤ 10 → Wd W (d + 2) t ∧ (flatW t).length + 1 ≤ 4 * 2 ^ d ∧ ∀ x ∈ flatW t, At x := by
  induction s with
  | num d n h1 h2 =>
    intro hd
    have p1 : 1 ≤ 2 ^ d := Nat.pos_of_ne_zero (by simp)
    refine ⟨(wd_tup (m := 1) (by decide) (all1 wd_i) (by omega) (by simp [flatWs, flatW]) (by simp)).mono (by omega), by simp [flatWs, flatW]; omega, ?_⟩
    exact all2 (At.w (by decide)) (At.i h1 h2)
  | lea d w h =>
    intro hd
    have p1 : 1 ≤ 2 ^ d := Nat.pos_of_ne_zero (by simp)
    have hw : w ≠ "if" ∧ w.toList.all (fun c => decide (c.toNat < 128)) = true := by rcases h with rfl | rfl <;> decide
    refine ⟨(wd_tup (m := 1) (r := []) hw.1 (fun t ht => by cases ht) (by omega) (by simp [flatWs, flatW]) (by simp)).mono (by omega), by simp [flatWs, flatW]; omega, ?_⟩
    exact all1 (At.w hw.2)
  | its d h =>
    intro hd
    have p1 : 1 ≤ 2 ^ d := Nat.pos_of_ne_zero (by simp)
    refine ⟨(wd_tup (m := 1) (r := []) (by decide) (fun t ht => by cases ht) (by omega) (by simp [flatWs, flatW]) (by simp)).mono (by omega), by simp [flatWs, flatW]; omega, ?_⟩
    exact all1 (At.w (by decide))
  | nam d w h =>
    intro hd
    have p1 : 1 ≤ 2 ^ d := Nat.pos_of_ne_zero (by simp)
    have hw : w ≠ "if" ∧ w.toList.all (fun c => decide (c.toNat < 128)) = true := by rcases h with rfl | rfl <;> decide
    refine ⟨(wd_tup (m := 1) (by decide) (all1 wd_w) (by omega) (by simp [flatWs, flatW]) (by simp)).mono (by omega), by simp [flatWs, flatW]; omega, ?_⟩
    exact all2 (At.w (by decide)) (At.w hw.2)
  | bin d w a b h _ _ ia ib =>
    intro hd
    obtain ⟨wa, la, aa⟩ := ia (by omega)
    obtain ⟨wb, lb, ab⟩ := ib (by omega)
    have hw : w ≠ "if" ∧ w.toList.all (fun c => decide (c.toNat < 128)) = true := by rcases h with rfl | rfl | rfl | rfl <;> decide
    have p2 : 2 ^ d ≤ 2 ^ 10 := pow_le (by omega)
    have l3 : (flatWs [wT w, a, b]).length = 1 + ((flatW a).length + (flatW b).length) := by simp [flatWs, flatW]; omega
    refine ⟨(wd_tup hw.1 (all2 wa wb) (by omega) (by omega) (by simp)).mono (by omega), ?_, ?_⟩
    · show (flatWs [wT w, a, b]).length + 1 ≤ _
      rw [l3, Nat.pow_succ]
      omega
    · intro y hy
      change y ∈ flatWs [wT w, a, b] at hy
      simp only [flatWs, flatW, List.append_nil, List.mem_append, List.mem_cons, List.not_mem_nil, or_false] at hy
      rcases hy with rfl | hy | hy
      · exact At.w hw.2
      · exact aa y hy
      · exact ab y hy
theorem wd_T {c : Bool} {e d : Nat} {t : T} (s : IsT c e d t) (he : e ≤ 8) : d ≤ 8 → Wd W (e + d + 3) t ∧ (flatW t).length + 1 ≤ 2 ^ d * (8 * 2 ^ e + 4) ∧ ∀ x ∈ flatW t, At x := by
  have q2 : 2 ^ e ≤ 2 ^ 8 := pow_le he
  have bb : ∀ {d}, d ≤ 8 → 2 ^ d * (8 * 2 ^ e + 4) ≤ 256 * 2052 := fun {d} h => Nat.mul_le_mul (pow_le h) (by omega)
  induction s with
  | cmp d w a b h sa sb =>
    intro hd
    obtain ⟨wa, la, aa⟩ := wd_X (W := W) sa (by omega)
    obtain ⟨wb, lb, ab⟩ := wd_X (W := W) sb (by omega)
    have hw : w ≠ "if" ∧ w.toList.all (fun c => decide (c.toNat < 128)) = true := by rcases h with rfl | rfl <;> decide
    have l3 : (flatWs [wT w, a, b]).length = 1 + ((flatW a).length + (flatW b).length) := by simp [flatWs, flatW]; omega
    refine ⟨(wd_tup hw.1 (all2 wa wb) (by omega) (by omega) (by simp)).mono (by omega), ?_, ?_⟩
    · show (flatWs [wT w, a, b]).length + 1 ≤ _
      rw [l3]
      exact Nat.le_trans (by omega) (Nat.le_mul_of_pos_left (8 * 2 ^ e + 4) (Nat.pos_of_ne_zero (by simp : 2 ^ d ≠ 0)))
    · intro y hy
      change y ∈ flatWs [wT w, a, b] at hy
      simp only [flatWs, flatW, List.append_nil, List.mem_append, List.mem_cons, List.not_mem_nil, or_false] at hy
      rcases hy with rfl | hy | hy
      · exact At.w hw.2
      · exact aa y hy
      · exact ab y hy
  | full d =>
    intro hd
    refine ⟨(wd_tup (m := 1) (r := []) (by decide) (fun t ht => by cases ht) (by omega) (by simp [flatWs, flatW]) (by simp)).mono (by omega), ?_, all1 (At.w (by decide))⟩
    exact Nat.le_trans (show 2 ≤ 8 * 2 ^ e + 4 by omega) (Nat.le_mul_of_pos_left _ (Nat.pos_of_ne_zero (by simp : 2 ^ d ≠ 0)))
  | known d hk =>
    intro hd
    refine ⟨(wd_tup (m := 1) (r := []) (by decide) (fun t ht => by cases ht) (by omega) (by simp [flatWs, flatW]) (by simp)).mono (by omega), ?_, all1 (At.w (by decide))⟩
    exact Nat.le_trans (show 2 ≤ 8 * 2 ^ e + 4 by omega) (Nat.le_mul_of_pos_left _ (Nat.pos_of_ne_zero (by simp : 2 ^ d ≠ 0)))
  | nott d a _ ia =>
    intro hd
    obtain ⟨wa, la, aa⟩ := ia (by omega)
    have b1 := bb (show d ≤ 8 by omega)
    have l3 : (flatWs [wT "not", a]).length = 1 + (flatW a).length := by simp [flatWs, flatW]; omega
    have p0 : 1 ≤ 2 ^ d * (8 * 2 ^ e + 4) := Nat.le_trans (by omega) la
    refine ⟨(wd_tup (by decide) (all1 wa) (by omega) (by omega) (by simp)).mono (by omega), ?_, ?_⟩
    · show (flatWs [wT "not", a]).length + 1 ≤ _
      rw [l3, Nat.pow_succ, Nat.mul_right_comm]
      omega
    · intro y hy
      change y ∈ flatWs [wT "not", a] at hy
      simp only [flatWs, flatW, List.append_nil, List.mem_append, List.mem_cons, List.not_mem_nil, or_false] at hy
      rcases hy with rfl | hy
      · exact At.w (by decide)
      · exact aa y hy
  | bin d w a b h _ _ ia ib =>
    intro hd
    obtain ⟨wa, la, aa⟩ := ia (by omega)
    obtain ⟨wb, lb, ab⟩ := ib (by omega)
    have b1 := bb (show d ≤ 8 by omega)
    have hw : w ≠ "if" ∧ w.toList.all (fun c => decide (c.toNat < 128)) = true := by rcases h with rfl | rfl <;> decide
    have l3 : (flatWs [wT w, a, b]).length = 1 + ((flatW a).length + (flatW b).length) := by simp [flatWs, flatW]; omega
    have b2 := bb hd
    rw [Nat.pow_succ, Nat.mul_right_comm] at b2
    refine ⟨(wd_tup hw.1 (all2 wa wb) (by omega) (by omega) (by simp)).mono (by omega), ?_, ?_⟩
    · show (flatWs [wT w, a, b]).length + 1 ≤ _
      rw [l3, Nat.pow_succ, Nat.mul_right_comm]
      omega
    · intro y hy
      change y ∈ flatWs [wT w, a, b] at hy
      simp only [flatWs, flatW, List.append_nil, List.mem_append, List.mem_cons, List.not_mem_nil, or_false] at hy
      rcases hy with rfl | hy | hy
      · exact At.w hw.2
      · exact aa y hy
      · exact ab y hy
end
end K06
end

section
set_option Elab.async false
set_option linter.all false
set_option maxRecDepth 10000
/-! K06g: a statement's words: whether it asks for the key that came. -/
namespace K06
open PySem Fs Fp Gt
theorem PP_fun {ws : List String} {t : T} {k : Nat} {ps : List T} (p : PP ws t k ps) : ∀ {k' ps'}, PP ws t k' ps' → ps' = ps := by
  induction p with
  | leaf w r h =>
    intro k' ps' p'
    rcases PP_inv p' with ⟨_, _, e⟩ | ⟨h', _⟩ | ⟨h', _⟩
    · exact e
    · exact absurd h' h
    · exact absurd h' h
  | one w a k ps h _ ih =>
    intro k' ps' p'
    rcases PP_inv p' with ⟨h', _⟩ | ⟨_, a', k'', h', _, p1⟩ | ⟨_, a', b', ka, kb, pa, pb, h', _⟩
    · exact absurd h h'
    · cases h'
      exact ih p1
    · cases h'
  | two w a b ka kb pa pb h _ _ ia ib =>
    intro k' ps' p'
    rcases PP_inv p' with ⟨h', _⟩ | ⟨_, a', k'', h', _⟩ | ⟨_, a', b', ka', kb', pa', pb', h', _, rfl, p1, p2⟩
    · exact absurd h h'
    · cases h'
    · cases h'
      rw [ia p1, ib p2]
theorem fa_tup {w : String} {r : List T} : (flatW (.tup (wT w :: r))).any pc = (decide (w ∈ sevW) || r.any fun a => (flatW a).any pc) := by
  show (flatWs (wT w :: r)).any pc = _
  have : ∀ r : List T, (flatWs r).any pc = r.any fun a => (flatW a).any pc := fun r => by
    induction r with
    | nil => rfl
    | cons a r ih => rw [flatWs, List.any_append, List.any_cons, ih]
  rw [this, List.any_cons]
  congr 1
  show ([wT w] : List T).any pc = _
  rw [List.any_cons, List.any_nil, Bool.or_false, pc_w]
theorem fa_w {w : String} : (flatW (wT w)).any pc = decide (w ∈ sevW) := by
  show ([wT w] : List T).any pc = _
  rw [List.any_cons, List.any_nil, Bool.or_false, pc_w]
theorem fa_i {n : Int} : (flatW (.int n)).any pc = false := by
  show ([T.int n] : List T).any pc = _
  rw [List.any_cons, List.any_nil, Bool.or_false, pc_i]
theorem X_any {c : Bool} {d : Nat} {t : T} (s : IsX c d t) : ∀ {k ps}, PP pairs t k ps → (flatW t).any pc = ps.any (isW "its") := by
  have lf : ∀ {w : String} {r : List T} {k : Nat} {ps : List T}, w ∉ pairs → PP pairs (.tup (wT w :: r)) k ps → (flatW (.tup (wT w :: r))).any pc = isW "its" (.tup (wT w :: r)) → (flatW (.tup (wT w :: r))).any pc = ps.any (isW "its") := fun {w r k ps} hw p hn => by
    rcases PP_inv p with ⟨_, rfl, rfl⟩ | ⟨h, _⟩ | ⟨h, _⟩
    · rw [hn, List.any_cons, List.any_nil, Bool.or_false]
    · exact absurd h hw
    · exact absurd h hw
  induction s with
  | num d n h1 h2 => exact fun p => lf (by decide) p (by rw [fa_tup, isW_form]; simp [fa_i])
  | lea d w h => exact fun p => lf (by rcases h with rfl | rfl <;> decide) p (by rw [fa_tup, isW_form]; rcases h with rfl | rfl <;> simp)
  | its d h => exact fun p => lf (by decide) p (by rw [fa_tup, isW_form]; simp)
  | nam d w h => exact fun p => lf (by decide) p (by rw [fa_tup, isW_form]; rcases h with rfl | rfl <;> simp [fa_w])
  | bin d w a b h _ _ ia ib =>
    intro k ps p
    have yw : w ∈ pairs := by rcases h with rfl | rfl | rfl | rfl <;> decide
    rcases PP_inv p with ⟨h', _⟩ | ⟨_, a', k', h', rfl, p1⟩ | ⟨_, a', b', ka, kb, pa, pb, h', rfl, rfl, p1, p2⟩
    · exact absurd yw h'
    · cases h'
    · cases h'
      have nw : w ∉ sevW := by rcases h with rfl | rfl | rfl | rfl <;> decide
      rw [fa_tup, decide_eq_false nw, List.any_append]
      simp only [List.any_cons, List.any_nil, Bool.or_false, Bool.false_or, ia p1, ib p2]
theorem E_any {c : Bool} {e : Nat} {es qs : List T} (a : AP es qs) : (∀ a ∈ es, IsX c e a) → (es.any fun a => (flatW a).any pc) = qs.any (isW "its") := by
  induction a with
  | nil => exact fun _ => rfl
  | cons t k ps r qs p hk _ ih =>
    intro hx
    rw [List.any_cons, List.any_append, X_any (hx t List.mem_cons_self) p, ih fun a ha => hx a (List.mem_cons_of_mem _ ha)]
theorem T_any {c : Bool} {e d : Nat} {t : T} (s : IsT c e d t) : ∀ {k ps}, PP tws t k ps → (flatW t).any pc = ps.any fun p => (flatW p).any pc := by
  have lf : ∀ {w : String} {r : List T} {k : Nat} {ps : List T}, w ∉ tws → PP tws (.tup (wT w :: r)) k ps → (flatW (.tup (wT w :: r))).any pc = ps.any fun p => (flatW p).any pc := fun {w r k ps} hw p => by
    rcases PP_inv p with ⟨_, rfl, rfl⟩ | ⟨h, _⟩ | ⟨h, _⟩
    · rw [List.any_cons, List.any_nil, Bool.or_false]
    · exact absurd h hw
    · exact absurd h hw
  induction s with
  | cmp d w a b h sa sb => exact fun p => lf (by rcases h with rfl | rfl <;> decide) p
  | full d => exact fun p => lf (by decide) p
  | known d h => exact fun p => lf (by decide) p
  | nott d a _ ia =>
    intro k ps p
    rcases PP_inv p with ⟨h', _⟩ | ⟨_, a', k', h', rfl, p1⟩ | ⟨_, a', b', ka, kb, pa, pb, h', _⟩
    · exact absurd (by decide) h'
    · cases h'
      rw [fa_tup, decide_eq_false (by decide), ← ia p1]
      simp only [List.any_cons, List.any_nil, Bool.or_false, Bool.false_or]
    · cases h'
  | bin d w a b h _ _ ia ib =>
    intro k ps p
    have yw : w ∈ tws := by rcases h with rfl | rfl <;> decide
    rcases PP_inv p with ⟨h', _⟩ | ⟨_, a', k', h', rfl, p1⟩ | ⟨_, a', b', ka, kb, pa, pb, h', rfl, rfl, p1, p2⟩
    · exact absurd yw h'
    · cases h'
    · cases h'
      have nw : w ∉ sevW := by rcases h with rfl | rfl <;> decide
      rw [fa_tup, decide_eq_false nw, List.any_append, ← ia p1, ← ib p2]
      simp only [List.any_cons, List.any_nil, Bool.or_false, Bool.false_or]
theorem L_any {c : Bool} {e : Nat} : ∀ ps : List T, (∀ p ∈ ps, TF c e p) → (ps.any fun p => (flatW p).any pc) = ((ps.map leafArgs).flatten.any (fun a => (flatW a).any pc) || ps.any (isW "known"))
  | [], _ => rfl
  | p :: ps, h => by
    have ih := L_any ps fun q hq => h q (List.mem_cons_of_mem _ hq)
    obtain ⟨w, r, rfl, hr, hx, hw⟩ := h p List.mem_cons_self
    rw [List.any_cons, List.map_cons, List.flatten_cons, List.any_append, List.any_cons, ih, fa_tup, isW_form]
    show _ = ((r.any (fun a => (flatW a).any pc) || _) || _)
    rcases hw with rfl | rfl | ⟨rfl, rfl | rfl⟩
    · rw [decide_eq_false (by decide : "below" ∉ sevW), decide_eq_false (by decide : ¬ "below" = "known")]
      simp only [Bool.false_or, Bool.false_and, Bool.or_assoc]
    · rw [decide_eq_false (by decide : "same" ∉ sevW), decide_eq_false (by decide : ¬ "same" = "known")]
      simp only [Bool.false_or, Bool.false_and, Bool.or_assoc]
    · simp
    · simp
section
variable {W : Nat}
theorem lwords_ok {c : Bool} {e q d : Nat} {i : SI} (hs : IsS c e q d i.s) (ok : SIok i) (he : e ≤ 8) (hq : q ≤ 8) : ∃ L : List T, (∀ x ∈ L, At x) ∧ L.any pc = cmI i ∧ L.length ≤ 900000 ∧ ∀ (n : Nat) (h : Hs), 22 ≤ n → callN D W n 21 [i.s] h = .ok (.lst L) h := by
  obtain ⟨r, es, es1, ex, ap, lx, sz, el, tp⟩ := ok
  obtain ⟨⟨w, r', es2, hw⟩, hx, ln⟩ := IsS_ex hs ex
  have ww : i.w = w := by
    rw [es1] at es2
    injection es2 with z
    injection z with z _
    injection z with z
    exact ofS_inj.mp z
  have ea := E_any ap hx
  have pw : ∀ w ∈ stW, decide (w ∈ sevW) = decide (w ∈ comeW) := by decide
  have okW : ∀ w ∈ stW, w.toList.all (fun c => decide (c.toNat < 128)) = true := by decide
  have q2 : 2 ^ e ≤ 2 ^ 8 := pow_le he
  have plain : ∀ {r : List T}, i.s = .tup (wT w :: r) → w ≠ "if" → (∀ t ∈ r, Wd W 12 t ∧ (flatW t).length ≤ 2000 ∧ ∀ x ∈ flatW t, At x) → r.length ≤ 3 → (r.any fun a => (flatW a).any pc) = (es.any fun a => (flatW a).any pc) →
      ∃ L : List T, (∀ x ∈ L, At x) ∧ L.any pc = cmI i ∧ L.length ≤ 900000 ∧ ∀ (n : Nat) (h : Hs), 22 ≤ n → callN D W n 21 [i.s] h = .ok (.lst L) h := fun {r} e1 hi hr hl an => by
    have l1 : ∀ r : List T, (∀ t ∈ r, Wd W 12 t ∧ (flatW t).length ≤ 2000 ∧ ∀ x ∈ flatW t, At x) → (flatWs r).length ≤ r.length * 2000 ∧ ∀ x ∈ flatWs r, At x := fun r => by
      induction r with
      | nil => exact fun _ => ⟨by simp [flatWs], fun x hx => by cases hx⟩
      | cons t r ih =>
        intro h
        obtain ⟨a, b, c⟩ := h t List.mem_cons_self
        obtain ⟨a', b'⟩ := ih fun t ht => h t (List.mem_cons_of_mem _ ht)
        refine ⟨by simp only [flatWs, List.length_append, List.length_cons, Nat.add_mul]; omega, fun x hx => ?_⟩
        rw [flatWs] at hx
        exact (List.mem_append.mp hx).elim (c x) (b' x)
    obtain ⟨l2, a2⟩ := l1 r hr
    have l3 : r.length * 2000 ≤ 3 * 2000 := Nat.mul_le_mul_right _ hl
    have l4 : (flatWs (wT w :: r)).length = 1 + (flatWs r).length := by simp [flatWs, flatW]; omega
    have wt := wd_tup (W := W) (m := 12) hi (fun t ht => (hr t ht).1) (by omega) (by omega) (by omega)
    refine ⟨flatW (.tup (wT w :: r)), fun x hx => ?_, ?_, by show (flatWs _).length ≤ _; omega, fun n h hn => ?_⟩
    · change x ∈ flatWs (wT w :: r) at hx
      rw [flatWs] at hx
      rcases List.mem_append.mp hx with hx | hx
      · exact all1 (P := At) (At.w (okW w hw)) x hx
      · exact a2 x hx
    · rw [fa_tup, an, ea, pw w hw]
      unfold cmI
      rw [ww, decide_eq_false hi]
      simp
    · rw [e1]
      exact wt n h (by omega)
  have xw : ∀ {a : T}, IsX c e a → Wd W 12 a ∧ (flatW a).length ≤ 2000 ∧ ∀ x ∈ flatW a, At x := fun {a} s => by
    obtain ⟨w1, l1, a1⟩ := wd_X (W := W) s (by omega)
    exact ⟨w1.mono (by omega), by omega, a1⟩
  have iw : ∀ {n : Int}, 0 ≤ n → n ≤ 99 → Wd W 12 (.int n) ∧ (flatW (.int n)).length ≤ 2000 ∧ ∀ x ∈ flatW (.int n), At x := fun h1 h2 => ⟨wd_i.mono (by omega), by simp [flatW], all1 (At.i h1 h2)⟩
  have sw : ∀ {w : String}, w.toList.all (fun c => decide (c.toNat < 128)) = true → Wd W 12 (wT w) ∧ (flatW (wT w)).length ≤ 2000 ∧ ∀ x ∈ flatW (wT w), At x := fun h1 => ⟨wd_w.mono (by omega), by simp [flatW], all1 (At.w h1)⟩
  have wd_of : ∀ {v : String} {r0 : List T}, i.s = .tup (wT v :: r0) → v = w := fun {v r0} e1 => by
    rw [es2] at e1
    injection e1 with z
    injection z with z _
    injection z with z
    exact (ofS_inj.mp z).symm
  generalize hsv : i.s = s at ex hs
  cases ex with
  | one v h1 h2 =>
    have := wd_of hsv
    subst this
    rw [← hsv]
    exact plain (r := []) hsv h1 (fun t ht => by cases ht) (by simp) rfl
  | ex v a h1 h2 =>
    have := wd_of hsv
    subst this
    rw [← hsv]
    exact plain hsv h1 (all1 (xw (hx _ List.mem_cons_self))) (by simp) rfl
  | lower a j =>
    have := wd_of hsv
    subst this
    rw [← hsv]
    have hj : 0 ≤ j ∧ j ≤ 1 := by
      generalize hg : (T.tup [wT "lower", .tup a, .int j]) = g at hs
      cases hs with
      | one d w hw => injection hg with hg; injection hg with _ hg; cases hg
      | ex d w a hw sa => injection hg with hg; injection hg with _ hg; injection hg with _ hg; cases hg
      | lower d a n sa h1 h2 =>
        injection hg with hg
        injection hg with _ hg
        injection hg with _ hg
        injection hg with hg _
        injection hg with hg
        subst hg
        exact ⟨h1, h2⟩
      | set d w a hw sa => injection hg with hg; injection hg with hg _; injection hg with hg; exact absurd (ofS_inj.mp hg) (by decide)
      | iff d t b1 b2 st s1 s2 l1 l2 => injection hg with hg; injection hg with _ hg; injection hg with _ hg; injection hg with _ hg; cases hg
    exact plain hsv (by decide) (all2 (xw (hx _ List.mem_cons_self)) (iw hj.1 (by omega))) (by simp) (by simp [fa_i])
  | set v a =>
    have := wd_of hsv
    subst this
    rw [← hsv]
    have hv := (IsS_set hs).1
    exact plain hsv (by decide) (all2 (sw (by rcases hv with rfl | rfl <;> decide)) (xw (hx _ List.mem_cons_self))) (by simp) (by rcases hv with rfl | rfl <;> simp [fa_w])
  | iff t b1 b2 k ps pp hk hps =>
    have := wd_of hsv
    subst this
    have st := IsS_if hs
    obtain ⟨w1, l1, a1⟩ := wd_T (W := W) st he hq
    have bb : 2 ^ q * (8 * 2 ^ e + 4) ≤ 256 * 2052 := Nat.mul_le_mul (pow_le hq) (by omega)
    obtain ⟨t', b1', b2', k', es3, pp', hk', _⟩ := tp ww
    have et : t' = t := by
      rw [es3] at hsv
      injection hsv with z
      injection z with _ z
      injection z with z _
    subst et
    have e2 := PP_fun pp pp'
    refine ⟨wT "if" :: flatW t', fun x hx => ?_, ?_, by simp; omega, fun n h hn => ?_⟩
    · rcases List.mem_cons.mp hx with rfl | hx
      · exact At.w (by decide)
      · exact a1 x hx
    · rw [List.any_cons, pc_w, T_any st pp, L_any ps (IsT_le st pp).2]
      unfold cmI
      rw [ww, e2, ea, decide_eq_false (by decide : "if" ∉ sevW), decide_eq_false (by decide : "if" ∉ comeW), decide_eq_true rfl]
      simp
    · exact wd_if w1 (by omega) (by omega) n h (by omega)
end
end K06
end

section
set_option Elab.async false
set_option linter.all false
set_option maxRecDepth 10000
/-! K06k: what the law says is due of a tracker. -/
namespace K06
open PySem Fs Fp Gt
def dueT (tr : T) (lim a : Option (List T)) (per : Bool) (b : Option (List T)) : T := match lim with
  | some xs => .tup (wT "large" :: xs)
  | none => match a with
    | some xs => .tup (wT "kind" :: xs)
    | none => if per = true then .tup [wT "kind", .tup [wT "turn", .int 0], wT "period"] else match b with
      | some xs => .tup (wT "kind" :: xs)
      | none => .tup [wT "told", tr]
/-- a step that says something, or goes on -/
def dwS (w : String) (o : Option (List T)) (env : En) (h : Hs) : SR := match o with
  | none => .nx env h
  | some xs => .ret (.tup (wT w :: xs)) h
abbrev pw : List String := ["plus", "less", "lesser", "greater"]
theorem pw_conv (w : String) : w ∈ pairs ↔ w ∈ pw := by
  simp only [List.mem_cons, List.not_mem_nil, or_false]
  constructor <;> rintro (h | h | h | h) <;> simp [h]
abbrev wE (w : String) : E := .str (Str.ofString w)
def duI : Ss := .cons (.setT [5, 6] (.call 18 (.cons (.var 4) (.cons (.tup (.cons (.str "plus") (.cons (.str "less") (.cons (.str "lesser") (.cons (.str "greater") (.nil)))))) (.nil))))) (
  .cons (.ifs (.orv (.cons (.cmp .gt (.var 5) (.int 6)) (.cons (.cmp .gt (.var 6) (.int 12)) (.nil)))) (.cons (.ret (.ite (.cmp .gt (.var 5) (.int 6)) (.tup (.cons (.str "large") (.cons (.str "deep") (.cons (.int 6) (.nil))))) (.tup (.cons (.str "large") (.cons (.str "parts") (.cons (.int 12) (.nil))))))) (.nil)) (.nil)) (.nil))
def duT : E := .call 18 (.cons (.ix (.var 3) (.int 1)) (.cons (.tup (.cons (.str "not") (.cons (.str "and") (.cons (.str "or") (.nil))))) (.nil)))
def du1 : S := .ifs (.andv (.cons (.cmp .eq (.ix (.var 3) (.int 0)) (.str "if")) (.cons (.cmp .gt duT (.tup (.cons (.int 6) (.cons (.int 99) (.nil))))) (.nil)))) (.cons (.ret (.tup (.cons (.str "large") (.cons (.str "deep") (.cons (.int 6) (.nil)))))) (.nil)) (.nil)
def du2 : S := .ifs (.andv (.cons (.cmp .eq (.ix (.var 3) (.int 0)) (.str "if")) (.cons (.cmp .gt (.ix duT (.int 1)) (.int 8)) (.nil)))) (.cons (.ret (.tup (.cons (.str "large") (.cons (.str "tests") (.cons (.int 8) (.nil)))))) (.nil)) (.nil)
def duB : Ss := .cons du1 (.cons du2 (.cons (.for_ (.nm 4) (.seq (.call 19 (.cons (.var 3) (.nil)))) duI) (.nil)))
def duN : E := .comp false (.nm 9) (.seq (.call 20 (.cons (.var 3) (.nil)))) (.cmp .nin (.var 9) (.var 7)) (.var 9) [9]
def duW : E := .comp false (.nm 10) (.seq (.call 21 (.cons (.var 3) (.nil)))) (.cmp .inn (.var 10) (.tup (.cons (.str "put") (.cons (.str "oust") (.cons (.str "count") (.cons (.str "free") (.cons (.str "visit") (.cons (.str "its") (.cons (.str "known") (.nil)))))))))) (.var 10) [10]
def duS (w : String) : S := .ifs (.cmp .ne duN (.lstI (.nil))) (.cons (.ret (.tup (.cons (.str "kind") (.cons (.tup (.cons (wE w) (.cons (.var 8) (.nil)))) (.cons (.str "name") (.nil)))))) (.nil)) (.nil)
def duV : S := .ifs (.cmp .ne duW (.lstI (.nil))) (.cons (.ret (.tup (.cons (.str "kind") (.cons (.tup (.cons (.str "turn") (.cons (.var 8) (.nil)))) (.cons (.str "come") (.nil)))))) (.nil)) (.nil)
def duP : S := .ifs (.andv (.cons (.cmp .eq (.ix (.var 0) (.int 4)) (.int 0)) (.cons (.cmp .ne (.ix (.var 0) (.int 5)) (.tup (.nil))) (.nil)))) (.cons (.ret (.tup (.cons (.str "kind") (.cons (.tup (.cons (.str "turn") (.cons (.int 0) (.nil)))) (.cons (.str "period") (.nil)))))) (.nil)) (.nil)
theorem du_body : f__law_due_of = .cons (.par [1, 2] (.cons (.call 11 (.cons (.ix (.var 0) (.int 3)) (.nil))) (.cons (.call 11 (.cons (.ix (.var 0) (.int 5)) (.nil))) (.nil)))) (
  .cons (.ifs (.cmp .gt (.bin .add (.bi .len (.cons (.var 1) (.nil))) (.bi .len (.cons (.var 2) (.nil)))) (.int 30)) (.cons (.ret (.tup (.cons (.str "large") (.cons (.str "lines") (.cons (.int 30) (.nil)))))) (.nil)) (.nil)) (
  .cons (.ifs (.cmp .gt (.bi .max2 (.cons (.call 17 (.cons (.ix (.var 0) (.int 3)) (.nil))) (.cons (.call 17 (.cons (.ix (.var 0) (.int 5)) (.nil))) (.nil)))) (.int 4)) (.cons (.ret (.tup (.cons (.str "large") (.cons (.str "blocks") (.cons (.int 4) (.nil)))))) (.nil)) (.nil)) (
  .cons (.for_ (.nm 3) (.seq (.bin .add (.var 1) (.var 2))) duB) (
  .cons (.set 7 (.comp false (.nm 3) (.seq (.ix (.var 0) (.int 2))) (.absent) (.ix (.var 3) (.int 0)) [3])) (
  .cons (.for_ (.tp [8, 3]) (.enum (.var 1)) (.cons (duS "came") (.nil))) (
  .cons duP (
  .cons (.for_ (.tp [8, 3]) (.enum (.var 2)) (.cons (duS "turn") (.cons duV (.nil)))) (
  .cons (.ret (.tup (.cons (.str "told") (.cons (.var 0) (.nil))))) (.nil))))))))) := rfl
section
variable {W : Nat}
theorem duI_loop {n : Nat} (hn : 17 ≤ n) {es : List T} {o : Option (String × Int)} (s : SE es o) : ∀ (h : Hs) (a0 a1 a2 a3 o4 o5 o6 a7 a8 a9 a10 : Option T), ∃ o4' o5' o6', forL (.nm 4) (fun env2 h2 => evSs D W (callN D W n) duI env2 h2) es [a0, a1, a2, a3, o4, o5, o6, a7, a8, a9, a10] h =
    dwS "large" (lgO o) [a0, a1, a2, a3, o4', o5', o6', a7, a8, a9, a10] h := by
  have one : ∀ {e : T} {k : Nat} {ps : List T}, PP pairs e k ps → k ≤ 15 → ∀ (h : Hs) (a0 a1 a2 a3 o5 o6 a7 a8 a9 a10 : Option T), evSs D W (callN D W n) duI [a0, a1, a2, a3, some e, o5, o6, a7, a8, a9, a10] h = dwS "large" (lgO (szO k ps.length "parts" 12)) [a0, a1, a2, a3, some e, some (.int (k : Int)), some (.int (ps.length : Int)), a7, a8, a9, a10] h := by
    intro e k ps p hk h a0 a1 a2 a3 o5 o6 a7 a8 a9 a10
    have sz := size_ok (W := W) (PP_conv pw_conv p) n h (by omega)
    simp only [List.map_cons, List.map_nil] at sz
    unfold szO
    by_cases q : 6 < k
    · have q' : (6 : Int) < (k : Int) := by omega
      simp [duI, sz, bindG, bindTs, q, q', lgO, dwS]
    · have q' : ¬ (6 : Int) < (k : Int) := by omega
      by_cases r : 12 < ps.length
      · have r' : (12 : Int) < (ps.length : Int) := by omega
        simp [duI, sz, bindG, bindTs, q, q', r, r', lgO, dwS]
      · have r' : ¬ (12 : Int) < (ps.length : Int) := by omega
        simp [duI, sz, bindG, bindTs, q, q', r, r', lgO, dwS]
  induction s with
  | nil => exact fun h a0 a1 a2 a3 o4 o5 o6 a7 a8 a9 a10 => ⟨o4, o5, o6, rfl⟩
  | hit e k ps r o p hk hz =>
    intro h a0 a1 a2 a3 o4 o5 o6 a7 a8 a9 a10
    have e1 := one p hk h a0 a1 a2 a3 o5 o6 a7 a8 a9 a10
    rw [hz] at e1
    exact ⟨none, none, none, by rw [forL_ret (v := .tup [wT "large", wT o.1, .int o.2]) (h2 := h) e1]; rfl⟩
  | next e k ps r o p hk hz _ ih =>
    intro h a0 a1 a2 a3 o4 o5 o6 a7 a8 a9 a10
    have e1 := one p hk h a0 a1 a2 a3 o5 o6 a7 a8 a9 a10
    rw [hz] at e1
    obtain ⟨p4, p5, p6, e2⟩ := ih h a0 a1 a2 a3 (some e) (some (.int (k : Int))) (some (.int (ps.length : Int))) a7 a8 a9 a10
    exact ⟨p4, p5, p6, by rw [forL_nx e1]; exact e2⟩
theorem duB_ok {c : Bool} {e q d n : Nat} {i : SI} (hn : 18 ≤ n) (hs : IsS c e q d i.s) (ok : SIok i) (hq : q ≤ 8) (h : Hs) (a0 a1 a2 o4 o5 o6 a7 a8 a9 a10 : Option T) :
    ∃ o4' o5' o6', evSs D W (callN D W n) duB [a0, a1, a2, some i.s, o4, o5, o6, a7, a8, a9, a10] h = dwS "large" (lgO i.o) [a0, a1, a2, some i.s, o4', o5', o6', a7, a8, a9, a10] h := by
  obtain ⟨r, es, es1, ex, ap, lx, sz, el, tp⟩ := ok
  have lp : ∀ {es : List T} {o : Option (String × Int)}, EX i.s es → SE es o → ∃ o4' o5' o6', evS D W (callN D W n) (.for_ (.nm 4) (.seq (.call 19 (.cons (.var 3) (.nil)))) duI) [a0, a1, a2, some i.s, o4, o5, o6, a7, a8, a9, a10] h = dwS "large" (lgO o) [a0, a1, a2, some i.s, o4', o5', o6', a7, a8, a9, a10] h := fun {es o} ex se => by
    have e19 := lexprs_ok (W := W) hs ex (by omega) n h (by omega)
    obtain ⟨p4, p5, p6, e2⟩ := duI_loop (W := W) (n := n) (by omega) se h a0 a1 a2 (some i.s) o4 o5 o6 a7 a8 a9 a10
    refine ⟨p4, p5, p6, ?_⟩
    rw [evS_for]
    simp [e19]
    exact e2
  have fin : ∀ {o : Option (List T)} {env : En}, ((dwS "large" o env h).andThen fun env1 h1 => evSs D W (callN D W n) .nil env1 h1) = dwS "large" o env h := fun {o env} => by
    cases o <;> simp [dwS]
  generalize hsv : i.s = s at sz hs
  generalize i.o = oo at sz ⊢
  cases sz with
  | plain w r es o hw ex se =>
    rw [← hsv] at ex
    obtain ⟨p4, p5, p6, e2⟩ := lp ex se
    refine ⟨p4, p5, p6, ?_⟩
    have s1 : evS D W (callN D W n) du1 [a0, a1, a2, some (.tup (wT w :: r)), o4, o5, o6, a7, a8, a9, a10] h = .nx [a0, a1, a2, some (.tup (wT w :: r)), o4, o5, o6, a7, a8, a9, a10] h := by simp [du1, hw]
    have s2 : evS D W (callN D W n) du2 [a0, a1, a2, some (.tup (wT w :: r)), o4, o5, o6, a7, a8, a9, a10] h = .nx [a0, a1, a2, some (.tup (wT w :: r)), o4, o5, o6, a7, a8, a9, a10] h := by simp [du2, hw]
    unfold duB
    rw [hsv] at e2
    rw [evSs_cons, s1, andThen_nx, evSs_cons, s2, andThen_nx, evSs_cons, e2]
    exact fin
  | hit t b1 b2 k ps o p hk hz =>
    have szz := size_ok (W := W) p n h (by omega)
    simp only [List.map_cons, List.map_nil] at szz
    have et : (ev D (callN D W n) duT [a0, a1, a2, some (.tup [wT "if", t, b1, b2]), o4, o5, o6, a7, a8, a9, a10] h).v = .ok (.tup [.int (k : Int), .int (ps.length : Int)]) h := by simp [duT, szz]
    unfold szO at hz
    refine ⟨o4, o5, o6, ?_⟩
    by_cases q : 6 < k
    · rw [if_pos q] at hz
      cases hz
      have q' : (6 : Int) < (k : Int) := by omega
      have g : gtL [(k : Int), (ps.length : Int)] [6, 99] = true := by simp [gtL, Ob.lexAt, q']; omega
      have s1 : evS D W (callN D W n) du1 [a0, a1, a2, some (.tup [wT "if", t, b1, b2]), o4, o5, o6, a7, a8, a9, a10] h = .ret (.tup [wT "large", wT "deep", .int 6]) h := by
        simp [du1, et, cmpT, intsT, g]
      unfold duB
      rw [evSs_cons, s1]
      rfl
    · rw [if_neg q] at hz
      by_cases r : 8 < ps.length
      · rw [if_pos r] at hz
        cases hz
        have r' : (8 : Int) < (ps.length : Int) := by omega
        have l64 : ps.length ≤ 64 := Nat.le_trans p.pos.2 (pow_le (show k ≤ 6 by omega))
        have g : gtL [(k : Int), (ps.length : Int)] [6, 99] = false := by
          have q1 : ¬ (6 : Int) < (k : Int) := by omega
          have q2 : ¬ (99 : Int) < (ps.length : Int) := by omega
          simp [gtL, Ob.lexAt, q1, q2]
        have s1 : evS D W (callN D W n) du1 [a0, a1, a2, some (.tup [wT "if", t, b1, b2]), o4, o5, o6, a7, a8, a9, a10] h = .nx [a0, a1, a2, some (.tup [wT "if", t, b1, b2]), o4, o5, o6, a7, a8, a9, a10] h := by
          simp [du1, et, cmpT, intsT, g]
        have s2 : evS D W (callN D W n) du2 [a0, a1, a2, some (.tup [wT "if", t, b1, b2]), o4, o5, o6, a7, a8, a9, a10] h = .ret (.tup [wT "large", wT "tests", .int 8]) h := by
          simp [du2, et, r']
        unfold duB
        rw [evSs_cons, s1, andThen_nx, evSs_cons, s2]
        rfl
      · rw [if_neg r] at hz
        cases hz
  | next t b1 b2 k ps es o p hk hz ex se =>
    rw [← hsv] at ex
    obtain ⟨p4, p5, p6, e2⟩ := lp ex se
    refine ⟨p4, p5, p6, ?_⟩
    have szz := size_ok (W := W) p n h (by omega)
    simp only [List.map_cons, List.map_nil] at szz
    have et : (ev D (callN D W n) duT [a0, a1, a2, some (.tup [wT "if", t, b1, b2]), o4, o5, o6, a7, a8, a9, a10] h).v = .ok (.tup [.int (k : Int), .int (ps.length : Int)]) h := by simp [duT, szz]
    unfold szO at hz
    by_cases q : 6 < k
    · rw [if_pos q] at hz
      cases hz
    rw [if_neg q] at hz
    by_cases r : 8 < ps.length
    · rw [if_pos r] at hz
      cases hz
    have r' : ¬ (8 : Int) < (ps.length : Int) := by omega
    have g : gtL [(k : Int), (ps.length : Int)] [6, 99] = false := by
      have q1 : ¬ (6 : Int) < (k : Int) := by omega
      have q2 : ¬ (99 : Int) < (ps.length : Int) := by omega
      simp [gtL, Ob.lexAt, q1, q2]
    have s1 : evS D W (callN D W n) du1 [a0, a1, a2, some (.tup [wT "if", t, b1, b2]), o4, o5, o6, a7, a8, a9, a10] h = .nx [a0, a1, a2, some (.tup [wT "if", t, b1, b2]), o4, o5, o6, a7, a8, a9, a10] h := by
      simp [du1, et, cmpT, intsT, g]
    have s2 : evS D W (callN D W n) du2 [a0, a1, a2, some (.tup [wT "if", t, b1, b2]), o4, o5, o6, a7, a8, a9, a10] h = .nx [a0, a1, a2, some (.tup [wT "if", t, b1, b2]), o4, o5, o6, a7, a8, a9, a10] h := by
      simp [du2, et, r']
    unfold duB
    rw [hsv] at e2
    rw [evSs_cons, s1, andThen_nx, evSs_cons, s2, andThen_nx, evSs_cons, e2]
    exact fin
/-- what the law's looks need -/
def LOk (i : SI) : Prop := SIok i ∧ ∃ c e q d, e ≤ 8 ∧ q ≤ 8 ∧ IsS c e q d i.s
theorem duB_loop {n : Nat} (hn : 18 ≤ n) : ∀ (l : List SI) (h : Hs) (a0 a1 a2 o3 o4 o5 o6 a7 a8 a9 a10 : Option T), (∀ i ∈ l, LOk i) →
    ∃ o3' o4' o5' o6', forL (.nm 3) (fun env2 h2 => evSs D W (callN D W n) duB env2 h2) (l.map SI.s) [a0, a1, a2, o3, o4, o5, o6, a7, a8, a9, a10] h = dwS "large" (lgO (firstO l)) [a0, a1, a2, o3', o4', o5', o6', a7, a8, a9, a10] h
  | [], h, a0, a1, a2, o3, o4, o5, o6, a7, a8, a9, a10, _ => ⟨o3, o4, o5, o6, rfl⟩
  | i :: l, h, a0, a1, a2, o3, o4, o5, o6, a7, a8, a9, a10, hk => by
    obtain ⟨ok, c, e, q, d, he, hq, hs⟩ := hk i List.mem_cons_self
    obtain ⟨p4, p5, p6, e1⟩ := duB_ok (W := W) hn hs ok hq h a0 a1 a2 o4 o5 o6 a7 a8 a9 a10
    rw [List.map_cons]
    simp only [firstO]
    cases z : i.o with
    | some p =>
      rw [z] at e1
      exact ⟨none, none, none, none, by rw [forL_ret (v := .tup [wT "large", wT p.1, .int p.2]) (h2 := h) e1]; rfl⟩
    | none =>
      rw [z] at e1
      obtain ⟨q3, q4, q5, q6, e2⟩ := duB_loop hn l h a0 a1 a2 (some i.s) p4 p5 p6 a7 a8 a9 a10 fun j hj => hk j (List.mem_cons_of_mem _ hj)
      refine ⟨q3, q4, q5, q6, ?_⟩
      rw [forL_nx (env2 := [a0, a1, a2, some i.s, p4, p5, p6, a7, a8, a9, a10]) (h2 := h) e1]
      exact e2
end
end K06
end

section
set_option Elab.async false
set_option linter.all false
set_option maxRecDepth 10000
/-! K06l: what the law says is due of a tracker, put together. -/
namespace K06
open PySem Fs Fp Gt
def pB (ns : List String) : T → Bool
  | .str a => !(ns.any fun n => decide (Str.ofString n = a))
  | _ => false
theorem At.list_nil {h : Hs} {L : List T} (a : ∀ x ∈ L, At x) : eqT h (.lst L) (.lst []) = some (decide (L = [])) := lst_nil (d := 0) (fun t ht => (a t ht).1) (by decide)
theorem filter_nil {α : Type} {p : α → Bool} {L : List α} : decide (L.filter p = []) = !(L.any p) := by
  rw [Bool.eq_iff_iff, decide_eq_true_eq, List.filter_eq_nil_iff, Bool.not_eq_true', List.any_eq_false]
section
variable {W : Nat}
theorem duN_ok {n : Nat} {h : Hs} {L ns : List String} {s : T} {a0 a1 a2 a4 a5 a6 a8 a9 a10 : Option T} (e : callN D W n 20 [s] h = .ok (.lst (L.map wT)) h) (hL : ∀ w ∈ L, w = "n1" ∨ w = "spill") (hl : L.length ≤ 900000) :
    (ev D (callN D W n) (.cmp .ne duN (.lstI (.nil))) [a0, a1, a2, some s, a4, a5, a6, some (.lst (ns.map wT)), a8, a9, a10] h).t = .ok (L.any (badW ns)) h := by
  have cc := ev_compF (D := D) (cl := callN D W n) (env := [a0, a1, a2, some s, a4, a5, a6, some (.lst (ns.map wT)), a8, a9, a10]) (h := h) (h1 := h) (i := 9) (it := .seq (.call 20 (.cons (.var 3) (.nil)))) (c := .cmp .nin (.var 9) (.var 7)) (e := .var 9) (vs := [9]) (xs := L.map wT) (p := pB ns) (g := fun y => y) rfl (by simp [e]) (by rw [List.length_map]; simp only [lim_eq]; omega) (fun y hy => by
    obtain ⟨w, hw, rfl⟩ := List.mem_map.mp hy
    have i := in_ns (h := h) (w := w) (ns := ns)
    simp [wipeT, i, pB]) (fun y hy _ => by simp [wipeT])
  rw [List.map_id'] at cc
  have ep : (L.map wT).filter (pB ns) = (L.filter (badW ns)).map wT := by
    rw [List.filter_map]
    rfl
  have nl : eqT h (.lst ((L.map wT).filter (pB ns))) (.lst []) = some (!(L.any (badW ns))) := by
    rw [At.list_nil (fun x hx => by
      obtain ⟨hx, _⟩ := List.mem_filter.mp hx
      obtain ⟨w, hw, rfl⟩ := List.mem_map.mp hx
      exact At.w (by rcases hL w hw with rfl | rfl <;> decide)), filter_nil]
    congr 1
    rw [List.any_map]
    rfl
  have ec : (ev D (callN D W n) duN [a0, a1, a2, some s, a4, a5, a6, some (.lst (ns.map wT)), a8, a9, a10] h).v = .ok (.lst ((L.map wT).filter (pB ns))) h := by
    unfold duN
    rw [cc, mkV_v']
  simp [ec, nl]
theorem duW_ok {n : Nat} {h : Hs} {L : List T} {s : T} {a0 a1 a2 a4 a5 a6 a7 a8 a9 a10 : Option T} (e : callN D W n 21 [s] h = .ok (.lst L) h) (hL : ∀ x ∈ L, At x) (hl : L.length ≤ 900000) :
    (ev D (callN D W n) (.cmp .ne duW (.lstI (.nil))) [a0, a1, a2, some s, a4, a5, a6, a7, a8, a9, a10] h).t = .ok (L.any pc) h := by
  have cc := ev_compF (D := D) (cl := callN D W n) (env := [a0, a1, a2, some s, a4, a5, a6, a7, a8, a9, a10]) (h := h) (h1 := h) (i := 10) (it := .seq (.call 21 (.cons (.var 3) (.nil)))) (c := .cmp .inn (.var 10) (.tup (.cons (.str "put") (.cons (.str "oust") (.cons (.str "count") (.cons (.str "free") (.cons (.str "visit") (.cons (.str "its") (.cons (.str "known") (.nil)))))))))) (e := .var 10) (vs := [10]) (xs := L) (p := pc) (g := fun y => y) rfl (by simp [e]) (by simp only [lim_eq]; omega) (fun y hy => by
    have i := in_tup (h := h) (x := y) (us := sevW.map wT) (hL y hy).2 (by decide)
    have i2 : inT h y (.tup (sevW.map wT)) = some (pc y) := i
    simp only [List.map_cons, List.map_nil] at i2
    simp [wipeT, i2]) (fun y hy _ => by simp [wipeT])
  rw [List.map_id'] at cc
  have nl : eqT h (.lst (L.filter pc)) (.lst []) = some (!(L.any pc)) := by
    rw [At.list_nil (fun x hx => hL x (List.mem_filter.mp hx).1), filter_nil]
  have ec : (ev D (callN D W n) duW [a0, a1, a2, some s, a4, a5, a6, a7, a8, a9, a10] h).v = .ok (.lst (L.filter pc)) h := by
    unfold duW
    rw [cc, mkV_v']
  simp [ec, nl]
theorem duA_loop {n : Nat} (hn : 22 ≤ n) {ns : List String} : ∀ (l : List SI) (m : Nat) (h : Hs) (a0 a1 a2 o3 a4 a5 a6 o8 a9 a10 : Option T), (∀ i ∈ l, LOk i) →
    ∃ o3' o8', forL (.tp [8, 3]) (fun env2 h2 => evSs D W (callN D W n) (.cons (duS "came") (.nil)) env2 h2) (enumT m (l.map SI.s)) [a0, a1, a2, o3, a4, a5, a6, some (.lst (ns.map wT)), o8, a9, a10] h =
      dwS "kind" (firstN ns "came" m l) [a0, a1, a2, o3', a4, a5, a6, some (.lst (ns.map wT)), o8', a9, a10] h
  | [], m, h, a0, a1, a2, o3, a4, a5, a6, o8, a9, a10, _ => ⟨o3, o8, rfl⟩
  | i :: l, m, h, a0, a1, a2, o3, a4, a5, a6, o8, a9, a10, hk => by
    obtain ⟨ok, c, e, q, d, he, hq, hs⟩ := hk i List.mem_cons_self
    obtain ⟨L, hL, bL, lL, eL⟩ := lnames_ok (W := W) hs ok he hq
    have t := duN_ok (W := W) (ns := ns) (a0 := a0) (a1 := a1) (a2 := a2) (a4 := a4) (a5 := a5) (a6 := a6) (a8 := some (.int (m : Int))) (a9 := a9) (a10 := a10) (eL n h (by omega)) hL lL
    rw [bL] at t
    rw [List.map_cons]
    simp only [enumT, firstN]
    have bd : bindG (.tp [8, 3]) (.tup [.int (m : Int), i.s]) [a0, a1, a2, o3, a4, a5, a6, some (.lst (ns.map wT)), o8, a9, a10] = some [a0, a1, a2, some i.s, a4, a5, a6, some (.lst (ns.map wT)), some (.int (m : Int)), a9, a10] := rfl
    cases z : nbI ns i with
    | true =>
      rw [z] at t
      refine ⟨none, none, ?_⟩
      rw [forT_ret bd (v := .tup [wT "kind", .tup [wT "came", .int (m : Int)], wT "name"]) (h2 := h) (by simp only [duS, evSs_cons, evSs_nil, evS_ifs, t]; simp)]
      simp [dwS]
    | false =>
      rw [z] at t
      obtain ⟨p3, p8, e2⟩ := duA_loop hn l (m + 1) h a0 a1 a2 (some i.s) a4 a5 a6 (some (.int (m : Int))) a9 a10 fun j hj => hk j (List.mem_cons_of_mem _ hj)
      refine ⟨p3, p8, ?_⟩
      rw [forT_nx bd (env2 := [a0, a1, a2, some i.s, a4, a5, a6, some (.lst (ns.map wT)), some (.int (m : Int)), a9, a10]) (h2 := h) (by simp only [duS, evSs_cons, evSs_nil, evS_ifs, t]; simp)]
      simpa using e2
theorem duT_loop {n : Nat} (hn : 22 ≤ n) {ns : List String} : ∀ (l : List SI) (m : Nat) (h : Hs) (a0 a1 a2 o3 a4 a5 a6 o8 a9 a10 : Option T), (∀ i ∈ l, LOk i) →
    ∃ o3' o8', forL (.tp [8, 3]) (fun env2 h2 => evSs D W (callN D W n) (.cons (duS "turn") (.cons duV (.nil))) env2 h2) (enumT m (l.map SI.s)) [a0, a1, a2, o3, a4, a5, a6, some (.lst (ns.map wT)), o8, a9, a10] h =
      dwS "kind" (firstT ns m l) [a0, a1, a2, o3', a4, a5, a6, some (.lst (ns.map wT)), o8', a9, a10] h
  | [], m, h, a0, a1, a2, o3, a4, a5, a6, o8, a9, a10, _ => ⟨o3, o8, rfl⟩
  | i :: l, m, h, a0, a1, a2, o3, a4, a5, a6, o8, a9, a10, hk => by
    obtain ⟨ok, c, e, q, d, he, hq, hs⟩ := hk i List.mem_cons_self
    obtain ⟨L, hL, bL, lL, eL⟩ := lnames_ok (W := W) hs ok he hq
    obtain ⟨L2, hL2, bL2, lL2, eL2⟩ := lwords_ok (W := W) hs ok he hq
    have t := duN_ok (W := W) (ns := ns) (a0 := a0) (a1 := a1) (a2 := a2) (a4 := a4) (a5 := a5) (a6 := a6) (a8 := some (.int (m : Int))) (a9 := a9) (a10 := a10) (eL n h (by omega)) hL lL
    rw [bL] at t
    have t2 := duW_ok (W := W) (a0 := a0) (a1 := a1) (a2 := a2) (a4 := a4) (a5 := a5) (a6 := a6) (a7 := some (.lst (ns.map wT))) (a8 := some (.int (m : Int))) (a9 := a9) (a10 := a10) (eL2 n h (by omega)) hL2 lL2
    rw [bL2] at t2
    rw [List.map_cons]
    simp only [enumT, firstT]
    have bd : bindG (.tp [8, 3]) (.tup [.int (m : Int), i.s]) [a0, a1, a2, o3, a4, a5, a6, some (.lst (ns.map wT)), o8, a9, a10] = some [a0, a1, a2, some i.s, a4, a5, a6, some (.lst (ns.map wT)), some (.int (m : Int)), a9, a10] := rfl
    cases z : nbI ns i with
    | true =>
      rw [z] at t
      refine ⟨none, none, ?_⟩
      rw [forT_ret bd (v := .tup [wT "kind", .tup [wT "turn", .int (m : Int)], wT "name"]) (h2 := h) (by simp only [duS, evSs_cons, evSs_nil, evS_ifs, t]; simp)]
      simp [dwS]
    | false =>
      rw [z] at t
      have s1 : evS D W (callN D W n) (duS "turn") [a0, a1, a2, some i.s, a4, a5, a6, some (.lst (ns.map wT)), some (.int (m : Int)), a9, a10] h = .nx [a0, a1, a2, some i.s, a4, a5, a6, some (.lst (ns.map wT)), some (.int (m : Int)), a9, a10] h := by
        simp only [duS, evS_ifs, t]
        simp
      cases z2 : cmI i with
      | true =>
        rw [z2] at t2
        refine ⟨none, none, ?_⟩
        rw [forT_ret bd (v := .tup [wT "kind", .tup [wT "turn", .int (m : Int)], wT "come"]) (h2 := h) (by
          rw [evSs_cons, s1, andThen_nx]
          simp only [duV, evSs_cons, evSs_nil, evS_ifs, t2]
          simp)]
        simp [dwS]
      | false =>
        rw [z2] at t2
        obtain ⟨p3, p8, e2⟩ := duT_loop hn l (m + 1) h a0 a1 a2 (some i.s) a4 a5 a6 (some (.int (m : Int))) a9 a10 fun j hj => hk j (List.mem_cons_of_mem _ hj)
        refine ⟨p3, p8, ?_⟩
        rw [forT_nx bd (env2 := [a0, a1, a2, some i.s, a4, a5, a6, some (.lst (ns.map wT)), some (.int (m : Int)), a9, a10]) (h2 := h) (by
          rw [evSs_cons, s1, andThen_nx]
          simp only [duV, evSs_cons, evSs_nil, evS_ifs, t2]
          simp)]
        simpa using e2
theorem due_ok {c1 c2 : Bool} {e q d : Nat} {slots most period : Int} {nums : List (String × Int × Int)} {came turn : List T} {cs ts : List SI} {kc kt bc bt : Nat} (s : IsTr c1 c2 e q d slots most period nums came turn) (b : Bod came turn cs ts kc kt bc bt) (he : e ≤ 12) (hq : q ≤ 12) (hd : d ≤ 12) (lok : ∀ i ∈ cs ++ ts, LOk i) {n : Nat} (hn : 23 ≤ n) (h : Hs) :
    callN D W n 7 [trT slots most period nums came turn] h = .ok (dueT (trT slots most period nums came turn) (lgO (limO (cs.length + ts.length) bc bt (cs ++ ts))) (firstN (nums.map (·.1)) "came" 0 cs) (decide (period = 0) && !decide (turn = [])) (firstT (nums.map (·.1)) 0 ts)) h := by
  obtain ⟨n, rfl⟩ : ∃ m, n = m + 1 := ⟨n - 1, by omega⟩
  have kl := b.pkl
  have ln := b.pln
  have al1 := all_ok (W := W) (n := n) b.pca (by omega) (by rw [List.length_map]; omega) h
  have al2 := all_ok (W := W) (n := n) b.ptu (by omega) (by rw [List.length_map]; omega) h
  have bk1 := blk_ok (W := W) (n := n) b.pca b.pbc (by omega) (by rw [List.length_map]; omega) h
  have bk2 := blk_ok (W := W) (n := n) b.ptu b.pbt (by omega) (by rw [List.length_map]; omega) h
  have mx := max_3 (h := h) (a := bc) (b := bt)
  obtain ⟨c3, c4, c5, c6, f1⟩ := duB_loop (W := W) (n := n) (by omega) (cs ++ ts) h (some (trT slots most period nums came turn)) (some (.lst (cs.map SI.s))) (some (.lst (ts.map SI.s))) none none none none none none none none lok
  obtain ⟨d3, d8, f2⟩ := duA_loop (W := W) (n := n) (by omega) (ns := nums.map (·.1)) cs 0 h (some (trT slots most period nums came turn)) (some (.lst (cs.map SI.s))) (some (.lst (ts.map SI.s))) c3 c4 c5 c6 none none none fun i hi => lok i (List.mem_append_left _ hi)
  obtain ⟨e3, e8, f3⟩ := duT_loop (W := W) (n := n) (by omega) (ns := nums.map (·.1)) ts 0 h (some (trT slots most period nums came turn)) (some (.lst (cs.map SI.s))) (some (.lst (ts.map SI.s))) d3 c4 c5 c6 d8 none none fun i hi => lok i (List.mem_append_right _ hi)
  have tn : eqT h (.tup turn) (.tup []) = some (decide (turn = [])) := tup_nil (d := 60) ((Shp.tup fun t ht => (s.tu.1 t ht).shp).mono (by omega)) (by decide)
  have hl : cs.length + ts.length ≤ 1000000 := by omega
  have g1 : evS D W (callN D W n) (.for_ (.nm 3) (.seq (.bin .add (.var 1) (.var 2))) duB) [some (trT slots most period nums came turn), some (.lst (cs.map SI.s)), some (.lst (ts.map SI.s)), none, none, none, none, none, none, none, none] h = dwS "large" (lgO (firstO (cs ++ ts))) [some (trT slots most period nums came turn), some (.lst (cs.map SI.s)), some (.lst (ts.map SI.s)), c3, c4, c5, c6, none, none, none, none] h := by
    rw [evS_for, ← f1]
    simp [hl]
  have g2 : evS D W (callN D W n) (.for_ (.tp [8, 3]) (.enum (.var 1)) (.cons (duS "came") (.nil))) [some (trT slots most period nums came turn), some (.lst (cs.map SI.s)), some (.lst (ts.map SI.s)), c3, c4, c5, c6, some (.lst ((nums.map (·.1)).map wT)), none, none, none] h = dwS "kind" (firstN (nums.map (·.1)) "came" 0 cs) [some (trT slots most period nums came turn), some (.lst (cs.map SI.s)), some (.lst (ts.map SI.s)), d3, c4, c5, c6, some (.lst ((nums.map (·.1)).map wT)), d8, none, none] h := by
    rw [evS_for, evI_enum (ts := cs.map SI.s) (h1 := h) (by simp), R.toS_ok]
    exact f2
  have g3 : evS D W (callN D W n) (.for_ (.tp [8, 3]) (.enum (.var 2)) (.cons (duS "turn") (.cons duV (.nil)))) [some (trT slots most period nums came turn), some (.lst (cs.map SI.s)), some (.lst (ts.map SI.s)), d3, c4, c5, c6, some (.lst ((nums.map (·.1)).map wT)), d8, none, none] h = dwS "kind" (firstT (nums.map (·.1)) 0 ts) [some (trT slots most period nums came turn), some (.lst (cs.map SI.s)), some (.lst (ts.map SI.s)), e3, c4, c5, c6, some (.lst ((nums.map (·.1)).map wT)), e8, none, none] h := by
    rw [evS_for, evI_enum (ts := ts.map SI.s) (h1 := h) (by simp), R.toS_ok]
    exact f3
  have nm : ev D (callN D W n) (.comp false (.nm 3) (.seq (.ix (.var 0) (.int 2))) (.absent) (.ix (.var 3) (.int 0)) [3]) [some (trT slots most period nums came turn), some (.lst (cs.map SI.s)), some (.lst (ts.map SI.s)), c3, c4, c5, c6, none, none, none, none] h = mkV (.ok (.lst ((nums.map (·.1)).map wT)) h) := by
    have cc := ev_compM (D := D) (cl := callN D W n) (env := [some (trT slots most period nums came turn), some (.lst (cs.map SI.s)), some (.lst (ts.map SI.s)), c3, c4, c5, c6, none, none, none, none]) (h := h) (h1 := h) (i := 3) (it := .seq (.ix (.var 0) (.int 2))) (e := .ix (.var 3) (.int 0)) (vs := [3]) (xs := nums.map numT) (g := fun t => match t with
      | .tup (w :: _) => w
      | _ => .non) (by simp [trT]) (by have := s.nu.1; simp; omega) (fun t ht => by
        obtain ⟨y, hy, rfl⟩ := List.mem_map.mp ht
        simp [wipeT, numT])
    rw [cc, List.map_map, List.map_map]
    rfl
  have pp : ∀ (b1 b2 b3 b4 b5 b6 b7 b8 b9 b10 : Option T), evS D W (callN D W n) duP [some (trT slots most period nums came turn), b1, b2, b3, b4, b5, b6, b7, b8, b9, b10] h = dwS "kind" (if (decide (period = 0) && !decide (turn = [])) = true then some [.tup [wT "turn", .int 0], wT "period"] else none) [some (trT slots most period nums came turn), b1, b2, b3, b4, b5, b6, b7, b8, b9, b10] h := by
    intro b1 b2 b3 b4 b5 b6 b7 b8 b9 b10
    by_cases p0 : period = 0 <;> by_cases q0 : turn = [] <;> simp [duP, trT, p0, q0, tn, dwS] <;> simp [q0, tn, dwS] at tn ⊢ <;> simp [tn]
  have pp1 := pp (some (.lst (cs.map SI.s))) (some (.lst (ts.map SI.s))) d3 c4 c5 c6 (some (.lst ((nums.map (·.1)).map wT))) d8 none none
  rw [callN_eq (fn := ⟨none, "_law_due_of", 1, 11, f__law_due_of⟩) rfl rfl (by decide), du_body]
  unfold limO
  generalize hT : trT slots most period nums came turn = tr at *
  have i3 : ixT h tr (.int 3) = some (.tup came) := by rw [← hT]; rfl
  have i5 : ixT h tr (.int 5) = some (.tup turn) := by rw [← hT]; rfl
  have ll1 : ((cs.map SI.s).length : Int) = (cs.length : Int) := by simp
  have ll2 : ((ts.map SI.s).length : Int) = (ts.length : Int) := by simp
  generalize cs.map SI.s = us at *
  generalize ts.map SI.s = vs at *
  generalize (nums.map (·.1)).map wT = nl at *
  generalize firstN (nums.map (·.1)) "came" 0 cs = fa at *
  generalize firstT (nums.map (·.1)) 0 ts = fb at *
  generalize (decide (period = 0) && !decide (turn = [])) = per at *
  generalize firstO (cs ++ ts) = fo at *
  have q0 : ∀ nc : Nat, nc = cs.length + ts.length → (((us.length : Nat) : Int) + ((vs.length : Nat) : Int) = (nc : Int)) := fun nc e => by omega
  by_cases q1 : 30 < cs.length + ts.length
  · have q1' : (30 : Int) < (us.length : Int) + (vs.length : Int) := by omega
    simp [i3, i5, al1, al2, bindTs, q1, q1', lgO, dueT]
  have q1' : ¬ (30 : Int) < (us.length : Int) + (vs.length : Int) := by omega
  rw [if_neg q1]
  by_cases q2 : 4 < max bc bt
  · have q2' : (4 : Int) < ((max bc bt : Nat) : Int) := by omega
    rw [if_pos q2]
    simp only [evSs_cons, evSs_nil, evS_par, evS_ifs, ev_call, ev_cmp, ev_bin, ev_bi, evL_cons, evL_nil, ev_var, ev_ix, ev_int]
    simp [i3, i5, al1, al2, bindTs, q1']
    simp [i3, i5, bk1, bk2]
    rw [mx]
    simp [q2', lgO, dueT]
  · have q2' : ¬ (4 : Int) < ((max bc bt : Nat) : Int) := by omega
    rw [if_neg q2]
    simp only [evSs_cons, evSs_nil, evS_par, evS_ifs, ev_call, ev_cmp, ev_bin, ev_bi, evL_cons, evL_nil, ev_var, ev_ix, ev_int]
    simp [i3, i5, al1, al2, bindTs, q1']
    simp [i3, i5, bk1, bk2]
    rw [mx]
    simp [q2', g1]
    cases fo with
    | some p => simp [dwS, lgO, dueT]
    | none =>
      simp [dwS, lgO, nm, g2]
      cases fa with
      | some xs => simp [dwS, dueT]
      | none =>
        simp [dwS, pp1]
        cases per with
        | true => simp [dwS, dueT]
        | false =>
          simp [dwS, g3]
          cases fb with
          | some xs => simp [dwS, dueT]
          | none => simp [dwS, dueT]
end
end K06
end

section
set_option Elab.async false
set_option linter.all false
set_option maxRecDepth 10000
/-! K06m: how long repr writes, closely; what the package says, as the law tells it; alike. -/
namespace Gt
open PySem Fs Fp
def Rz (n : Nat) (t : T) : Prop := ∃ X d, toD t = some X ∧ Good d n X
def RzL (n : Nat) (ts : List T) : Prop := ∃ xs d, toDs ts = some xs ∧ PyData.canLayAll0 xs = true ∧ PyData.depthAll xs ≤ d ∧ PyData.showableAll xs = true ∧ ((PyData.shownAll xs).map (·.length)).sum + 2 * (PyData.shownAll xs).length ≤ n ∧ ∀ y ∈ PyData.shownAll xs, okS y
theorem Rz.mono {n m : Nat} {t : T} (r : Rz n t) (h : n ≤ m) : Rz m t := by
  obtain ⟨X, d, e, g⟩ := r
  exact ⟨X, d, e, g.mono (Nat.le_refl _) h⟩
theorem RzL.mono {n m : Nat} {t : List T} (r : RzL n t) (h : n ≤ m) : RzL m t := by
  obtain ⟨X, d, e, a, b, c, f, g⟩ := r
  exact ⟨X, d, e, a, b, c, Nat.le_trans f h, g⟩
theorem RzL.nil : RzL 0 [] := ⟨[], 0, by simp [toDs], by simp [PyData.canLayAll0], by simp [PyData.depthAll], by simp [PyData.showableAll], by simp [PyData.shownAll], by simp [PyData.shownAll]⟩
theorem RzL.cons {n m : Nat} {t : T} {r : List T} (a : Rz n t) (b : RzL m r) : RzL (n + 2 + m) (t :: r) := by
  obtain ⟨X, d, e, g⟩ := a
  obtain ⟨xs, d', e', l, dp, s, ln, k⟩ := b
  refine ⟨X :: xs, max d d', by simp [toDs, e, e'], by simp [PyData.canLayAll0, g.lay, l], ?_, by simp [PyData.showableAll, g.vis, s], ?_, ?_⟩
  · simp only [PyData.depthAll]
    have := g.dep
    omega
  · have := g.len
    simp only [PyData.shownAll, List.map_cons, List.sum_cons, List.length_cons]
    omega
  · intro y hy
    simp only [PyData.shownAll, List.mem_cons] at hy
    rcases hy with rfl | hy
    · exact g.asc
    · exact k y hy
theorem RzL.tup {n : Nat} {ts : List T} (a : RzL n ts) : Rz (n + 3) (.tup ts) := by
  obtain ⟨xs, d, e, l, dp, s, ln, k⟩ := a
  exact ⟨.tuple xs, d + 1, by simp [toD, e], good_tup l dp s ln k⟩
theorem RzL.all {n : Nat} : ∀ ts : List T, (∀ t ∈ ts, Rz n t) → RzL (ts.length * (n + 2)) ts
  | [], _ => RzL.nil.mono (Nat.zero_le _)
  | t :: r, h => (RzL.cons (h t List.mem_cons_self) (RzL.all r fun t ht => h t (List.mem_cons_of_mem _ ht))).mono (by rw [List.length_cons, Nat.add_mul]; omega)
theorem Rz.body {n : Nat} {ts : List T} (h : ∀ t ∈ ts, Rz n t) (m : Nat) (hl : ts.length ≤ m) : Rz (m * (n + 2) + 3) (.tup ts) :=
  (RzL.all ts h).tup.mono (Nat.add_le_add_right (Nat.mul_le_mul_right _ hl) 3)
theorem Rz.t1 {a : Nat} {x : T} (p : Rz a x) : Rz (a + 5) (.tup [x]) := ((RzL.cons p RzL.nil).tup).mono (by omega)
theorem Rz.t2 {a b : Nat} {x y : T} (p : Rz a x) (q : Rz b y) : Rz (a + b + 7) (.tup [x, y]) := ((RzL.cons p (RzL.cons q RzL.nil)).tup).mono (by omega)
theorem Rz.t3 {a b c : Nat} {x y z : T} (p : Rz a x) (q : Rz b y) (r : Rz c z) : Rz (a + b + c + 9) (.tup [x, y, z]) := ((RzL.cons p (RzL.cons q (RzL.cons r RzL.nil))).tup).mono (by omega)
theorem Rz.t4 {a b c d : Nat} {x y z w : T} (p : Rz a x) (q : Rz b y) (r : Rz c z) (s : Rz d w) : Rz (a + b + c + d + 11) (.tup [x, y, z, w]) := ((RzL.cons p (RzL.cons q (RzL.cons r (RzL.cons s RzL.nil)))).tup).mono (by omega)
abbrev allW : List String := ["number", "least", "most", "its", "name", "n1", "spill", "greater", "less", "lesser", "plus", "below", "same", "full", "known", "not", "and", "or", "halve", "clear", "free", "visit", "visitall", "put", "oust", "count", "lower", "set", "if", "came", "turn", "period", "come", "large", "kind", "told", "lines", "blocks", "deep", "tests", "parts", "always", "in", "out", "visits"]
theorem allW_ok : ∀ w ∈ allW, w.toList.all (fun c => decide (c.toNat < 128)) = true ∧ (reprText (Str.ofString w)).length ≤ 10 := by decide +kernel
theorem Rz.w {w : String} (h : w ∈ allW) : Rz 10 (wT w) := by
  obtain ⟨h1, h2⟩ := allW_ok w h
  have ok : okS (Str.ofString w) := by
    unfold okS
    rw [ofS_tl]
    intro c hc
    obtain ⟨x, hx, rfl⟩ := List.mem_map.mp hc
    exact of_decide_eq_true (List.all_eq_true.mp h1 x hx)
  have g := Good.str ok
  exact ⟨.str (Str.ofString w), 0, by simp [toD], g.lay, g.dep, g.vis, by simpa [PyData.shown] using h2, g.asc⟩
theorem Rz.i {i : Int} (h : 0 ≤ i) (h2 : i < 100000) : Rz 5 (.int i) := by
  obtain ⟨X, e, g⟩ := Shp.int (i := i) (by omega)
  have : X = .int i := by simpa [toD] using e.symm
  subst this
  refine ⟨.int i, 0, e, g.lay, g.dep, g.vis, ?_, g.asc⟩
  simp only [PyData.shown]
  rw [int_Sx, Sx_len]
  have := TL.numL_len (k := 5) (by decide) (show i.natAbs < 10 ^ 5 by omega)
  unfold intL
  rw [if_neg (by omega)]
  first
    | exact this
    | (simp; omega)
def XB (e : Nat) : Nat := 46 * 2 ^ e - 19
theorem XB_lo (e : Nat) : 27 ≤ XB e := by
  have p1 : 1 ≤ 2 ^ e := Nat.pos_of_ne_zero (by simp)
  unfold XB
  omega
theorem XB_s (e : Nat) : XB (e + 1) = 2 * XB e + 19 := by
  have p1 : 1 ≤ 2 ^ e := Nat.pos_of_ne_zero (by simp)
  unfold XB
  rw [Nat.pow_succ]
  omega
theorem XB_mono {a b : Nat} (h : a ≤ b) : XB a ≤ XB b := by
  unfold XB
  have : 2 ^ a ≤ 2 ^ b := Nat.pow_le_pow_right (by decide) h
  omega
theorem IsX.rz {c : Bool} {d : Nat} {t : T} (s : IsX c d t) : Rz (XB d) t := by
  induction s with
  | num d n h1 h2 => exact (Rz.t2 (Rz.w (by decide)) (Rz.i h1 (by omega))).mono (by have := XB_lo d; omega)
  | lea d w h => exact (Rz.t1 (Rz.w (by rcases h with rfl | rfl <;> decide))).mono (by have := XB_lo d; omega)
  | its d h => exact (Rz.t1 (Rz.w (by decide))).mono (by have := XB_lo d; omega)
  | nam d w h => exact (Rz.t2 (Rz.w (by decide)) (Rz.w (by rcases h with rfl | rfl <;> decide))).mono (by have := XB_lo d; omega)
  | bin d w a b h _ _ ia ib => exact (Rz.t3 (Rz.w (by rcases h with rfl | rfl | rfl | rfl <;> decide)) ia ib).mono (by rw [XB_s]; omega)
theorem IsT.rz {c : Bool} {e d : Nat} {t : T} (s : IsT c e d t) : Rz (XB (e + d + 1)) t := by
  induction s with
  | cmp d w a b h sa sb => exact (Rz.t3 (Rz.w (by rcases h with rfl | rfl <;> decide)) sa.rz sb.rz).mono (by rw [XB_s]; have := XB_mono (show e ≤ e + d by omega); omega)
  | full d => exact (Rz.t1 (Rz.w (by decide))).mono (by have := XB_lo (e + d + 1); omega)
  | known d h => exact (Rz.t1 (Rz.w (by decide))).mono (by have := XB_lo (e + d + 1); omega)
  | nott d a _ ia => exact (Rz.t2 (Rz.w (by decide)) ia).mono (by rw [show e + (d + 1) + 1 = e + d + 1 + 1 by omega, XB_s (e + d + 1)]; omega)
  | bin d w a b h _ _ ia ib => exact (Rz.t3 (Rz.w (by rcases h with rfl | rfl <;> decide)) ia ib).mono (by rw [show e + (d + 1) + 1 = e + d + 1 + 1 by omega, XB_s (e + d + 1)]; omega)
def SBd (e q : Nat) : Nat → Nat
  | 0 => XB e + 29
  | d + 1 => 6 * SBd e q d + XB (e + q + 1) + 39
theorem SB_lo (e q d : Nat) : XB e + 29 ≤ SBd e q d := by
  induction d with
  | zero => exact Nat.le_refl _
  | succ d ih => simp only [SBd]; omega
theorem IsS.rz {c : Bool} {e q d : Nat} {t : T} (s : IsS c e q d t) : Rz (SBd e q d) t := by
  have w : ∀ {w : String}, w ∈ allW → Rz 10 (wT w) := Rz.w
  induction s with
  | one d v h => exact (Rz.t1 (Rz.w (by rcases h with (rfl | rfl) | ⟨_, rfl | rfl⟩ <;> decide))).mono (by have := SB_lo e q d; omega)
  | ex d v a h sa => exact (Rz.t2 (Rz.w (by rcases h with rfl | ⟨_, rfl | rfl | rfl⟩ <;> decide)) sa.rz).mono (by have := SB_lo e q d; omega)
  | lower d a n sa h1 h2 => exact (Rz.t3 (Rz.w (by decide)) sa.rz (Rz.i h1 (by omega))).mono (by have := SB_lo e q d; omega)
  | set d v a h sa => exact (Rz.t3 (Rz.w (by decide)) (Rz.w (by rcases h with rfl | rfl <;> decide)) sa.rz).mono (by have := SB_lo e q d; omega)
  | iff d t b1 b2 st _ _ l1 l2 i1 i2 => exact (Rz.t4 (Rz.w (by decide)) st.rz (Rz.body i1 3 l1) (Rz.body i2 3 l2)).mono (by simp only [SBd]; omega)
theorem rz_good {D n : Nat} {t : T} (s : Shp D t) (r : Rz n t) : ∃ X, toD t = some X ∧ Good D n X := by
  obtain ⟨X, e, g⟩ := s
  obtain ⟨Y, d, e', g'⟩ := r
  rw [e] at e'
  cases e'
  exact ⟨X, e, g.lay, g.dep, g.vis, g'.len, g.asc⟩
end Gt
namespace K06
open PySem Fs Fp Gt
theorem alike_ok {W n D' m : Nat} {h : Hs} {t : T} (s : Shp D' t) (hD : D' ≤ 64) (r : Rz m t) (hm : m ≤ 1000000) (ht : ∀ k, t ≠ .ref k) : callN D W (n + 1) 8 [t, t] h = .ok (.bl true) h := by
  obtain ⟨X, e, g⟩ := rz_good s r
  have et : toDh h t = some X := by
    cases t with
    | ref k => exact absurd rfl (ht k)
    | _ => exact e
  have rp := repr_good et g hD hm
  have eq := eqT_str h X.shown X.shown (okS_str g.asc) (okS_str g.asc)
  rw [decide_eq_true rfl] at eq
  rw [callN_eq (fn := ⟨none, "_law_alike", 2, 2, f__law_alike⟩) rfl rfl (by decide)]
  simp [f__law_alike, rp, eq]
theorem firstN_two {ns : List String} {tag : String} : ∀ {l : List SI} {n : Nat} {xs : List T}, firstN ns tag n l = some xs → ∃ m : Nat, xs = [.tup [wT tag, .int (m : Int)], wT "name"] ∧ m < n + l.length
  | [], n, xs, h => by cases h
  | i :: l, n, xs, h => by
    simp only [firstN] at h
    split at h
    · cases h
      exact ⟨n, rfl, by simp⟩
    · obtain ⟨m, e, hm⟩ := firstN_two h
      exact ⟨m, e, by simp; omega⟩
theorem firstT_two {ns : List String} : ∀ {l : List SI} {n : Nat} {xs : List T}, firstT ns n l = some xs → ∃ (m : Nat) (w : String), xs = [.tup [wT "turn", .int (m : Int)], wT w] ∧ (w = "name" ∨ w = "come") ∧ m < n + l.length
  | [], n, xs, h => by cases h
  | i :: l, n, xs, h => by
    simp only [firstT] at h
    split at h
    · cases h
      exact ⟨n, "name", rfl, .inl rfl, by simp⟩
    · split at h
      · cases h
        exact ⟨n, "come", rfl, .inr rfl, by simp⟩
      · obtain ⟨m, w, e, hw, hm⟩ := firstT_two h
        exact ⟨m, w, e, hw, by simp; omega⟩
theorem told_of {W n : Nat} {h h' : Hs} {tr : T} {lim : Option (String × Int)} {a b : Option (List T)} {per : Bool} (ha : ∀ xs, a = some xs → ∃ y z, xs = [y, z]) (hb : ∀ xs, b = some xs → ∃ y z, xs = [y, z])
    (e : callN D W n 13 [tr] h = outR 2 3 tr (lgO lim) a per b h') : callN D W (n + 1) 9 [tr] h = .ok (dueT tr (lgO lim) a per b) h' := by
  rw [callN_eq (fn := ⟨none, "_law_told_of", 1, 2, f__law_told_of⟩) rfl rfl (by decide)]
  have ok : callN D W n 13 [tr] h = .ok tr h' → evSs D W (callN D W n) f__law_told_of [some tr, none] h = .ret (.tup [wT "told", tr]) h' := fun e => by
    unfold f__law_told_of
    rw [evSs_cons, try_ret (v := .tup [wT "told", tr]) (h1 := h') (by simp [e]), andThen_ret]
  have kd : ∀ {y z : T}, callN D W n 13 [tr] h = .exc 3 [y, z] h' → evSs D W (callN D W n) f__law_told_of [some tr, none] h = .ret (.tup [wT "kind", y, z]) h' := fun {y z} e => by
    unfold f__law_told_of
    rw [evSs_cons, try_exc (c := 3) (xs := [y, z]) (env1 := [some tr, none]) (h1 := h') (by simp [e]) (by decide)]
    have x1 : xCal D 3 [y, z] 0 [.str "where"] h' = .ok y h' := rfl
    have x2 : xCal D 3 [y, z] 0 [.str "fault"] h' = .ok z h' := rfl
    simp [x1, x2, SR.offName]
  have lg : ∀ {y z : T}, callN D W n 13 [tr] h = .exc 2 [y, z] h' → evSs D W (callN D W n) f__law_told_of [some tr, none] h = .ret (.tup [wT "large", y, z]) h' := fun {y z} e => by
    unfold f__law_told_of
    rw [evSs_cons, try_skip (c := 2) (xs := [y, z]) (env1 := [some tr, none]) (h1 := h') (by simp [e]) (by decide), try_exc (c := 2) (xs := [y, z]) (env1 := [some tr, none]) (h1 := h') (by simp [e]) (by decide)]
    have x1 : xCal D 2 [y, z] 0 [.str "what"] h' = .ok y h' := rfl
    have x2 : xCal D 2 [y, z] 0 [.str "limit"] h' = .ok z h' := rfl
    simp [x1, x2, SR.offName]
  show (evSs D W (callN D W n) f__law_told_of [some tr, none] h).fin = _
  cases lim with
  | some p =>
    rw [lg (y := wT p.1) (z := .int p.2) e]
    rfl
  | none =>
    cases a with
    | some xs =>
      obtain ⟨y, z, rfl⟩ := ha xs rfl
      rw [kd (y := y) (z := z) e]
      rfl
    | none =>
      cases per with
      | true =>
        rw [kd (y := .tup [wT "turn", .int 0]) (z := wT "period") e]
        rfl
      | false =>
        cases b with
        | some xs =>
          obtain ⟨y, z, rfl⟩ := hb xs rfl
          rw [kd (y := y) (z := z) e]
          rfl
        | none =>
          rw [ok e]
          rfl
end K06
end

section
set_option Elab.async false
set_option linter.all false
set_option maxRecDepth 10000
/-! K06n: a statement at a limit, or beyond. -/
namespace K06
open PySem Fs Fp Gt
def laB1 : Ss := .cons (.set 1 (.ite (.cmp .eq (.call 3 (.cons (.var 0) (.cons (.int 2) (.nil)))) (.int 0)) (.tup (.cons (.str "plus") (.cons (.var 1) (.cons (.tup (.cons (.str "number") (.cons (.int 1) (.nil)))) (.nil))))) (.tup (.cons (.str "less") (.cons (.tup (.cons (.str "most") (.nil))) (.cons (.var 1) (.nil))))))) (
  .cons (.set 2 (.ite (.cmp .eq (.call 3 (.cons (.var 0) (.cons (.int 2) (.nil)))) (.int 0)) (.tup (.cons (.str "not") (.cons (.var 2) (.nil)))) (.tup (.cons (.str "or") (.cons (.tup (.cons (.str "full") (.nil))) (.cons (.var 2) (.nil))))))) (.nil))
def laB2 : Ss := .cons (.par [5, 6] (.cons (.tup (.cons (.str "plus") (.cons (.var 5) (.cons (.var 5) (.nil))))) (.cons (.tup (.cons (.str "and") (.cons (.var 6) (.cons (.var 6) (.nil))))) (.nil)))) (.nil)
def laB3 : Ss := .cons (.set 7 (.tup (.cons (.str "if") (.cons (.tup (.cons (.str "full") (.nil))) (.cons (.tup (.nil)) (.cons (.tup (.cons (.var 7) (.nil))) (.nil))))))) (.nil)
def laW : E := .call 5 (.cons (.var 0) (.cons (.lstI (.cons (.tup (.cons (.str "less") (.cons (.var 5) (.cons (.tup (.cons (.str "plus") (.cons (.tup (.cons (.str "most") (.nil))) (.cons (.tup (.cons (.str "least") (.nil))) (.nil))))) (.nil))))) (.cons (.tup (.cons (.str "less") (.cons (.var 5) (.cons (.tup (.cons (.str "plus") (.cons (.tup (.cons (.str "plus") (.cons (.tup (.cons (.str "most") (.nil))) (.cons (.tup (.cons (.str "least") (.nil))) (.nil))))) (.cons (.tup (.cons (.str "plus") (.cons (.tup (.cons (.str "most") (.nil))) (.cons (.tup (.cons (.str "plus") (.cons (.tup (.cons (.str "least") (.nil))) (.cons (.tup (.cons (.str "most") (.nil))) (.nil))))) (.nil))))) (.nil))))) (.nil))))) (.nil)))) (.nil)))
def laR : E := .call 5 (.cons (.var 0) (.cons (.lstI (.cons (.tup (.cons (.str "lower") (.cons (.var 1) (.cons (.int 0) (.nil))))) (.cons (.tup (.cons (.str "if") (.cons (.var 2) (.cons (.tup (.nil)) (.cons (.tup (.nil)) (.nil)))))) (.cons (.tup (.cons (.str "visitall") (.cons (.var 5) (.nil)))) (.cons (.tup (.cons (.str "if") (.cons (.call 5 (.cons (.var 0) (.cons (.lstI (.cons (.var 6) (.cons (.tup (.cons (.str "or") (.cons (.var 6) (.cons (.tup (.cons (.str "full") (.nil))) (.nil))))) (.nil)))) (.nil)))) (.cons (.tup (.nil)) (.cons (.tup (.nil)) (.nil)))))) (.cons (.var 7) (.nil))))))) (.nil)))
theorem la_body : f__law_large = .cons (.par [1, 2, 3] (.cons (.tup (.cons (.str "least") (.nil))) (.cons (.tup (.cons (.str "full") (.nil))) (.cons (.call 3 (.cons (.var 0) (.cons (.int 5) (.nil)))) (.nil))))) (
  .cons (.for_ (.nm 4) (.rng (.call 5 (.cons (.var 0) (.cons (.lstI (.cons (.int 5) (.cons (.int 6) (.cons (.int 7) (.nil))))) (.nil))))) laB1) (
  .cons (.setT [5, 6] (.tup (.cons (.tup (.cons (.str "least") (.nil))) (.cons (.tup (.cons (.str "full") (.nil))) (.nil))))) (
  .cons (.for_ (.nm 4) (.rng (.int 3)) laB2) (
  .cons (.set 5 laW) (
  .cons (.set 7 (.tup (.cons (.str "if") (.cons (.tup (.cons (.str "full") (.nil))) (.cons (.tup (.cons (.tup (.cons (.str "clear") (.nil))) (.nil))) (.cons (.tup (.nil)) (.nil))))))) (
  .cons (.for_ (.nm 4) (.rng (.call 5 (.cons (.var 0) (.cons (.lstI (.cons (.int 3) (.cons (.int 4) (.nil)))) (.nil))))) laB3) (
  .cons (.ret laR) (.nil)))))))) := rfl
abbrev fullT : T := .tup [wT "full"]
theorem fullR : Rz 15 fullT := Rz.t1 (Rz.w (by decide))
def wd : Nat → T
  | 0 => .tup [wT "least"]
  | i + 1 => .tup [wT "plus", wd i, wd i]
def mn : Nat → T
  | 0 => .tup [wT "full"]
  | i + 1 => .tup [wT "and", mn i, mn i]
def dp : Nat → T
  | 0 => .tup [wT "if", fullT, .tup [.tup [wT "clear"]], .tup []]
  | i + 1 => .tup [wT "if", fullT, .tup [], .tup [dp i]]
theorem wd_x : ∀ i, IsX true i (wd i)
  | 0 => .lea 0 _ (.inl rfl)
  | i + 1 => .bin i _ _ _ (.inr (.inr (.inr rfl))) (wd_x i) (wd_x i)
theorem mn_t : ∀ i, Gt.IsT true 8 i (mn i)
  | 0 => .full 0
  | i + 1 => .bin i _ _ _ (.inl rfl) (mn_t i) (mn_t i)
theorem dp_s : ∀ i, IsS true 8 8 (i + 1) (dp i)
  | 0 => .iff 0 _ [_] [] (.full 8) (all1 (.one 0 _ (.inl (.inr rfl)))) (fun s hs => by cases hs) (by simp) (by simp)
  | i + 1 => .iff (i + 1) _ [] [_] (.full 8) (fun s hs => by cases hs) (all1 (dp_s i)) (by simp) (by simp)
theorem dp_r : ∀ i, Rz (59 + 44 * i) (dp i)
  | 0 => (Rz.t4 (Rz.w (by decide)) fullR (Rz.t1 (Rz.t1 (Rz.w (by decide)))) RzL.nil.tup).mono (by omega)
  | i + 1 => (Rz.t4 (Rz.w (by decide)) fullR RzL.nil.tup (Rz.t1 (dp_r i))).mono (by omega)
theorem mn_r : Rz 300 (mn 3) := by
  have r1 := Rz.t3 (Rz.w (w := "and") (by decide)) fullR fullR
  have r2 := Rz.t3 (Rz.w (w := "and") (by decide)) r1 r1
  exact (Rz.t3 (Rz.w (w := "and") (by decide)) r2 r2).mono (by omega)
section
variable {W k : Nat}
theorem la_l1 {n : Nat} (hn : 1 ≤ n) : ∀ (l : List T) (i : Nat) (h : Hs) (x t : T) (o3 o4 o5 o6 o7 : Option T), Bag h k → IsX true i x → Gt.IsT true 8 i t → Rz (15 + 34 * i) t →
    ∃ x' t' o4' h', forL (.nm 4) (fun env2 h2 => evSs D W (callN D W n) laB1 env2 h2) l [some (.ref k), some x, some t, o3, o4, o5, o6, o7] h = .nx [some (.ref k), some x', some t', o3, o4', o5, o6, o7] h' ∧
      IsX true (i + l.length) x' ∧ Gt.IsT true 8 (i + l.length) t' ∧ Rz (15 + 34 * (i + l.length)) t' ∧ Bag h' k ∧ But k h h'
  | [], i, h, x, t, o3, o4, o5, o6, o7, B, hx, ht, r => ⟨x, t, o4, h, rfl, hx, ht, r, B, But.refl⟩
  | y :: l, i, h, x, t, o3, o4, o5, o6, o7, B, hx, ht, r => by
    obtain ⟨n, rfl⟩ : ∃ m, n = m + 1 := ⟨n - 1, by omega⟩
    obtain ⟨v1, h1, e1, a1, a2, B1, b1, _⟩ := take_call (W := W) hL (n := n) (m := 2) B (by decide) (by decide)
    obtain ⟨v2, h2, e2, c1, c2, B2, b2, _⟩ := take_call (W := W) hL (n := n) (m := 2) B1 (by decide) (by decide)
    have e1 : callN D W (n + 1) 3 [.ref k, .int 2] h = .ok (.int v1) h1 := e1
    have e2 : callN D W (n + 1) 3 [.ref k, .int 2] h1 = .ok (.int v2) h2 := e2
    obtain ⟨x1, hx1, q1⟩ : ∃ x1, IsX true (i + 1) x1 ∧ ∀ (o4 : Option T), evS D W (callN D W (n + 1)) (.set 1 (.ite (.cmp .eq (.call 3 (.cons (.var 0) (.cons (.int 2) (.nil)))) (.int 0)) (.tup (.cons (.str "plus") (.cons (.var 1) (.cons (.tup (.cons (.str "number") (.cons (.int 1) (.nil)))) (.nil))))) (.tup (.cons (.str "less") (.cons (.tup (.cons (.str "most") (.nil))) (.cons (.var 1) (.nil))))))) [some (.ref k), some x, some t, o3, o4, o5, o6, o7] h = .nx [some (.ref k), some x1, some t, o3, o4, o5, o6, o7] h1 := by
      by_cases q : v1 = 0
      · exact ⟨.tup [wT "plus", x, .tup [wT "number", .int 1]], .bin i _ _ _ (.inr (.inr (.inr rfl))) hx (.num i 1 (by decide) (by decide)), fun o4 => by simp [e1, q]⟩
      · exact ⟨.tup [wT "less", .tup [wT "most"], x], .bin i _ _ _ (.inr (.inl rfl)) (.lea i _ (.inr rfl)) hx, fun o4 => by simp [e1, q]⟩
    obtain ⟨t1, ht1, r1, q2⟩ : ∃ t1, Gt.IsT true 8 (i + 1) t1 ∧ Rz (15 + 34 * (i + 1)) t1 ∧ ∀ (o4 : Option T), evS D W (callN D W (n + 1)) (.set 2 (.ite (.cmp .eq (.call 3 (.cons (.var 0) (.cons (.int 2) (.nil)))) (.int 0)) (.tup (.cons (.str "not") (.cons (.var 2) (.nil)))) (.tup (.cons (.str "or") (.cons (.tup (.cons (.str "full") (.nil))) (.cons (.var 2) (.nil))))))) [some (.ref k), some x1, some t, o3, o4, o5, o6, o7] h1 = .nx [some (.ref k), some x1, some t1, o3, o4, o5, o6, o7] h2 := by
      by_cases q : v2 = 0
      · exact ⟨.tup [wT "not", t], .nott i _ ht, (Rz.t2 (Rz.w (by decide)) r).mono (by omega), fun o4 => by simp [e2, q]⟩
      · exact ⟨.tup [wT "or", fullT, t], .bin i _ _ _ (.inr rfl) (.full i) ht, (Rz.t3 (Rz.w (by decide)) fullR r).mono (by omega), fun o4 => by simp [e2, q]⟩
    obtain ⟨x', t', o4', h', e, px, pt, pr, B', b'⟩ := la_l1 hn l (i + 1) h2 x1 t1 o3 (some y) o5 o6 o7 B2 hx1 ht1 r1
    have ad : i + 1 + l.length = i + (l.length + 1) := by omega
    rw [ad] at px pt pr
    refine ⟨x', t', o4', h', ?_, px, pt, pr, B', (b1.trans b2).trans b'⟩
    rw [forL_nx (env2 := [some (.ref k), some x1, some t1, o3, some y, o5, o6, o7]) (h2 := h2)]
    · exact e
    · unfold laB1
      simp only [List.set_cons_succ, List.set_cons_zero]
      rw [evSs_cons, q1, andThen_nx, evSs_cons, q2, andThen_nx, evSs_nil]
theorem la_l2 {n : Nat} : ∀ (l : List T) (i : Nat) (h : Hs) (o0 o1 o2 o3 o4 o7 : Option T), ∃ o4', forL (.nm 4) (fun env2 h2 => evSs D W (callN D W n) laB2 env2 h2) l [o0, o1, o2, o3, o4, some (wd i), some (mn i), o7] h = .nx [o0, o1, o2, o3, o4', some (wd (i + l.length)), some (mn (i + l.length)), o7] h
  | [], i, h, o0, o1, o2, o3, o4, o7 => ⟨o4, rfl⟩
  | y :: l, i, h, o0, o1, o2, o3, o4, o7 => by
    obtain ⟨o4', e⟩ := la_l2 l (i + 1) h o0 o1 o2 o3 (some y) o7
    have ad : i + 1 + l.length = i + (l.length + 1) := by omega
    rw [ad] at e
    refine ⟨o4', ?_⟩
    rw [forL_nx (env2 := [o0, o1, o2, o3, some y, some (wd (i + 1)), some (mn (i + 1)), o7]) (h2 := h) (by simp [laB2, bindTs, wd, mn])]
    exact e
theorem la_l3 {n : Nat} : ∀ (l : List T) (i : Nat) (h : Hs) (o0 o1 o2 o3 o4 o5 o6 : Option T), ∃ o4', forL (.nm 4) (fun env2 h2 => evSs D W (callN D W n) laB3 env2 h2) l [o0, o1, o2, o3, o4, o5, o6, some (dp i)] h = .nx [o0, o1, o2, o3, o4', o5, o6, some (dp (i + l.length))] h
  | [], i, h, o0, o1, o2, o3, o4, o5, o6 => ⟨o4, rfl⟩
  | y :: l, i, h, o0, o1, o2, o3, o4, o5, o6 => by
    obtain ⟨o4', e⟩ := la_l3 l (i + 1) h o0 o1 o2 o3 (some y) o5 o6
    have ad : i + 1 + l.length = i + (l.length + 1) := by omega
    rw [ad] at e
    refine ⟨o4', ?_⟩
    rw [forL_nx (env2 := [o0, o1, o2, o3, some y, o5, o6, some (dp (i + 1))]) (h2 := h) (by simp [laB3, dp])]
    exact e
theorem large_ok {n : Nat} (hn : 4 ≤ n) {h : Hs} (B : Bag h k) : ∃ t h', callN D W n 4 [.ref k] h = .ok t h' ∧ IsS true 8 8 5 t ∧ Rz 15000 t ∧ Bag h' k ∧ But k h h' := by
  obtain ⟨n, rfl⟩ : ∃ m, n = m + 3 := ⟨n - 3, by omega⟩
  rw [callN_eq (fn := ⟨none, "_law_large", 1, 8, f__law_large⟩) rfl rfl (by decide), la_body]
  obtain ⟨v, h1, e1, a1, a2, B1, b1, _⟩ := take_call (W := W) hL (n := n + 1) (m := 5) B (by decide) (by decide)
  have e1 : callN D W (n + 2) 3 [.ref k, .int 5] h = .ok (.int v) h1 := e1
  obtain ⟨y2, h2, e2, m2, B2, b2, _⟩ := some_call (W := W) hL (n := n) (xs := [.int 5, .int 6, .int 7]) B1 (by simp) (by simp)
  have e2 : callN D W (n + 2) 5 [.ref k, .lst [.int 5, .int 6, .int 7]] h1 = .ok y2 h2 := e2
  obtain ⟨c, rfl, hc⟩ : ∃ i : Nat, y2 = .int (i : Int) ∧ i ≤ 7 := by
    simp only [List.mem_cons, List.not_mem_nil, or_false] at m2
    rcases m2 with rfl | rfl | rfl
    · exact ⟨5, rfl, by decide⟩
    · exact ⟨6, rfl, by decide⟩
    · exact ⟨7, rfl, by decide⟩
  have hr := rangeT_nat (n := (c : Int)) (by omega) (by omega)
  obtain ⟨x', t', o4, h3, e3, px, pt, pr, B3, b3⟩ := la_l1 (W := W) (n := n + 2) (by omega) ((List.range (c : Int).toNat).map fun i : Nat => T.int (i : Int)) 0 h2 (.tup [wT "least"]) fullT (some (.int v)) none none none none B2 (.lea 0 _ (.inl rfl)) (.full 0) fullR
  have lc : 0 + ((List.range (c : Int).toNat).map fun i : Nat => T.int (i : Int)).length ≤ 7 := by simp; omega
  generalize hl1 : 0 + ((List.range (c : Int).toNat).map fun i : Nat => T.int (i : Int)).length = c1 at px pt pr lc
  have f1 : evS D W (callN D W (n + 2)) (.for_ (.nm 4) (.rng (.call 5 (.cons (.var 0) (.cons (.lstI (.cons (.int 5) (.cons (.int 6) (.cons (.int 7) (.nil))))) (.nil))))) laB1) [some (.ref k), some (.tup [wT "least"]), some fullT, some (.int v), none, none, none, none] h1 = .nx [some (.ref k), some x', some t', some (.int v), o4, none, none, none] h3 := by
    rw [evS_for, rng_ok (i := (c : Int)) (h1 := h2) (by simp [e2]) hr, R.toS_ok]
    exact e3
  have hr3 := rangeT_nat (n := 3) (by omega) (by omega)
  obtain ⟨p4, e4⟩ := la_l2 (W := W) (n := n + 2) ((List.range (3 : Int).toNat).map fun i : Nat => T.int (i : Int)) 0 h3 (some (.ref k)) (some x') (some t') (some (.int v)) o4 none
  have f2 : evS D W (callN D W (n + 2)) (.for_ (.nm 4) (.rng (.int 3)) laB2) [some (.ref k), some x', some t', some (.int v), o4, some (.tup [wT "least"]), some fullT, none] h3 = .nx [some (.ref k), some x', some t', some (.int v), p4, some (wd 3), some (mn 3), none] h3 := by
    rw [evS_for, rng_ok (i := 3) (h1 := h3) (by simp) hr3, R.toS_ok]
    exact e4
  obtain ⟨w, h5, e5, m5, B5, b5, _⟩ := some_call (W := W) hL (n := n) (xs := [.tup [wT "less", wd 3, .tup [wT "plus", .tup [wT "most"], .tup [wT "least"]]], .tup [wT "less", wd 3, .tup [wT "plus", .tup [wT "plus", .tup [wT "most"], .tup [wT "least"]], .tup [wT "plus", .tup [wT "most"], .tup [wT "plus", .tup [wT "least"], .tup [wT "most"]]]]]]) B3 (by simp) (by simp)
  have e5 : callN D W (n + 2) 5 [.ref k, .lst [.tup [wT "less", wd 3, .tup [wT "plus", .tup [wT "most"], .tup [wT "least"]]], .tup [wT "less", wd 3, .tup [wT "plus", .tup [wT "plus", .tup [wT "most"], .tup [wT "least"]], .tup [wT "plus", .tup [wT "most"], .tup [wT "plus", .tup [wT "least"], .tup [wT "most"]]]]]]] h3 = .ok w h5 := e5
  have f5 : (ev D (callN D W (n + 2)) laW [some (.ref k), some x', some t', some (.int v), p4, some (wd 3), some (mn 3), none] h3).v = .ok w h5 := by
    simp only [laW, ev_call, evL_cons, evL_nil, ev_var, ev_lstI, ev_tup, ev_str]
    simp [e5]
  have wx : IsX true 8 w := by
    have le : ∀ i, IsX true i (.tup [wT "least"]) := fun i => .lea i _ (.inl rfl)
    have mo : ∀ i, IsX true i (.tup [wT "most"]) := fun i => .lea i _ (.inr rfl)
    have pl : ∀ {i a b}, IsX true i a → IsX true i b → IsX true (i + 1) (.tup [wT "plus", a, b]) := fun p q => .bin _ _ _ _ (.inr (.inr (.inr rfl))) p q
    have w7 : IsX true 7 (wd 3) := (wd_x 3).mono (by decide)
    simp only [List.mem_cons, List.not_mem_nil, or_false] at m5
    rcases m5 with rfl | rfl
    · exact .bin 7 _ _ _ (.inr (.inl rfl)) w7 (pl (mo 6) (le 6))
    · exact .bin 7 _ _ _ (.inr (.inl rfl)) w7 (pl (pl (mo 5) (le 5)) (pl (mo 5) (pl (le 4) (mo 4))))
  obtain ⟨y6, h6, e6, m6, B6, b6, _⟩ := some_call (W := W) hL (n := n) (xs := [.int 3, .int 4]) B5 (by simp) (by simp)
  have e6 : callN D W (n + 2) 5 [.ref k, .lst [.int 3, .int 4]] h5 = .ok y6 h6 := e6
  obtain ⟨c2, rfl, hc2⟩ : ∃ i : Nat, y6 = .int (i : Int) ∧ i ≤ 4 := by
    simp only [List.mem_cons, List.not_mem_nil, or_false] at m6
    rcases m6 with rfl | rfl
    · exact ⟨3, rfl, by decide⟩
    · exact ⟨4, rfl, by decide⟩
  have hr2 := rangeT_nat (n := (c2 : Int)) (by omega) (by omega)
  obtain ⟨q4, e7⟩ := la_l3 (W := W) (n := n + 2) ((List.range (c2 : Int).toNat).map fun i : Nat => T.int (i : Int)) 0 h6 (some (.ref k)) (some x') (some t') (some (.int v)) p4 (some w) (some (mn 3))
  have lc2 : 0 + ((List.range (c2 : Int).toNat).map fun i : Nat => T.int (i : Int)).length ≤ 4 := by simp; omega
  generalize hl2 : 0 + ((List.range (c2 : Int).toNat).map fun i : Nat => T.int (i : Int)).length = c3 at e7 lc2
  have f7 : evS D W (callN D W (n + 2)) (.for_ (.nm 4) (.rng (.call 5 (.cons (.var 0) (.cons (.lstI (.cons (.int 3) (.cons (.int 4) (.nil)))) (.nil))))) laB3) [some (.ref k), some x', some t', some (.int v), p4, some w, some (mn 3), some (dp 0)] h5 = .nx [some (.ref k), some x', some t', some (.int v), q4, some w, some (mn 3), some (dp c3)] h6 := by
    rw [evS_for, rng_ok (i := (c2 : Int)) (h1 := h6) (by simp [e6]) hr2, R.toS_ok]
    exact e7
  obtain ⟨y8, h8, e8, m8, B8, b8, _⟩ := some_call (W := W) hL (n := n) (xs := [mn 3, .tup [wT "or", mn 3, fullT]]) B6 (by simp) (by simp)
  have e8 : callN D W (n + 2) 5 [.ref k, .lst [mn 3, .tup [wT "or", mn 3, fullT]]] h6 = .ok y8 h8 := e8
  have t8 : Gt.IsT true 8 8 y8 ∧ Rz 400 y8 := by
    simp only [List.mem_cons, List.not_mem_nil, or_false] at m8
    rcases m8 with rfl | rfl
    · exact ⟨(mn_t 3).mono (by decide) (by decide), mn_r.mono (by decide)⟩
    · exact ⟨.bin 7 _ _ _ (.inr rfl) ((mn_t 3).mono (by decide) (by decide)) (.full 7), (Rz.t3 (Rz.w (by decide)) mn_r fullR).mono (by decide)⟩
  obtain ⟨y9, h9, e9, m9, B9, b9, _⟩ := some_call (W := W) hL (n := n) (xs := [.tup [wT "lower", x', .int 0], .tup [wT "if", t', .tup [], .tup []], .tup [wT "visitall", w], .tup [wT "if", y8, .tup [], .tup []], dp c3]) B8 (by simp) (by simp)
  have e9 : callN D W (n + 2) 5 [.ref k, .lst [.tup [wT "lower", x', .int 0], .tup [wT "if", t', .tup [], .tup []], .tup [wT "visitall", w], .tup [wT "if", y8, .tup [], .tup []], dp c3]] h8 = .ok y9 h9 := e9
  have f9 : (ev D (callN D W (n + 2)) laR [some (.ref k), some x', some t', some (.int v), q4, some w, some (mn 3), some (dp c3)] h6).v = .ok y9 h9 := by
    simp only [laR, ev_call, evL_cons, evL_nil, ev_var, ev_lstI, ev_tup, ev_str, ev_int]
    simp [e8, e9]
  have res : IsS true 8 8 5 y9 ∧ Rz 15000 y9 := by
    have xb : XB 8 = 11757 := by decide
    have no : ∀ (s : T), s ∈ ([] : List T) → IsS true 8 8 4 s := fun s hs => by cases hs
    simp only [List.mem_cons, List.not_mem_nil, or_false] at m9
    rcases m9 with rfl | rfl | rfl | rfl | rfl
    · have x8 : IsX true 8 x' := px.mono (by omega)
      exact ⟨.lower 5 _ 0 x8 (by decide) (by decide), (Rz.t3 (Rz.w (by decide)) x8.rz (Rz.i (by decide) (by decide))).mono (by omega)⟩
    · exact ⟨.iff 4 _ [] [] (pt.mono (Nat.le_refl 8) (by omega)) no no (by simp) (by simp), (Rz.t4 (Rz.w (by decide)) pr RzL.nil.tup RzL.nil.tup).mono (by omega)⟩
    · exact ⟨.ex 5 _ _ (.inl rfl) wx, (Rz.t2 (Rz.w (by decide)) wx.rz).mono (by omega)⟩
    · exact ⟨.iff 4 _ [] [] t8.1 no no (by simp) (by simp), (Rz.t4 (Rz.w (by decide)) t8.2 RzL.nil.tup RzL.nil.tup).mono (by omega)⟩
    · exact ⟨(dp_s c3).mono (Nat.le_refl 8) (Nat.le_refl 8) (by omega), (dp_r c3).mono (by omega)⟩
  refine ⟨y9, h9, ?_, res.1, res.2, B9, (((((b1.trans b2).trans b3).trans b5).trans b6).trans b8).trans b9⟩
  show (evSs D W (callN D W (n + 2)) _ [some (.ref k), none, none, none, none, none, none, none] h).fin = _
  have s1 : evS D W (callN D W (n + 2)) (.par [1, 2, 3] (.cons (.tup (.cons (.str "least") (.nil))) (.cons (.tup (.cons (.str "full") (.nil))) (.cons (.call 3 (.cons (.var 0) (.cons (.int 5) (.nil)))) (.nil))))) [some (.ref k), none, none, none, none, none, none, none] h = .nx [some (.ref k), some (.tup [wT "least"]), some fullT, some (.int v), none, none, none, none] h1 := by
    simp [e1, bindTs]
  have s2 : evS D W (callN D W (n + 2)) (.setT [5, 6] (.tup (.cons (.tup (.cons (.str "least") (.nil))) (.cons (.tup (.cons (.str "full") (.nil))) (.nil))))) [some (.ref k), some x', some t', some (.int v), o4, none, none, none] h3 = .nx [some (.ref k), some x', some t', some (.int v), o4, some (.tup [wT "least"]), some fullT, none] h3 := by
    simp [bindG, bindTs]
  have s3 : evS D W (callN D W (n + 2)) (.set 5 laW) [some (.ref k), some x', some t', some (.int v), p4, some (wd 3), some (mn 3), none] h3 = .nx [some (.ref k), some x', some t', some (.int v), p4, some w, some (mn 3), none] h5 := by
    rw [evS_set, f5]
    rfl
  have s4 : evS D W (callN D W (n + 2)) (.set 7 (.tup (.cons (.str "if") (.cons (.tup (.cons (.str "full") (.nil))) (.cons (.tup (.cons (.tup (.cons (.str "clear") (.nil))) (.nil))) (.cons (.tup (.nil)) (.nil))))))) [some (.ref k), some x', some t', some (.int v), p4, some w, some (mn 3), none] h5 = .nx [some (.ref k), some x', some t', some (.int v), p4, some w, some (mn 3), some (dp 0)] h5 := by
    simp [dp]
  rw [evSs_cons, s1, andThen_nx, evSs_cons, f1, andThen_nx, evSs_cons, s2, andThen_nx, evSs_cons, f2, andThen_nx, evSs_cons, s3, andThen_nx, evSs_cons, s4, andThen_nx, evSs_cons, f7, andThen_nx, evSs_cons, evS_ret, f9]
  rfl
end
end K06
end

section
set_option Elab.async false
set_option linter.all false
set_option maxRecDepth 10000
/-! K06o: what is due is short; the odd ones. -/
namespace Gt
open PySem Fs Fp
theorem eq_same {h : Hs} {D : Nat} {t : T} (s : Shp D t) (hD : D ≤ 64) (ht : ∀ k, t ≠ .ref k) : eqT h t t = some true := by
  obtain ⟨X, e, g⟩ := s
  have et : toDh h t = some X := by
    cases t with
    | ref k => exact absurd rfl (ht k)
    | _ => exact e
  unfold eqT
  rw [et, Option.bind_some, Option.bind_some, if_pos (by rw [g.shaped hD]; rfl), SeqAt.eqv_refl X g.lay]
def LimO (o : Option (String × Int)) : Prop := ∀ p, o = some p → p.1 ∈ allW ∧ 0 ≤ p.2 ∧ p.2 ≤ 99
theorem szO_lim {k m : Nat} {w : String} {n : Nat} (hw : w ∈ allW) (hn : n ≤ 99) : LimO (szO k m w n) := by
  intro p h
  unfold szO at h
  split at h
  · cases h
    exact ⟨by decide, by decide, by decide⟩
  · split at h
    · cases h
      exact ⟨hw, by simp, by simp; omega⟩
    · cases h
theorem SE_lim {es : List T} {o : Option (String × Int)} (s : SE es o) : LimO o := by
  induction s with
  | nil => exact fun p h => by cases h
  | hit e k ps r o p hk hz => rw [← hz]; exact szO_lim (by decide) (by decide)
  | next e k ps r o p hk hz _ ih => exact ih
theorem SZ_lim {s : T} {o : Option (String × Int)} (z : SZ s o) : LimO o := by
  cases z with
  | plain w r es o hw ex se => exact SE_lim se
  | hit t b1 b2 k ps o p hk hz => rw [← hz]; exact szO_lim (by decide) (by decide)
  | next t b1 b2 k ps es o p hk hz ex se => exact SE_lim se
theorem firstO_lim : ∀ l : List SI, (∀ i ∈ l, SIok i) → LimO (firstO l)
  | [], _ => fun p h => by cases h
  | i :: l, hk => by
    obtain ⟨r, es, es1, ex, ap, lx, sz, el, tp⟩ := hk i List.mem_cons_self
    have := SZ_lim sz
    simp only [firstO]
    cases z : i.o with
    | some p => rw [z] at this; exact this
    | none => exact firstO_lim l fun j hj => hk j (List.mem_cons_of_mem _ hj)
theorem limO_lim {nc bc bt : Nat} {l : List SI} (hk : ∀ i ∈ l, SIok i) : LimO (limO nc bc bt l) := by
  unfold limO
  split
  · intro p h
    cases h
    exact ⟨by decide, by decide, by decide⟩
  · split
    · intro p h
      cases h
      exact ⟨by decide, by decide, by decide⟩
    · exact firstO_lim l hk
section
variable {D : Tb} {x : Ix} (H : HasK D x) (V : HasV D x) (C : HasC D x) (X : HasX D x) {W : Nat}
include H V
/-- none is a tracker -/
def NoTr (D : Tb) (x : Ix) (W : Nat) (t : T) : Prop := ∀ (n : Nat) (h : Hs), callN D W (n + 2) x.f_is_tracker [t] h = .ok (.bl false) h
theorem notr_of {t : T} (e : ∀ (n : Nat) (h : Hs), callN D W (n + 1) x.f_is_sized [t, .int 6] h = .ok (.bl false) h) : NoTr D x W t := fun n h => by
  rw [callN_eq V.f_is_tracker rfl (by simp)]
  have := e n h
  simp [b_is_tracker, this]
theorem notr_non : NoTr D x W .non := notr_of H V fun n h => by
  rw [callN_eq V.f_is_sized rfl (by simp)]
  simp [b_is_sized, Kd.is]
theorem notr_lst {ts : List T} : NoTr D x W (.lst ts) := notr_of H V fun n h => by
  rw [callN_eq V.f_is_sized rfl (by simp)]
  simp [b_is_sized, Kd.is]
theorem notr_tup {ts : List T} (hl : ts.length ≠ 6) : NoTr D x W (.tup ts) := notr_of H V fun n h => by
  rw [sized_ok V, decide_eq_false (by omega)]
theorem exc_none : excOk D x.c_Nothing [] = true := by
  obtain ⟨nm, up, e⟩ := H.c_Nothing
  unfold excOk
  rw [e]
  rfl
theorem none_ok {t : T} (nt : NoTr D x W t) {n : Nat} (hn : 5 ≤ n) (h : Hs) : callN D W n x.f_checked_tracker [t] h = .exc x.c_Nothing [] h := by
  obtain ⟨n, rfl⟩ : ∃ m, n = m + 5 := ⟨n - 5, by omega⟩
  have e1 : callN D W (n + 3) x.f_numbered [t] h = .exc x.c_Nothing [] h := by
    rw [callN_eq H.f_numbered rfl (by simp)]
    have := nt n h
    simp [b_numbered, this, exc_none H V]
  have e2 : callN D W (n + 4) x.f_check_limits [t] h = .exc x.c_Nothing [] h := by
    rw [callN_eq H.f_check_limits rfl (by simp)]
    simp [b_check_limits, e1]
  rw [callN_eq H.f_checked_tracker rfl (by simp)]
  simp [b_checked_tracker, e2]
include X
theorem xexc_none : excOk D x.c_Nothing [] = true := exc_none H V
theorem text_non {n : Nat} (h : Hs) : callN D W (n + 1) x.f_checked_text [.non] h = .exc x.c_Nothing [] h := by
  rw [callN_eq X.f_checked_text rfl (by simp)]
  simp [b_checked_text, Kd.is, exc_none H V]
theorem text_one {n : Nat} {t : T} (h : Hs) : callN D W (n + 1) x.f_checked_text [.tup [t]] h = .exc x.c_Nothing [] h := by
  rw [callN_eq X.f_checked_text rfl (by simp)]
  simp [b_checked_text, Kd.is, exc_none H V]
include C
theorem text_nc {n : Nat} {t : T} (h : Hs) : callN D W (n + 3) x.f_checked_text [.tup [t, .non]] h = .exc x.c_Nothing [] h := by
  have e1 : callN D W (n + 1) x.f_is_tuple_of [.non, .fn x.f_is_claim] h = .ok (.bl false) h := by
    rw [callN_eq V.f_is_tuple_of rfl (by simp)]
    simp [b_is_tuple_of, Kd.is]
  have e2 : callN D W (n + 2) x.f_are_claims [.non] h = .ok (.bl false) h := by
    rw [callN_eq C.f_are_claims rfl (by simp)]
    simp [b_are_claims, e1]
  rw [callN_eq X.f_checked_text rfl (by simp)]
  simp [b_checked_text, Kd.is, e2, exc_none H V]
theorem text_nt {n : Nat} (hn : 6 ≤ n) (h : Hs) : callN D W n x.f_checked_text [.tup [.non, .tup []]] h = .exc x.c_Nothing [] h := by
  obtain ⟨n, rfl⟩ : ∃ m, n = m + 6 := ⟨n - 6, by omega⟩
  have c := claims_ok V C (W := W) (n := n) (h := h) (ts := []) (fun t ht => by cases ht) (by simp)
  have e := none_ok H V (W := W) (notr_non H V) (n := n + 5) (by omega) h
  rw [callN_eq X.f_checked_text rfl (by simp)]
  simp [b_checked_text, Kd.is, c, e]
end
end Gt
namespace K06
open PySem Fs Fp Gt
theorem dueT_sr {c1 c2 : Bool} {e q d : Nat} {slots most period : Int} {nums : List (String × Int × Int)} {came turn : List T} {cs ts : List SI} {bc bt : Nat} (s : IsTr c1 c2 e q d slots most period nums came turn) (hb : e + q + 2 * d ≤ 40)
    (rc : RzL 350000 came) (rt : RzL 350000 turn) (hk : ∀ i ∈ cs ++ ts, SIok i) :
    ∃ t, dueT (trT slots most period nums came turn) (lgO (limO (cs.length + ts.length) bc bt (cs ++ ts))) (firstN (nums.map (·.1)) "came" 0 cs) (decide (period = 0) && !decide (turn = [])) (firstT (nums.map (·.1)) 0 ts) = .tup t ∧ Shp 64 (.tup t) ∧ Rz 900000 (.tup t) := by
  have lim := limO_lim (nc := cs.length + ts.length) (bc := bc) (bt := bt) hk
  have sw : ∀ {w : String}, w ∈ allW → Shp 0 (wT w) := fun {w} h => Shp.word (allW_ok w h).1
  have kd : ∀ {a b : String} {i : Int}, a ∈ allW → b ∈ allW → 0 ≤ i → i < 100000 → Shp 64 (.tup [wT "kind", .tup [wT a, .int i], wT b]) ∧ Rz 900000 (.tup [wT "kind", .tup [wT a, .int i], wT b]) := fun {a b i} ha hb h1 h2 =>
    ⟨(Shp.tup (all3 ((sw (by decide)).mono (Nat.zero_le 1)) (Shp.tup (all2 (sw ha) (Shp.int (by omega)))) ((sw hb).mono (Nat.zero_le 1)))).mono (by decide),
      (Rz.t3 (Rz.w (by decide)) (Rz.t2 (Rz.w ha) (Rz.i h1 h2)) (Rz.w hb)).mono (by decide)⟩
  unfold dueT
  cases hl : limO (cs.length + ts.length) bc bt (cs ++ ts) with
  | some p =>
    obtain ⟨h1, h2, h3⟩ := lim p hl
    refine ⟨_, rfl, ?_, ?_⟩
    · exact (Shp.tup (all3 (sw (by decide)) (sw h1) (Shp.int (by omega)))).mono (by decide)
    · exact (Rz.t3 (Rz.w (by decide)) (Rz.w h1) (Rz.i h2 (by omega))).mono (by decide)
  | none =>
    have few : cs.length + ts.length ≤ 30 := by
      unfold limO at hl
      split at hl
      · cases hl
      · omega
    have fa : ∀ xs, firstN (nums.map (·.1)) "came" 0 cs = some xs → ∃ m : Nat, xs = [.tup [wT "came", .int (m : Int)], wT "name"] ∧ m < 90000 := fun xs h => by
      obtain ⟨m, e, hm⟩ := firstN_two h
      exact ⟨m, e, by omega⟩
    have fb : ∀ xs, firstT (nums.map (·.1)) 0 ts = some xs → ∃ (m : Nat) (w : String), xs = [.tup [wT "turn", .int (m : Int)], wT w] ∧ (w = "name" ∨ w = "come") ∧ m < 90000 := fun xs h => by
      obtain ⟨m, w, e, hw, hm⟩ := firstT_two h
      exact ⟨m, w, e, hw, by omega⟩
    simp only [lgO, Option.map_none]
    cases ha : firstN (nums.map (·.1)) "came" 0 cs with
    | some xs =>
      obtain ⟨m, rfl, hm⟩ := fa xs ha
      exact ⟨_, rfl, kd (by decide) (by decide) (by omega) (by omega)⟩
    | none =>
      dsimp only
      split
      · exact ⟨_, rfl, kd (a := "turn") (b := "period") (i := 0) (by decide) (by decide) (by omega) (by omega)⟩
      · cases hb2 : firstT (nums.map (·.1)) 0 ts with
        | some xs =>
          obtain ⟨m, w, rfl, hw, hm⟩ := fb xs hb2
          exact ⟨_, rfl, kd (by decide) (by rcases hw with rfl | rfl <;> decide) (by omega) (by omega)⟩
        | none =>
          refine ⟨_, rfl, ?_, ?_⟩
          · have sc : Shp 45 (.tup came) := (Shp.tup fun t ht => (s.ca.1 t ht).shp).mono (by omega)
            have st : Shp 45 (.tup turn) := (Shp.tup fun t ht => (s.tu.1 t ht).shp).mono (by omega)
            have sn : Shp 2 (.tup (nums.map numT)) := Shp.tup fun t ht => by
              obtain ⟨y, hy, rfl⟩ := List.mem_map.mp ht
              obtain ⟨h1, h2, h3⟩ := s.nu.2.2 y hy
              exact Shp.tup (all3 (by rcases h1 with h1 | h1 <;> rw [h1] <;> exact sw (by decide)) (Shp.int (by omega)) (Shp.int (by omega)))
            have h1 := s.sl
            have h2 := s.mo
            have h3 := s.pe
            have str : Shp 46 (trT slots most period nums came turn) := Shp.tup fun t ht => by
              simp only [List.mem_cons, List.not_mem_nil, or_false] at ht
              rcases ht with rfl | rfl | rfl | rfl | rfl | rfl
              · exact (Shp.int (by omega)).mono (Nat.zero_le _)
              · exact (Shp.int (by omega)).mono (Nat.zero_le _)
              · exact sn.mono (by decide)
              · exact sc
              · exact (Shp.int (by omega)).mono (Nat.zero_le _)
              · exact st
            exact (Shp.tup (all2 ((sw (by decide)).mono (Nat.zero_le 46)) str)).mono (by decide)
          · have rn : Rz 100 (.tup (nums.map numT)) := (Rz.body (n := 40) (fun t ht => by
              obtain ⟨y, hy, rfl⟩ := List.mem_map.mp ht
              obtain ⟨h1, h2, h3⟩ := s.nu.2.2 y hy
              exact (Rz.t3 (Rz.w (by rcases h1 with h1 | h1 <;> rw [h1] <;> decide)) (Rz.i h2.1 (by omega)) (Rz.i h3.1 (by omega))).mono (by decide)) 2 (by rw [List.length_map]; exact s.nu.1)).mono (by decide)
            have h1 := s.sl
            have h2 := s.mo
            have h3 := s.pe
            have rr : Rz 800000 (trT slots most period nums came turn) := ((RzL.cons (Rz.i (by omega) (by omega)) (RzL.cons (Rz.i (by omega) (by omega)) (RzL.cons rn (RzL.cons rc.tup (RzL.cons (Rz.i (by omega) (by omega)) (RzL.cons rt.tup RzL.nil)))))).tup).mono (by decide)
            exact (Rz.t2 (Rz.w (by decide)) rr).mono (by decide)
end K06
end

section
set_option Elab.async false
set_option linter.all false
set_option maxRecDepth 10000
/-! K06p: the law's turns: what is drawn and altered. -/
namespace K06
open PySem Fs Fp Gt
def lw0 : S := .set 3 (.call 2 (.cons (.var 1) (.nil)))
def lw1 : S := .setT [4, 5, 6, 7, 8, 9] (.ix (.var 3) (.int 0))
def lw2 : S := .set 10 (.call 3 (.cons (.var 1) (.cons (.int 7) (.nil))))
def lw3 : S := .ifs (.cmp .eq (.var 10) (.int 0)) (.cons (.set 6 (.sl (.var 6) (.absent) (.call 3 (.cons (.var 1) (.cons (.int 2) (.nil)))))) (.nil)) (.cons (.ifs (.cmp .eq (.var 10) (.int 1)) (.cons (.set 7 (.bin .add (.var 7) (.tup (.cons (.call 4 (.cons (.var 1) (.nil))) (.nil))))) (.nil)) (.cons (.ifs (.cmp .eq (.var 10) (.int 2)) (.cons (.setT [8, 9] (.call 5 (.cons (.var 1) (.cons (.lstI (.cons (.tup (.cons (.int 0) (.cons (.var 9) (.nil)))) (.cons (.tup (.cons (.int 5) (.cons (.bin .add (.var 9) (.tup (.cons (.call 4 (.cons (.var 1) (.nil))) (.nil)))) (.nil)))) (.nil)))) (.nil))))) (.nil)) (.cons (.ifs (.cmp .eq (.var 10) (.int 3)) (.cons (.par [8, 9] (.cons (.int 3) (.cons (.call 6 (.cons (.var 1) (.cons (.int 2) (.cons (.bl true) (.nil))))) (.nil)))) (.nil)) (.cons (.ifs (.cmp .eq (.var 10) (.int 4)) (.cons (.set 7 (.bin .add (.var 7) (.bin .mul (.tup (.cons (.tup (.cons (.str "halve") (.nil))) (.nil))) (.call 5 (.cons (.var 1) (.cons (.lstI (.cons (.int 15) (.cons (.int 20) (.cons (.int 28) (.cons (.int 29) (.nil)))))) (.nil))))))) (.nil)) (.nil)) (.nil))) (.nil))) (.nil))) (.nil))
def lw4 : S := .set 11 (.tup (.cons (.var 4) (.cons (.var 5) (.cons (.var 6) (.cons (.var 7) (.cons (.var 8) (.cons (.var 9) (.nil))))))))
def lw5 : S := .set 12 (.call 7 (.cons (.var 11) (.nil)))
def lw6 : S := .ifs (.nott (.call 8 (.cons (.call 9 (.cons (.var 11) (.nil))) (.cons (.var 12) (.nil))))) (.cons (.ret (.bl false)) (.nil)) (.nil)
def lw7 : S := .ifs (.andv (.cons (.cmp .eq (.ix (.var 12) (.int 0)) (.str "told")) (.cons (.orv (.cons (.cmp .ne (.call 10 (.cons (.var 11) (.nil))) (.bi .tuple (.cons (.bin .add (.call 11 (.cons (.var 7) (.nil))) (.call 11 (.cons (.var 9) (.nil)))) (.nil)))) (.cons (.cmp .ne (.call 12 (.cons (.tup (.cons (.var 11) (.cons (.ix (.var 3) (.int 1)) (.nil)))) (.nil))) (.tup (.cons (.var 11) (.cons (.ix (.var 3) (.int 1)) (.nil))))) (.nil)))) (.nil)))) (.cons (.ret (.bl false)) (.nil)) (.nil)
def lw8 : S := .for_ (.nm 13) (.seq (.tup (.cons (.non) (.cons (.bi .list (.cons (.var 11) (.nil))) (.cons (.sl (.var 11) (.absent) (.int 5)) (.nil)))))) (.cons (.tryy (.cons (.ex (.call 13 (.cons (.var 13) (.nil)))) (.cons (.ret (.bl false)) (.nil))) (.cons [0] none (.cons (.cont) (.nil)) (.nil))) (.nil))
def lw9 : S := .for_ (.nm 13) (.seq (.tup (.cons (.non) (.cons (.tup (.cons (.var 11) (.nil))) (.cons (.tup (.cons (.var 11) (.cons (.non) (.nil)))) (.cons (.tup (.cons (.non) (.cons (.tup (.nil)) (.nil)))) (.nil))))))) (.cons (.tryy (.cons (.ex (.call 12 (.cons (.var 13) (.nil)))) (.cons (.ret (.bl false)) (.nil))) (.cons [0] none (.cons (.cont) (.nil)) (.nil))) (.nil))
def lwB : Ss := .cons lw0 (.cons lw1 (.cons lw2 (.cons lw3 (.cons lw4 (.cons lw5 (.cons lw6 (.cons lw7 (.cons lw8 (.cons lw9 (.nil))))))))))
theorem law_body : f_law = .cons (.set 1 (.call 1 (.cons (.var 0) (.nil)))) (.cons (.for_ (.nm 2) (.rng (.int 12)) lwB) (.cons (.ret (.bl true)) (.nil))) := rfl
structure Cnd (nums : List (String × Int × Int)) (came : List T) (period : Int) (turn : List T) : Prop where
  nu : nums.length ≤ 2 ∧ (nums.map (·.1)).Nodup ∧ ∀ y ∈ nums, (y.1 = "n1" ∨ y.1 = "spill") ∧ (0 ≤ y.2.1 ∧ y.2.1 ≤ 30) ∧ (0 ≤ y.2.2 ∧ y.2.2 ≤ y.2.1)
  ca : (∀ s ∈ came, IsS true 8 8 5 s) ∧ came.length ≤ 32
  tu : (∀ s ∈ turn, IsS true 8 8 5 s) ∧ turn.length ≤ 32
  rc : RzL 350000 came
  rt : RzL 350000 turn
  pe : 0 ≤ period ∧ period ≤ 32
theorem RzL_app {a b : Nat} {xs ys : List T} (p : RzL a xs) (q : RzL b ys) : RzL (a + b) (xs ++ ys) := by
  have gen : ∀ (xs : List T), (∀ (n : Nat), RzL n xs → ∃ (ns : List Nat), ns.length = xs.length) := fun xs n _ => ⟨xs.map fun _ => 0, by simp⟩
  obtain ⟨X, d, e, l, dp, s, ln, k⟩ := p
  obtain ⟨Y, d', e', l', dp', s', ln', k'⟩ := q
  have h1 : ∀ (xs : List T) (X : List PyData), toDs xs = some X → toDs (xs ++ ys) = some (X ++ Y) := fun xs => by
    induction xs with
    | nil => intro X e; simp [toDs] at e; subst e; exact e'
    | cons x xs ih =>
      intro X e
      simp only [toDs, Option.bind_eq_some_iff, Option.map_eq_some_iff] at e
      obtain ⟨x', ex, xs', exs, rfl⟩ := e
      simp [toDs, ex, ih xs' exs]
  have h2 : ∀ X : List PyData, PyData.canLayAll0 X = true → PyData.canLayAll0 (X ++ Y) = true := fun X => by
    induction X with
    | nil => exact fun _ => l'
    | cons x X ih =>
      intro h
      simp only [PyData.canLayAll0, Bool.and_eq_true] at h
      simp [PyData.canLayAll0, h.1, ih h.2]
  have h3 : ∀ X : List PyData, PyData.depthAll (X ++ Y) = max (PyData.depthAll X) (PyData.depthAll Y) := fun X => by
    induction X with
    | nil => simp [PyData.depthAll]
    | cons x X ih => simp only [List.cons_append, PyData.depthAll, ih]; omega
  have h4 : ∀ X : List PyData, PyData.showableAll X = true → PyData.showableAll (X ++ Y) = true := fun X => by
    induction X with
    | nil => exact fun _ => s'
    | cons x X ih =>
      intro h
      simp only [PyData.showableAll, Bool.and_eq_true] at h
      simp [PyData.showableAll, h.1, ih h.2]
  have h5 : ∀ X : List PyData, PyData.shownAll (X ++ Y) = PyData.shownAll X ++ PyData.shownAll Y := fun X => by
    induction X with
    | nil => simp [PyData.shownAll]
    | cons x X ih => simp [PyData.shownAll, ih]
  refine ⟨X ++ Y, max d d', h1 xs X e, h2 X l, by rw [h3]; omega, h4 X s, ?_, fun y hy => ?_⟩
  · rw [h5, List.map_append, List.sum_append, List.length_append]
    omega
  · rw [h5] at hy
    exact (List.mem_append.mp hy).elim (k y) (k' y)
theorem halves_r : ∀ m, RzL (m * 17) (List.replicate m (T.tup [wT "halve"]))
  | 0 => RzL.nil
  | m + 1 => (RzL.cons (Rz.t1 (Rz.w (w := "halve") (by decide))) (halves_r m)).mono (by omega)
theorem rep_flat (m : Nat) : (List.replicate m [T.tup [wT "halve"]]).flatten = List.replicate m (T.tup [wT "halve"]) := by
  induction m with
  | zero => rfl
  | succ m ih => simp [List.replicate_succ, ih]
section
variable {W k : Nat}
theorem mods_ok {n : Nat} (hn : 12 ≤ n) {h : Hs} {v slots most period : Int} {a b : String × Int × Int} {came turn : List T} {o0 o2 o3 o11 o12 o13 : Option T} (B : Bag h k) (hv : 0 ≤ v)
    (nu : ([a, b].map (·.1)).Nodup ∧ ∀ y ∈ [a, b], (y.1 = "n1" ∨ y.1 = "spill") ∧ (0 ≤ y.2.1 ∧ y.2.1 ≤ 30) ∧ (0 ≤ y.2.2 ∧ y.2.2 ≤ y.2.1)) (hc : (∀ s ∈ came, IsS true 2 2 3 s) ∧ came.length ≤ 3) (ht : (∀ s ∈ turn, IsS true 2 2 3 s) ∧ turn.length ≤ 3) (hp : 0 ≤ period ∧ period ≤ 32) :
    ∃ nums came' period' turn' h', evS D W (callN D W n) lw3 [o0, some (.ref k), o2, o3, some (.int slots), some (.int most), some (.tup ([a, b].map numT)), some (.tup came), some (.int period), some (.tup turn), some (.int v), o11, o12, o13] h =
      .nx [o0, some (.ref k), o2, o3, some (.int slots), some (.int most), some (.tup (nums.map numT)), some (.tup came'), some (.int period'), some (.tup turn'), some (.int v), o11, o12, o13] h' ∧ Cnd nums came' period' turn' ∧ Bag h' k := by
  obtain ⟨n, rfl⟩ : ∃ m, n = m + 12 := ⟨n - 12, by omega⟩
  have sb : SBd 2 2 3 = 106060 := by decide
  have rzb : ∀ b : List T, (∀ s ∈ b, IsS true 2 2 3 s) → b.length ≤ 3 → RzL 320000 b := fun b hs hl => by
    have := RzL.all (n := 106060) b fun t ht => by
      have := (hs t ht).rz
      rw [sb] at this
      exact this
    exact this.mono (by omega)
  have up : ∀ {s : T}, IsS true 2 2 3 s → IsS true 8 8 5 s := fun h => h.mono (by decide) (by decide) (by decide)
  have base : Cnd [a, b] came period turn := ⟨⟨by simp, nu⟩, ⟨fun s hs => up (hc.1 s hs), by omega⟩, ⟨fun s hs => up (ht.1 s hs), by omega⟩, (rzb came hc.1 hc.2).mono (by decide), (rzb turn ht.1 ht.2).mono (by decide), hp⟩
  by_cases q0 : v = 0
  · subst q0
    obtain ⟨u, h1, e1, u0, u1, B1, b1, _⟩ := take_call (W := W) hL (n := n + 11) (m := 2) B (by decide) (by decide)
    have e1 : callN D W (n + 12) 3 [.ref k, .int 2] h = .ok (.int u) h1 := e1
    have hu : u = 0 ∨ u = 1 := by omega
    have ab : ∀ f xs, (E.call f xs).isAbs = false := fun _ _ => rfl
    rcases hu with rfl | rfl
    · refine ⟨[], came, period, turn, h1, ?_, ⟨⟨by simp, by simp, fun y hy => by cases hy⟩, base.ca, base.tu, base.rc, base.rt, hp⟩, B1⟩
      have cu : cutL [numT a, numT b] none (some 0) = [] := rfl
      simp [lw3, e1, slT, cu, ab]
    · refine ⟨[a], came, period, turn, h1, ?_, ⟨⟨by simp, by simp, fun y hy => nu.2 y (by simp at hy; simp [hy])⟩, base.ca, base.tu, base.rc, base.rt, hp⟩, B1⟩
      have cu : cutL [numT a, numT b] none (some 1) = [numT a] := rfl
      simp [lw3, e1, slT, cu, ab]
  by_cases q1 : v = 1
  · subst q1
    obtain ⟨s, h1, e1, is, rs, B1, b1⟩ := large_ok (W := W) (n := n + 12) (by omega) B
    refine ⟨[a, b], came ++ [s], period, turn, h1, ?_, ⟨base.nu, ⟨fun x hx => ?_, by simp; omega⟩, base.tu, ?_, base.rt, hp⟩, B1⟩
    · have z : came.length + 1 ≤ 1000000 := by omega
      simp [lw3, e1, z]
    · rcases List.mem_append.mp hx with hx | hx
      · exact base.ca.1 x hx
      · rcases List.mem_cons.mp hx with rfl | hx
        · exact is
        · cases hx
    · exact (RzL_app (rzb came hc.1 hc.2) (RzL.cons rs RzL.nil)).mono (by decide)
  by_cases q2 : v = 2
  · subst q2
    obtain ⟨s, h1, e1, is, rs, B1, b1⟩ := large_ok (W := W) (n := n + 12) (by omega) B
    obtain ⟨y, h2, e2, m2, B2, b2, _⟩ := some_call (W := W) hL (n := n + 10) (xs := [.tup [.int 0, .tup turn], .tup [.int 5, .tup (turn ++ [s])]]) B1 (by simp) (by simp)
    have e2 : callN D W (n + 12) 5 [.ref k, .lst [.tup [.int 0, .tup turn], .tup [.int 5, .tup (turn ++ [s])]]] h1 = .ok y h2 := e2
    have z : turn.length + 1 ≤ 1000000 := by omega
    simp only [List.mem_cons, List.not_mem_nil, or_false] at m2
    rcases m2 with rfl | rfl
    · refine ⟨[a, b], came, 0, turn, h2, ?_, ⟨base.nu, base.ca, base.tu, base.rc, base.rt, by decide⟩, B2⟩
      simp [lw3, e1, z, e2, bindG, bindTs]
    · refine ⟨[a, b], came, 5, turn ++ [s], h2, ?_, ⟨base.nu, base.ca, ⟨fun x hx => ?_, by simp; omega⟩, base.rc, (RzL_app (rzb turn ht.1 ht.2) (RzL.cons rs RzL.nil)).mono (by decide), by decide⟩, B2⟩
      · simp [lw3, e1, z, e2, bindG, bindTs]
      · rcases List.mem_append.mp hx with hx | hx
        · exact base.tu.1 x hx
        · rcases List.mem_cons.mp hx with rfl | hx
          · exact is
          · cases hx
  by_cases q3 : v = 3
  · subst q3
    obtain ⟨bd, h1, e1, s1, l1, B1, b1⟩ := any_body hD hL (W := W) (k := k) (c := true) 2 (n + 12) (by omega) h B
    have e1 : callN D W (n + 12) 6 [.ref k, .int 2, .bl true] h = .ok (.tup bd) h1 := e1
    have s1 : ∀ s ∈ bd, IsS true 2 2 3 s := fun s hs => (s1 s hs).mono (by decide) (by decide) (by decide)
    refine ⟨[a, b], came, 3, bd, h1, ?_, ⟨base.nu, base.ca, ⟨fun s hs => up (s1 s hs), by omega⟩, base.rc, (rzb bd s1 l1).mono (by decide), by decide⟩, B1⟩
    simp [lw3, e1, bindTs]
  by_cases q4 : v = 4
  · subst q4
    obtain ⟨y, h1, e1, m1, B1, b1, _⟩ := some_call (W := W) hL (n := n + 10) (xs := [.int 15, .int 20, .int 28, .int 29]) B (by simp) (by simp)
    have e1 : callN D W (n + 12) 5 [.ref k, .lst [.int 15, .int 20, .int 28, .int 29]] h = .ok y h1 := e1
    obtain ⟨m, rfl, hm⟩ : ∃ m : Nat, y = .int (m : Int) ∧ 2 ≤ m ∧ m ≤ 29 := by
      simp only [List.mem_cons, List.not_mem_nil, or_false] at m1
      rcases m1 with rfl | rfl | rfl | rfl
      · exact ⟨15, rfl, by decide, by decide⟩
      · exact ⟨20, rfl, by decide, by decide⟩
      · exact ⟨28, rfl, by decide, by decide⟩
      · exact ⟨29, rfl, by decide, by decide⟩
    have mu : binT .mul (.tup [.tup [wT "halve"]]) (.int (m : Int)) = some (.tup (List.replicate m (T.tup [wT "halve"]))) := by
      show (if (decide (2 ≤ (m : Int)) && decide ((m : Int) ≤ 1000)) && (decide (1 ≤ 1000) && true) then some (T.tup (List.replicate (m : Int).toNat [T.tup [wT "halve"]]).flatten) else none) = _
      rw [if_pos (by simp; omega), Int.toNat_natCast, rep_flat]
    have z : came.length + m ≤ 1000000 := by omega
    refine ⟨[a, b], came ++ List.replicate m (T.tup [wT "halve"]), period, turn, h1, ?_, ⟨base.nu, ⟨fun x hx => ?_, by simp; omega⟩, base.tu, (RzL_app (rzb came hc.1 hc.2) (halves_r m)).mono (by omega), base.rt, hp⟩, B1⟩
    · simp [lw3, e1, mu, z]
    · rcases List.mem_append.mp hx with hx | hx
      · exact base.ca.1 x hx
      · rw [List.eq_of_mem_replicate hx]
        exact .one 5 _ (.inl (.inl rfl))
  · exact ⟨[a, b], came, period, turn, h, by simp [lw3, q0, q1, q2, q3, q4], base, B⟩
end
end K06
end

section
set_option Elab.async false
set_option linter.all false
set_option maxRecDepth 10000
/-! K06q: the law's turns: what is asked of a tracker. -/
namespace K06
open PySem Fs Fp Gt
theorem AO_mem {c : Bool} {e q : Nat} {k : Nat} {b l : List T} (a : AO k b l) : ∀ d, (∀ s ∈ b, IsS c e q d s) → ∀ s ∈ l, ∃ d', d' ≤ d ∧ IsS c e q d' s := by
  induction a with
  | nil => exact fun d _ s hs => by cases hs
  | other k w r0 r l hw _ ih =>
    intro d h s hs
    rcases List.mem_cons.mp hs with rfl | hs
    · exact ⟨d, Nat.le_refl _, h _ List.mem_cons_self⟩
    · exact ih d (fun s hs => h s (List.mem_cons_of_mem _ hs)) s hs
  | iff k t b1 b2 r l1 l2 l _ _ _ ih1 ih2 ih =>
    intro d h s hs
    obtain ⟨d', rfl, st, s1, s2, _, _⟩ := (h _ List.mem_cons_self).iff_inv
    simp only [List.cons_append, List.mem_cons, List.mem_append] at hs
    rcases hs with rfl | (hs | hs) | hs
    · exact ⟨d' + 1, Nat.le_refl _, h _ List.mem_cons_self⟩
    · obtain ⟨j, hj, r⟩ := ih1 d' s1 s hs
      exact ⟨j, by omega, r⟩
    · obtain ⟨j, hj, r⟩ := ih2 d' s2 s hs
      exact ⟨j, by omega, r⟩
    · exact ih _ (fun s hs => h s (List.mem_cons_of_mem _ hs)) s hs
/-- a tracker taken apart -/
theorem bod_of {nums : List (String × Int × Int)} {came turn : List T} {period : Int} (c : Cnd nums came period turn) : ∃ (cs ts : List SI) (bc bt : Nat), Bod came turn cs ts 5 5 bc bt ∧ (∀ i ∈ cs ++ ts, LOk i ∧ Shp 30 i.s) := by
  obtain ⟨cs, bc, a1, o1, d1, k1, l1⟩ := bodies (c := true) (e := 8) (q := 8) (by decide) (by decide) 5 came c.ca.1
  obtain ⟨ts, bt, a2, o2, d2, k2, l2⟩ := bodies (c := true) (e := 8) (q := 8) (by decide) (by decide) 5 turn c.tu.1
  have cn : cntS 5 = 9331 := by decide
  rw [cn] at l1 l2
  have m1 : came.length * 9331 ≤ 32 * 9331 := Nat.mul_le_mul_right _ c.ca.2
  have m2 : turn.length * 9331 ≤ 32 * 9331 := Nat.mul_le_mul_right _ c.tu.2
  have ok : ∀ i ∈ cs ++ ts, SIok i := fun i hi => (List.mem_append.mp hi).elim (o1 i) (o2 i)
  have is : ∀ i ∈ cs ++ ts, ∃ d', d' ≤ 5 ∧ IsS true 8 8 d' i.s := fun i hi => by
    rcases List.mem_append.mp hi with hi | hi
    · exact AO_mem a1 5 c.ca.1 i.s (List.mem_map_of_mem hi)
    · exact AO_mem a2 5 c.tu.1 i.s (List.mem_map_of_mem hi)
  refine ⟨cs, ts, bc, bt, ⟨a1, a2, d1, d2, ok, by omega, by omega⟩, fun i hi => ?_⟩
  obtain ⟨d', hd, s⟩ := is i hi
  exact ⟨⟨ok i hi, true, 8, 8, d', Nat.le_refl 8, Nat.le_refl 8, s⟩, s.shp.mono (by omega)⟩
theorem tr_shp {c1 c2 : Bool} {e q d : Nat} {slots most period : Int} {nums : List (String × Int × Int)} {came turn : List T} (s : IsTr c1 c2 e q d slots most period nums came turn) (hb : e + q + 2 * d ≤ 40) : Shp 46 (trT slots most period nums came turn) := by
  have sw : ∀ {w : String}, w ∈ allW → Shp 0 (wT w) := fun {w} h => Shp.word (allW_ok w h).1
  have sc : Shp 45 (.tup came) := (Shp.tup fun t ht => (s.ca.1 t ht).shp).mono (by omega)
  have st : Shp 45 (.tup turn) := (Shp.tup fun t ht => (s.tu.1 t ht).shp).mono (by omega)
  have sn : Shp 2 (.tup (nums.map numT)) := Shp.tup fun t ht => by
    obtain ⟨y, hy, rfl⟩ := List.mem_map.mp ht
    obtain ⟨h1, h2, h3⟩ := s.nu.2.2 y hy
    exact Shp.tup (all3 (by rcases h1 with h1 | h1 <;> rw [h1] <;> exact sw (by decide)) (Shp.int (by omega)) (Shp.int (by omega)))
  have h1 := s.sl
  have h2 := s.mo
  have h3 := s.pe
  refine Shp.tup fun t ht => ?_
  simp only [List.mem_cons, List.not_mem_nil, or_false] at ht
  rcases ht with rfl | rfl | rfl | rfl | rfl | rfl
  · exact (Shp.int (by omega)).mono (Nat.zero_le _)
  · exact (Shp.int (by omega)).mono (Nat.zero_le _)
  · exact sn.mono (by decide)
  · exact sc
  · exact (Shp.int (by omega)).mono (Nat.zero_le _)
  · exact st
/-- told, or not -/
theorem due_form {cl ck : Nat} {tr : T} {lim a b : Option (List T)} {per : Bool} {h' : Hs} : (∃ (w : String) (r : List T), dueT tr lim a per b = .tup (wT w :: r) ∧ w ≠ "told") ∨ (dueT tr lim a per b = .tup [wT "told", tr] ∧ outR cl ck tr lim a per b h' = .ok tr h') := by
  unfold dueT outR
  cases lim with
  | some xs => exact .inl ⟨_, _, rfl, by decide⟩
  | none =>
    cases a with
    | some xs => exact .inl ⟨_, _, rfl, by decide⟩
    | none =>
      cases per with
      | true => exact .inl ⟨_, _, rfl, by decide⟩
      | false =>
        cases b with
        | some xs => exact .inl ⟨_, _, rfl, by decide⟩
        | none => exact .inr ⟨rfl, rfl⟩
section
variable {W k : Nat}
theorem asks_ok {n : Nat} (hn : 80 ≤ n) {h : Hs} {slots most period : Int} {nums : List (String × Int × Int)} {came turn cl : List T} {t0 : T} {o0 o1 o2 o4 o5 o6 o10 o11 o12 o13 : Option T} (c : Cnd nums came period turn) (hs : 1 ≤ slots ∧ slots ≤ 4) (hm : 1 ≤ most ∧ most ≤ 30) (hcl : ∀ t ∈ cl, IsCl t) (hl : cl.length ≤ 3) :
    ∃ o11' o12' o13' h', evSs D W (callN D W n) (.cons lw4 (.cons lw5 (.cons lw6 (.cons lw7 (.cons lw8 (.cons lw9 (.nil))))))) [o0, o1, o2, some (.tup [t0, .tup cl]), some (.int slots), some (.int most), some (.tup (nums.map numT)), some (.tup came), some (.int period), some (.tup turn), o10, o11, o12, o13] h =
      .nx [o0, o1, o2, some (.tup [t0, .tup cl]), some (.int slots), some (.int most), some (.tup (nums.map numT)), some (.tup came), some (.int period), some (.tup turn), o10, o11', o12', o13'] h' ∧ Gr h h' := by
  obtain ⟨n, rfl⟩ : ∃ m, n = m + 80 := ⟨n - 80, by omega⟩
  obtain ⟨cs, ts, bc, bt, bd, lk⟩ := bod_of c
  have s : IsTr true true 8 8 5 slots most period nums came turn := ⟨hs, hm, c.pe, c.nu, ⟨c.ca.1, by have := c.ca.2; omega⟩, ⟨c.tu.1, by have := c.tu.2; omega⟩⟩
  have ln := bd.pln
  have due := due_ok (W := W) s bd (by decide) (by decide) (by decide) (fun i hi => (lk i hi).1) (n := n + 80) (by omega) h
  obtain ⟨h1, e1, g1⟩ := checked_ok hK hV (W := W) s bd (by decide) (by decide) (by decide) (n := n + 79) (by omega) h
  have fa : ∀ xs, firstN (nums.map (·.1)) "came" 0 cs = some xs → ∃ y z, xs = [y, z] := fun xs h => by
    obtain ⟨m, e, _⟩ := firstN_two h
    exact ⟨_, _, e⟩
  have fb : ∀ xs, firstT (nums.map (·.1)) 0 ts = some xs → ∃ y z, xs = [y, z] := fun xs h => by
    obtain ⟨m, w, e, _⟩ := firstT_two h
    exact ⟨_, _, e⟩
  have told := told_of (W := W) (n := n + 79) fa fb e1
  obtain ⟨dt, ed, sd, rd⟩ := dueT_sr (bc := bc) (bt := bt) s (by decide) c.rc c.rt (fun i hi => (lk i hi).1.1)
  have al : ∀ h, callN D W (n + 80) 8 [.tup dt, .tup dt] h = .ok (.bl true) h := fun h => alike_ok (W := W) (n := n + 79) sd (by decide) rd (by decide) (fun k e => by cases e)
  have shT := tr_shp s (by decide)
  -- the last asks
  have sevens : ∀ h1, ∃ h2, evS D W (callN D W (n + 80)) lw7 [o0, o1, o2, some (.tup [t0, .tup cl]), some (.int slots), some (.int most), some (.tup (nums.map numT)), some (.tup came), some (.int period), some (.tup turn), o10, some (trT slots most period nums came turn), some (.tup dt), o13] h1 = .nx [o0, o1, o2, some (.tup [t0, .tup cl]), some (.int slots), some (.int most), some (.tup (nums.map numT)), some (.tup came), some (.int period), some (.tup turn), o10, some (trT slots most period nums came turn), some (.tup dt), o13] h2 ∧ Gr h1 h2 := fun h1 => by
    obtain ⟨h2, e2, g2⟩ := numbered_ok hK hV (W := W) s bd (by decide) (by decide) (by decide) (n := n + 80) (by omega) h1
    have e2 : callN D W (n + 80) 10 [trT slots most period nums came turn] h1 = .ok (.tup ((cs ++ ts).map SI.s)) h2 := e2
    have a1 := all_ok (W := W) (n := n + 80) bd.pca (by omega) (by rw [List.length_map]; omega) h2
    have a2 := all_ok (W := W) (n := n + 80) bd.ptu (by omega) (by rw [List.length_map]; omega) h2
    obtain ⟨h3, e3, g3⟩ := checked_ok hK hV (W := W) s bd (by decide) (by decide) (by decide) (n := n + 79) (by omega) h2
    rcases due_form (cl := 2) (ck := 3) (tr := trT slots most period nums came turn) (lim := lgO (limO (cs.length + ts.length) bc bt (cs ++ ts))) (a := firstN (nums.map (·.1)) "came" 0 cs) (b := firstT (nums.map (·.1)) 0 ts) (per := decide (period = 0) && !decide (turn = [])) (h' := h3) with ⟨w, r, e, hw⟩ | ⟨e, eo⟩
    · rw [ed] at e
      injection e with e
      subst e
      exact ⟨h1, by simp [lw7, hw], Gr.refl⟩
    · rw [ed] at e
      injection e with e
      subst e
      have e3 : callN D W (n + 79) x.f_checked_tracker [trT slots most period nums came turn] h2 = .ok (trT slots most period nums came turn) h3 := e3.trans eo
      have ct := ctext_ok hK hV hC hX (W := W) (n := n + 79) hcl (by omega) (by omega) e3
      have ct : callN D W (n + 80) 12 [.tup [trT slots most period nums came turn, .tup cl]] h2 = .ok (.tup [trT slots most period nums came turn, .tup cl]) h3 := ct
      have q1 : eqT h2 (.tup (cs.map SI.s ++ ts.map SI.s)) (.tup (cs.map SI.s ++ ts.map SI.s)) = some true := eq_same (D := 31) (Shp.tup fun t ht => by
        rw [← List.map_append] at ht
        obtain ⟨i, hi, rfl⟩ := List.mem_map.mp ht
        exact (lk i hi).2) (by decide) (fun k e => by cases e)
      have q2 : eqT h3 (.tup [trT slots most period nums came turn, .tup cl]) (.tup [trT slots most period nums came turn, .tup cl]) = some true := eq_same (D := 47) (Shp.tup (all2 shT ((Shp.tup fun t ht => (hcl t ht).shp).mono (by decide)))) (by decide) (fun k e => by cases e)
      rw [List.map_append] at e2
      have z : cs.length + ts.length ≤ 1000000 := by omega
      refine ⟨h3, ?_, g2.trans g3⟩
      generalize trT slots most period nums came turn = tr at *
      simp [lw7, e2, a1, a2, z, q1, ct, q2]
  obtain ⟨h2, e7, g2⟩ := sevens h1
  have no1 : ∀ t ∈ [T.non, .lst [.int slots, .int most, .tup (nums.map numT), .tup came, .int period, .tup turn], .tup [.int slots, .int most, .tup (nums.map numT), .tup came, .int period]], callN D W (n + 80) 13 [t] h2 = .exc 0 [] h2 := by
    have z : ∀ {t : T}, NoTr D x W t → callN D W (n + 80) 13 [t] h2 = .exc 0 [] h2 := fun nt => none_ok hK hV (W := W) nt (n := n + 80) (by omega) h2
    exact all3 (z (notr_non hK hV)) (z (notr_lst hK hV)) (z (notr_tup hK hV (by simp)))
  obtain ⟨p1, f1⟩ := odd_loop (D := D) (W := W) (n := n + 80) (f := 13) (c0 := 0) (v := 13) (h := h2) (by decide) [T.non, .lst [.int slots, .int most, .tup (nums.map numT), .tup came, .int period, .tup turn], .tup [.int slots, .int most, .tup (nums.map numT), .tup came, .int period]] [o0, o1, o2, some (.tup [t0, .tup cl]), some (.int slots), some (.int most), some (.tup (nums.map numT)), some (.tup came), some (.int period), some (.tup turn), o10, some (trT slots most period nums came turn), some (.tup dt), o13] no1 (by simp)
  have no2 : ∀ t ∈ [T.non, .tup [trT slots most period nums came turn], .tup [trT slots most period nums came turn, .non], .tup [.non, .tup []]], callN D W (n + 80) 12 [t] h2 = .exc 0 [] h2 :=
    all4 (text_non hK hV hX (W := W) (n := n + 79) h2) (text_one hK hV hX (W := W) (n := n + 79) h2) (text_nc hK hV hC hX (W := W) (n := n + 77) h2) (text_nt hK hV hC hX (W := W) (n := n + 80) (by omega) h2)
  obtain ⟨p2, f2⟩ := odd_loop (D := D) (W := W) (n := n + 80) (f := 12) (c0 := 0) (v := 13) (h := h2) (by decide) [T.non, .tup [trT slots most period nums came turn], .tup [trT slots most period nums came turn, .non], .tup [.non, .tup []]] [o0, o1, o2, some (.tup [t0, .tup cl]), some (.int slots), some (.int most), some (.tup (nums.map numT)), some (.tup came), some (.int period), some (.tup turn), o10, some (trT slots most period nums came turn), some (.tup dt), p1] no2 (by simp)
  refine ⟨some (trT slots most period nums came turn), some (.tup dt), p2, h2, ?_, g1.trans g2⟩
  have s4 : evS D W (callN D W (n + 80)) lw4 [o0, o1, o2, some (.tup [t0, .tup cl]), some (.int slots), some (.int most), some (.tup (nums.map numT)), some (.tup came), some (.int period), some (.tup turn), o10, o11, o12, o13] h = .nx [o0, o1, o2, some (.tup [t0, .tup cl]), some (.int slots), some (.int most), some (.tup (nums.map numT)), some (.tup came), some (.int period), some (.tup turn), o10, some (trT slots most period nums came turn), o12, o13] h := by
    simp [lw4, trT]
  have s5 : evS D W (callN D W (n + 80)) lw5 [o0, o1, o2, some (.tup [t0, .tup cl]), some (.int slots), some (.int most), some (.tup (nums.map numT)), some (.tup came), some (.int period), some (.tup turn), o10, some (trT slots most period nums came turn), o12, o13] h = .nx [o0, o1, o2, some (.tup [t0, .tup cl]), some (.int slots), some (.int most), some (.tup (nums.map numT)), some (.tup came), some (.int period), some (.tup turn), o10, some (trT slots most period nums came turn), some (.tup dt), o13] h := by
    rw [ed] at due
    simp [lw5, due]
  have s6 : evS D W (callN D W (n + 80)) lw6 [o0, o1, o2, some (.tup [t0, .tup cl]), some (.int slots), some (.int most), some (.tup (nums.map numT)), some (.tup came), some (.int period), some (.tup turn), o10, some (trT slots most period nums came turn), some (.tup dt), o13] h = .nx [o0, o1, o2, some (.tup [t0, .tup cl]), some (.int slots), some (.int most), some (.tup (nums.map numT)), some (.tup came), some (.int period), some (.tup turn), o10, some (trT slots most period nums came turn), some (.tup dt), o13] h1 := by
    rw [ed] at told
    simp [lw6, told, al]
  have s8 : evS D W (callN D W (n + 80)) lw8 [o0, o1, o2, some (.tup [t0, .tup cl]), some (.int slots), some (.int most), some (.tup (nums.map numT)), some (.tup came), some (.int period), some (.tup turn), o10, some (trT slots most period nums came turn), some (.tup dt), o13] h2 = .nx [o0, o1, o2, some (.tup [t0, .tup cl]), some (.int slots), some (.int most), some (.tup (nums.map numT)), some (.tup came), some (.int period), some (.tup turn), o10, some (trT slots most period nums came turn), some (.tup dt), p1] h2 := by
    have li : biT .list h2 [trT slots most period nums came turn] = some (T.lst [.int slots, .int most, .tup (nums.map numT), .tup came, .int period, .tup turn]) := rfl
    have sl : slT (trT slots most period nums came turn) none (some 5) = some (T.tup [.int slots, .int most, .tup (nums.map numT), .tup came, .int period]) := rfl
    have hi : ∀ tr l5 t5, biT .list h2 [tr] = some l5 → slT tr none (some 5) = some t5 → evI D (callN D W (n + 80)) (.seq (.tup (.cons (.non) (.cons (.bi .list (.cons (.var 11) (.nil))) (.cons (.sl (.var 11) (.absent) (.int 5)) (.nil)))))) [o0, o1, o2, some (.tup [t0, .tup cl]), some (.int slots), some (.int most), some (.tup (nums.map numT)), some (.tup came), some (.int period), some (.tup turn), o10, some tr, some (.tup dt), o13] h2 = .ok [T.non, l5, t5] h2 := fun tr l5 t5 li sl => by
      simp [li, sl]
    have hi := hi _ _ _ li sl
    show evS D W (callN D W (n + 80)) (.for_ (.nm 13) _ (oddS 13 0 13)) _ _ = _
    rw [evS_for, hi, R.toS_ok]
    exact f1
  have s9 : evS D W (callN D W (n + 80)) lw9 [o0, o1, o2, some (.tup [t0, .tup cl]), some (.int slots), some (.int most), some (.tup (nums.map numT)), some (.tup came), some (.int period), some (.tup turn), o10, some (trT slots most period nums came turn), some (.tup dt), p1] h2 = .nx [o0, o1, o2, some (.tup [t0, .tup cl]), some (.int slots), some (.int most), some (.tup (nums.map numT)), some (.tup came), some (.int period), some (.tup turn), o10, some (trT slots most period nums came turn), some (.tup dt), p2] h2 := by
    have hi : evI D (callN D W (n + 80)) (.seq (.tup (.cons (.non) (.cons (.tup (.cons (.var 11) (.nil))) (.cons (.tup (.cons (.var 11) (.cons (.non) (.nil)))) (.cons (.tup (.cons (.non) (.cons (.tup (.nil)) (.nil)))) (.nil))))))) [o0, o1, o2, some (.tup [t0, .tup cl]), some (.int slots), some (.int most), some (.tup (nums.map numT)), some (.tup came), some (.int period), some (.tup turn), o10, some (trT slots most period nums came turn), some (.tup dt), p1] h2 = .ok [T.non, .tup [trT slots most period nums came turn], .tup [trT slots most period nums came turn, .non], .tup [.non, .tup []]] h2 := by
      simp
    show evS D W (callN D W (n + 80)) (.for_ (.nm 13) _ (oddS 12 0 13)) _ _ = _
    rw [evS_for, hi, R.toS_ok]
    exact f2
  rw [evSs_cons, s4, andThen_nx, evSs_cons, s5, andThen_nx, evSs_cons, s6, andThen_nx, evSs_cons, e7, andThen_nx, evSs_cons, s8, andThen_nx, evSs_cons, s9, andThen_nx, evSs_nil]
theorem turn_ok {n : Nat} (hn : 80 ≤ n) {h : Hs} {o0 o2 o3 o4 o5 o6 o7 o8 o9 o10 o11 o12 o13 : Option T} (B : Bag h k) : ∃ p3 p4 p5 p6 p7 p8 p9 p10 p11 p12 p13 h', evSs D W (callN D W n) lwB [o0, some (.ref k), o2, o3, o4, o5, o6, o7, o8, o9, o10, o11, o12, o13] h = .nx [o0, some (.ref k), o2, p3, p4, p5, p6, p7, p8, p9, p10, p11, p12, p13] h' ∧ Bag h' k := by
  obtain ⟨slots, most, period, nums, came, turn, cl, h1, e1, hs, hm, hp, l2, nd, nm, c1, c2, t1, t2, k1, k2, B1, b1⟩ := draw_text hD hT hL (W := W) (n := n) (by omega) B
  have e1 : callN D W n 2 [.ref k] h = .ok (.tup [trT slots most period nums came turn, .tup cl]) h1 := e1
  obtain ⟨n', rfl⟩ : ∃ m, n = m + 1 := ⟨n - 1, by omega⟩
  obtain ⟨v, h2, e2, v0, v1, B2, b2, _⟩ := take_call (W := W) hL (n := n') (m := 7) B1 (by decide) (by decide)
  have e2 : callN D W (n' + 1) 3 [.ref k, .int 7] h1 = .ok (.int v) h2 := e2
  obtain ⟨a, b, rfl⟩ : ∃ a b, nums = [a, b] := by
    match nums, l2 with
    | [a, b], _ => exact ⟨a, b, rfl⟩
  have hp' : 0 ≤ period ∧ period ≤ 32 := by omega
  obtain ⟨nums', came', period', turn', h3, e3, cn, B3⟩ := mods_ok (W := W) (n := n' + 1) (by omega) (slots := slots) (most := most) (o0 := o0) (o2 := o2) (o3 := some (.tup [trT slots most period [a, b] came turn, .tup cl])) (o11 := o11) (o12 := o12) (o13 := o13) B2 v0 ⟨nd, nm⟩ ⟨c1, c2⟩ ⟨t1, t2⟩ hp'
  obtain ⟨p11, p12, p13, h4, e4, g4⟩ := asks_ok (W := W) (n := n' + 1) hn (h := h3) (t0 := trT slots most period [a, b] came turn) (o0 := o0) (o1 := some (.ref k)) (o2 := o2) (o4 := none) (o5 := none) (o6 := none) (o10 := some (.int v)) (o11 := o11) (o12 := o12) (o13 := o13) cn hs hm k1 k2
  refine ⟨some (.tup [trT slots most period [a, b] came turn, .tup cl]), some (.int slots), some (.int most), some (.tup (nums'.map numT)), some (.tup came'), some (.int period'), some (.tup turn'), some (.int v), p11, p12, p13, h4, ?_, bag_gr B3 g4⟩
  have s0 : evS D W (callN D W (n' + 1)) lw0 [o0, some (.ref k), o2, o3, o4, o5, o6, o7, o8, o9, o10, o11, o12, o13] h = .nx [o0, some (.ref k), o2, some (.tup [trT slots most period [a, b] came turn, .tup cl]), o4, o5, o6, o7, o8, o9, o10, o11, o12, o13] h1 := by
    simp [lw0, e1]
  have s1 : evS D W (callN D W (n' + 1)) lw1 [o0, some (.ref k), o2, some (.tup [trT slots most period [a, b] came turn, .tup cl]), o4, o5, o6, o7, o8, o9, o10, o11, o12, o13] h1 = .nx [o0, some (.ref k), o2, some (.tup [trT slots most period [a, b] came turn, .tup cl]), some (.int slots), some (.int most), some (.tup ([a, b].map numT)), some (.tup came), some (.int period), some (.tup turn), o10, o11, o12, o13] h1 := by
    simp [lw1, trT, bindG, bindTs]
  have s2 : evS D W (callN D W (n' + 1)) lw2 [o0, some (.ref k), o2, some (.tup [trT slots most period [a, b] came turn, .tup cl]), some (.int slots), some (.int most), some (.tup ([a, b].map numT)), some (.tup came), some (.int period), some (.tup turn), o10, o11, o12, o13] h1 = .nx [o0, some (.ref k), o2, some (.tup [trT slots most period [a, b] came turn, .tup cl]), some (.int slots), some (.int most), some (.tup ([a, b].map numT)), some (.tup came), some (.int period), some (.tup turn), some (.int v), o11, o12, o13] h2 := by
    simp [lw2, e2]
  unfold lwB
  rw [evSs_cons, s0, andThen_nx, evSs_cons, s1, andThen_nx, evSs_cons, s2, andThen_nx, evSs_cons, e3, andThen_nx]
  exact e4
theorem turns {n : Nat} (hn : 80 ≤ n) {o0 : Option T} : ∀ (L : List T) (h : Hs) (o2 o3 o4 o5 o6 o7 o8 o9 o10 o11 o12 o13 : Option T), Bag h k →
    ∃ env' h', forL (.nm 2) (fun env2 h2 => evSs D W (callN D W n) lwB env2 h2) L [o0, some (.ref k), o2, o3, o4, o5, o6, o7, o8, o9, o10, o11, o12, o13] h = .nx env' h'
  | [], h, o2, o3, o4, o5, o6, o7, o8, o9, o10, o11, o12, o13, B => ⟨_, h, rfl⟩
  | t :: L, h, o2, o3, o4, o5, o6, o7, o8, o9, o10, o11, o12, o13, B => by
    obtain ⟨p3, p4, p5, p6, p7, p8, p9, p10, p11, p12, p13, h1, e1, B1⟩ := turn_ok (W := W) hn (h := h) (o0 := o0) (o2 := some t) (o3 := o3) (o4 := o4) (o5 := o5) (o6 := o6) (o7 := o7) (o8 := o8) (o9 := o9) (o10 := o10) (o11 := o11) (o12 := o12) (o13 := o13) B
    obtain ⟨env', h2, e2⟩ := turns hn (o0 := o0) L h1 (some t) p3 p4 p5 p6 p7 p8 p9 p10 p11 p12 p13 B1
    exact ⟨env', h2, by rw [forL_nx (env2 := [o0, some (.ref k), some t, p3, p4, p5, p6, p7, p8, p9, p10, p11, p12, p13]) (h2 := h1) e1]; exact e2⟩
end
theorem law_ok (ns : List Int) (hl : ns.length ≤ 63) : ∃ h', callN D 5 100 0 [.scr ns] [] = .ok (.bl true) h' := by
  obtain ⟨h1, e1, B1⟩ := bag_call (D := D) (W := 5) (n := 98) (f := 1) (h := []) rfl hl
  obtain ⟨env', h2, e2⟩ := turns (W := 5) (n := 99) (k := 0) (by decide) (o0 := some (.scr ns)) ((List.range (12 : Int).toNat).map fun i : Nat => T.int (i : Int)) h1 none none none none none none none none none none none none B1
  have e1 : callN D 5 99 1 [.scr ns] [] = .ok (.ref 0) h1 := e1
  refine ⟨h2, ?_⟩
  rw [callN_eq (fn := ⟨none, "law", 1, 14, f_law⟩) rfl rfl (by decide), law_body]
  have f1 : evS D 5 (callN D 5 99) (.for_ (.nm 2) (.rng (.int 12)) lwB) [some (.scr ns), some (.ref 0), none, none, none, none, none, none, none, none, none, none, none, none] h1 = .nx env' h2 := by
    rw [evS_for, rng_ok (i := 12) (h1 := h1) (by simp) (rangeT_nat (by decide) (by decide)), R.toS_ok]
    exact e2
  simp [e1, f1]
end K06
end

section
set_option Elab.async false
set_option linter.all false
set_option maxRecDepth 100000
set_option maxHeartbeats 0
/-! K06h: the head's run (printed by print_hf.py). -/
namespace K06
open PySem Fs
abbrev R : PySem.W.OpenRow := PySem.W.OpenLaw.row PySem.Challenge.rw_fewslots_k06_trackers_that_are_kinded
abbrev hk : PySem.W.Hook := hookX 6 D dd xs
def ob (s : PySem.W.SharedT) : Ob2 := obsXG 6 D dd xs (HandSHeadRun.getT s)
theorem ob_eq (s : PySem.W.SharedT) : ob s = hk.obs s.abs := obsXG_eq (HandSHeadRun.getT_eq s)
abbrev loose : List Str := (["_wall", "__name__", "SlotError", "BadKind", "Nothing", "TooLarge", "LETTERS", "DIGITS", "MOST_LETTERS", "MOST_NUMBER", "MOST_SLOTS", "MOST_COUNT", "MOST_NUMBERS", "MOST_PERIOD", "MOST_FACTOR", "MOST_BOUND", "MOST_SHARE", "MOST_CLAIMS", "PAIRS", "WHENS"] : List Str) ++ (["RESERVED", "is_number", "is_between", "is_name", "is_sized", "is_tuple_of", "is_worded", "is_expr", "is_test", "is_statement", "is_body", "is_named_number", "is_tracker", "is_claim", "are_claims", "MOST_LINES", "MOST_BLOCKS", "MOST_DEEP", "MOST_PARTS", "MOST_TESTS"] : List Str) ++ (["COME", "bodies_in", "in_order", "blocks_deep", "inner", "deep", "plain_parts", "exprs_in", "check_sizes", "check_names", "does_ask_come", "numbered", "check_limits", "checked_tracker", "checked_text", "_law_take", "_law_some", "_law_bag", "_law_any_expr", "_law_any_test"] : List Str) ++ (["_law_any_body", "_law_claim", "_law_any_text", "_law_alike", "_law_all", "_law_blocks", "_law_exprs", "_law_in_tests", "_law_size", "_law_words", "_law_names", "_law_leaves", "_law_due_of", "_law_told_of", "_law_large"] : List Str)
theorem run (w : World) : HandSHeadRun.RunEq R (PySem.W.view R.prog [78]) hk ob 12000 loose w := by
  intro os
  kernel_rfl
end K06
end

section
set_option Elab.async false
set_option linter.all false
set_option maxRecDepth 100000
set_option maxHeartbeats 0
/-! K06f: the law holds if its term answers (printed by print_hf.py). -/
open PySem PySem.W PySem.Calls PyProof.Rows
theorem k06_holds {wn : Nat} (ans : ∀ ns : List Int, ns.length ≤ 63 → ∃ h', Fs.callN K06.D wn 100 0 [.scr ns] [] = .ok (.bl true) h') : PySem.Challenge.rw_fewslots_k06_trackers_that_are_kinded.Holds := by
  w_on; o_law
  refine HandSHeadRun.head_any (r := K06.R) (q := view K06.R.prog [78]) (H := K06.hk) (ob := K06.ob) (M := 12000) (loose := K06.loose) (d := HandSHeadRun.topDef K06.R.prog 78) (kwd := []) K06.ob_eq
    (by kernel_rfl) (fun s => by kernel_rfl) K06.run (by kernel_rfl) (by kernel_rfl) (by kernel_rfl) (by rfl) (by first | assumption | decide +kernel) (by decide +kernel) ⟨rfl, rfl, rfl, rfl, rfl, by decide +kernel⟩ ?hw ?hc
  case hw => w_witness2
  case hc =>
    exact Fs.walk_go (l := PySem.Challenge.rw_fewslots_k06_trackers_that_are_kinded) (most := 63) (n := 100) (wn := wn) (fl := 0) (sc := 6) (D := K06.D) (dd := K06.dd) (xs := K06.xs) (dl := K06.d0) rfl (by decide) (by kernel_rfl) ⟨rfl, by decide, by decide⟩ rfl (by kernel_rfl) (by decide) K06.tAll K06.bAll K06.xAll (by kernel_rfl) (by kernel_rfl) ans
end

section
/-! K06z: the law holds. -/
theorem k06_all : PySem.Challenge.rw_fewslots_k06_trackers_that_are_kinded.Holds := k06_holds K06.law_ok
end

set_option maxRecDepth 100000 in
set_option maxHeartbeats 0 in
theorem PySem.Challenge.cw_fewslots_k06_trackers_that_are_kinded_holds : PySem.Challenge.rw_fewslots_k06_trackers_that_are_kinded.Holds := by
  exact k06_all
