import PyProof.Rows.All
import Wide.All
import OpenK.AllK
import Wide.FinOn
import HandS.ForMost
import HandS.ForExc
import HandS.TupAny
import HandS.TupMul
import HandS.IsInst
import HandS.Text
import HandS.ExcOwn
import HandS.CallLocal
import HandS.Comp
import HandS.Zip
import HandS.Style
import HandS.WordsExc
import HandS.Defaults
import HandS.HeadHook4
import HandS.HeadEnd
import HandS.Codes
import KE.KStateDown
import Lean
import HandS.Head0
import HandS.Head1
import HandS.Head2
import PySem.Challenge.RW_codenotary_k69_machine_counts
set_option Elab.async false
set_option maxRecDepth 100000
/-! CnSem: a small interpreter over plain data (tuples as trees, lists by value or at a place of a list-shaped heap). -/
namespace CN
open PySem

/-- a value: tuples and lists that nobody changes stand as trees; ref n: the n-th object of the heap -/
inductive D where
  | non | bl (b : Bool) | int (i : Int) | str (x : Str)
  | tup (ds : List D) | tl (ds : List D) | kl (ds : List D)
  | ref (n : Nat) | fn (g : Nat) | cls (c : Nat) | ty (n : String) | tab (t : Nat)

mutual
def D.eqb : D → D → Bool
  | .non, .non => true
  | .bl a, .bl b => a == b
  | .int a, .int b => decide (a = b)
  | .str a, .str b => decide (a = b)
  | .tup a, .tup b => D.eqbs a b
  | .tl a, .tl b => D.eqbs a b
  | .kl a, .kl b => D.eqbs a b
  | .ref a, .ref b => decide (a = b)
  | .fn a, .fn b => decide (a = b)
  | .cls a, .cls b => decide (a = b)
  | .ty a, .ty b => decide (a = b)
  | .tab a, .tab b => decide (a = b)
  | _, _ => false
def D.eqbs : List D → List D → Bool
  | [], [] => true
  | x :: xs, y :: ys => D.eqb x y && D.eqbs xs ys
  | _, _ => false
end
mutual
theorem D.eqb_refl : ∀ d : D, D.eqb d d = true
  | .non => by simp [D.eqb]
  | .bl _ => by simp [D.eqb]
  | .int _ => by simp [D.eqb]
  | .str _ => by simp [D.eqb]
  | .tup ds => by simp [D.eqb, D.eqbs_refl ds]
  | .tl ds => by simp [D.eqb, D.eqbs_refl ds]
  | .kl ds => by simp [D.eqb, D.eqbs_refl ds]
  | .ref _ => by simp [D.eqb]
  | .fn _ => by simp [D.eqb]
  | .cls _ => by simp [D.eqb]
  | .ty _ => by simp [D.eqb]
  | .tab _ => by simp [D.eqb]
theorem D.eqbs_refl : ∀ ds : List D, D.eqbs ds ds = true
  | [] => by simp [D.eqbs]
  | d :: ds => by simp [D.eqbs, D.eqb_refl d, D.eqbs_refl ds]
end
mutual
theorem D.eqb_eq : ∀ {a b : D}, D.eqb a b = true → a = b
  | .non, b, h => by cases b <;> simp [D.eqb] at h <;> rfl
  | .bl _, b, h => by cases b <;> simp [D.eqb] at h <;> simp [h]
  | .int _, b, h => by cases b <;> simp [D.eqb] at h <;> simp [h]
  | .str _, b, h => by cases b <;> simp [D.eqb] at h <;> simp [h]
  | .tup ds, b, h => by cases b <;> simp [D.eqb] at h <;> simp [D.eqbs_eq h]
  | .tl ds, b, h => by cases b <;> simp [D.eqb] at h <;> simp [D.eqbs_eq h]
  | .kl ds, b, h => by cases b <;> simp [D.eqb] at h <;> simp [D.eqbs_eq h]
  | .ref _, b, h => by cases b <;> simp [D.eqb] at h <;> simp [h]
  | .fn _, b, h => by cases b <;> simp [D.eqb] at h <;> simp [h]
  | .cls _, b, h => by cases b <;> simp [D.eqb] at h <;> simp [h]
  | .ty _, b, h => by cases b <;> simp [D.eqb] at h <;> simp [h]
  | .tab _, b, h => by cases b <;> simp [D.eqb] at h <;> simp [h]
theorem D.eqbs_eq : ∀ {a b : List D}, D.eqbs a b = true → a = b
  | [], b, h => by cases b <;> simp [D.eqbs] at h <;> rfl
  | x :: xs, b, h => by
    cases b with
    | nil => simp [D.eqbs] at h
    | cons y ys =>
      simp only [D.eqbs, Bool.and_eq_true] at h
      rw [D.eqb_eq h.1, D.eqbs_eq h.2]
end

/-- an object: a list, an instance (class, fields by number), a dict -/
inductive GO where
  | lst (ds : List D)
  | ins (c : Nat) (fs : List (Nat × D))
  | dct (kvs : List (L2.Key × D))
abbrev Hs := List GO
abbrev Env := List (Option D)

inductive Res (α : Type) where
  | stuck
  | ok (a : α) (s : Hs)
  | err (c : Nat) (fs : List (Nat × D)) (s : Hs)
def Res.bind {α β : Type} : Res α → (α → Hs → Res β) → Res β
  | .stuck, _ => .stuck
  | .ok a s, f => f a s
  | .err c fs s, _ => .err c fs s
@[simp] theorem Res.bind_ok {α β : Type} (a : α) (s : Hs) (f : α → Hs → Res β) : (Res.ok a s).bind f = f a s := rfl
@[simp] theorem Res.bind_stuck {α β : Type} (f : α → Hs → Res β) : (Res.stuck : Res α).bind f = .stuck := rfl
@[simp] theorem Res.bind_err {α β : Type} (c : Nat) (fs : List (Nat × D)) (s : Hs) (f : α → Hs → Res β) : (Res.err c fs s : Res α).bind f = .err c fs s := rfl
def Res.of {α : Type} (o : Option α) (s : Hs) : Res α := match o with | some a => .ok a s | none => .stuck
@[simp] theorem Res.of_some {α : Type} (a : α) (s : Hs) : Res.of (some a) s = .ok a s := rfl
@[simp] theorem Res.of_none {α : Type} (s : Hs) : Res.of (none : Option α) s = .stuck := rfl

inductive Flow where
  | next (e : Env) | ret (d : D) | brk (e : Env) | cont (e : Env) | exc (e : Env) (c : Nat) (fs : List (Nat × D))
/-- an expression's end within a statement -/
def Res.bs {α : Type} (env : Env) : Res α → (α → Hs → Res Flow) → Res Flow
  | .stuck, _ => .stuck
  | .ok a s, f => f a s
  | .err c fs s, _ => .ok (.exc env c fs) s
@[simp] theorem Res.bs_ok {α : Type} (env : Env) (a : α) (s : Hs) (f : α → Hs → Res Flow) : (Res.ok a s).bs env f = f a s := rfl
@[simp] theorem Res.bs_stuck {α : Type} (env : Env) (f : α → Hs → Res Flow) : (Res.stuck : Res α).bs env f = .stuck := rfl
@[simp] theorem Res.bs_err {α : Type} (env : Env) (c : Nat) (fs : List (Nat × D)) (s : Hs) (f : α → Hs → Res Flow) : (Res.err c fs s : Res α).bs env f = .ok (.exc env c fs) s := rfl

inductive BOp where | add | sub | mul | fdiv | mod | pow
inductive COp where | lt | le | gt | ge | eq | ne | isin | notin
/-- built-in functions: bool tells a tuple of classes -/
inductive Bi where
  | len | isinst (t : String) | int | tuple | list | all | any | sum | max2 | min2 | abs
  deriving DecidableEq
/-- methods of built-in objects -/
inductive Bm where
  | append | extend | pop | popAt | insert | index | split | replace | join | startswith
  deriving DecidableEq
/-- targets -/
inductive Tg where
  | nm (i : Nat) | tp (is : List Nat)

mutual
inductive Ex where
  | var (i : Nat) | cst (d : D) | glob (x : Nat)
  | tup (es : Exs) | lst (es : Exs) | box (e : Ex)
  | bin (op : BOp) (a b : Ex) | cmp (op : COp) (a b : Ex) | isN (neg : Bool) (a : Ex) | chain (o p : COp) (a b c : Ex)
  | and (es : Exs) | or (es : Exs) | not (a : Ex) | neg (a : Ex)
  | ite (t a b : Ex)
  | idx (a b : Ex) | sl (a : Ex) (lo hi : Exo)
  | attr (e : Ex) (f : Nat)
  | call (g : Nat) (args : Exs) | callv (i : Nat) (args : Exs) | make (c : Nat) (args : Exs) | meth (m : Nat) (e : Ex) (args : Exs)
  | bi (b : Bi) (args : Exs) | bm (m : Bm) (e : Ex) (args : Exs)
  | comp (elt : Ex) (tg : Tg) (own : List Nat) (it : It) (cond : Exo) | compB (elt : Ex) (tg : Tg) (own : List Nat) (it : It) (cond : Exo)
inductive Exs where
  | nil | cons (e : Ex) (es : Exs)
inductive Exo where
  | no | so (e : Ex)
inductive It where
  | seq (e : Ex) | range1 (a : Ex) | range2 (a b : Ex) | zip (a b : Ex) | enum (a : Ex) | rev (a : Ex)
end
mutual
inductive St where
  | asg (t : Tg) (e : Ex) | sub (o i e : Ex) | fld (o : Ex) (f : Nat) (e : Ex)
  | par (is : List Nat) (es : Exs)
  | aug (i : Nat) (op : BOp) (e : Ex) | augf (o : Ex) (f : Nat) (op : BOp) (e : Ex)
  | expr (e : Ex) | ret (e : Ex) | retN
  | ite (t : Ex) (a b : Sts) | whl (t : Ex) (b : Sts) | for_ (tg : Tg) (it : It) (b : Sts)
  | pass | brk | cont
  | raise (c : Nat) (es : Exs)
  | thru (b : Sts)
  | try_ (b : Sts) (hs : Hds)
  | never
inductive Sts where
  | nil | cons (st : St) (sts : Sts)
inductive Hds where
  | nil | cons (c : Nat) (nm : Option Nat) (b : Sts) (hs : Hds)
end

/-! ### operations over values -/
def lenOk (n : Nat) : Bool := decide (n ≤ sizeLine)
/-- a list's content: by value or at its place -/
def lstAt (s : Hs) : D → Option (List D)
  | .tl ds => some ds
  | .ref n => match s[n]? with
    | some (.lst ds) => some ds
    | _ => none
  | _ => none
/-- a list or a tuple -/
def seqAt (s : Hs) : D → Option (List D)
  | .tup ds => some ds
  | .kl ds => some ds
  | d => lstAt s d
def seqAt0 (s : Hs) : D → Option (List D)
  | .tup ds => some ds
  | d => lstAt s d
def flatD : D → Bool
  | .non => true
  | .bl _ => true
  | .int _ => true
  | .str _ => true
  | _ => false
/-- == of flat values -/
def eqF : D → D → Bool
  | .non, .non => true
  | .bl a, .bl b => a == b
  | .bl a, .int b => (if a then 1 else 0) == b
  | .int a, .bl b => a == (if b then 1 else 0)
  | .int a, .int b => a == b
  | .str a, .str b => a == b
  | _, _ => false
/-! data without places, as the library's data -/
mutual
def pure? : D → Option PyData
  | .non => some .none
  | .bl b => some (.bool b)
  | .int i => some (.int i)
  | .str x => some (.str x)
  | .tup ds => match pures? ds with | some xs => some (.tuple xs) | none => none
  | .tl ds => match pures? ds with | some xs => some (.list xs) | none => none
  | _ => none
def pures? : List D → Option (List PyData)
  | [] => some []
  | d :: ds => match pure? d, pures? ds with | some x, some xs => some (x :: xs) | _, _ => none
end
/-- .. a list at its place, too -/
def data? (s : Hs) : D → Option PyData
  | .ref n => match s[n]? with
    | some (.lst ds) => match pures? ds with | some xs => some (.list xs) | none => none
    | _ => none
  | d => pure? d
def eqD (s : Hs) (a b : D) : Option Bool := match data? s a, data? s b with
  | some x, some y => if SeqAt.shaped x && SeqAt.shaped y then some (PyData.eqv x y) else none
  | _, _ => none
def cut {α : Type} (xs : List α) (lo hi : Option Int) : List α :=
  (xs.drop (HT.sIx xs.length 0 lo)).take (HT.sIx xs.length xs.length hi - HT.sIx xs.length 0 lo)
def inRng (i : Int) : Bool := decide (-(2 ^ 64) < i) && decide (i < 2 ^ 64)
def binop (s : Hs) : BOp → D → D → Option D
  | .add, .int i, .int j => some (.int (i + j))
  | .add, .str x, .str y => if x.length + y.length ≤ sizeLine then some (.str (x ++ y)) else none
  | .add, .tup a, .tup b => if a.length + b.length ≤ sizeLine then some (.tup (a ++ b)) else none
  | .add, x, y => match lstAt s x, lstAt s y with
    | some a, some b => if a.length + b.length ≤ sizeLine then some (.tl (a ++ b)) else none
    | _, _ => none
  | .sub, .int i, .int j => some (.int (i - j))
  | .mul, .int i, .int j => if inRng i || inRng j then some (.int (i * j)) else none
  | .mul, .tup a, .int k => if decide (0 ≤ k) && decide (k ≤ 1000) && decide (a.length ≤ 1000) then some (.tup (List.replicate k.toNat a).flatten) else none
  | .mul, .tl a, .int k => if decide (0 ≤ k) && decide (k ≤ 1000) && decide (a.length ≤ 1000) then some (.tl (List.replicate k.toNat a).flatten) else none
  | .fdiv, .int i, .int j => if decide (j ≠ 0) && decide (j.natAbs < 1073741824) then some (.int (i.fdiv j)) else none
  | .mod, .int i, .int j => if decide (j ≠ 0) then some (.int (i.fmod j)) else none
  | .pow, .int i, .int j => if decide (0 ≤ j) && decide (j ≤ 1000000) && decide (i.natAbs < 2 ^ 64) then some (.int (i ^ j.toNat)) else none
  | _, _, _ => none
def inD (tabs : List (List (Str × D))) (s : Hs) (x y : D) : Option Bool := match y with
  | .tab t => match x, tabs[t]? with
    | .str z, some kvs => some (kvs.lookup z).isSome
    | _, _ => none
  | .str z => match x with
    | .str c => some (!(Builtin.Str.occurrences z c 0 z.length 1).isEmpty)
    | _ => none
  | _ => match seqAt s y with
    | some ds => if flatD x && ds.all flatD then some (ds.any fun d => eqF d x) else none
    | none => none
def cmpop (tabs : List (List (Str × D))) (s : Hs) : COp → D → D → Option Bool
  | .lt, .int i, .int j => some (decide (i < j))
  | .lt, .str x, .str y => some (decide (x.cps.toList < y.cps.toList))
  | .le, .int i, .int j => some (decide (i ≤ j))
  | .gt, .int i, .int j => some (decide (j < i))
  | .ge, .int i, .int j => some (decide (j ≤ i))
  | .eq, x, y => eqD s x y
  | .ne, x, y => (eqD s x y).map (!·)
  | .isin, x, y => inD tabs s x y
  | .notin, x, y => (inD tabs s x y).map (!·)
  | _, _, _ => none
def idxop (tabs : List (List (Str × D))) (s : Hs) (x y : D) : Option D := match x, y with
  | .tab t, .str z => match tabs[t]? with
    | some kvs => kvs.lookup z
    | none => none
  | .str z, .int i => if z.length ≤ sizeLine then (L2.atI z.cps.toList i).map fun c => .str ⟨#[c]⟩ else none
  | .ref n, y => match s[n]?, y with
    | some (.lst ds), .int i => L2.atI ds i
    | _, _ => none
  | .tup ds, .int i => L2.atI ds i
  | .tl ds, .int i => L2.atI ds i
  | _, _ => none
def slop (s : Hs) (x : D) (lo hi : Option Int) : Option D := match x with
  | .tup ds => some (.tup (cut ds lo hi))
  | .str z => if z.length ≤ sizeLine then some (.str (L2.cutS z lo hi)) else none
  | _ => match lstAt s x with
    | some ds => some (.tl (cut ds lo hi))
    | none => none
/-- truth -/
def truth (s : Hs) : D → Option Bool
  | .non => some false
  | .bl b => some b
  | .int i => some (i != 0)
  | .str x => if x.length ≤ sizeLine then some (x.length != 0) else none
  | .tup ds => some (!ds.isEmpty)
  | .tl ds => some (!ds.isEmpty)
  | .ref n => match s[n]? with
    | some (.lst ds) => some (!ds.isEmpty)
    | _ => none
  | _ => none
def tyName (s : Hs) : D → Option String
  | .non => some "NoneType"
  | .bl _ => some "bool"
  | .int _ => some "int"
  | .str _ => some "str"
  | .tup _ => some "tuple"
  | .tl _ => some "list"
  | .ref n => match s[n]? with
    | some (.lst _) => some "list"
    | some (.dct _) => some "dict"
    | _ => none
  | _ => none
def isNd (neg : Bool) : D → Bool
  | .non => !neg
  | _ => neg
/-- isinstance for int, bool, str, tuple, list -/
def isi (ty cl : String) : Option Bool :=
  if cl = "int" then some (ty = "int" || ty = "bool") else if cl = "bool" then some (ty = "bool") else if cl = "str" then some (ty = "str") else if cl = "tuple" then some (ty = "tuple") else if cl = "list" then some (ty = "list") else none
def bools? : List D → Option (List Bool)
  | [] => some []
  | .bl b :: ds => (bools? ds).map (b :: ·)
  | _ :: _ => none
def ints? : List D → Option (List Int)
  | [] => some []
  | .int b :: ds => (ints? ds).map (b :: ·)
  | _ :: _ => none
def bifun (s : Hs) : Bi → List D → Option D
  | .len, [.str z] => if z.length ≤ sizeLine then some (.int z.length) else none
  | .len, [d] => (seqAt s d).map fun ds => .int ds.length
  | .isinst cl, [d] => match tyName s d with
    | some ty => (isi ty cl).map .bl
    | none => none
  | .int, [.int i] => some (.int i)
  | .int, [.bl b] => some (.int (if b then 1 else 0))
  | .tuple, [.tup ds] => some (.tup ds)
  | .tuple, [d] => (lstAt s d).map .tup
  | .list, [d] => (seqAt s d).map .tl
  | .all, [d] => match lstAt s d with
    | some ds => (bools? ds).map fun bs => .bl (bs.all id)
    | none => none
  | .any, [d] => match lstAt s d with
    | some ds => (bools? ds).map fun bs => .bl (bs.any id)
    | none => none
  | .sum, [d] => match lstAt s d with
    | some ds => (ints? ds).map fun ns => .int ns.sum
    | none => none
  | .max2, [.int i, .int j] => some (.int (if j > i then j else i))
  | .min2, [.int i, .int j] => some (.int (if j < i then j else i))
  | .abs, [.int i] => some (.int (if i < 0 then -i else i))
  | _, _ => none
/-- the first place of a flat value -/
def firstAt (x : D) : List D → Option Nat
  | [] => none
  | d :: ds => if eqF d x then some 0 else (firstAt x ds).map (· + 1)
def bmeth (s : Hs) : Bm → D → List D → Res D
  | .append, .ref n, [d] => match s[n]? with
    | some (.lst ds) => if ds.length < sizeLine then .ok .non (s.set n (.lst (ds ++ [d]))) else .stuck
    | _ => .stuck
  | .extend, .ref n, [d] => match s[n]?, seqAt0 s d with
    | some (.lst ds), some es => if ds.length + es.length ≤ sizeLine then .ok .non (s.set n (.lst (ds ++ es))) else .stuck
    | _, _ => .stuck
  | .pop, .ref n, [] => match s[n]? with
    | some (.lst ds) => match ds[ds.length - 1]? with
      | some d => .ok d (s.set n (.lst ds.dropLast))
      | none => .stuck
    | _ => .stuck
  | .index, x, [y] => match lstAt s x with
    | some ds => if flatD y && ds.all flatD then match firstAt y ds with
        | some j => .ok (.int j) s
        | none => .stuck
      else .stuck
    | none => .stuck
  | .split, .str x, [.str y] => if (y.length == 0) = false ∧ x.length + 2 ≤ sizeLine then .ok (.tl ((PySem.Txt.split x y).map .str)) s else .stuck
  | _, _, _ => .stuck

/-- the receiver is of the method's type -/
def bmTy (s : Hs) : Bm → D → Bool
  | .split, .str _ => true
  | .replace, .str _ => true
  | .join, .str _ => true
  | .startswith, .str _ => true
  | .append, x => (lstAt s x).isSome
  | .extend, x => (lstAt s x).isSome
  | .pop, x => (lstAt s x).isSome
  | .popAt, x => (lstAt s x).isSome
  | .insert, x => (lstAt s x).isSome
  | .index, x => (lstAt s x).isSome
  | _, _ => false

/-! ### fields by number -/
def putN (f : Nat) (v : D) : List (Nat × D) → List (Nat × D)
  | [] => [(f, v)]
  | (g, x) :: r => if g = f then (g, v) :: r else (g, x) :: putN f v r
/-- the slots of a comprehension's own names forgotten -/
def wipeE (env : Env) : List Nat → Env
  | [] => env
  | v :: vs => (wipeE env vs).set v none
def setAll (env : Env) : List Nat → List D → Option Env
  | [], [] => some env
  | i :: is, d :: ds => setAll (env.set i (some d)) is ds
  | _, _ => none
def assignTg (env : Env) : Tg → D → Option Env
  | .nm i, d => some (env.set i (some d))
  | .tp is, .tup ds => setAll env is ds
  | _, _ => none
/-- places of a range -/
def rangeD (lo : Int) (n : Nat) : List D := (List.range n).map fun k => .int (lo + (k : Nat))
def zipD : List D → List D → List D
  | a :: as, b :: bs => .tup [a, b] :: zipD as bs
  | _, _ => []
def enumD (k : Nat) : List D → List D
  | [] => []
  | a :: as => .tup [.int (k : Nat), a] :: enumD (k + 1) as
/-- a walked list that stands at a place must stay as it is -/
def stays (w : Option (Nat × List D)) (s : Hs) : Bool := match w with
  | none => true
  | some (n, ds) => match s[n]? with
    | some (.lst es) => D.eqbs es ds
    | _ => false
def watchOf : D → List D → Option (Nat × List D)
  | .ref n, ds => some (n, ds)
  | _, _ => none

/-! ### the tables -/
structure Fn where
  slots : Nat
  params : Nat
  body : Sts
  /-- 0: as it is; 1: what it made is dropped, nothing old is changed, the value bears no place; 2: what it made is dropped -/
  flag : Nat
structure Tb where
  fns : List Fn
  /-- a class: its methods by number (name's number, function's number); -/
  clss : List (List (Nat × Nat))
  /-- the number of __init__ -/
  inits : List Nat
  tabs : List (List (Str × D))
  consts : List D

def signs (x : Str) : List D := x.cps.toList.map fun c => .str ⟨#[c]⟩

/-- what is walked: the items, and the place that must stay -/
def seqI (x : D) (s1 : Hs) : Res (List D × Option (Nat × List D)) := match x with
  | .str z => .ok (signs z, none) s1
  | .tup ds => .ok (ds, none) s1
  | .kl ds => .ok (ds, none) s1
  | x => match lstAt s1 x with
    | some ds => .ok (ds, watchOf x ds) s1
    | none => .stuck
def range1I (x : D) (s1 : Hs) : Res (List D × Option (Nat × List D)) := match x with
  | .int n => if decide (-(2 ^ 62) ≤ n) && decide (n < 2 ^ 62) then .ok (rangeD 0 n.toNat, none) s1 else .stuck
  | _ => .stuck
def range2I (x y : D) (s2 : Hs) : Res (List D × Option (Nat × List D)) := match x, y with
  | .int m, .int n => if decide (-(2 ^ 62) ≤ m) && decide (m < 2 ^ 62) && decide (-(2 ^ 62) ≤ n) && decide (n < 2 ^ 62) then .ok (rangeD m (n - m).toNat, none) s2 else .stuck
  | _, _ => .stuck
def zipI (x y : D) (s2 : Hs) : Res (List D × Option (Nat × List D)) := match x, y with
  | .tup xs, .tup ys => .ok (zipD xs ys, none) s2
  | .tl xs, .tl ys => .ok (zipD xs ys, none) s2
  | _, _ => .stuck
def enumI (x : D) (s1 : Hs) : Res (List D × Option (Nat × List D)) := match x with
  | .tl xs => .ok (enumD 0 xs, none) s1
  | _ => .stuck
def revI (x : D) (s1 : Hs) : Res (List D × Option (Nat × List D)) := match x with
  | .tl xs => .ok (xs.reverse, none) s1
  | _ => .stuck

section
variable (T : Tb) (wf : Nat) (call : Nat → List D → Hs → Res D)

def loopFor (body : D → Env → Hs → Res Flow) (w : Option (Nat × List D)) : List D → Env → Hs → Res Flow
  | [], env, s => .ok (.next env) s
  | x :: xs, env, s => (body x env s).bind fun f s' => match f with
    | .next env' => if stays w s' then loopFor body w xs env' s' else .stuck
    | .cont env' => if stays w s' then loopFor body w xs env' s' else .stuck
    | .brk env' => .ok (.next env') s'
    | f => .ok f s'
def loopComp (step : D → Hs → Res (Option D)) (w : Option (Nat × List D)) : List D → List D → Hs → Res (List D)
  | [], acc, s => .ok acc s
  | x :: xs, acc, s => match step x s with
    | .ok o s' => if stays w s' then match o with
        | some d => if acc.length < sizeLine then loopComp step w xs (acc ++ [d]) s' else .stuck
        | none => loopComp step w xs acc s'
      else .stuck
    | _ => .stuck
/-- the same where the list has a place n from the start -/
def loopCompB (step : D → Hs → Res (Option D)) (n : Nat) (w : Option (Nat × List D)) : List D → List D → Hs → Res Unit
  | [], _, s => .ok () s
  | x :: xs, acc, s => match step x s with
    | .ok o s' => if stays w s' && stays (some (n, acc)) s' then match o with
        | some d => if acc.length < sizeLine then loopCompB step n w xs (acc ++ [d]) (s'.set n (.lst (acc ++ [d]))) else .stuck
        | none => loopCompB step n w xs acc s'
      else .stuck
    | _ => .stuck
def loopWhl (test : Env → Hs → Res Bool) (body : Env → Hs → Res Flow) : Nat → Env → Hs → Res Flow
  | 0, _, _ => .stuck
  | n + 1, env, s => (test env s).bs env fun b s1 => if b then (body env s1).bind fun f s' => match f with
      | .next env' => loopWhl test body n env' s'
      | .cont env' => loopWhl test body n env' s'
      | .brk env' => .ok (.next env') s'
      | f => .ok f s'
    else .ok (.next env) s1

/-- a value as a test -/
def truly (m : Env → Hs → Res D) : Env → Hs → Res Bool := fun env s => (m env s).bind fun x s1 => Res.of (truth s1 x) s1
abbrev ME := Env → Hs → Res D
abbrev MT := Env → Hs → Res Bool
/-- as a value, as a test -/
structure EvE where
  e : ME
  t : MT
structure EvL where
  args : Env → Hs → Res (List D)
  and : ME
  or : ME
  andT : MT
  orT : MT
def pE (m : ME) : EvE := ⟨m, truly m⟩
def and2 (ma mb : ME) : ME := fun env s => (ma env s).bind fun x s1 => match x with
    | .bl true => mb env s1
    | .bl false => .ok (.bl false) s1
    | _ => .stuck
def or2 (ma mb : ME) : ME := fun env s => (ma env s).bind fun x s1 => match x with
    | .bl true => .ok (.bl true) s1
    | .bl false => mb env s1
    | _ => .stuck
def andT2 (ta tb : MT) : MT := fun env s => (ta env s).bind fun c s1 => if c then tb env s1 else .ok false s1
def orT2 (ta tb : MT) : MT := fun env s => (ta env s).bind fun c s1 => if c then .ok true s1 else tb env s1
def pick {α : Type} (es : Exs) (x y : α) : α := match es with
  | .nil => x
  | .cons _ _ => y
def consL (a : EvE) (r : EvL) (es : Exs) : EvL :=
  ⟨fun env s => (a.e env s).bind fun d s1 => (r.args env s1).bind fun ds s2 => .ok (d :: ds) s2, pick es a.e (and2 a.e r.and), pick es a.e (or2 a.e r.or), pick es a.t (andT2 a.t r.andT), pick es a.t (orT2 a.t r.orT)⟩
/-- the step of a comprehension -/
def stepC (own : List Nat) (t : Tg) (mc : MT) (me : ME) (env : Env) (d : D) (s' : Hs) : Res (Option D) := match assignTg (wipeE env own) t d with
  | some env' => (mc env' s').bind fun b s2 => if b then (me env' s2).bind fun v s3 => .ok (some v) s3 else .ok none s2
  | none => .stuck
def varM (i : Nat) : ME := fun env s => match env[i]? with
  | some (some d) => .ok d s
  | _ => .stuck
def tupM (m : Env → Hs → Res (List D)) : ME := fun env s => (m env s).bind fun ds s1 => if lenOk ds.length then .ok (.tup ds) s1 else .stuck
def lstM (m : Env → Hs → Res (List D)) : ME := fun env s => (m env s).bind fun ds s1 => if lenOk ds.length then .ok (.tl ds) s1 else .stuck
/-- a list that gets a place -/
def boxed (m : ME) : ME := fun env s => (m env s).bind fun d s1 => match d with
  | .tl ds => .ok (.ref s1.length) (s1 ++ [.lst ds])
  | _ => .stuck
def binM (op : BOp) (ma mb : ME) : ME := fun env s => (ma env s).bind fun x s1 => (mb env s1).bind fun y s2 => Res.of (binop s2 op x y) s2
def cmpM (op : COp) (ma mb : ME) : ME := fun env s => (ma env s).bind fun x s1 => (mb env s1).bind fun y s2 => Res.of ((cmpop T.tabs s2 op x y).map .bl) s2
def isNM (neg : Bool) (ma : ME) : ME := fun env s => (ma env s).bind fun x s1 => .ok (.bl (isNd neg x)) s1
def chainM (o p : COp) (ma mb mc : ME) : ME := fun env s => (ma env s).bind fun x s1 => (mb env s1).bind fun y s2 => match cmpop T.tabs s2 o x y with
  | some true => (mc env s2).bind fun z s3 => Res.of ((cmpop T.tabs s3 p y z).map .bl) s3
  | some false => .ok (.bl false) s2
  | none => .stuck
def notM (ma : ME) : ME := fun env s => (ma env s).bind fun x s1 => Res.of ((truth s1 x).map fun b => .bl (!b)) s1
def notT (ta : MT) : MT := fun env s => (ta env s).bind fun b s1 => .ok (!b) s1
def negM (ma : ME) : ME := fun env s => (ma env s).bind fun x s1 => match x with
  | .int i => .ok (.int (-i)) s1
  | _ => .stuck
def iteM {α : Type} (mt : MT) (ma mb : Env → Hs → Res α) : Env → Hs → Res α := fun env s => (mt env s).bind fun c s1 => if c then ma env s1 else mb env s1
def idxM (ma mb : ME) : ME := fun env s => (ma env s).bind fun x s1 => (mb env s1).bind fun y s2 => Res.of (idxop T.tabs s2 x y) s2
def slM (ma : ME) (ml mh : Env → Hs → Res (Option Int)) : ME := fun env s => (ma env s).bind fun x s1 => (ml env s1).bind fun l s2 => (mh env s2).bind fun h s3 => Res.of (slop s3 x l h) s3
def attrM (ma : ME) (f : Nat) : ME := fun env s => (ma env s).bind fun x s1 => match x with
  | .ref n => match s1[n]? with
    | some (.ins _ fs) => Res.of (fs.lookup f) s1
    | _ => .stuck
  | _ => .stuck
def callM (g : Nat) (ms : Env → Hs → Res (List D)) : ME := fun env s => (ms env s).bind fun ds s1 => call g ds s1
def callvM (i : Nat) (ms : Env → Hs → Res (List D)) : ME := fun env s => match env[i]? with
  | some (some (.fn g)) => (ms env s).bind fun ds s1 => call g ds s1
  | _ => .stuck
def madeBy (c : Nat) (ds : List D) (s1 : Hs) : Res D := match T.inits[c]? with
  | some g => (call g (.ref s1.length :: ds) (s1 ++ [.ins c []])).bind fun r s2 => match r with
    | .non => .ok (.ref s1.length) s2
    | _ => .stuck
  | none => .stuck
def makeM (c : Nat) (ms : Env → Hs → Res (List D)) : ME := fun env s => (ms env s).bind fun ds s1 => madeBy T call c ds s1
def methM (m : Nat) (ma : ME) (ms : Env → Hs → Res (List D)) : ME := fun env s => (ma env s).bind fun x s1 => match x with
  | .ref n => match s1[n]? with
    | some (.ins c _) => match (T.clss[c]?).bind (·.lookup m) with
      | some g => (ms env s1).bind fun ds s2 => call g (.ref n :: ds) s2
      | none => .stuck
    | _ => .stuck
  | _ => .stuck
def biM (b : Bi) (ms : Env → Hs → Res (List D)) : ME := fun env s => (ms env s).bind fun ds s1 => Res.of (bifun s1 b ds) s1
def bmM (m : Bm) (ma : ME) (ms : Env → Hs → Res (List D)) : ME := fun env s => (ma env s).bind fun x s1 => if bmTy s1 m x then (ms env s1).bind fun ds s2 => bmeth s2 m x ds else .stuck
def compM (own : List Nat) (tg : Tg) (mi : Env → Hs → Res (List D × Option (Nat × List D))) (mc : MT) (me : ME) : ME := fun env s => (mi env s).bind fun p s1 => (loopComp (stepC own tg mc me env) p.2 p.1 [] s1).bind fun ds s2 => .ok (.tl ds) s2
def compBM (own : List Nat) (tg : Tg) (mi : Env → Hs → Res (List D × Option (Nat × List D))) (mc : MT) (me : ME) : ME := fun env s => (mi env s).bind fun p s1 => (loopCompB (stepC own tg mc me env) s1.length p.2 p.1 [] (s1 ++ [.lst []])).bind fun _ s2 => .ok (.ref s1.length) s2
def soM (ma : ME) : Env → Hs → Res (Option Int) := fun env s => (ma env s).bind fun x s1 => match x with
  | .int i => .ok (some i) s1
  | _ => .stuck
mutual
def evP : Ex → EvE
  | .var i => pE (varM i)
  | .cst d => pE fun _ s => .ok d s
  | .glob x => pE fun _ s => Res.of T.consts[x]? s
  | .tup es => pE (tupM (evPs es).args)
  | .lst es => pE (lstM (evPs es).args)
  | .box e => pE (boxed (evP e).e)
  | .bin op a b => pE (binM op (evP a).e (evP b).e)
  | .cmp op a b => pE (cmpM T op (evP a).e (evP b).e)
  | .isN neg a => pE (isNM neg (evP a).e)
  | .chain o p a b c => pE (chainM T o p (evP a).e (evP b).e (evP c).e)
  | .and es => ⟨(evPs es).and, (evPs es).andT⟩
  | .or es => ⟨(evPs es).or, (evPs es).orT⟩
  | .not a => ⟨notM (evP a).e, notT (evP a).t⟩
  | .neg a => pE (negM (evP a).e)
  | .ite t a b => ⟨iteM (evP t).t (evP a).e (evP b).e, iteM (evP t).t (evP a).t (evP b).t⟩
  | .idx a b => pE (idxM T (evP a).e (evP b).e)
  | .sl a lo hi => pE (slM (evP a).e (evO lo) (evO hi))
  | .attr e f => pE (attrM (evP e).e f)
  | .call g args => pE (callM call g (evPs args).args)
  | .callv i args => pE (callvM call i (evPs args).args)
  | .make c args => pE (makeM T call c (evPs args).args)
  | .meth m e args => pE (methM T call m (evP e).e (evPs args).args)
  | .bi b args => pE (biM b (evPs args).args)
  | .bm m e args => pE (bmM m (evP e).e (evPs args).args)
  | .comp elt tg own it cond => pE (compM own tg (evI it) (evC cond) (evP elt).e)
  | .compB elt tg own it cond => pE (compBM own tg (evI it) (evC cond) (evP elt).e)
def evPs : Exs → EvL
  | .nil => ⟨fun _ s => .ok [] s, fun _ _ => .stuck, fun _ _ => .stuck, fun _ _ => .stuck, fun _ _ => .stuck⟩
  | .cons e es => consL (evP e) (evPs es) es
def evO : Exo → Env → Hs → Res (Option Int)
  | .no => fun _ s => .ok none s
  | .so e => soM (evP e).e
/-- a comprehension's if -/
def evC : Exo → MT
  | .no => fun _ s => .ok true s
  | .so e => (evP e).t
/-- what is walked: the items, and the place that must stay -/
def evI : It → Env → Hs → Res (List D × Option (Nat × List D))
  | .seq e => fun env s => ((evP e).e env s).bind seqI
  | .range1 a => fun env s => ((evP a).e env s).bind range1I
  | .range2 a b => fun env s => ((evP a).e env s).bind fun x s1 => ((evP b).e env s1).bind fun y s2 => range2I x y s2
  | .zip a b => fun env s => ((evP a).e env s).bind fun x s1 => ((evP b).e env s1).bind fun y s2 => zipI x y s2
  | .enum a => fun env s => ((evP a).e env s).bind enumI
  | .rev a => fun env s => ((evP a).e env s).bind revI
end
abbrev evalE (e : Ex) : ME := (evP T call e).e
abbrev evalT (e : Ex) : MT := (evP T call e).t
abbrev evalEs (e : Exs) : Env → Hs → Res (List D) := (evPs T call e).args
abbrev evalO (e : Exo) : Env → Hs → Res (Option Int) := evO T call e
abbrev evalC (e : Exo) : MT := evC T call e
abbrev evalI (e : It) : Env → Hs → Res (List D × Option (Nat × List D)) := evI T call e

/-- op= on numbers -/
def augop : BOp → D → D → Option D
  | .add, .int a, .int b => some (.int (a + b))
  | .sub, .int a, .int b => some (.int (a - b))
  | _, _, _ => none
abbrev MS := Env → Hs → Res Flow
def asgM (t : Tg) (m : ME) : MS := fun env s => (m env s).bs env fun d s1 => Res.of ((assignTg env t d).map .next) s1
def subM (mo mi m : ME) : MS := fun env s => (m env s).bs env fun d s1 => (mo env s1).bs env fun x s2 => (mi env s2).bs env fun y s3 => match x with
    | .ref n => match s3[n]?, y with
      | some (.lst ds), .int k => match L2.ixN ds.length k with
        | some j => .ok (.next env) (s3.set n (.lst (ds.set j d)))
        | none => .stuck
      | _, _ => .stuck
    | _ => .stuck
def fldM (mo : ME) (f : Nat) (m : ME) : MS := fun env s => (m env s).bs env fun d s1 => (mo env s1).bs env fun x s2 => match x with
    | .ref n => match s2[n]? with
      | some (.ins c fs) => if fs.length < 1000 then .ok (.next env) (s2.set n (.ins c (putN f d fs))) else .stuck
      | _ => .stuck
    | _ => .stuck
def parM (is : List Nat) (ms : Env → Hs → Res (List D)) : MS := fun env s => (ms env s).bs env fun ds s1 => Res.of ((setAll env is ds).map .next) s1
def augM (i : Nat) (op : BOp) (m : ME) : MS := fun env s => match env[i]? with
    | some (some x) => (m env s).bs env fun y s1 => match augop op x y with
      | some z => .ok (.next (env.set i (some z))) s1
      | none => .stuck
    | _ => .stuck
def augfM (mo : ME) (f : Nat) (op : BOp) (m : ME) : MS := fun env s => (mo env s).bs env fun x s1 => match x with
    | .ref n => match s1[n]? with
      | some (.ins c fs) => match fs.lookup f with
        | some a => (m env s1).bs env fun b s2 => match s2[n]?, augop op a b with
          | some (.ins c' fs'), some z => if c' = c ∧ fs'.length < 1000 then .ok (.next env) (s2.set n (.ins c' (putN f z fs'))) else .stuck
          | _, _ => .stuck
        | none => .stuck
      | _ => .stuck
    | _ => .stuck
def forStep (tg : Tg) (b : MS) : D → Env → Hs → Res Flow := fun d env' s' => match assignTg env' tg d with
    | some env2 => b env2 s'
    | none => .stuck
def forM (tg : Tg) (mi : Env → Hs → Res (List D × Option (Nat × List D))) (b : MS) : MS := fun env s => (mi env s).bs env fun p s1 => loopFor (forStep tg b) p.2 p.1 env s1
def thruM (b : MS) : MS := fun env s => (b env s).bind fun f s1 => match f with
    | .exc _ _ _ => .stuck
    | f => .ok f s1
mutual
def evalS : St → MS
  | .asg t e => asgM t (evalE T call e)
  | .sub o i e => subM (evalE T call o) (evalE T call i) (evalE T call e)
  | .fld o f e => fldM (evalE T call o) f (evalE T call e)
  | .par is es => parM is (evalEs T call es)
  | .aug i op e => augM i op (evalE T call e)
  | .augf o f op e => augfM (evalE T call o) f op (evalE T call e)
  | .expr e => fun env s => (evalE T call e env s).bs env fun _ s1 => .ok (.next env) s1
  | .ret e => fun env s => (evalE T call e env s).bs env fun d s1 => .ok (.ret d) s1
  | .retN => fun _ s => .ok (.ret .non) s
  | .ite t a b => fun env s => (evalT T call t env s).bs env fun c s1 => if c then evalSs a env s1 else evalSs b env s1
  | .whl t b => loopWhl (evalT T call t) (evalSs b) wf
  | .for_ tg it b => forM tg (evalI T call it) (evalSs b)
  | .pass => fun env s => .ok (.next env) s
  | .brk => fun env s => .ok (.brk env) s
  | .cont => fun env s => .ok (.cont env) s
  | .raise _ _ => fun _ _ => .stuck
  | .thru b => thruM (evalSs b)
  | .try_ _ _ => fun _ _ => .stuck
  | .never => fun _ _ => .stuck
def evalSs : Sts → MS
  | .nil => fun env s => .ok (.next env) s
  | .cons st sts => fun env s => (evalS st env s).bind fun f s1 => match f with
    | .next env' => evalSs sts env' s1
    | f => .ok f s1
end
end

/-! no place within -/
mutual
def noRef : D → Bool
  | .ref _ => false
  | .tup ds => noRefs ds
  | .tl ds => noRefs ds
  | .kl ds => noRefs ds
  | _ => true
def noRefs : List D → Bool
  | [] => true
  | d :: ds => noRef d && noRefs ds
end
/-! places below n -/
mutual
def below (n : Nat) : D → Bool
  | .ref k => decide (k < n)
  | .tup ds => belows n ds
  | .tl ds => belows n ds
  | .kl ds => belows n ds
  | _ => true
def belows (n : Nat) : List D → Bool
  | [] => true
  | d :: ds => below n d && belows n ds
end
def eqFs : List (Nat × D) → List (Nat × D) → Bool
  | [], [] => true
  | (k, x) :: r, (l, y) :: t => decide (k = l) && D.eqb x y && eqFs r t
  | _, _ => false
def eqKs : List (L2.Key × D) → List (L2.Key × D) → Bool
  | [], [] => true
  | (k, x) :: r, (l, y) :: t => decide (k = l) && D.eqb x y && eqKs r t
  | _, _ => false
def GO.eqb : GO → GO → Bool
  | .lst a, .lst b => D.eqbs a b
  | .ins c f, .ins d g => decide (c = d) && eqFs f g
  | .dct f, .dct g => eqKs f g
  | _, _ => false
def eqHs : Hs → Hs → Bool
  | [], [] => true
  | x :: r, y :: t => GO.eqb x y && eqHs r t
  | _, _ => false
theorem eqFs_refl : ∀ f, eqFs f f = true
  | [] => rfl
  | (_, x) :: r => by simp [eqFs, D.eqb_refl x, eqFs_refl r]
theorem eqKs_refl : ∀ f, eqKs f f = true
  | [] => rfl
  | (_, x) :: r => by simp [eqKs, D.eqb_refl x, eqKs_refl r]
theorem GO.eqb_refl : ∀ g, GO.eqb g g = true
  | .lst a => by simp [GO.eqb, D.eqbs_refl]
  | .ins _ f => by simp [GO.eqb, eqFs_refl]
  | .dct f => by simp [GO.eqb, eqKs_refl]
theorem eqHs_refl : ∀ h, eqHs h h = true
  | [] => rfl
  | x :: r => by simp [eqHs, GO.eqb_refl x, eqHs_refl r]
theorem eqFs_eq : ∀ {f g}, eqFs f g = true → f = g
  | [], [], _ => rfl
  | [], _ :: _, h => by simp [eqFs] at h
  | _ :: _, [], h => by simp [eqFs] at h
  | (k, x) :: r, (l, y) :: t, h => by
    simp only [eqFs, Bool.and_eq_true, decide_eq_true_eq] at h
    rw [h.1.1, D.eqb_eq h.1.2, eqFs_eq h.2]
theorem eqKs_eq : ∀ {f g}, eqKs f g = true → f = g
  | [], [], _ => rfl
  | [], _ :: _, h => by simp [eqKs] at h
  | _ :: _, [], h => by simp [eqKs] at h
  | (k, x) :: r, (l, y) :: t, h => by
    simp only [eqKs, Bool.and_eq_true, decide_eq_true_eq] at h
    rw [h.1.1, D.eqb_eq h.1.2, eqKs_eq h.2]
theorem GO.eqb_eq : ∀ {a b}, GO.eqb a b = true → a = b
  | .lst a, .lst b, h => by rw [D.eqbs_eq (show D.eqbs a b = true from h)]
  | .ins c f, .ins d g, h => by
    simp only [GO.eqb, Bool.and_eq_true, decide_eq_true_eq] at h
    rw [h.1, eqFs_eq h.2]
  | .dct f, .dct g, h => by rw [eqKs_eq (show eqKs f g = true from h)]
  | .lst _, .ins _ _, h => by simp [GO.eqb] at h
  | .lst _, .dct _, h => by simp [GO.eqb] at h
  | .ins _ _, .lst _, h => by simp [GO.eqb] at h
  | .ins _ _, .dct _, h => by simp [GO.eqb] at h
  | .dct _, .lst _, h => by simp [GO.eqb] at h
  | .dct _, .ins _ _, h => by simp [GO.eqb] at h
theorem eqHs_eq : ∀ {a b}, eqHs a b = true → a = b
  | [], [], _ => rfl
  | [], _ :: _, h => by simp [eqHs] at h
  | _ :: _, [], h => by simp [eqHs] at h
  | x :: r, y :: t, h => by
    simp only [eqHs, Bool.and_eq_true] at h
    rw [GO.eqb_eq h.1, eqHs_eq h.2]
def belowG (n : Nat) : GO → Bool
  | .lst ds => belows n ds
  | .ins _ fs => fs.all fun p => below n p.2
  | .dct kvs => kvs.all fun p => below n p.2

/-- what a call gives back: what it made is dropped, by the function's flag -/
def back (flag : Nat) (s0 : Hs) (d : D) (s : Hs) : Res D :=
  if flag = 0 then .ok d s
  else if flag = 1 then (if noRef d && eqHs (s.take s0.length) s0 then .ok d s0 else .stuck)
  else if flag = 3 then (match d with
    | .ref n => (match s[n]? with
      | some (.lst ds) => if decide (s0.length ≤ n) && noRefs ds && eqHs (s.take s0.length) s0 then .ok (.tl ds) s0 else .stuck
      | _ => .stuck)
    | _ => .stuck)
  else if decide (s0.length ≤ s.length) && below s0.length d && (s.take s0.length).all (belowG s0.length) then .ok d (s.take s0.length) else .stuck

/-- a call on a heap of its own: nothing old is seen; flag 5: a list at a place is given back by value -/
def backF (flag : Nat) (s0 : Hs) : Res Flow → Res D
  | .ok (.next _) _ => .ok .non s0
  | .ok (.ret d) s1 => if noRef d then .ok d s0 else if flag = 5 then (match d with
    | .ref n => (match s1[n]? with
      | some (.lst ds) => if noRefs ds then .ok (.tl ds) s0 else .stuck
      | _ => .stuck)
    | _ => .stuck) else .stuck
  | .ok (.exc _ c fs) _ => if (fs.all fun p => noRef p.2) then .err c fs s0 else .stuck
  | _ => .stuck
def startE (n : Nat) (ds : List D) : Env := ds.map some ++ List.replicate (n - ds.length) none
/-- the k-th level: calls at most k deep -/
def runFn (T : Tb) (wf : Nat) : Nat → Nat → List D → Hs → Res D
  | 0, _, _, _ => .stuck
  | k + 1, g, ds, s => match T.fns[g]? with
    | some f => if ds.length = f.params then
        if 4 ≤ f.flag then (if noRefs ds then backF f.flag s (evalSs T wf (runFn T wf k) f.body (startE f.slots ds) []) else .stuck) else
        match evalSs T wf (runFn T wf k) f.body (startE f.slots ds) s with
        | .ok (.next _) s1 => back f.flag s .non s1
        | .ok (.ret d) s1 => back f.flag s d s1
        | .ok (.exc _ c fs) s1 => .err c fs s1
        | _ => .stuck
      else .stuck
    | none => .stuck
end CN
set_option Elab.async false
set_option maxRecDepth 100000
/-! CnRel: how the interpreter's values and heap stand in the hand layer's. -/
namespace CN
open PySem L2

/-- where the tables stand -/
structure Ad where
  fn : Nat → Option Addr
  cl : Nat → Option Addr
  tb : Nat → Option Addr
  fld : Nat → Str

/-- the places' addresses, and addresses that no value may show -/
structure Mu where
  tr : List Addr
  pv : List Addr
def Mu.has (μ : Mu) (a : Addr) : Prop := a ∈ μ.tr ∨ a ∈ μ.pv
instance : Membership Addr Mu := ⟨Mu.has⟩
def Mu.add (μ : Mu) (p : Addr) : Mu := ⟨μ.tr ++ [p], μ.pv⟩
def Mu.hide (μ : Mu) (p : Addr) : Mu := ⟨μ.tr, p :: μ.pv⟩
theorem Mu.mem_def {μ : Mu} {a : Addr} : a ∈ μ ↔ a ∈ μ.tr ∨ a ∈ μ.pv := Iff.rfl
theorem Mu.mem_tr {μ : Mu} {a : Addr} (h : a ∈ μ.tr) : a ∈ μ := .inl h
theorem Mu.mem_at {μ : Mu} {n : Nat} {a : Addr} (h : μ.tr[n]? = some a) : a ∈ μ := .inl (List.mem_of_getElem? h)
theorem Mu.mem_add {μ : Mu} {p a : Addr} : a ∈ μ.add p ↔ a ∈ μ ∨ a = p := by
  show (a ∈ μ.tr ++ [p] ∨ a ∈ μ.pv) ↔ (a ∈ μ.tr ∨ a ∈ μ.pv) ∨ a = p
  rw [List.mem_append, List.mem_singleton]
  constructor
  · rintro ((h | h) | h)
    · exact .inl (.inl h)
    · exact .inr h
    · exact .inl (.inr h)
  · rintro ((h | h) | h)
    · exact .inl (.inl h)
    · exact .inr h
    · exact .inl (.inr h)
/-- a sequence of the written part -/
def KSeq (K : PySem.W.Frag) (cl : String) (a : Addr) (xs : List V) : Prop :=
  ∃ (o : Obj) (its : Array Value) (n : Nat), K.lookup a = some o ∧ o.cls = .type cl ∧ o.dict = none ∧ o.data = .seq its n ∧ its.size ≤ sizeLine ∧ Vals xs its.toList
def TupR (K : PySem.W.Frag) (μ : Mu) (H : Hp) (a : Addr) (xs : List V) : Prop := (Rd H a (.tup xs) ∧ a ∉ μ) ∨ KSeq K "tuple" a xs
def LstR (μ : Mu) (H : Hp) (a : Addr) (xs : List V) : Prop := Rd H a (.lst xs) ∧ a ∉ μ
theorem TupR.sq {K : PySem.W.Frag} {μ : Mu} {H : Hp} {a : Addr} {xs : List V} (h : TupR K μ H a xs) : SqT K H a xs := by
  rcases h with ⟨h, _⟩ | ⟨o, its, n, h1, h2, h3, h4, h5, h6⟩
  · exact .inl h
  · exact .inr ⟨o, its, n, h1, h2, h4, h5, h6⟩
theorem LstR.sq {K : PySem.W.Frag} {μ : Mu} {H : Hp} {a : Addr} {xs : List V} (h : LstR μ H a xs) : SqL K H a xs := .inl h.1

theorem KSeq.sqL {K : PySem.W.Frag} {H : Hp} {a : Addr} {xs : List V} (h : KSeq K "list" a xs) : SqL K H a xs := by
  obtain ⟨o, its, n, h1, h2, h3, h4, h5, h6⟩ := h
  exact .inr ⟨o, its, n, h1, h2, h3, h4, h5, h6⟩

mutual
inductive DR (K : PySem.W.Frag) (A : Ad) (μ : Mu) (H : Hp) : D → V → Prop where
  | non : DR K A μ H .non .non
  | bl (b : Bool) : DR K A μ H (.bl b) (.bl b)
  | int (i : Int) : DR K A μ H (.int i) (.int i)
  | str (x : Str) : DR K A μ H (.str x) (.str x)
  | tup {ds : List D} {a : Addr} {vs : List V} (h : TupR K μ H a vs) (r : DRs K A μ H ds vs) : DR K A μ H (.tup ds) (.ref a)
  | tl {ds : List D} {a : Addr} {vs : List V} (h : LstR μ H a vs) (r : DRs K A μ H ds vs) : DR K A μ H (.tl ds) (.ref a)
  | kl {ds : List D} {a : Addr} {vs : List V} (h : KSeq K "list" a vs) (r : DRs K A μ H ds vs) : DR K A μ H (.kl ds) (.ref a)
  | ref {n : Nat} {a : Addr} (h : μ.tr[n]? = some a) : DR K A μ H (.ref n) (.ref a)
  | fn {g : Nat} {a : Addr} (h : A.fn g = some a) : DR K A μ H (.fn g) (.ref a)
  | cls {c : Nat} {a : Addr} (h : A.cl c = some a) : DR K A μ H (.cls c) (.ref a)
  | ty (n : String) : DR K A μ H (.ty n) (.ty n)
  | tab {t : Nat} {a : Addr} (h : A.tb t = some a) : DR K A μ H (.tab t) (.ref a)
inductive DRs (K : PySem.W.Frag) (A : Ad) (μ : Mu) (H : Hp) : List D → List V → Prop where
  | nil : DRs K A μ H [] []
  | cons {d : D} {v : V} {ds : List D} {vs : List V} (h : DR K A μ H d v) (r : DRs K A μ H ds vs) : DRs K A μ H (d :: ds) (v :: vs)
end

/-- what a value's description leans on stays -/
structure Mg (μ : Mu) (H : Hp) (μ' : Mu) (H' : Hp) : Prop where
  get : ∀ (n : Nat) (a : Addr), μ.tr[n]? = some a → μ'.tr[n]? = some a
  rd : ∀ (a : Addr) (u : HO), Rd H a u → a ∉ μ → Rd H' a u ∧ a ∉ μ'
/-- what is kept on the way: places are only added, they are new; what bears no place stays -/
structure Mo (μ : Mu) (H : Hp) (μ' : Mu) (H' : Hp) : Prop where
  pre : ∃ l, μ'.tr = μ.tr ++ l
  pv : μ'.pv = μ.pv
  keep : ∀ a o, H a = some o → a ∉ μ.tr → H' a = some o
  fresh : ∀ a, a ∈ μ'.tr → a ∉ μ.tr → H a = none
theorem Mo.refl (μ : Mu) (H : Hp) : Mo μ H μ H := ⟨⟨[], by simp⟩, rfl, fun _ _ h _ => h, fun _ h n => absurd h n⟩
theorem Mo.trans {μ μ1 μ2 : Mu} {H H1 H2 : Hp} (a : Mo μ H μ1 H1) (b : Mo μ1 H1 μ2 H2) : Mo μ H μ2 H2 := by
  have nin : ∀ c o, H c = some o → c ∉ μ.tr → c ∉ μ1.tr := fun c o e n h => by
    rw [a.fresh c h n] at e
    cases e
  refine ⟨?_, b.pv.trans a.pv, fun c o e n => b.keep c o (a.keep c o e n) (nin c o e n), fun c h n => ?_⟩
  · obtain ⟨l, e1⟩ := a.pre
    obtain ⟨l', e2⟩ := b.pre
    exact ⟨l ++ l', by rw [e2, e1]; simp⟩
  · by_cases h1 : c ∈ μ1.tr
    · exact a.fresh c h1 n
    · cases e : H c with
      | none => rfl
      | some o =>
        have := a.keep c o e n
        rw [b.fresh c h h1] at this
        cases this
theorem Mo.get {μ μ' : Mu} {H H' : Hp} (m : Mo μ H μ' H') {n : Nat} {a : Addr} (h : μ.tr[n]? = some a) : μ'.tr[n]? = some a := by
  obtain ⟨l, e⟩ := m.pre
  rw [e, List.getElem?_append_left (List.getElem?_eq_some_iff.mp h).1]
  exact h
theorem Mo.nin {μ μ' : Mu} {H H' : Hp} (m : Mo μ H μ' H') {a : Addr} {o : HO} (h : H a = some o) (n : a ∉ μ) : a ∉ μ' := fun q => by
  rcases q with q | q
  · rw [m.fresh a q fun z => n (.inl z)] at h
    cases h
  · rw [m.pv] at q
    exact n (.inr q)
theorem Mo.rd {μ μ' : Mu} {H H' : Hp} (m : Mo μ H μ' H') {a : Addr} {u : HO} (h : Rd H a u) (n : a ∉ μ) : Rd H' a u ∧ a ∉ μ' := by
  have nt : a ∉ μ.tr := fun z => n (.inl z)
  rcases h with h | ⟨o, h⟩
  · exact ⟨.inl (m.keep a _ h nt), m.nin h n⟩
  · exact ⟨.inr ⟨o, m.keep a _ h nt⟩, m.nin h n⟩
theorem Mo.g {μ μ' : Mu} {H H' : Hp} (m : Mo μ H μ' H') : Mg μ H μ' H' := ⟨fun _ _ => m.get, fun _ _ => m.rd⟩
/-- an address is hidden -/
theorem Mg.hide {μ : Mu} {H : Hp} {p : Addr} {o : HO} (h : H p = none) : Mg μ H (μ.hide p) (upd H p o) := ⟨fun _ _ e => e, fun a u e n => by
  have ne : a ≠ p := by
    rintro rfl
    rcases e with e | ⟨_, e⟩ <;> (rw [h] at e; cases e)
  refine ⟨?_, fun q => ?_⟩
  · rcases e with e | ⟨o', e⟩
    · exact .inl (by rw [upd_ne ne]; exact e)
    · exact .inr ⟨o', by rw [upd_ne ne]; exact e⟩
  · rcases q with q | q
    · exact n (.inl q)
    · rcases List.mem_cons.mp q with q | q
      · exact ne q
      · exact n (.inr q)⟩
theorem Mg.show_ {μ : Mu} {H : Hp} {p : Addr} : Mg (μ.hide p) H μ H := ⟨fun _ _ e => e, fun a u e n => ⟨e, fun q => n (q.elim .inl fun z => .inr (List.mem_cons_of_mem _ z))⟩⟩
/-- what is hidden changes -/
theorem Mg.over {μ : Mu} {H : Hp} {p : Addr} {o : HO} (h : p ∈ μ.pv) : Mg μ H μ (upd H p o) := ⟨fun _ _ e => e, fun a u e n => by
  have ne : a ≠ p := fun q => n (.inr (by rw [q]; exact h))
  refine ⟨?_, n⟩
  rcases e with e | ⟨o', e⟩
  · exact .inl (by rw [upd_ne ne]; exact e)
  · exact .inr ⟨o', by rw [upd_ne ne]; exact e⟩⟩
theorem TupR.mono {K : PySem.W.Frag} {μ μ' : Mu} {H H' : Hp} (m : Mg μ H μ' H') {a : Addr} {xs : List V} (h : TupR K μ H a xs) : TupR K μ' H' a xs := by
  rcases h with ⟨h, n⟩ | h
  · exact .inl (m.rd a _ h n)
  · exact .inr h
theorem LstR.mono {μ μ' : Mu} {H H' : Hp} (m : Mg μ H μ' H') {a : Addr} {xs : List V} (h : LstR μ H a xs) : LstR μ' H' a xs := m.rd a _ h.1 h.2
section
variable {K : PySem.W.Frag} {A : Ad} {μ μ' : Mu} {H H' : Hp}
mutual
theorem DR.monog (m : Mg μ H μ' H') : ∀ {d : D} {v : V}, DR K A μ H d v → DR K A μ' H' d v
  | _, _, .non => .non
  | _, _, .bl b => .bl b
  | _, _, .int i => .int i
  | _, _, .str x => .str x
  | _, _, .tup h r => .tup (h.mono m) (DRs.monog m r)
  | _, _, .tl h r => .tl (h.mono m) (DRs.monog m r)
  | _, _, .kl h r => .kl h (DRs.monog m r)
  | _, _, .ref h => .ref (m.get _ _ h)
  | _, _, .fn h => .fn h
  | _, _, .cls h => .cls h
  | _, _, .ty n => .ty n
  | _, _, .tab h => .tab h
theorem DRs.monog (m : Mg μ H μ' H') : ∀ {ds : List D} {vs : List V}, DRs K A μ H ds vs → DRs K A μ' H' ds vs
  | _, _, .nil => .nil
  | _, _, .cons h r => .cons (DR.monog m h) (DRs.monog m r)
end
theorem DR.mono (m : Mo μ H μ' H') {d : D} {v : V} (h : DR K A μ H d v) : DR K A μ' H' d v := h.monog m.g
theorem DRs.mono (m : Mo μ H μ' H') {d : List D} {v : List V} (h : DRs K A μ H d v) : DRs K A μ' H' d v := h.monog m.g
theorem DRs.length : ∀ {ds : List D} {vs : List V}, DRs K A μ H ds vs → vs.length = ds.length
  | _, _, .nil => rfl
  | _, _, .cons _ r => by rw [List.length_cons, List.length_cons, DRs.length r]
theorem DRs.get : ∀ {ds : List D} {vs : List V} {i : Nat} {d : D}, DRs K A μ H ds vs → ds[i]? = some d → ∃ v, vs[i]? = some v ∧ DR K A μ H d v
  | _, _, _, _, .nil, e => by simp at e
  | _, _, 0, d, .cons h _, e => by simp at e; subst e; exact ⟨_, rfl, h⟩
  | _, _, i + 1, d, .cons _ r, e => by
    obtain ⟨v, h1, h2⟩ := DRs.get (i := i) r (by simpa using e)
    exact ⟨v, by simpa using h1, h2⟩
theorem DRs.append : ∀ {ds es : List D} {vs ws : List V}, DRs K A μ H ds vs → DRs K A μ H es ws → DRs K A μ H (ds ++ es) (vs ++ ws)
  | _, _, _, _, .nil, q => q
  | _, _, _, _, .cons h r, q => .cons h (DRs.append r q)
theorem DRs.take : ∀ {ds : List D} {vs : List V} (n : Nat), DRs K A μ H ds vs → DRs K A μ H (ds.take n) (vs.take n)
  | _, _, 0, _ => by simp; exact .nil
  | _, _, _ + 1, .nil => .nil
  | _, _, n + 1, .cons h r => .cons h (DRs.take n r)
theorem DRs.drop : ∀ {ds : List D} {vs : List V} (n : Nat), DRs K A μ H ds vs → DRs K A μ H (ds.drop n) (vs.drop n)
  | _, _, 0, q => q
  | _, _, _ + 1, .nil => .nil
  | _, _, n + 1, .cons _ r => DRs.drop n r
theorem DRs.set : ∀ {ds : List D} {vs : List V} {d : D} {v : V} (j : Nat), DRs K A μ H ds vs → DR K A μ H d v → DRs K A μ H (ds.set j d) (vs.set j v)
  | _, _, _, _, _, .nil, _ => .nil
  | _, _, _, _, 0, .cons _ r, q => .cons q r
  | _, _, _, _, j + 1, .cons h r, q => .cons h (DRs.set j r q)
theorem DRs.cut {ds : List D} {vs : List V} (lo hi : Option Int) (r : DRs K A μ H ds vs) : DRs K A μ H (CN.cut ds lo hi) (cutV vs lo hi) := by
  unfold CN.cut cutV
  rw [r.length]
  exact (r.drop _).take _
theorem DRs.rep {ds : List D} {vs : List V} (r : DRs K A μ H ds vs) : ∀ k : Nat, DRs K A μ H (List.replicate k ds).flatten (List.replicate k vs).flatten
  | 0 => .nil
  | k + 1 => by
    rw [List.replicate_succ, List.replicate_succ, List.flatten_cons, List.flatten_cons]
    exact r.append (DRs.rep r k)
theorem DRs.dropLast : ∀ {ds : List D} {vs : List V}, DRs K A μ H ds vs → DRs K A μ H ds.dropLast vs.dropLast := fun {ds vs} r => by
  rw [List.dropLast_eq_take, List.dropLast_eq_take, r.length]
  exact r.take _
theorem DRs.atI {ds : List D} {vs : List V} {i : Int} {d : D} (r : DRs K A μ H ds vs) (h : L2.atI ds i = some d) : ∃ v, L2.atI vs i = some v ∧ DR K A μ H d v := by
  unfold L2.atI at h ⊢
  rw [r.length]
  cases e : L2.ixN ds.length i with
  | none => rw [e] at h; cases h
  | some j =>
    rw [e] at h
    exact r.get h
theorem DRs.strs : ∀ (xs : List Str), DRs K A μ H (xs.map D.str) (xs.map V.str)
  | [] => .nil
  | x :: xs => .cons (.str x) (DRs.strs xs)
theorem DRs.ints : ∀ (xs : List Int), DRs K A μ H (xs.map D.int) (xs.map V.int)
  | [] => .nil
  | x :: xs => .cons (.int x) (DRs.ints xs)
end

inductive FR (K : PySem.W.Frag) (A : Ad) (μ : Mu) (H : Hp) : List (Nat × D) → List (Str × V) → Prop where
  | nil : FR K A μ H [] []
  | cons {f : Nat} {d : D} {v : V} {fs : List (Nat × D)} {vs : List (Str × V)} (h : DR K A μ H d v) (r : FR K A μ H fs vs) : FR K A μ H ((f, d) :: fs) ((A.fld f, v) :: vs)
inductive KR (K : PySem.W.Frag) (A : Ad) (μ : Mu) (H : Hp) : List (Key × D) → List (Key × V) → Prop where
  | nil : KR K A μ H [] []
  | cons {k : Key} {d : D} {v : V} {fs : List (Key × D)} {vs : List (Key × V)} (h : DR K A μ H d v) (r : KR K A μ H fs vs) : KR K A μ H ((k, d) :: fs) ((k, v) :: vs)
inductive OR (K : PySem.W.Frag) (A : Ad) (μ : Mu) (H : Hp) : GO → HO → Prop where
  | lst {ds : List D} {vs : List V} (r : DRs K A μ H ds vs) : OR K A μ H (.lst ds) (.lst vs)
  | ins {c : Nat} {C dx : Addr} {fs : List (Nat × D)} {vs : List (Str × V)} (h : A.cl c = some C) (r : FR K A μ H fs vs) : OR K A μ H (.ins c fs) (.ins C dx vs)
  | dct {kvs : List (Key × D)} {vs : List (Key × V)} (r : KR K A μ H kvs vs) : OR K A μ H (.dct kvs) (.dK vs)
section
variable {K : PySem.W.Frag} {A : Ad} {μ μ' : Mu} {H H' : Hp}
theorem FR.monog (m : Mg μ H μ' H') : ∀ {fs : List (Nat × D)} {vs : List (Str × V)}, FR K A μ H fs vs → FR K A μ' H' fs vs
  | _, _, .nil => .nil
  | _, _, .cons h r => .cons (h.monog m) (FR.monog m r)
theorem KR.monog (m : Mg μ H μ' H') : ∀ {fs : List (Key × D)} {vs : List (Key × V)}, KR K A μ H fs vs → KR K A μ' H' fs vs
  | _, _, .nil => .nil
  | _, _, .cons h r => .cons (h.monog m) (KR.monog m r)
theorem OR.monog (m : Mg μ H μ' H') : ∀ {g : GO} {o : HO}, OR K A μ H g o → OR K A μ' H' g o
  | _, _, .lst r => .lst (r.monog m)
  | _, _, .ins h r => .ins h (r.monog m)
  | _, _, .dct r => .dct (r.monog m)
theorem FR.mono (m : Mo μ H μ' H') {fs : List (Nat × D)} {vs : List (Str × V)} (h : FR K A μ H fs vs) : FR K A μ' H' fs vs := h.monog m.g
theorem OR.mono (m : Mo μ H μ' H') {g : GO} {o : HO} (h : OR K A μ H g o) : OR K A μ' H' g o := h.monog m.g
theorem FR.length : ∀ {fs : List (Nat × D)} {vs : List (Str × V)}, FR K A μ H fs vs → vs.length = fs.length
  | _, _, .nil => rfl
  | _, _, .cons _ r => by rw [List.length_cons, List.length_cons, FR.length r]
theorem FR.look (inj : ∀ f g, A.fld f = A.fld g → f = g) {f : Nat} : ∀ {fs : List (Nat × D)} {vs : List (Str × V)} {d : D}, FR K A μ H fs vs → fs.lookup f = some d → ∃ v, vs.lookup (A.fld f) = some v ∧ DR K A μ H d v
  | _, _, _, .nil, e => by simp at e
  | _, _, d, .cons (f := g) h r, e => by
    by_cases q : f = g
    · subst q
      simp only [List.lookup, beq_self_eq_true] at e ⊢
      cases e
      exact ⟨_, rfl, h⟩
    · have q1 : (f == g) = false := by simpa using q
      have q2 : (A.fld f == A.fld g) = false := by simpa using fun z => q (inj _ _ z)
      simp only [List.lookup, q1] at e
      simp only [List.lookup, q2]
      exact FR.look inj r e
theorem FR.no {x : Str} (hx : ∀ f, A.fld f ≠ x) : ∀ {fs : List (Nat × D)} {vs : List (Str × V)}, FR K A μ H fs vs → vs.lookup x = none
  | _, _, .nil => rfl
  | _, _, .cons (f := g) h r => by
    have q2 : (x == A.fld g) = false := by simpa using fun z => hx g z.symm
    simp only [List.lookup, q2]
    exact FR.no hx r
theorem FR.put (inj : ∀ f g, A.fld f = A.fld g → f = g) {f : Nat} {d : D} {v : V} (q : DR K A μ H d v) : ∀ {fs : List (Nat × D)} {vs : List (Str × V)}, FR K A μ H fs vs → FR K A μ H (putN f d fs) (putF (A.fld f) v vs)
  | _, _, .nil => .cons q .nil
  | _, _, .cons (f := g) h r => by
    unfold putN putF
    by_cases e : g = f
    · subst e
      rw [if_pos rfl, if_pos rfl]
      exact .cons q r
    · rw [if_neg e, if_neg (fun z => e (inj _ _ z))]
      exact .cons h (FR.put inj q r)
theorem KR.look {k : Key} : ∀ {fs : List (Key × D)} {vs : List (Key × V)} {d : D}, KR K A μ H fs vs → fs.lookup k = some d → ∃ v, vs.lookup k = some v ∧ DR K A μ H d v
  | _, _, _, .nil, e => by simp at e
  | _, _, d, .cons (k := g) h r, e => by
    by_cases q : (k == g) = true
    · simp only [List.lookup, q] at e ⊢
      cases e
      exact ⟨_, rfl, h⟩
    · have q1 : (k == g) = false := by simpa using q
      simp only [List.lookup, q1] at e ⊢
      exact KR.look r e
end

structure HR (K : PySem.W.Frag) (A : Ad) (μ : Mu) (S : Hs) (H : Hp) : Prop where
  nd : μ.tr.Nodup
  len : μ.tr.length = S.length
  obj : ∀ (n : Nat) (o : GO) (a : Addr), S[n]? = some o → μ.tr[n]? = some a → ∃ ho, H a = some ho ∧ OR K A μ H o ho
  pvt : ∀ a, a ∈ μ.pv → ∃ o, H a = some o
  pvn : ∀ a, a ∈ μ.pv → a ∉ μ.tr
section
variable {K : PySem.W.Frag} {A : Ad} {μ μ' : Mu} {S : Hs} {H H' : Hp}
theorem HR.there (R : HR K A μ S H) {a : Addr} (h : a ∈ μ) : ∃ o, H a = some o := by
  rcases h with h | h
  · obtain ⟨n, hn, e⟩ := List.mem_iff_getElem.mp h
    have hs : n < S.length := by rw [← R.len]; exact hn
    obtain ⟨ho, h1, _⟩ := R.obj n S[n] a (List.getElem?_eq_getElem hs) (by rw [List.getElem?_eq_getElem hn, e])
    exact ⟨ho, h1⟩
  · exact R.pvt a h
theorem HR.nin (R : HR K A μ S H) {p : Addr} (h : H p = none) : p ∉ μ := fun q => by
  obtain ⟨o, e⟩ := R.there q
  rw [h] at e
  cases e
theorem HR.nint (R : HR K A μ S H) {p : Addr} (h : H p = none) : p ∉ μ.tr := fun q => R.nin h (.inl q)
/-- something new that bears no place -/
theorem Mo.new {p : Addr} {o : HO} (h : H p = none) : Mo μ H μ (upd H p o) := ⟨⟨[], by simp⟩, rfl, fun a u e _ => by rw [upd_ne (ne_of_none e h)]; exact e, fun a h1 h2 => absurd h1 h2⟩
theorem HR.new (R : HR K A μ S H) {p : Addr} {o : HO} (h : H p = none) : HR K A μ S (upd H p o) := ⟨R.nd, R.len, fun n g a e1 e2 => by
  obtain ⟨ho, h1, h2⟩ := R.obj n g a e1 e2
  exact ⟨ho, by rw [upd_ne (ne_of_none h1 h)]; exact h1, h2.mono (Mo.new h)⟩, fun a ha => by
  obtain ⟨u, hu⟩ := R.pvt a ha
  exact ⟨u, by rw [upd_ne (ne_of_none hu h)]; exact hu⟩, R.pvn⟩
/-- .. that is hidden -/
theorem HR.hide (R : HR K A μ S H) {p : Addr} {o : HO} (h : H p = none) : HR K A (μ.hide p) S (upd H p o) := ⟨R.nd, R.len, fun n g a e1 e2 => by
  obtain ⟨ho, h1, h2⟩ := R.obj n g a e1 e2
  exact ⟨ho, by rw [upd_ne (ne_of_none h1 h)]; exact h1, h2.monog (Mg.hide h)⟩, fun a ha => by
  rcases List.mem_cons.mp ha with rfl | ha
  · exact ⟨o, upd_same⟩
  · obtain ⟨u, hu⟩ := R.pvt a ha
    exact ⟨u, by rw [upd_ne (ne_of_none hu h)]; exact hu⟩, fun a ha => by
  rcases List.mem_cons.mp ha with rfl | ha
  · exact R.nint h
  · exact R.pvn a ha⟩
theorem HR.show_ {p : Addr} (R : HR K A (μ.hide p) S H) : HR K A μ S H := ⟨R.nd, R.len, fun n g a e1 e2 => by
  obtain ⟨ho, h1, h2⟩ := R.obj n g a e1 e2
  exact ⟨ho, h1, h2.monog Mg.show_⟩, fun a ha => R.pvt a (List.mem_cons_of_mem _ ha), fun a ha => R.pvn a (List.mem_cons_of_mem _ ha)⟩
theorem HR.over (R : HR K A μ S H) {p : Addr} {o : HO} (h : p ∈ μ.pv) : HR K A μ S (upd H p o) := ⟨R.nd, R.len, fun n g a e1 e2 => by
  obtain ⟨ho, h1, h2⟩ := R.obj n g a e1 e2
  have ne : a ≠ p := fun q => R.pvn p h (by rw [← q]; exact List.mem_of_getElem? e2)
  exact ⟨ho, by rw [upd_ne ne]; exact h1, h2.monog (Mg.over h)⟩, fun a ha => by
  by_cases e : a = p
  · subst e; exact ⟨o, upd_same⟩
  · obtain ⟨u, hu⟩ := R.pvt a ha
    exact ⟨u, by rw [upd_ne e]; exact hu⟩, R.pvn⟩
/-- a new object at a new place -/
theorem Mo.place {p : Addr} {o : HO} (h : H p = none) : Mo μ H (μ.add p) (upd H p o) := ⟨⟨[p], rfl⟩, rfl, fun a u e _ => by rw [upd_ne (ne_of_none e h)]; exact e, fun a h1 h2 => by
  rcases List.mem_append.mp h1 with q | q
  · exact absurd q h2
  · rw [List.mem_singleton.mp q]; exact h⟩
theorem Mu.add_at (R : HR K A μ S H) {p : Addr} : (μ.add p).tr[S.length]? = some p := by
  show (μ.tr ++ [p])[S.length]? = some p
  rw [List.getElem?_append_right (by rw [R.len]; exact Nat.le_refl _), R.len, Nat.sub_self]
  rfl
theorem HR.place (R : HR K A μ S H) {p : Addr} {o : HO} {g : GO} (h : H p = none) (r : OR K A μ H g o) : HR K A (μ.add p) (S ++ [g]) (upd H p o) := by
  have M := Mo.place (μ := μ) (o := o) h
  refine ⟨?_, by show (μ.tr ++ [p]).length = _; rw [List.length_append, List.length_append, R.len]; rfl, fun n u a e1 e2 => ?_, fun a ha => ?_, fun a ha => ?_⟩
  · show (μ.tr ++ [p]).Nodup
    rw [List.nodup_append]
    refine ⟨R.nd, by simp, fun a h1 b h2 => ?_⟩
    rw [List.mem_singleton.mp h2]
    intro e
    exact R.nint h (e ▸ h1)
  · replace e2 : (μ.tr ++ [p])[n]? = some a := e2
    by_cases hn : n < S.length
    · rw [List.getElem?_append_left hn] at e1
      rw [List.getElem?_append_left (by rw [R.len]; exact hn)] at e2
      obtain ⟨ho, h1, h2⟩ := R.obj n u a e1 e2
      exact ⟨ho, by rw [upd_ne (ne_of_none h1 h)]; exact h1, h2.mono M⟩
    · have hn1 : n = S.length := by
        have := (List.getElem?_eq_some_iff.mp e1).1
        rw [List.length_append, List.length_singleton] at this
        omega
      subst hn1
      rw [List.getElem?_append_right (Nat.le_refl _), Nat.sub_self] at e1
      rw [List.getElem?_append_right (by rw [R.len]; exact Nat.le_refl _), R.len, Nat.sub_self] at e2
      cases e1
      cases e2
      exact ⟨o, upd_same, r.mono M⟩
  · obtain ⟨u, hu⟩ := R.pvt a ha
    exact ⟨u, by rw [upd_ne (ne_of_none hu h)]; exact hu⟩
  · intro q
    rcases List.mem_append.mp q with q | q
    · exact R.pvn a ha q
    · obtain ⟨u, hu⟩ := R.pvt a ha
      rw [List.mem_singleton.mp q, h] at hu
      cases hu
/-- a write at a place -/
theorem Mo.write {p : Addr} {o : HO} (h : p ∈ μ.tr) : Mo μ H μ (upd H p o) := ⟨⟨[], by simp⟩, rfl, fun a u e n => by rw [upd_ne (fun q : a = p => n (by rw [q]; exact h))]; exact e, fun a h1 h2 => absurd h1 h2⟩
theorem HR.write (R : HR K A μ S H) {n : Nat} {p : Addr} {o : HO} {g : GO} (h : μ.tr[n]? = some p) (r : OR K A μ H g o) : HR K A μ (S.set n g) (upd H p o) := by
  have hm : p ∈ μ.tr := List.mem_of_getElem? h
  have M : Mo μ H μ (upd H p o) := Mo.write hm
  refine ⟨R.nd, by rw [List.length_set]; exact R.len, fun j u a e1 e2 => ?_, fun a ha => ?_, R.pvn⟩
  · by_cases e : j = n
    · subst e
      rw [h] at e2
      cases e2
      have hl : j < S.length := by rw [← R.len]; exact (List.getElem?_eq_some_iff.mp h).1
      rw [List.getElem?_set_self hl] at e1
      cases e1
      exact ⟨o, upd_same, r.mono M⟩
    · rw [List.getElem?_set_ne (Ne.symm e)] at e1
      obtain ⟨ho, h1, h2⟩ := R.obj j u a e1 e2
      have ne : a ≠ p := fun q => e (by
        subst q
        obtain ⟨l1, q1⟩ := List.getElem?_eq_some_iff.mp e2
        obtain ⟨l2, q2⟩ := List.getElem?_eq_some_iff.mp h
        exact (List.getElem_inj R.nd).mp (q1.trans q2.symm))
      exact ⟨ho, by rw [upd_ne ne]; exact h1, h2.mono M⟩
  · have ne : a ≠ p := fun q => R.pvn a ha (by rw [q]; exact hm)
    obtain ⟨u, hu⟩ := R.pvt a ha
    exact ⟨u, by rw [upd_ne ne]; exact hu⟩
end

/-- the slots -/
structure ER (K : PySem.W.Frag) (A : Ad) (μ : Mu) (H : Hp) (env : Env) (σ : L2.St) : Prop where
  len : env.length = σ.length
  at_ : ∀ (i : Nat) (d : D), env[i]? = some (some d) → ∃ v, σ[i]? = some (some v) ∧ DR K A μ H d v
section
variable {K : PySem.W.Frag} {A : Ad} {μ μ' : Mu} {H H' : Hp} {env : Env} {σ : L2.St}
theorem ER.monog (m : Mg μ H μ' H') (E : ER K A μ H env σ) : ER K A μ' H' env σ := ⟨E.len, fun i d e => by
  obtain ⟨v, h1, h2⟩ := E.at_ i d e
  exact ⟨v, h1, h2.monog m⟩⟩
theorem ER.mono (m : Mo μ H μ' H') (E : ER K A μ H env σ) : ER K A μ' H' env σ := E.monog m.g
theorem ER.set (E : ER K A μ H env σ) {i : Nat} {d : D} {v : V} (r : DR K A μ H d v) : ER K A μ H (env.set i (some d)) (σ.set i (some v)) := ⟨by rw [List.length_set, List.length_set]; exact E.len, fun j e h => by
  by_cases q : j = i
  · subst q
    have hl : j < env.length := by
      have := (List.getElem?_eq_some_iff.mp h).1
      rwa [List.length_set] at this
    rw [List.getElem?_set_self hl] at h
    cases h
    exact ⟨v, List.getElem?_set_self (by rw [← E.len]; exact hl), r⟩
  · rw [List.getElem?_set_ne (Ne.symm q)] at h
    obtain ⟨u, h1, h2⟩ := E.at_ j e h
    exact ⟨u, by rw [List.getElem?_set_ne (Ne.symm q)]; exact h1, h2⟩⟩
theorem ER.unset (E : ER K A μ H env σ) (i : Nat) : ER K A μ H (env.set i none) (σ.set i none) := ⟨by rw [List.length_set, List.length_set]; exact E.len, fun j e h => by
  by_cases q : j = i
  · subst q
    by_cases hl : j < env.length
    · rw [List.getElem?_set_self hl] at h
      cases h
    · rw [List.getElem?_eq_none (by rw [List.length_set]; omega)] at h
      cases h
  · rw [List.getElem?_set_ne (Ne.symm q)] at h
    obtain ⟨u, h1, h2⟩ := E.at_ j e h
    exact ⟨u, by rw [List.getElem?_set_ne (Ne.symm q)]; exact h1, h2⟩⟩
theorem ER.wipe (E : ER K A μ H env σ) : ∀ own : List Nat, ER K A μ H (wipeE env own) (wipe σ own)
  | [] => E
  | i :: own => (ER.wipe E own).unset i
end
end CN
set_option Elab.async false
set_option linter.all false
set_option maxRecDepth 100000
/-! CnJudge: what the interpreter's answer says of a state; the readings it makes. -/
namespace CN
open PySem L2

/-- an exception of a class of the program, its fields in its own dict -/
inductive XR (K : PySem.W.Frag) (A : Ad) (μ : Mu) (H : Hp) : Nat → List (Nat × D) → Value → Option Addr → Prop where
  | mk {c : Nat} {fs : List (Nat × D)} {C d : Addr} {vs : List (Str × V)} (hc : A.cl c = some C) (hd : H d = some (.xd vs)) (hn : d ∉ μ) (r : FR K A μ H fs vs) : XR K A μ H c fs (.ref C) (some d)
theorem XR.mono {K : PySem.W.Frag} {A : Ad} {μ μ' : Mu} {H H' : Hp} (m : Mo μ H μ' H') {c : Nat} {fs : List (Nat × D)} {cl : Value} {dx : Option Addr} (h : XR K A μ H c fs cl dx) : XR K A μ' H' c fs cl dx := by
  obtain ⟨hc, hd, hn, r⟩ := h
  exact ⟨hc, m.keep _ _ hd fun z => hn (.inl z), m.nin hd hn, r.mono m⟩

abbrev Rl (α β : Type) := Mu → Hp → α → β → Prop
/-- what an answer asks of what comes behind -/
def Post {α β : Type} (Re : Rl α β) (K : PySem.W.Frag) (A : Ad) (W : WX) (σ : L2.St) (μ : Mu) (H : Hp) (Q : β → Hp → Prop) : Res α → Prop
  | .stuck => False
  | .ok a S => ∀ b μ' H', Re μ' H' a b → HR K A μ' S H' → Mo μ H μ' H' → Q b H'
  | .err c fs S => ∀ cl dx μ' H', XR K A μ' H' c fs cl dx → HR K A μ' S H' → Mo μ H μ' H' → W cl dx σ H'
theorem Post.base {α β : Type} {Re : Rl α β} {K : PySem.W.Frag} {A : Ad} {W : WX} {σ : L2.St} {μ μ' : Mu} {H H' : Hp} {Q : β → Hp → Prop} {r : Res α} (m : Mo μ H μ' H') (h : Post Re K A W σ μ H Q r) : Post Re K A W σ μ' H' Q r := by
  cases r with
  | stuck => exact h
  | ok a S => exact fun b μ2 H2 r R M => h b μ2 H2 r R (m.trans M)
  | err c fs S => exact fun cl dx μ2 H2 r R M => h cl dx μ2 H2 r R (m.trans M)
theorem Post.imp {α β : Type} {Re : Rl α β} {K : PySem.W.Frag} {A : Ad} {W : WX} {σ : L2.St} {μ : Mu} {H : Hp} {Q Q' : β → Hp → Prop} {r : Res α} (h : Post Re K A W σ μ H Q r) (q : ∀ b H', Q b H' → Q' b H') : Post Re K A W σ μ H Q' r := by
  cases r with
  | stuck => exact h
  | ok a S => exact fun b μ2 H2 r R M => q _ _ (h b μ2 H2 r R M)
  | err c fs S => exact h
/-- the reading of an answer -/
def Rd1 {α β : Type} (Re : Rl α β) (K : PySem.W.Frag) (A : Ad) (W : WX) (m : Env → Hs → Res α) (σ : L2.St) (H : Hp) (Q : β → Hp → Prop) : Prop :=
  ∃ (env : Env) (S : Hs) (μ : Mu), ER K A μ H env σ ∧ HR K A μ S H ∧ Post Re K A W σ μ H Q (m env S)
abbrev ReD (K : PySem.W.Frag) (A : Ad) : Rl D V := fun μ H d v => DR K A μ H d v
abbrev ReDs (K : PySem.W.Frag) (A : Ad) : Rl (List D) (List V) := fun μ H d v => DRs K A μ H d v
abbrev ReB : Rl Bool Bool := fun _ _ a b => a = b
abbrev ReI : Rl (Option Int) (Option Int) := fun _ _ a b => a = b
abbrev TEo (K : PySem.W.Frag) (A : Ad) (W : WX) (m : Env → Hs → Res D) : TE := Rd1 (ReD K A) K A W m
abbrev TTo (K : PySem.W.Frag) (A : Ad) (W : WX) (m : Env → Hs → Res Bool) : TT := Rd1 ReB K A W m
abbrev TAo (K : PySem.W.Frag) (A : Ad) (W : WX) (m : Env → Hs → Res (List D)) : TA := Rd1 (ReDs K A) K A W m

section
variable {K : PySem.W.Frag} {A : Ad} {W : WX} {σ : L2.St} {μ : Mu} {H : Hp} {env : Env} {S : Hs}
/-- one answer after another -/
theorem seq {α β γ δ : Type} {Re : Rl α β} {Rf : Rl γ δ} {m : Env → Hs → Res α} {f : α → Hs → Res γ} {Q : δ → Hp → Prop} {k : β → Hp → Prop} (E : ER K A μ H env σ) (R : HR K A μ S H) (h : Post Rf K A W σ μ H Q ((m env S).bind f))
    (hk : ∀ a S1 b μ1 H1, m env S = .ok a S1 → Re μ1 H1 a b → HR K A μ1 S1 H1 → ER K A μ1 H1 env σ → Mo μ H μ1 H1 → Post Rf K A W σ μ1 H1 Q (f a S1) → k b H1) : Rd1 Re K A W m σ H k := by
  refine ⟨env, S, μ, E, R, ?_⟩
  cases e : m env S with
  | stuck => rw [e] at h; exact h
  | ok a S1 =>
    rw [e] at h
    exact fun b μ1 H1 r R1 M => hk a S1 b μ1 H1 e r R1 (E.mono M) M (h.base M)
  | err c fs S1 => rw [e] at h; exact h
theorem Post.of {α β : Type} {Re : Rl α β} {Q : β → Hp → Prop} {o : Option α} (h : Post Re K A W σ μ H Q (Res.of o S)) : ∃ a, o = some a ∧ ∀ b μ' H', Re μ' H' a b → HR K A μ' S H' → Mo μ H μ' H' → Q b H' := by
  cases o with
  | none => exact h.elim
  | some a => exact ⟨a, rfl, h⟩
end

section
variable {X : Cx} {e : Expr}
theorem PE.imp {t t' : TE} (h : PE X e t) (f : ∀ σ H Q, t' σ H Q → t σ H Q) : PE X e t' := ⟨fun pins s σ H Q I q => h.run pins s σ H Q I (f σ H Q q)⟩
theorem PE.by_ {t' : TE} (f : ∀ σ H Q, t' σ H Q → ∃ t, PE X e t ∧ t σ H Q) : PE X e t' := ⟨fun pins s σ H Q I q => by
  obtain ⟨t, h, z⟩ := f σ H Q q
  exact h.run pins s σ H Q I z⟩
theorem PE.byI {t' : TE} (f : ∀ pins s σ H Q, Inv X pins σ H s → t' σ H Q → ∃ t, PE X e t ∧ t σ H Q) : PE X e t' := ⟨fun pins s σ H Q I q => by
  obtain ⟨t, h, z⟩ := f pins s σ H Q I q
  exact h.run pins s σ H Q I z⟩
theorem PT.imp {t t' : TT} (h : PT X e t) (f : ∀ σ H Q, t' σ H Q → t σ H Q) : PT X e t' := ⟨fun pins s σ H Q I q => h.run pins s σ H Q I (f σ H Q q)⟩
theorem PA.imp {es : List Expr} {t t' : TA} (h : PA X es t) (f : ∀ σ H Q, t' σ H Q → t σ H Q) : PA X es t' := ⟨fun pos pins s σ H Q I q => h.run pos pins s σ H Q I (f σ H Q q)⟩
end

/-! ### operators -/
section
variable {X : Cx} {A : Ad}
/-- a two-place operation that changes nothing old: by what it answers on data -/
def r2 (K : PySem.W.Frag) (A : Ad) (f : Hs → D → D → Option D) : R2 := fun x y H Q => ∃ (μ : Mu) (S : Hs) (dx dy d : D), DR K A μ H dx x ∧ DR K A μ H dy y ∧ HR K A μ S H ∧ f S dx dy = some d ∧
  ∀ v μ' H', DR K A μ' H' d v → HR K A μ' S H' → Mo μ H μ' H' → Q v H'
theorem OpR.of {f : Value → Value → Sem Value} {r : R2} (h : ∀ x y H Q, r x y H Q → ∃ r', OpR X f r' ∧ r' x y H Q) : OpR X f r := fun pins s σ H x y v u Q I rx ry q => by
  obtain ⟨r', h1, h2⟩ := h x y H Q q
  exact h1 pins s σ H x y v u Q I rx ry h2
theorem DR.int_inv {K : PySem.W.Frag} {μ : Mu} {H : Hp} {i : Int} {v : V} (h : DR K A μ H (.int i) v) : v = .int i := by cases h; rfl
theorem DR.str_inv {K : PySem.W.Frag} {μ : Mu} {H : Hp} {i : Str} {v : V} (h : DR K A μ H (.str i) v) : v = .str i := by cases h; rfl
theorem DR.bl_inv {K : PySem.W.Frag} {μ : Mu} {H : Hp} {i : Bool} {v : V} (h : DR K A μ H (.bl i) v) : v = .bl i := by cases h; rfl
theorem lstAt_ref {S : Hs} {n : Nat} {ds : List D} (h : lstAt S (.ref n) = some ds) : S[n]? = some (.lst ds) := by
  have h' : (match S[n]? with | some (.lst ds) => some ds | _ => none) = some ds := h
  split at h' <;> simp_all
/-- a list's content stands at its address -/
theorem lst_sq {K : PySem.W.Frag} {μ : Mu} {H : Hp} {S : Hs} {d : D} {ds : List D} {v : V} (R : HR K A μ S H) (h : DR K A μ H d v) (e : lstAt S d = some ds) : ∃ a vs, v = .ref a ∧ Rd H a (.lst vs) ∧ DRs K A μ H ds vs := by
  cases d with
  | tl es =>
    cases h with
    | tl q r =>
      cases e
      exact ⟨_, _, rfl, q.1, r⟩
  | ref n =>
    cases h with
    | ref q =>
      obtain ⟨ho, h1, h2⟩ := R.obj _ _ _ (lstAt_ref e) q
      cases h2 with
      | lst r => exact ⟨_, _, rfl, .inl h1, r⟩
  | _ => cases e
theorem seq_sq {K : PySem.W.Frag} {μ : Mu} {H : Hp} {S : Hs} {d : D} {ds : List D} {v : V} (R : HR K A μ S H) (h : DR K A μ H d v) (e : seqAt S d = some ds) : ∃ a vs, v = .ref a ∧ (SqL K H a vs ∨ SqT K H a vs) ∧ DRs K A μ H ds vs := by
  cases d with
  | tup es =>
    cases e
    cases h with
    | tup q r => exact ⟨_, _, rfl, .inr q.sq, r⟩
  | kl es =>
    cases e
    cases h with
    | kl q r => exact ⟨_, _, rfl, .inl q.sqL, r⟩
  | _ =>
    obtain ⟨a, vs, h1, h2, h3⟩ := lst_sq R h e
    exact ⟨a, vs, h1, .inl (.inl h2), h3⟩
/-- a new tuple, a new list by value -/
theorem new_tup {K : PySem.W.Frag} {μ : Mu} {H : Hp} {S : Hs} {ds : List D} {vs : List V} {p : Addr} (R : HR K A μ S H) (r : DRs K A μ H ds vs) (hp : H p = none) :
    DR K A μ (upd H p (.tup vs)) (.tup ds) (.ref p) ∧ HR K A μ S (upd H p (.tup vs)) ∧ Mo μ H μ (upd H p (.tup vs)) := ⟨.tup (.inl ⟨.inl upd_same, R.nin hp⟩) (r.mono (Mo.new hp)), R.new hp, Mo.new hp⟩
theorem new_tl {K : PySem.W.Frag} {μ : Mu} {H : Hp} {S : Hs} {ds : List D} {vs : List V} {p : Addr} (R : HR K A μ S H) (r : DRs K A μ H ds vs) (hp : H p = none) :
    DR K A μ (upd H p (.lst vs)) (.tl ds) (.ref p) ∧ HR K A μ S (upd H p (.lst vs)) ∧ Mo μ H μ (upd H p (.lst vs)) := ⟨.tl ⟨.inl upd_same, R.nin hp⟩ (r.mono (Mo.new hp)), R.new hp, Mo.new hp⟩
end
end CN
set_option Elab.async false
set_option linter.all false
set_option maxRecDepth 100000
set_option maxHeartbeats 2000000
/-! CnOps: the operators. -/
namespace CN
open PySem PyProof.Rows L2

def pyOp : BOp → Operator
  | .add => .Add | .sub => .Sub | .mul => .Mult | .fdiv => .FloorDiv | .mod => .Mod | .pow => .Pow
def pyCmp : COp → CmpOp
  | .lt => .Lt | .le => .LtE | .gt => .Gt | .ge => .GtE | .eq => .Eq | .ne => .NotEq | .isin => .In | .notin => .NotIn

/-! ### lists that are read: tracked or locked -/
section
variable {X : Cx} {A : Ad} {pins : List (Addr × Obj)} {σ : L2.St} {H : Hp} {s : Shared}
theorem rdL (I : Inv X pins σ H s) {a : Addr} {xs : List V} (h : Rd H a (.lst xs)) : xs.length ≤ sizeLine ∧ ∃ (its : List Value) (n : Nat), Vals xs its ∧ xs.length = its.length ∧ s.heap.get? a = some { cls := .type "list", data := .seq its.toArray n } := by
  obtain ⟨z, its, n, r, e⟩ := h.ok I.hok
  exact ⟨z, its, n, r, r.length, e⟩
/-- list + list, either one locked perhaps -/
theorem op_catR : OpR X (binaryOp .Add) (fun x y H Q => ∃ l b xs zs, x = .ref l ∧ y = .ref b ∧ Rd H l (.lst xs) ∧ Rd H b (.lst zs) ∧ xs.length + zs.length ≤ sizeLine ∧ ∀ p, H p = none → Q (.ref p) (upd H p (.lst (xs ++ zs)))) := by
  intro pins s σ H x y v u Q I rx ry h
  obtain ⟨l, b, xs, zs, rfl, rfl, hH, hB, hz, q⟩ := h
  cases rx
  cases ry
  obtain ⟨z, its, n, r, hl, e⟩ := rdL I hH
  obtain ⟨z2, its2, n2, r2, hl2, e2⟩ := rdL I hB
  refine PySem.P.add_list e e2 ?_ (by rw [List.size_toArray, List.size_toArray]; omega)
  have ea : its.toArray ++ its2.toArray = (its ++ its2).toArray := by simp
  rw [ea]
  exact ⟨.ref _, _, I.lnew (t' := s.toks) (r.append r2) (by rw [List.length_append]; omega), rfl, q _ I.fresh⟩
theorem op_repR : OpR X (binaryOp .Mult) (fun x y H Q => ∃ l k xs, x = .ref l ∧ y = .int k ∧ Rd H l (.lst xs) ∧ -(2 ^ 63) ≤ k ∧ k < 2 ^ 63 ∧ xs.length * k.toNat ≤ sizeLine ∧ ∀ p, H p = none → Q (.ref p) (upd H p (.lst (List.replicate k.toNat xs).flatten))) := by
  intro pins s σ H x y v u Q I rx ry h
  obtain ⟨l, k, xs, rfl, rfl, hH, h1, h2, hz, q⟩ := h
  cases rx
  obtain ⟨t, rfl⟩ := ry
  obtain ⟨z, its, n, r, hl, e⟩ := rdL I hH
  have hlen : its.toArray.size * k.toNat ≤ sizeLine := by rw [List.size_toArray, ← hl]; exact hz
  have hcap : ¬ its.toArray.size * k.toNat > (2 ^ 63 - 1) / 8 := by
    have : (sizeLine : Nat) ≤ (2 ^ 63 - 1) / 8 := by decide
    omega
  have hfit : ¬ (!Builtin.List.listFitsIndex k) = true := by
    rw [fitsIndex_both h1 h2]
    exact Bool.false_ne_true
  have hlong : ¬ Builtin.List.listTooLong (its.toArray.size * k.toNat) = true := by
    rw [notLongL hlen]
    exact Bool.false_ne_true
  have hnew : List.foldl (fun x1 x2 => x1 ++ x2) #[] (List.replicate (if its.toArray.isEmpty = true then 0 else k.toNat) its.toArray) = (List.replicate k.toNat its).flatten.toArray := by
    have f0 : ∀ m : Nat, List.foldl (fun x1 x2 => x1 ++ x2) #[] (List.replicate m its.toArray) = (List.replicate m its).flatten.toArray := fun m => by
      have := foldl_rep its m []
      rw [List.nil_append] at this
      exact this
    rw [f0]
    cases its with
    | nil => simp
    | cons a r' => rw [if_neg (by simp)]
  refine wpAny_binaryOp_repeat_ref (T := "list") (U := "int") (by decide) ⟨_, e, rfl⟩ (fun s' => typeIs_int s' k t) noFill_list_mul F.fills_int_mul F.slot_int_rmul repeat_list F.slot_int_index.lookup
    (call_meets F.slot_int_rmul (typeIs_int s k t) F.entry_int_rmul (F.args_int_rmul_2 _ _) (int___rmul___int_list k t l its.toArray n)
      ⟨e, rfl, ⟨_, e, rfl⟩, call_meets F.slot_list_mul ⟨_, e, rfl⟩ F.entry_list_mul (F.args_list_mul_2 _ _) (AutoListH.list___mul___list_int_3 l its.toArray n k t hfit hcap hlong) ⟨e, ?_⟩⟩)
  rw [hnew]
  exact ⟨.ref _, _, I.lnew (t' := s.toks) (r.rep k.toNat) (by rw [PyProof.Rows.lm_len_rep_flat, Nat.mul_comm]; exact hz), rfl, q _ I.fresh⟩
end

/-! ### tuple * int for 0 and 1 -/
theorem tuple_mul1 (l : Addr) (items : Array Value) (n : Nat) (u : Tok) (sl : Array (Option Value)) (dd : Option Addr) (x : Int) (c0 : (decide (x < -(2 ^ 63)) || decide (x ≥ 2 ^ 63)) = false) (c1 : (items.isEmpty || x == 1) = true) :
    Meets (Builtin.«tuple.__mul__» ⟨[.ref l, .int x u], []⟩) (fun _ R s => s.heap.get? l = some { cls := .type "tuple", dict := dd, data := .seq items n, slots := sl } ∧ R (.ok (.ret (Value.ref l))) s) :=
  .of_wp fun prog w A R s h => by
    obtain ⟨hp, g, d, tk, os⟩ := s
    obtain ⟨hl, h⟩ := h
    have f1 := AutoSeq1.idx_int
    wp_walk using wpAny_loadPart' hl
    repeat (first
      | (refine wpAny_ite_false (decide_eq_false (by rw [c0]; exact Bool.false_ne_true)) ?_; wp_walk using wpAny_loadPart' hl)
      | (refine wpAny_ite_true (decide_eq_true c1) ?_; wp_walk using wpAny_loadPart' hl))
    exact ⟨_, rfl, h⟩
theorem tuple_mul0 (l : Addr) (items : Array Value) (n : Nat) (u : Tok) (sl : Array (Option Value)) (dd : Option Addr) (x : Int) (c0 : (decide (x < -(2 ^ 63)) || decide (x ≥ 2 ^ 63)) = false) (c1 : (items.isEmpty || x == 1) = false) (c2 : (decide (x ≤ 0) || items.isEmpty) = true) :
    Meets (Builtin.«tuple.__mul__» ⟨[.ref l, .int x u], []⟩) (fun _ R s => s.heap.get? l = some { cls := .type "tuple", dict := dd, data := .seq items n, slots := sl } ∧
      R (.ok (.ret (Value.ref s.heap.objs.size))) { s with heap := s.heap.push { cls := Value.type "tuple", data := Data.seq #[] }, toks := s.toks }) :=
  .of_wp fun prog w A R s h => by
    obtain ⟨hp, g, d, tk, os⟩ := s
    obtain ⟨hl, h⟩ := h
    have f1 := AutoSeq1.idx_int
    wp_walk using wpAny_loadPart' hl
    repeat (first
      | (refine wpAny_ite_false (decide_eq_false (by rw [c0]; exact Bool.false_ne_true)) ?_; wp_walk using wpAny_loadPart' hl)
      | (refine wpAny_ite_false (decide_eq_false (by rw [c1]; exact Bool.false_ne_true)) ?_; wp_walk using wpAny_loadPart' hl)
      | (refine wpAny_ite_true (decide_eq_true c2) ?_; wp_walk using wpAny_loadPart' hl))
    exact ⟨_, rfl, h⟩
section
variable {X : Cx}
theorem op_repT1 : OpR X (binaryOp .Mult) (fun x y H Q => ∃ l k xs, x = .ref l ∧ y = .int k ∧ SqT X.K H l xs ∧ (k = 1 ∨ xs = []) ∧ 0 ≤ k ∧ k < 2 ^ 63 ∧ Q (.ref l) H) := by
  intro pins s σ H x y v u Q I rx ry h
  obtain ⟨l, k, xs, rfl, rfl, hT, hk, k0, k1, q⟩ := h
  cases rx
  obtain ⟨t, rfl⟩ := ry
  obtain ⟨its, r, ⟨⟨cls, dd, data, sl⟩, ho, hc, n, hd⟩, hs⟩ := I.tuple hT
  simp only at hc hd
  subst hc hd
  have c0 : (decide (k < -(2 ^ 63)) || decide (k ≥ 2 ^ 63)) = false := by
    rw [decide_eq_false (by omega), decide_eq_false (by omega)] <;> rfl
  have c1 : (its.toArray.isEmpty || k == 1) = true := by
    rcases hk with rfl | rfl
    · simp
    · cases r
      simp
  refine wpAny_binaryOp_repeat_ref (T := "tuple") (U := "int") (by decide) ⟨_, ho, rfl⟩ (fun s' => typeIs_int s' k t) noFill_tuple_mul F.fills_int_mul F.slot_int_rmul repeat_tuple F.slot_int_index.lookup
    (call_meets F.slot_int_rmul (typeIs_int s k t) F.entry_int_rmul (F.args_int_rmul_2 _ _) (int_rmul_tuple k t l its.toArray n dd sl)
      ⟨ho, rfl, ⟨_, ho, rfl⟩, call_meets F.slot_tuple_mul ⟨_, ho, rfl⟩ F.entry_tuple_mul (F.args_tuple_mul_2 _ _) (tuple_mul1 l its.toArray n t sl dd k c0 c1) ⟨ho, ?_⟩⟩)
  exact ⟨.ref l, H, I, rfl, q⟩
theorem op_repT0 : OpR X (binaryOp .Mult) (fun x y H Q => ∃ l k xs, x = .ref l ∧ y = .int k ∧ SqT X.K H l xs ∧ xs ≠ [] ∧ k = 0 ∧ ∀ p, H p = none → Q (.ref p) (upd H p (.tup []))) := by
  intro pins s σ H x y v u Q I rx ry h
  obtain ⟨l, k, xs, rfl, rfl, hT, hne, rfl, q⟩ := h
  cases rx
  obtain ⟨t, rfl⟩ := ry
  obtain ⟨its, r, ⟨⟨cls, dd, data, sl⟩, ho, hc, n, hd⟩, hs⟩ := I.tuple hT
  simp only at hc hd
  subst hc hd
  have c1 : (its.toArray.isEmpty || (0 : Int) == 1) = false := by
    cases r with
    | nil => exact absurd rfl hne
    | cons _ _ => simp
  refine wpAny_binaryOp_repeat_ref (T := "tuple") (U := "int") (by decide) ⟨_, ho, rfl⟩ (fun s' => typeIs_int s' 0 t) noFill_tuple_mul F.fills_int_mul F.slot_int_rmul repeat_tuple F.slot_int_index.lookup
    (call_meets F.slot_int_rmul (typeIs_int s 0 t) F.entry_int_rmul (F.args_int_rmul_2 _ _) (int_rmul_tuple 0 t l its.toArray n dd sl)
      ⟨ho, rfl, ⟨_, ho, rfl⟩, call_meets F.slot_tuple_mul ⟨_, ho, rfl⟩ F.entry_tuple_mul (F.args_tuple_mul_2 _ _) (tuple_mul0 l its.toArray n t sl dd 0 (by decide) c1 (by simp)) ⟨ho, ?_⟩⟩)
  refine ⟨.ref s.heap.objs.size, _, I.laid (t' := s.toks) (o := .tup []) (fun b ob q => Heap.get?_push_of_some _ q) (Nat.le_refl _) ?_, rfl, q _ (I.hok.fresh (Nat.le_refl _))⟩
  exact ⟨Nat.zero_le _, [], .nil, IsTup.new _ _⟩

variable {A : Ad}
theorem inRng_mul {i j : Int} (h : (inRng i || inRng j) = true) : CMul i j := by
  simp only [inRng, Bool.or_eq_true, Bool.and_eq_true, decide_eq_true_eq] at h
  exact h
theorem opR_bin (op : BOp) : OpR X (binaryOp (pyOp op)) (r2 X.K A fun S => binop S op) := by
  refine OpR.of fun x y H Q hq => ?_
  obtain ⟨μ, S, dx, dy, d, rx, ry, R, e, q⟩ := hq
  replace e : binop S op dx dy = some d := e
  unfold binop at e
  split at e
  · cases e; cases rx; cases ry
    exact ⟨_, op_add, _, _, rfl, rfl, q _ μ H (.int _) R (Mo.refl _ _)⟩
  · split at e
    · rename_i hz
      cases e; cases rx; cases ry
      exact ⟨_, op_add_str, _, _, rfl, rfl, hz, q _ μ H (.str _) R (Mo.refl _ _)⟩
    · cases e
  · split at e
    · rename_i a b hz
      cases e
      cases rx with
      | @tup _ p vs h1 r1 =>
        cases ry with
        | @tup _ p2 ws h2 r2 =>
          refine ⟨_, op_catA, p, p2, vs, ws, rfl, rfl, h1.sq, h2.sq, by rw [r1.length, r2.length]; exact hz, fun hv => ?_, fun hv hw => ?_, fun hv hw p3 hp => ?_⟩
          · have : a = [] := List.eq_nil_of_length_eq_zero (by rw [← r1.length, hv]; rfl)
            subst this
            exact q _ μ H (.tup h2 r2) R (Mo.refl _ _)
          · have : b = [] := List.eq_nil_of_length_eq_zero (by rw [← r2.length, hw]; rfl)
            subst this
            exact q _ μ H (by rw [List.append_nil]; exact .tup h1 r1) R (Mo.refl _ _)
          · obtain ⟨z1, z2, z3⟩ := new_tup R (r1.append r2) hp
            exact q _ _ _ z1 z2 z3
    · cases e
  · split at e
    · rename_i a b ea eb
      split at e
      · rename_i hz
        cases e
        obtain ⟨l, vs, rfl, hl, r1⟩ := lst_sq R rx ea
        obtain ⟨m, ws, rfl, hm, r2⟩ := lst_sq R ry eb
        refine ⟨_, op_catR, l, m, vs, ws, rfl, rfl, hl, hm, by rw [r1.length, r2.length]; exact hz, fun p hp => ?_⟩
        obtain ⟨z1, z2, z3⟩ := new_tl R (r1.append r2) hp
        exact q _ _ _ z1 z2 z3
      · cases e
    · cases e
  · cases e; cases rx; cases ry
    exact ⟨_, op_sub, _, _, rfl, rfl, q _ μ H (.int _) R (Mo.refl _ _)⟩
  · split at e
    · rename_i hz
      cases e; cases rx; cases ry
      exact ⟨_, op_mul, _, _, rfl, rfl, inRng_mul hz, q _ μ H (.int _) R (Mo.refl _ _)⟩
    · cases e
  · rename_i a k
    split at e
    · rename_i hz
      simp only [Bool.and_eq_true, decide_eq_true_eq] at hz
      obtain ⟨⟨k0, k1⟩, hl⟩ := hz
      cases e; cases ry
      cases rx with
      | @tup _ p vs h1 r1 =>
        by_cases hn : vs = []
        · have : a = [] := List.eq_nil_of_length_eq_zero (by rw [← r1.length, hn]; rfl)
          subst this
          refine ⟨_, op_repT1, p, k, vs, rfl, rfl, h1.sq, .inr hn, k0, by omega, ?_⟩
          exact q _ μ H (by simp; exact .tup h1 r1) R (Mo.refl _ _)
        · by_cases e1 : k = 1
          · subst e1
            refine ⟨_, op_repT1, p, 1, vs, rfl, rfl, h1.sq, .inl rfl, by decide, by decide, ?_⟩
            exact q _ μ H (by simp; exact .tup h1 r1) R (Mo.refl _ _)
          · by_cases e0 : k = 0
            · subst e0
              refine ⟨_, op_repT0, p, 0, vs, rfl, rfl, h1.sq, hn, rfl, fun p3 hp => ?_⟩
              obtain ⟨z1, z2, z3⟩ := new_tup R (ds := []) (vs := []) .nil hp
              exact q _ _ _ (by simpa using z1) z2 z3
            · refine ⟨_, op_repT, p, k, vs, rfl, rfl, h1.sq, hn, by omega, k1, by rw [r1.length]; exact hl, fun p3 hp => ?_⟩
              obtain ⟨z1, z2, z3⟩ := new_tup R (r1.rep k.toNat) hp
              exact q _ _ _ z1 z2 z3
    · cases e
  · rename_i a k
    split at e
    · rename_i hz
      simp only [Bool.and_eq_true, decide_eq_true_eq] at hz
      obtain ⟨⟨k0, k1⟩, hl⟩ := hz
      cases e; cases ry
      cases rx with
      | @tl _ p vs h1 r1 =>
        refine ⟨_, op_repR, p, k, vs, rfl, rfl, h1.1, by omega, by omega, ?_, fun p3 hp => ?_⟩
        · have a1 : vs.length * k.toNat ≤ 1000 * 1000 := Nat.mul_le_mul (by rw [r1.length]; exact hl) (by omega)
          rw [sizeLine_eq]
          omega
        · obtain ⟨z1, z2, z3⟩ := new_tl R (r1.rep k.toNat) hp
          exact q _ _ _ z1 z2 z3
    · cases e
  · split at e
    · rename_i hz
      simp only [Bool.and_eq_true, decide_eq_true_eq] at hz
      cases e; cases rx; cases ry
      exact ⟨_, op_fdivN, _, _, rfl, rfl, hz, q _ μ H (.int _) R (Mo.refl _ _)⟩
    · cases e
  · split at e
    · rename_i hz
      simp only [decide_eq_true_eq] at hz
      cases e; cases rx; cases ry
      exact ⟨_, op_modN, _, _, rfl, rfl, hz, q _ μ H (.int _) R (Mo.refl _ _)⟩
    · cases e
  · split at e
    · rename_i hz
      simp only [Bool.and_eq_true, decide_eq_true_eq] at hz
      cases e; cases rx; cases ry
      exact ⟨_, op_pow, _, _, rfl, rfl, ⟨hz.1.1, hz.1.2, hz.2⟩, q _ μ H (.int _) R (Mo.refl _ _)⟩
    · cases e
  · cases e
end
end CN
set_option Elab.async false
set_option linter.all false
set_option maxRecDepth 100000
set_option maxHeartbeats 2000000
/-! CnOps2: comparisons, subscripts, slices, truth. -/
namespace CN
open PySem PyProof.Rows L2

/-! ### written tables -/
/-- a value that stands whatever the heap -/
def KD (K : PySem.W.Frag) (A : Ad) (d : D) (v : V) : Prop := ∀ μ H, DR K A μ H d v
inductive TbR (K : PySem.W.Frag) (A : Ad) : List DictEntry → List (Str × D) → Prop where
  | nil : TbR K A [] []
  | cons {e : DictEntry} {es : List DictEntry} {x : Str} {d : D} {kvs : List (Str × D)} (hk : ∃ t, e.key = .str x t) (hv : ∃ v, RelV v e.val ∧ KD K A d v) (r : TbR K A es kvs) : TbR K A (e :: es) ((x, d) :: kvs)
def TabAt (K : PySem.W.Frag) (w : World) (A : Ad) (a : Addr) (kvs : List (Str × D)) : Prop :=
  ∃ (es : Array DictEntry) (n : Nat), K.lookup a = some ⟨.type "dict", none, .dict es n, #[]⟩ ∧ PySem.W.KeysLit w.params es.toList ∧ (a == sysModules) = false ∧ TbR K A es.toList kvs
def Tabs (T : Tb) (A : Ad) (K : PySem.W.Frag) (w : World) : Prop := ∀ t kvs a, T.tabs[t]? = some kvs → A.tb t = some a → TabAt K w A a kvs
theorem isStrOf_str (x y : Str) (t : Tok) : Value.isStrOf x (.str y t) = decide (x = y) := by
  by_cases e : x = y
  · subst e
    simp [Value.isStrOf]
  · have : (y == x) = false := by simpa using fun q : y = x => e q.symm
    simp [Value.isStrOf, this, e]
theorem TbR.find {K : PySem.W.Frag} {A : Ad} {z : Str} : ∀ {es : List DictEntry} {kvs : List (Str × D)}, TbR K A es kvs →
    (∀ d, kvs.lookup z = some d → ∃ u v, (es.find? fun e => Value.isStrOf z e.key).map (·.val) = some u ∧ RelV v u ∧ KD K A d v) ∧ (kvs.lookup z = none → (es.find? fun e => Value.isStrOf z e.key).map (·.val) = none)
  | _, _, .nil => ⟨fun d h => by simp at h, fun _ => rfl⟩
  | _, _, .cons (e := e) (x := x) ⟨t, hk⟩ ⟨v, rv, kv⟩ r => by
    obtain ⟨i1, i2⟩ := TbR.find (z := z) r
    by_cases q : z = x
    · subst q
      have h1 : Value.isStrOf z e.key = true := by rw [hk, isStrOf_str]; simp
      refine ⟨fun d h => ?_, fun h => ?_⟩
      · simp only [List.lookup, beq_self_eq_true] at h
        cases h
        exact ⟨e.val, v, by simp only [List.find?_cons, h1, Option.map_some], rv, kv⟩
      · simp [List.lookup] at h
    · have h1 : Value.isStrOf z e.key = false := by rw [hk, isStrOf_str]; simpa using q
      have h2 : (z == x) = false := by simpa using q
      simp only [List.find?_cons, h1, List.lookup, h2]
      exact ⟨i1, i2⟩
theorem findBy_list (es : Array DictEntry) (z : Str) : findBy Value.isStrOf es z = (es.toList.find? fun e => Value.isStrOf z e.key).map (·.val) := by
  unfold findBy
  rw [← Array.find?_toList]
section
variable {X : Cx} {A : Ad}
theorem op_inTab : OpR X (compareOp .In) (fun x y H Q => ∃ z a kvs, x = .str z ∧ y = .ref a ∧ TabAt X.K X.w A a kvs ∧ Q (.bl (kvs.lookup z).isSome) H) := by
  intro pins s σ H x y v u Q I rx ry h
  obtain ⟨z, a, kvs, rfl, rfl, ⟨es, n, hl, hk, hs, r⟩, q⟩ := h
  obtain ⟨t, rfl⟩ := rx
  cases ry
  have hm := PySem.W.mapOf_K (prog := X.prog) (w := X.w) I.kIn hl hk
  refine wpAny_in_of (strKind_is X.prog X.w z t) hs hm ?_
  have e : (findBy Value.isStrOf es z).isSome = (kvs.lookup z).isSome := by
    rw [findBy_list]
    obtain ⟨i1, i2⟩ := r.find (z := z)
    cases ek : kvs.lookup z with
    | none => rw [i2 ek]; rfl
    | some d =>
      obtain ⟨u, v, h1, _⟩ := i1 d ek
      rw [h1]; rfl
  rw [e]
  exact ⟨.bl _, H, I.tok _, rfl, q⟩
theorem op_ninTab : OpR X (compareOp .NotIn) (fun x y H Q => ∃ z a kvs, x = .str z ∧ y = .ref a ∧ TabAt X.K X.w A a kvs ∧ Q (.bl (!(kvs.lookup z).isSome)) H) := by
  intro pins s σ H x y v u Q I rx ry h
  obtain ⟨z, a, kvs, rfl, rfl, ⟨es, n, hl, hk, hs, r⟩, q⟩ := h
  obtain ⟨t, rfl⟩ := rx
  cases ry
  have hm := PySem.W.mapOf_K (prog := X.prog) (w := X.w) I.kIn hl hk
  refine wpAny_notIn_of (strKind_is X.prog X.w z t) hs hm ?_
  have e : (findBy Value.isStrOf es z).isSome = (kvs.lookup z).isSome := by
    rw [findBy_list]
    obtain ⟨i1, i2⟩ := r.find (z := z)
    cases ek : kvs.lookup z with
    | none => rw [i2 ek]; rfl
    | some d =>
      obtain ⟨u, v, h1, _⟩ := i1 d ek
      rw [h1]; rfl
  rw [e]
  exact ⟨.bl _, H, I.tok _, rfl, q⟩
theorem ix_tab : IxR X (fun x y H Q => ∃ z a kvs d, x = .str z ∧ y = .str z ∧ TabAt X.K X.w A a kvs ∧ kvs.lookup z = some d ∧ False) := fun _ _ _ _ _ _ _ _ _ _ _ _ _ _ h => by
  obtain ⟨_, _, _, _, _, _, _, _, z⟩ := h
  exact z.elim
theorem ix_tabR : IxR X (fun x y H Q => ∃ z a kvs d, x = .ref a ∧ y = .str z ∧ TabAt X.K X.w A a kvs ∧ kvs.lookup z = some d ∧ ∀ v, KD X.K A d v → Q v H) := by
  intro value slice pins s σ H x y v u Q I rx ry h hs
  obtain ⟨z, a, kvs, d, rfl, rfl, ⟨es, n, hl, hk, _, r⟩, e, q⟩ := h
  obtain rfl : v = Value.ref a := rx
  obtain ⟨t, rfl⟩ := ry
  obtain ⟨i1, i2⟩ := r.find (z := z)
  obtain ⟨u0, v0, h1, rv, kv⟩ := i1 d e
  have hm := PySem.W.mapOf_K (prog := X.prog) (w := X.w) I.kIn hl hk
  exact tail_any hm.typeIs slot_dict_getitem.lookup (wpAny_getItem_of (strKind_is X.prog X.w z t) hm (by rw [findBy_list]; exact h1) ⟨v0, H, I.tok _, rv, q v0 kv⟩) hs

/-! ### data as the library's -/
mutual
theorem dp_of {K : PySem.W.Frag} {μ : Mu} {H : Hp} : ∀ {d : D} {v : V} {x : PyData}, DR K A μ H d v → pure? d = some x → Dp K H v x
  | _, _, x, .non, e => by simp [pure?] at e; subst e; exact .non
  | _, _, x, .bl b, e => by simp [pure?] at e; subst e; exact .bl b
  | _, _, x, .int i, e => by simp [pure?] at e; subst e; exact .int i
  | _, _, x, .str z, e => by simp [pure?] at e; subst e; exact .str z
  | _, _, x, .tup (ds := ds) h r, e => by
    unfold pure? at e
    cases q : pures? ds with
    | none => rw [q] at e; cases e
    | some xs =>
      rw [q] at e
      cases e
      exact .tup h.sq (dps_of r q)
  | _, _, x, .tl (ds := ds) h r, e => by
    unfold pure? at e
    cases q : pures? ds with
    | none => rw [q] at e; cases e
    | some xs =>
      rw [q] at e
      cases e
      exact .lst h.sq (dps_of r q)
  | _, _, x, .kl _ _, e => by simp [pure?] at e
  | _, _, x, .ref _, e => by simp [pure?] at e
  | _, _, x, .fn _, e => by simp [pure?] at e
  | _, _, x, .cls _, e => by simp [pure?] at e
  | _, _, x, .ty _, e => by simp [pure?] at e
  | _, _, x, .tab _, e => by simp [pure?] at e
theorem dps_of {K : PySem.W.Frag} {μ : Mu} {H : Hp} : ∀ {ds : List D} {vs : List V} {xs : List PyData}, DRs K A μ H ds vs → pures? ds = some xs → DpAll K H vs xs
  | _, _, _, .nil, e => by simp [pures?] at e; subst e; exact .nil
  | _, _, _, .cons (d := d) (ds := ds) h r, e => by
    unfold pures? at e
    cases q : pure? d with
    | none => rw [q] at e; cases e
    | some x =>
      cases q2 : pures? ds with
      | none => rw [q, q2] at e; cases e
      | some xs =>
        rw [q, q2] at e
        cases e
        exact .cons (dp_of h q) (dps_of r q2)
end
theorem data_of {K : PySem.W.Frag} {μ : Mu} {H : Hp} {S : Hs} {d : D} {v : V} {x : PyData} (R : HR K A μ S H) (h : DR K A μ H d v) (e : data? S d = some x) : Dp K H v x := by
  cases d with
  | ref n =>
    have e' : (match S[n]? with | some (.lst ds) => (match pures? ds with | some xs => some (.list xs) | none => none) | _ => none) = some x := e
    split at e'
    · rename_i ds hs
      split at e'
      · rename_i xs hp
        cases e'
        cases h with
        | ref q =>
          obtain ⟨ho, h1, h2⟩ := R.obj _ _ _ hs q
          cases h2 with
          | lst r => exact .lst (SqL.of h1) (dps_of r hp)
      · cases e'
    · cases e'
  | _ => exact dp_of h e
theorem flat_of {K : PySem.W.Frag} {μ : Mu} {H : Hp} {d : D} {v : V} (h : DR K A μ H d v) (f : flatD d = true) : flatV v = true := by
  cases h <;> simp [flatD] at f <;> rfl
theorem flats_of {K : PySem.W.Frag} {μ : Mu} {H : Hp} : ∀ {ds : List D} {vs : List V}, DRs K A μ H ds vs → ds.all flatD = true → vs.all flatV = true
  | _, _, .nil, _ => rfl
  | _, _, .cons h r, f => by
    rw [List.all_cons, Bool.and_eq_true] at f
    rw [List.all_cons, flat_of h f.1, flats_of r f.2]
    rfl
theorem eqF_of {K : PySem.W.Frag} {μ : Mu} {H : Hp} {d e : D} {v u : V} (h : DR K A μ H d v) (q : DR K A μ H e u) (f : flatD d = true) (g : flatD e = true) : eqV v u = eqF d e := by
  cases h <;> cases q <;> simp [flatD] at f g <;> rfl
theorem inV_of {K : PySem.W.Frag} {μ : Mu} {H : Hp} {e : D} {u : V} (q : DR K A μ H e u) (g : flatD e = true) : ∀ {ds : List D} {vs : List V}, DRs K A μ H ds vs → ds.all flatD = true → inV u vs = ds.any fun d => eqF d e
  | _, _, .nil, _ => rfl
  | _, _, .cons h r, f => by
    rw [List.all_cons, Bool.and_eq_true] at f
    have ih := inV_of q g r f.2
    unfold inV at ih ⊢
    rw [List.any_cons, List.any_cons, eqF_of h q f.1 g, ih]

/-- a comparison's answer -/
def r2b (K : PySem.W.Frag) (A : Ad) (f : Hs → D → D → Option Bool) : R2 := fun x y H Q => ∃ (μ : Mu) (S : Hs) (dx dy : D) (b : Bool), DR K A μ H dx x ∧ DR K A μ H dy y ∧ HR K A μ S H ∧ f S dx dy = some b ∧ Q (.bl b) H
theorem opR_in (T : Tb) (TT : Tabs T A X.K X.w) : OpR X (compareOp .In) (r2b X.K A fun S => inD T.tabs S) := by
  refine OpR.of fun x y H Q hq => ?_
  obtain ⟨μ, S, dx, dy, b, rx, ry, R, e, q⟩ := hq
  replace e : inD T.tabs S dx dy = some b := e
  unfold inD at e
  split at e
  · split at e
    · rename_i z kvs hk
      cases e; cases rx
      cases ry with
      | tab h => exact ⟨_, op_inTab (A := A), z, _, kvs, rfl, rfl, TT _ _ _ hk h, q⟩
    · cases e
  · split at e
    · cases e; cases rx; cases ry
      exact ⟨_, op_in_str, _, _, rfl, rfl, q⟩
    · cases e
  · split at e
    · rename_i ds hd
      split at e
      · rename_i hf
        rw [Bool.and_eq_true] at hf
        cases e
        obtain ⟨a, vs, rfl, h1, h2⟩ := seq_sq R ry hd
        refine ⟨_, op_in_seq, a, vs, rfl, h1, flat_of rx hf.1, flats_of h2 hf.2, ?_⟩
        rw [inV_of rx hf.1 h2 hf.2]
        exact q
      · cases e
    · cases e
theorem opR_nin (T : Tb) (TT : Tabs T A X.K X.w) : OpR X (compareOp .NotIn) (r2b X.K A fun S x y => (inD T.tabs S x y).map (!·)) := by
  refine OpR.of fun x y H Q hq => ?_
  obtain ⟨μ, S, dx, dy, b0, rx, ry, R, e, q⟩ := hq
  replace e : (inD T.tabs S dx dy).map (!·) = some b0 := e
  cases e1 : inD T.tabs S dx dy with
  | none => rw [e1] at e; cases e
  | some b =>
    rw [e1] at e
    cases e
    replace e := e1
    clear e1
    unfold inD at e
    split at e
    · split at e
      · rename_i z kvs hk
        cases e; cases rx
        cases ry with
        | tab h => exact ⟨_, op_ninTab (A := A), z, _, kvs, rfl, rfl, TT _ _ _ hk h, q⟩
      · cases e
    · split at e
      · cases e; cases rx; cases ry
        exact ⟨_, op_notin_str, _, _, rfl, rfl, q⟩
      · cases e
    · split at e
      · rename_i ds hd
        split at e
        · rename_i hf
          rw [Bool.and_eq_true] at hf
          cases e
          obtain ⟨a, vs, rfl, h1, h2⟩ := seq_sq R ry hd
          refine ⟨_, op_notIn_seq, a, vs, rfl, h1, flat_of rx hf.1, flats_of h2 hf.2, ?_⟩
          rw [inV_of rx hf.1 h2 hf.2]
          exact q
        · cases e
      · cases e
theorem eqD_inv {S : Hs} {x y : D} {b : Bool} (e : eqD S x y = some b) : ∃ p q, data? S x = some p ∧ data? S y = some q ∧ SeqAt.shaped p = true ∧ SeqAt.shaped q = true ∧ b = PyData.eqv p q := by
  unfold eqD at e
  split at e
  · split at e
    · rename_i p q h1 h2 hs
      rw [Bool.and_eq_true] at hs
      cases e
      exact ⟨p, q, h1, h2, hs.1, hs.2, rfl⟩
    · cases e
  · cases e
theorem opR_cmp (T : Tb) (TT : Tabs T A X.K X.w) (hu : X.A.units + 64 < cLine) (op : COp) : OpR X (compareOp (pyCmp op)) (r2b X.K A fun S => cmpop T.tabs S op) := by
  cases op with
  | isin => exact opR_in T TT
  | notin => exact opR_nin T TT
  | eq =>
    refine OpR.of fun x y H Q hq => ?_
    obtain ⟨μ, S, dx, dy, b, rx, ry, R, e, q⟩ := hq
    obtain ⟨p1, p2, h1, h2, h3, h4, rfl⟩ := eqD_inv (show eqD S dx dy = some b from e)
    exact ⟨_, op_eqD hu, p1, p2, data_of R rx h1, data_of R ry h2, h3, h4, q⟩
  | ne =>
    refine OpR.of fun x y H Q hq => ?_
    obtain ⟨μ, S, dx, dy, b0, rx, ry, R, e, q⟩ := hq
    replace e : (eqD S dx dy).map (!·) = some b0 := e
    cases e1 : eqD S dx dy with
    | none => rw [e1] at e; cases e
    | some b =>
      rw [e1] at e
      cases e
      obtain ⟨p1, p2, h1, h2, h3, h4, rfl⟩ := eqD_inv e1
      exact ⟨_, op_neD hu, p1, p2, data_of R rx h1, data_of R ry h2, h3, h4, q⟩
  | lt =>
    refine OpR.of fun x y H Q hq => ?_
    obtain ⟨μ, S, dx, dy, b, rx, ry, R, e, q⟩ := hq
    replace e : cmpop T.tabs S .lt dx dy = some b := e
    cases dx <;> cases dy <;> simp only [cmpop, Option.some.injEq, reduceCtorEq] at e
    · subst e; cases rx; cases ry
      exact ⟨_, op_lt, _, _, rfl, rfl, q⟩
    · subst e; cases rx; cases ry
      exact ⟨_, op_lt_str, _, _, rfl, rfl, q⟩
  | le =>
    refine OpR.of fun x y H Q hq => ?_
    obtain ⟨μ, S, dx, dy, b, rx, ry, R, e, q⟩ := hq
    replace e : cmpop T.tabs S .le dx dy = some b := e
    cases dx <;> cases dy <;> simp only [cmpop, Option.some.injEq, reduceCtorEq] at e
    subst e; cases rx; cases ry
    exact ⟨_, op_le, _, _, rfl, rfl, q⟩
  | gt =>
    refine OpR.of fun x y H Q hq => ?_
    obtain ⟨μ, S, dx, dy, b, rx, ry, R, e, q⟩ := hq
    replace e : cmpop T.tabs S .gt dx dy = some b := e
    cases dx <;> cases dy <;> simp only [cmpop, Option.some.injEq, reduceCtorEq] at e
    subst e; cases rx; cases ry
    exact ⟨_, op_gt, _, _, rfl, rfl, q⟩
  | ge =>
    refine OpR.of fun x y H Q hq => ?_
    obtain ⟨μ, S, dx, dy, b, rx, ry, R, e, q⟩ := hq
    replace e : cmpop T.tabs S .ge dx dy = some b := e
    cases dx <;> cases dy <;> simp only [cmpop, Option.some.injEq, reduceCtorEq] at e
    subst e; cases rx; cases ry
    exact ⟨_, op_ge, _, _, rfl, rfl, q⟩

/-! ### truth -/
theorem isEmpty_drs {K : PySem.W.Frag} {μ : Mu} {H : Hp} {ds : List D} {vs : List V} (r : DRs K A μ H ds vs) : vs.isEmpty = ds.isEmpty := by cases r <;> rfl
theorem tru_of : TruR X (fun x H Q => ∃ (μ : Mu) (S : Hs) (d : D) (b : Bool), DR X.K A μ H d x ∧ HR X.K A μ S H ∧ truth S d = some b ∧ Q b H) := by
  intro pins s σ H x v Q I rx h
  obtain ⟨μ, S, d, b, rd, R, e, q⟩ := h
  refine tru_ok pins s σ H x v Q I rx ⟨b, ?_, q⟩
  cases d with
  | ref n =>
    have e' : (match S[n]? with | some (.lst ds) => some (!ds.isEmpty) | _ => none) = some b := e
    split at e'
    · rename_i ds hs
      cases e'
      cases rd with
      | ref h =>
        obtain ⟨ho, h1, h2⟩ := R.obj _ _ _ hs h
        cases h2 with
        | lst r => exact .inl ⟨_, SqL.of h1, by rw [isEmpty_drs r]⟩
    · cases e'
  | tup ds =>
    cases rd with
    | tup h r =>
      have e' : some (!ds.isEmpty) = some b := e
      cases e'
      exact .inr (.inl ⟨_, h.sq, by rw [isEmpty_drs r]⟩)
  | tl ds =>
    cases rd with
    | tl h r =>
      have e' : some (!ds.isEmpty) = some b := e
      cases e'
      exact .inl ⟨_, h.sq, by rw [isEmpty_drs r]⟩
  | str z =>
    cases rd
    have e' : (if z.length ≤ sizeLine then some (z.length != 0) else none) = some b := e
    split at e'
    · rename_i hz
      cases e'
      refine ⟨hz, ?_⟩
      by_cases h0 : z.length = 0
      · rw [h0]; rfl
      · have h1 : ¬ (z.length : Int) = 0 := by omega
        rw [bne_iff_ne.mpr h0, bne_iff_ne.mpr h1]
    · cases e'
  | non => cases rd; simp [truth] at e; exact e
  | bl b => cases rd; simp [truth] at e; exact e.symm
  | int i => cases rd; simp only [truth, Option.some.injEq] at e; exact e.symm
  | kl _ => cases e
  | fn _ => cases e
  | cls _ => cases e
  | ty _ => cases e
  | tab _ => cases e
end
end CN
set_option Elab.async false
set_option linter.all false
set_option maxRecDepth 100000
set_option maxHeartbeats 2000000
/-! CnOps3: subscripts, slices, built-in functions and methods. -/
namespace CN
open PySem PyProof.Rows L2

section
variable {X : Cx} {A : Ad}
theorem IxR.of {r : R2} (h : ∀ x y H Q, r x y H Q → ∃ r', IxR X r' ∧ r' x y H Q) : IxR X r := fun value slice pins s σ H x y v u Q I rx ry q hs => by
  obtain ⟨r', h1, h2⟩ := h x y H Q q
  exact h1 value slice pins s σ H x y v u Q I rx ry h2 hs
theorem SlR.of {r : V → Option Int → Option Int → Hp → VK → Prop} (h : ∀ x lo hi H Q, r x lo hi H Q → ∃ r', SlR X r' ∧ r' x lo hi H Q) : SlR X r := fun pins s σ H x v vl vu lo hi sl Q I rx hs pl pu q => by
  obtain ⟨r', h1, h2⟩ := h x lo hi H Q q
  exact h1 pins s σ H x v vl vu lo hi sl Q I rx hs pl pu h2
theorem CallR.of {f : Value} {r : List V → Hp → VK → Prop} (h : ∀ xs H Q, r xs H Q → ∃ r', CallR X f r' ∧ r' xs H Q) : CallR X f r := fun pins s σ H xs us Q I rs q => by
  obtain ⟨r', h1, h2⟩ := h xs H Q q
  exact h1 pins s σ H xs us Q I rs h2
theorem MtR.of {id : String} {r : V → List V → Hp → VK → Prop} (h : ∀ x xs H Q, r x xs H Q → ∃ r', MtR X id r' ∧ r' x xs H Q) : MtR X id r := fun pins s σ H x xs v us Q I rx rs q => by
  obtain ⟨r', h1, h2⟩ := h x xs H Q q
  exact h1 pins s σ H x xs v us Q I rx rs h2

theorem ixR (T : Tb) (TT : Tabs T A X.K X.w) : IxR X (r2 X.K A fun S => idxop T.tabs S) := by
  refine IxR.of fun x y H Q hq => ?_
  obtain ⟨μ, S, dx, dy, d, rx, ry, R, e, q⟩ := hq
  replace e : idxop T.tabs S dx dy = some d := e
  unfold idxop at e
  split at e
  · split at e
    · rename_i kvs hk
      cases ry
      cases rx with
      | tab h => exact ⟨_, ix_tabR (A := A), _, _, kvs, d, rfl, rfl, TT _ _ _ hk h, e, fun v kv => q v μ H (kv μ H) R (Mo.refl _ _)⟩
    · cases e
  · split at e
    · rename_i z i hz
      cases rx; cases ry
      cases e1 : L2.atI z.cps.toList i with
      | none => rw [e1] at e; cases e
      | some c =>
        rw [e1] at e
        cases e
        exact ⟨_, ix_str, z, i, c, rfl, rfl, hz, e1, q _ μ H (.str _) R (Mo.refl _ _)⟩
    · cases e
  · split at e
    · rename_i hs
      cases ry
      cases rx with
      | ref h =>
        obtain ⟨ho, h1, h2⟩ := R.obj _ _ _ hs h
        cases h2 with
        | lst r =>
          obtain ⟨v, e1, r1⟩ := r.atI e
          exact ⟨_, ix_list, _, _, _, v, rfl, rfl, SqL.of h1, e1, q v μ H r1 R (Mo.refl _ _)⟩
    · cases e
  · cases ry
    cases rx with
    | tup h r =>
      obtain ⟨v, e1, r1⟩ := r.atI e
      exact ⟨_, ix_tup, _, _, _, v, rfl, rfl, h.sq, e1, q v μ H r1 R (Mo.refl _ _)⟩
  · cases ry
    cases rx with
    | tl h r =>
      obtain ⟨v, e1, r1⟩ := r.atI e
      exact ⟨_, ix_list, _, _, _, v, rfl, rfl, h.sq, e1, q v μ H r1 R (Mo.refl _ _)⟩
  · cases e

/-- a slice -/
def rS (K : PySem.W.Frag) (A : Ad) : V → Option Int → Option Int → Hp → VK → Prop := fun x lo hi H Q => ∃ (μ : Mu) (S : Hs) (dx d : D), DR K A μ H dx x ∧ HR K A μ S H ∧ slop S dx lo hi = some d ∧
  ∀ v μ' H', DR K A μ' H' d v → HR K A μ' S H' → Mo μ H μ' H' → Q v H'
theorem cut_all {α : Type} {xs : List α} {lo hi : Option Int} (h : HT.sIx xs.length 0 lo = 0 ∧ HT.sIx xs.length xs.length hi = xs.length) : cut xs lo hi = xs := by
  unfold cut
  rw [h.1, h.2]
  simp
theorem slR : SlR X (rS X.K A) := by
  refine SlR.of fun x lo hi H Q hq => ?_
  obtain ⟨μ, S, dx, d, rx, R, e, q⟩ := hq
  unfold slop at e
  split at e
  · rename_i ds
    cases e
    cases rx with
    | @tup _ p vs h r =>
      refine ⟨_, sl_tupA, p, vs, rfl, h.sq, fun hw => ?_, fun hw p2 hp => ?_⟩
      · rw [r.length] at hw
        exact q _ μ H (by rw [cut_all hw]; exact .tup h r) R (Mo.refl _ _)
      · obtain ⟨z1, z2, z3⟩ := new_tup R (r.cut lo hi) hp
        exact q _ _ _ z1 z2 z3
  · split at e
    · rename_i z hz
      cases e; cases rx
      exact ⟨_, sl_str, z, rfl, hz, q _ μ H (.str _) R (Mo.refl _ _)⟩
    · cases e
  · split at e
    · rename_i ds hd
      cases e
      obtain ⟨a, vs, rfl, h1, r⟩ := lst_sq R rx hd
      refine ⟨_, sl_list, a, vs, rfl, .inl h1, fun p2 hp => ?_⟩
      obtain ⟨z1, z2, z3⟩ := new_tl R (r.cut lo hi) hp
      exact q _ _ _ z1 z2 z3
    · cases e

/-! ### built-in functions -/
def rC (K : PySem.W.Frag) (A : Ad) (b : Bi) : List V → Hp → VK → Prop := fun xs H Q => ∃ (μ : Mu) (S : Hs) (ds : List D) (d : D), DRs K A μ H ds xs ∧ HR K A μ S H ∧ bifun S b ds = some d ∧
  ∀ v μ' H', DR K A μ' H' d v → HR K A μ' S H' → Mo μ H μ' H' → Q v H'
theorem one_inv {K : PySem.W.Frag} {μ : Mu} {H : Hp} {d : D} {xs : List V} (h : DRs K A μ H [d] xs) : ∃ v, xs = [v] ∧ DR K A μ H d v := by
  cases h with
  | cons h r =>
    cases r
    exact ⟨_, rfl, h⟩
theorem bools_of {K : PySem.W.Frag} {μ : Mu} {H : Hp} : ∀ {ds : List D} {vs : List V} {bs : List Bool}, DRs K A μ H ds vs → bools? ds = some bs → vs = bs.map V.bl
  | _, _, bs, .nil, e => by simp [bools?] at e; subst e; rfl
  | _, _, bs, .cons (d := d) (ds := ds) h r, e => by
    cases d with
    | bl b =>
      have e' : (bools? ds).map (b :: ·) = some bs := e
      cases q : bools? ds with
      | none => rw [q] at e'; cases e'
      | some cs =>
        rw [q] at e'
        cases e'
        cases h
        rw [bools_of r q]
        rfl
    | _ => cases e
theorem ints_of {K : PySem.W.Frag} {μ : Mu} {H : Hp} : ∀ {ds : List D} {vs : List V} {bs : List Int}, DRs K A μ H ds vs → ints? ds = some bs → vs = bs.map V.int
  | _, _, bs, .nil, e => by simp [ints?] at e; subst e; rfl
  | _, _, bs, .cons (d := d) (ds := ds) h r, e => by
    cases d with
    | int b =>
      have e' : (ints? ds).map (b :: ·) = some bs := e
      cases q : ints? ds with
      | none => rw [q] at e'; cases e'
      | some cs =>
        rw [q] at e'
        cases e'
        cases h
        rw [ints_of r q]
        rfl
    | _ => cases e
theorem cR_len : CallR X (.builtin "len") (rC X.K A .len) := by
  refine CallR.of fun xs H Q hq => ?_
  obtain ⟨μ, S, ds, d, rs, R, e, q⟩ := hq
  unfold bifun at e
  split at e <;> try contradiction
  · split at e
    · rename_i z hz
      cases e
      obtain ⟨v, rfl, r⟩ := one_inv rs
      cases r
      exact ⟨_, call_len, _, _, rfl, ⟨hz, rfl⟩, q _ μ H (.int _) R (Mo.refl _ _)⟩
    · cases e
  · rename_i d0 _ _
    obtain ⟨v, rfl, r⟩ := one_inv rs
    cases e1 : seqAt S d0 with
    | none => rw [e1] at e; cases e
    | some es =>
      rw [e1] at e
      cases e
      obtain ⟨a, vs, rfl, h1, h2⟩ := seq_sq R r e1
      refine ⟨_, call_len, .ref a, es.length, rfl, ?_, q _ μ H (.int _) R (Mo.refl _ _)⟩
      rcases h1 with h1 | h1
      · exact .inl ⟨vs, h1, h2.length.symm⟩
      · exact .inr ⟨vs, h1, h2.length.symm⟩
  all_goals cases e
theorem tyx_of {K : PySem.W.Frag} {μ : Mu} {H : Hp} {S : Hs} {d : D} {v : V} {ty : String} (R : HR K A μ S H) (h : DR K A μ H d v) (e : tyName S d = some ty) : TyX K H v (.type ty) := by
  cases d with
  | non => cases e; cases h; exact .base .non
  | bl b => cases e; cases h; exact .base (.bl _)
  | int b => cases e; cases h; exact .base (.int _)
  | str b => cases e; cases h; exact .base (.str _)
  | tup ds =>
    cases e
    cases h with
    | tup h r =>
      rcases h with ⟨h | ⟨o, h⟩, _⟩ | ⟨o, its, n, h1, h2, _⟩
      · exact .base (.tup h)
      · exact .fTuple h
      · exact .kTuple h1 h2
  | tl ds =>
    cases e
    cases h with
    | tl h r =>
      rcases h with ⟨h | ⟨o, h⟩, _⟩
      · exact .base (.lst h)
      · exact .base (.frz h)
  | ref n =>
    have e' : (match S[n]? with | some (.lst _) => some "list" | some (.dct _) => some "dict" | _ => none) = some ty := e
    cases h with
    | ref q =>
      split at e'
      · rename_i ds hs
        cases e'
        obtain ⟨ho, h1, h2⟩ := R.obj _ _ _ hs q
        cases h2
        exact .base (.lst h1)
      · rename_i ds hs
        cases e'
        obtain ⟨ho, h1, h2⟩ := R.obj _ _ _ hs q
        cases h2
        exact .base (.dK h1)
      · cases e'
  | kl _ => cases e
  | fn _ => cases e
  | cls _ => cases e
  | ty _ => cases e
  | tab _ => cases e
theorem tyName_ty {S : Hs} {d : D} {ty : String} (e : tyName S d = some ty) : ty ∈ ["NoneType", "bool", "int", "str", "tuple", "list", "dict"] := by
  unfold tyName at e
  split at e
  any_goals (cases e; decide)
  · split at e
    · cases e; decide
    · cases e; decide
    · cases e
  · cases e
theorem isi_kit {ty cl : String} {b : Bool} (ht : ty ∈ ["NoneType", "bool", "int", "str", "tuple", "list", "dict"]) (hc : cl ∈ ["int", "bool", "str", "tuple", "list"]) (e : isi ty cl = some b) : kitB ty cl = some b := by
  have h : ∀ t ∈ ["NoneType", "bool", "int", "str", "tuple", "list", "dict"], ∀ c ∈ ["int", "bool", "str", "tuple", "list"], isi t c = kitB t c := by decide +kernel
  rw [← h ty ht cl hc]
  exact e
theorem cR_isi (cl : String) (hc : cl ∈ ["int", "bool", "str", "tuple", "list"]) : CallR X (.builtin "isinstance") (fun xs H Q => ∃ x ys, xs = [x, .ty cl] ∧ ys = [x] ∧ rC X.K A (.isinst cl) ys H Q) := by
  refine CallR.of fun xs H Q hq => ?_
  obtain ⟨x, ys, rfl, rfl, μ, S, ds, d, rs, R, e, q⟩ := hq
  unfold bifun at e
  split at e <;> try contradiction
  · rename_i cl' d0 heq
    cases heq
    obtain ⟨v, e0, r⟩ := one_inv rs
    cases e0
    split at e
    · rename_i ty hty
      cases e2 : isi ty cl with
      | none => rw [e2] at e; cases e
      | some b =>
        rw [e2] at e
        cases e
        exact ⟨_, call_isi, x, .ty cl, .type ty, .type cl, b, rfl, .ty _, tyx_of R r hty, kit_ty (isi_kit (tyName_ty hty) hc e2), q _ μ H (.bl _) R (Mo.refl _ _)⟩
    · cases e
  all_goals cases e
theorem cR_int : CallR X (.type "int") (rC X.K A .int) := by
  refine CallR.of fun xs H Q hq => ?_
  obtain ⟨μ, S, ds, d, rs, R, e, q⟩ := hq
  unfold bifun at e
  split at e <;> try contradiction
  · cases e
    obtain ⟨v, rfl, r⟩ := one_inv rs
    cases r
    exact ⟨_, call_int1, .inl ⟨_, rfl, q _ μ H (.int _) R (Mo.refl _ _)⟩⟩
  · cases e
    obtain ⟨v, rfl, r⟩ := one_inv rs
    cases r
    exact ⟨_, call_int1, .inr ⟨_, rfl, q _ μ H (.int _) R (Mo.refl _ _)⟩⟩
  all_goals cases e
theorem cR_tuple : CallR X (.type "tuple") (rC X.K A .tuple) := by
  refine CallR.of fun xs H Q hq => ?_
  obtain ⟨μ, S, ds, d, rs, R, e, q⟩ := hq
  unfold bifun at e
  split at e <;> try contradiction
  · cases e
    obtain ⟨v, rfl, r⟩ := one_inv rs
    cases r with
    | tup h r => exact ⟨_, call_tuple_of, _, _, rfl, .inr ⟨h.sq, q _ μ H (.tup h r) R (Mo.refl _ _)⟩⟩
  · rename_i d0 _ _
    obtain ⟨v, rfl, r⟩ := one_inv rs
    cases e1 : lstAt S d0 with
    | none => rw [e1] at e; cases e
    | some es =>
      rw [e1] at e
      cases e
      obtain ⟨a, vs, rfl, h1, h2⟩ := lst_sq R r e1
      refine ⟨_, call_tuple_of, a, vs, rfl, .inl ⟨.inl h1, fun p hp => ?_⟩⟩
      obtain ⟨z1, z2, z3⟩ := new_tup R h2 hp
      exact q _ _ _ z1 z2 z3
  all_goals cases e
theorem cR_list : CallR X (.type "list") (rC X.K A .list) := by
  refine CallR.of fun xs H Q hq => ?_
  obtain ⟨μ, S, ds, d, rs, R, e, q⟩ := hq
  unfold bifun at e
  split at e <;> try contradiction
  · rename_i d0 _
    obtain ⟨v, rfl, r⟩ := one_inv rs
    cases e1 : seqAt S d0 with
    | none => rw [e1] at e; cases e
    | some es =>
      rw [e1] at e
      cases e
      obtain ⟨a, vs, rfl, h1, h2⟩ := seq_sq R r e1
      refine ⟨_, call_list_of, a, vs, rfl, h1, fun p hp => ?_⟩
      obtain ⟨z1, z2, z3⟩ := new_tl R h2 hp
      exact q _ _ _ z1 z2 z3
  all_goals cases e
theorem cR_all (hc : X.calm = true) : CallR X (.builtin "all") (rC X.K A .all) := by
  refine CallR.of fun xs H Q hq => ?_
  obtain ⟨μ, S, ds, d, rs, R, e, q⟩ := hq
  unfold bifun at e
  split at e <;> try contradiction
  · obtain ⟨v, rfl, r⟩ := one_inv rs
    split at e
    · rename_i es e1
      cases e2 : bools? es with
      | none => rw [e2] at e; cases e
      | some bs =>
        rw [e2] at e
        cases e
        obtain ⟨a, vs, rfl, h1, h2⟩ := lst_sq R r e1
        exact ⟨_, L2.cr_all hc, a, bs, rfl, .inl (by rw [← bools_of h2 e2]; exact h1), q _ μ H (.bl _) R (Mo.refl _ _)⟩
    · cases e
  all_goals cases e
theorem cR_any (hc : X.calm = true) : CallR X (.builtin "any") (rC X.K A .any) := by
  refine CallR.of fun xs H Q hq => ?_
  obtain ⟨μ, S, ds, d, rs, R, e, q⟩ := hq
  unfold bifun at e
  split at e <;> try contradiction
  · obtain ⟨v, rfl, r⟩ := one_inv rs
    split at e
    · rename_i es e1
      cases e2 : bools? es with
      | none => rw [e2] at e; cases e
      | some bs =>
        rw [e2] at e
        cases e
        obtain ⟨a, vs, rfl, h1, h2⟩ := lst_sq R r e1
        exact ⟨_, L2.cr_any hc, a, bs, rfl, .inl (by rw [← bools_of h2 e2]; exact h1), q _ μ H (.bl _) R (Mo.refl _ _)⟩
    · cases e
  all_goals cases e
theorem cR_sum (hc : X.calm = true) : CallR X (.builtin "sum") (rC X.K A .sum) := by
  refine CallR.of fun xs H Q hq => ?_
  obtain ⟨μ, S, ds, d, rs, R, e, q⟩ := hq
  unfold bifun at e
  split at e <;> try contradiction
  · obtain ⟨v, rfl, r⟩ := one_inv rs
    split at e
    · rename_i es e1
      cases e2 : ints? es with
      | none => rw [e2] at e; cases e
      | some bs =>
        rw [e2] at e
        cases e
        obtain ⟨a, vs, rfl, h1, h2⟩ := lst_sq R r e1
        exact ⟨_, L2.cr_sum hc, a, bs, rfl, .inl (by rw [← ints_of h2 e2]; exact h1), q _ μ H (.int _) R (Mo.refl _ _)⟩
    · cases e
  all_goals cases e
theorem two_inv {K : PySem.W.Frag} {μ : Mu} {H : Hp} {d e : D} {xs : List V} (h : DRs K A μ H [d, e] xs) : ∃ v u, xs = [v, u] ∧ DR K A μ H d v ∧ DR K A μ H e u := by
  cases h with
  | cons h r =>
    obtain ⟨u, rfl, q⟩ := one_inv r
    exact ⟨_, _, rfl, h, q⟩
theorem cR_max2 (hc : X.calm = true) : CallR X (.builtin "max") (rC X.K A .max2) := by
  refine CallR.of fun xs H Q hq => ?_
  obtain ⟨μ, S, ds, d, rs, R, e, q⟩ := hq
  unfold bifun at e
  split at e <;> try contradiction
  · cases e
    obtain ⟨v, u, rfl, r1, r2⟩ := two_inv rs
    cases r1; cases r2
    exact ⟨_, call_max2 hc, _, _, rfl, q _ μ H (.int _) R (Mo.refl _ _)⟩
  all_goals cases e
theorem cR_min2 (hc : X.calm = true) : CallR X (.builtin "min") (rC X.K A .min2) := by
  refine CallR.of fun xs H Q hq => ?_
  obtain ⟨μ, S, ds, d, rs, R, e, q⟩ := hq
  unfold bifun at e
  split at e <;> try contradiction
  · cases e
    obtain ⟨v, u, rfl, r1, r2⟩ := two_inv rs
    cases r1; cases r2
    exact ⟨_, call_min2 hc, _, _, rfl, q _ μ H (.int _) R (Mo.refl _ _)⟩
  all_goals cases e
theorem cR_abs : CallR X (.builtin "abs") (rC X.K A .abs) := by
  refine CallR.of fun xs H Q hq => ?_
  obtain ⟨μ, S, ds, d, rs, R, e, q⟩ := hq
  unfold bifun at e
  split at e <;> try contradiction
  · cases e
    obtain ⟨v, rfl, r1⟩ := one_inv rs
    cases r1
    exact ⟨_, call_abs, _, rfl, q _ μ H (.int _) R (Mo.refl _ _)⟩
  all_goals cases e
end
end CN
set_option Elab.async false
set_option linter.all false
set_option maxRecDepth 100000
set_option maxHeartbeats 2000000
/-! CnOps4: methods of built-in objects. -/
namespace CN
open PySem PyProof.Rows L2

theorem list_extend_tup (l : Addr) (items : Array Value) (n : Nat) (b : Addr) (items2 : Array Value) (n2 : Nat) (dd : Option Addr) (sl : Array (Option Value)) (hs0 : ¬(!items.isEmpty && Builtin.List.listTooLong (items.size + items2.size)) = true) (hs1 : items.size ≤ sizeLine) (hs2 : items.size + items2.size ≤ sizeLine + 1) :
    Meets (Builtin.«list.extend» ⟨[.ref l, .ref b], []⟩) (fun _ R s => s.heap.get? l = some { cls := .type "list", dict := none, data := .seq items n, slots := #[] } ∧ s.heap.get? b = some { cls := .type "tuple", dict := dd, data := .seq items2 n2, slots := sl } ∧ R (.ok (.ret Value.none)) { s with heap := s.heap.update l (Obj.mapSeq fun x => x ++ items2), toks := s.toks }) :=
  .of_wp fun prog w A R s h => by
    obtain ⟨hp, g, d, tk, os⟩ := s; obtain ⟨hl, hb, h⟩ := h; have f1 := AutoSeq1.idx_int; have f2 := AutoSeq1.sub_tuple_tuple; have f3 := AutoSeq1.sub_list_list; have f4 := AutoSeq1.sub_tuple_list; have f5 := AutoSeq1.sub_list_tuple;
    have hz' : (items ++ items2).size ≤ sizeLine + 1 := by rw [Array.size_append]; exact hs2
    wp_walk using (wpAny_updateSeq hl rfl (hz := hs1) (_hz' := hz')), wpAny_loadPart' hl, wpAny_loadPart' hb; exact ⟨_, rfl, h⟩

section
variable {X : Cx} {A : Ad}
theorem seq_rd {K : PySem.W.Frag} {μ : Mu} {H : Hp} {S : Hs} {d : D} {ds : List D} {v : V} (R : HR K A μ S H) (h : DR K A μ H d v) (e : seqAt0 S d = some ds) : ∃ a vs, v = .ref a ∧ (Rd H a (.lst vs) ∨ SqT K H a vs) ∧ DRs K A μ H ds vs := by
  cases d with
  | tup es =>
    cases e
    cases h with
    | tup q r => exact ⟨_, _, rfl, .inr q.sq, r⟩
  | _ =>
    obtain ⟨a, vs, h1, h2, h3⟩ := lst_sq R h e
    exact ⟨a, vs, h1, .inl h2, h3⟩
theorem mt_extendT : MtR X "list.extend" (fun x vs H Q => ∃ l b xs zs, x = .ref l ∧ vs = [.ref b] ∧ H l = some (.lst xs) ∧ SqT X.K H b zs ∧ xs.length + zs.length ≤ sizeLine ∧ Q .non (upd H l (.lst (xs ++ zs)))) := by
  intro pins s σ H x vs v us Q I rx rv h
  obtain ⟨l, b, xs, zs, rfl, rfl, hH, hB, hz, q⟩ := h
  cases rx
  obtain ⟨u, rfl, ru⟩ := vals1 rv
  cases ru
  obtain ⟨z, its, n, r, hl, e⟩ := I.lstM hH
  obtain ⟨its2, r2, ⟨⟨cls, dd, data, sl⟩, ho, hc, n2, hd⟩, hs⟩ := I.tuple hB
  simp only at hc hd
  subst hc hd
  have hl2 := r2.length
  have hsz : its.toArray.size + its2.toArray.size ≤ sizeLine := by rw [List.size_toArray, List.size_toArray]; omega
  have hlong : ¬ (!its.toArray.isEmpty && Builtin.List.listTooLong (its.toArray.size + its2.toArray.size)) = true := by
    rw [notLongL hsz, Bool.and_false]
    exact Bool.false_ne_true
  refine call_meets F.slot_list_extend ⟨_, e, rfl⟩ F.entry_list_extend (F.args_list_extend_2 _ _)
    (list_extend_tup l its.toArray n b its2.toArray n2 dd sl hlong (by rw [List.size_toArray]; omega) (by omega)) ⟨e, ho, ?_⟩
  refine ⟨.non, _, I.lset (its' := its ++ its2) hH e (by simp) (r.append r2) ?_, rfl, q⟩
  rw [List.length_append]
  omega
theorem mt_extendR : MtR X "list.extend" (fun x vs H Q => ∃ l b xs zs, x = .ref l ∧ vs = [.ref b] ∧ H l = some (.lst xs) ∧ Rd H b (.lst zs) ∧ xs.length + zs.length ≤ sizeLine ∧ Q .non (upd H l (.lst (xs ++ zs)))) := by
  intro pins s σ H x vs v us Q I rx rv h
  obtain ⟨l, b, xs, zs, rfl, rfl, hH, hB, hz, q⟩ := h
  cases rx
  obtain ⟨u, rfl, ru⟩ := vals1 rv
  cases ru
  obtain ⟨z, its, n, r, hl, e⟩ := I.lstM hH
  obtain ⟨z2, its2, n2, r2, hl2, e2⟩ := rdL I hB
  have hsz : its.toArray.size + its2.toArray.size ≤ sizeLine := by rw [List.size_toArray, List.size_toArray]; omega
  have hlong : ¬ (!its.toArray.isEmpty && Builtin.List.listTooLong (its.toArray.size + its2.toArray.size)) = true := by
    rw [notLongL hsz, Bool.and_false]
    exact Bool.false_ne_true
  refine call_meets F.slot_list_extend ⟨_, e, rfl⟩ F.entry_list_extend (F.args_list_extend_2 _ _)
    (AutoSeq1.list_extend_list_list_0 l its.toArray n b its2.toArray n2 hlong (by rw [List.size_toArray]; omega) (by omega)) ⟨e, e2, ?_⟩
  refine ⟨.non, _, I.lset (its' := its ++ its2) hH e (by simp) (r.append r2) ?_, rfl, q⟩
  rw [List.length_append]
  omega
/-- a method's answer -/
def rM (K : PySem.W.Frag) (A : Ad) (m : Bm) : V → List V → Hp → VK → Prop := fun x xs H Q => ∃ (μ : Mu) (S S' : Hs) (dx d : D) (ds : List D), DR K A μ H dx x ∧ DRs K A μ H ds xs ∧ HR K A μ S H ∧ bmeth S m dx ds = .ok d S' ∧
  ∀ v μ' H', DR K A μ' H' d v → HR K A μ' S' H' → Mo μ H μ' H' → Q v H'
theorem mR_append : MtR X "list.append" (rM X.K A .append) := by
  refine MtR.of fun x xs H Q hq => ?_
  obtain ⟨μ, S, S', dx, d, ds, rx, rs, R, e, q⟩ := hq
  unfold bmeth at e
  split at e <;> try contradiction
  · split at e
    · rename_i es hs
      split at e
      · rename_i hz
        cases e
        obtain ⟨v, rfl, r⟩ := one_inv rs
        cases rx with
        | ref h =>
          obtain ⟨ho, h1, h2⟩ := R.obj _ _ _ hs h
          cases h2 with
          | lst r1 =>
            refine ⟨_, mt_append, _, _, v, rfl, rfl, h1, by rw [r1.length]; exact hz, ?_⟩
            exact q _ μ _ .non (R.write h (.lst (r1.append (.cons r .nil)))) (Mo.write (List.mem_of_getElem? h))
      · cases e
    · cases e
  all_goals cases e
theorem mR_extend : MtR X "list.extend" (rM X.K A .extend) := by
  refine MtR.of fun x xs H Q hq => ?_
  obtain ⟨μ, S, S', dx, d, ds, rx, rs, R, e, q⟩ := hq
  unfold bmeth at e
  split at e <;> try contradiction
  · split at e
    · rename_i ds1 es hs he
      split at e
      · rename_i hz
        cases e
        obtain ⟨v, rfl, r⟩ := one_inv rs
        cases rx with
        | ref h =>
          obtain ⟨ho, h1, h2⟩ := R.obj _ _ _ hs h
          cases h2 with
          | lst r1 =>
            obtain ⟨b, zs, rfl, h3, r3⟩ := seq_rd R r he
            have fin := q .non μ _ .non (R.write h (.lst (r1.append r3))) (Mo.write (List.mem_of_getElem? h))
            rcases h3 with h3 | h3
            · exact ⟨_, mt_extendR, _, b, _, zs, rfl, rfl, h1, h3, by rw [r1.length, r3.length]; exact hz, fin⟩
            · exact ⟨_, mt_extendT, _, b, _, zs, rfl, rfl, h1, h3, by rw [r1.length, r3.length]; exact hz, fin⟩
      · cases e
    · cases e
  all_goals cases e
theorem mR_pop : MtR X "list.pop" (rM X.K A .pop) := by
  refine MtR.of fun x xs H Q hq => ?_
  obtain ⟨μ, S, S', dx, d, ds, rx, rs, R, e, q⟩ := hq
  unfold bmeth at e
  split at e <;> try contradiction
  · split at e
    · rename_i ds1 hs
      split at e
      · rename_i d1 hd
        cases e
        cases rs
        cases rx with
        | ref h =>
          obtain ⟨ho, h1, h2⟩ := R.obj _ _ _ hs h
          cases h2 with
          | lst r1 =>
            obtain ⟨v, h3, r3⟩ := r1.get hd
            refine ⟨_, mt_pop, _, _, v, rfl, rfl, h1, by rw [r1.length]; exact h3, ?_⟩
            exact q _ μ _ (r3.mono (Mo.write (List.mem_of_getElem? h))) (R.write h (.lst r1.dropLast)) (Mo.write (List.mem_of_getElem? h))
      · cases e
    · cases e
  all_goals cases e
theorem firstAt_of {y : D} : ∀ {ds : List D} {j : Nat}, firstAt y ds = some j → (∃ z, ds[j]? = some z ∧ eqF z y = true) ∧ ∀ m z', m < j → ds[m]? = some z' → eqF z' y = false
  | [], j, e => by cases e
  | d :: ds, j, e => by
    unfold firstAt at e
    split at e
    · rename_i h
      cases e
      exact ⟨⟨d, rfl, h⟩, fun m z' hm => by omega⟩
    · rename_i h
      cases e1 : firstAt y ds with
      | none => rw [e1] at e; cases e
      | some k =>
        rw [e1] at e
        cases e
        obtain ⟨⟨z, h1, h2⟩, h3⟩ := firstAt_of e1
        refine ⟨⟨z, by simpa using h1, h2⟩, fun m z' hm hz => ?_⟩
        cases m with
        | zero =>
          simp at hz
          subst hz
          simpa using h
        | succ m => exact h3 m z' (Nat.lt_of_succ_lt_succ hm) (by simpa using hz)
theorem mR_index : MtR X "list.index" (rM X.K A .index) := by
  refine MtR.of fun x xs H Q hq => ?_
  obtain ⟨μ, S, S', dx, d, ds, rx, rs, R, e, q⟩ := hq
  unfold bmeth at e
  split at e <;> try contradiction
  · split at e
    · rename_i es he
      split at e
      · rename_i hf
        rw [Bool.and_eq_true] at hf
        split at e
        · rename_i j hj
          cases e
          obtain ⟨v, rfl, r⟩ := one_inv rs
          obtain ⟨a, vs, rfl, h1, h2⟩ := lst_sq R rx he
          obtain ⟨⟨z, h3, h4⟩, h5⟩ := firstAt_of hj
          obtain ⟨w, h6, h7⟩ := h2.get h3
          have fl : ∀ {k : Nat} {c : D}, es[k]? = some c → flatD c = true := fun hc => (List.all_eq_true.mp hf.2) _ (List.mem_of_getElem? hc)
          refine ⟨_, mt_index, a, vs, v, j, w, rfl, rfl, .inl h1, flat_of r hf.1, flats_of h2 hf.2, h6, by rw [eqF_of h7 r (fl h3) hf.1]; exact h4, fun m z' hm hz => ?_, q _ μ H (.int _) R (Mo.refl _ _)⟩
          have hl : m < es.length := by
            have := (List.getElem?_eq_some_iff.mp h3).1
            omega
          obtain ⟨w2, h8, h9⟩ := h2.get (List.getElem?_eq_getElem hl)
          rw [hz] at h8
          cases h8
          rw [eqF_of h9 r (fl (List.getElem?_eq_getElem hl)) hf.1]
          exact h5 m _ hm (List.getElem?_eq_getElem hl)
        · cases e
      · cases e
    · cases e
  all_goals cases e
theorem mR_split : MtR X "str.split" (rM X.K A .split) := by
  refine MtR.of fun x xs H Q hq => ?_
  obtain ⟨μ, S, S', dx, d, ds, rx, rs, R, e, q⟩ := hq
  unfold bmeth at e
  split at e <;> try contradiction
  · split at e
    · rename_i hz
      cases e
      obtain ⟨v, rfl, r⟩ := one_inv rs
      cases r; cases rx
      refine ⟨_, mt_split, _, _, rfl, rfl, hz.1, hz.2, fun p hp => ?_⟩
      obtain ⟨z1, z2, z3⟩ := new_tl R (DRs.strs (Txt.split _ _)) hp
      exact q _ _ _ z1 z2 z3
    · cases e
  all_goals cases e
end
end CN
set_option Elab.async false
set_option linter.all false
set_option maxRecDepth 100000
set_option maxHeartbeats 2000000
/-! CnChk: does a text of the interpreter's say what a Python text says? -/
namespace CN
open PySem L2

/-- the names behind the numbers -/
structure Gi where
  consts : List Str
  fns : List Str
  clss : List Str
  meths : List Str
  flds : List Str

def plainNm (x : Str) : Bool := !(x == ("__debug__" : Str)) && !(x == ("__classdict__" : Str)) && !(decide (x = "__name__"))
def isGl (sc : Scope) (x : Str) : Bool := decide (sc.names.lookup x = some .globalImplicit) && plainNm x
def isVis (sc : Scope) (x : Str) : Bool := (decide (sc.names.lookup x = some .local) || decide (sc.names.lookup x = some .cell) || decide (sc.names.lookup x = some .free)) && plainNm x
def isLoc (sc : Scope) (x : Str) : Bool := decide (sc.names.lookup x = some .local)
/-- neither a star nor a slice nor a call of super -/
def plainE : Expr → Bool
  | .Starred _ _ => false
  | .Slice _ _ _ _ => false
  | _ => true
def noSuper : Expr → Bool
  | .Call (.Name x _) [] [] _ => !(decide (x = "super"))
  | _ => true
def biName : Bi → Option Str
  | .len => some "len" | .int => some "int" | .tuple => some "tuple" | .list => some "list" | .all => some "all" | .any => some "any" | .sum => some "sum" | .max2 => some "max" | .min2 => some "min" | .abs => some "abs"
  | .isinst _ => none
/-- the method's name -/
def bmName : Bm → Str
  | .append => "append" | .extend => "extend" | .pop => "pop" | .popAt => "pop" | .insert => "insert" | .index => "index" | .split => "split" | .replace => "replace" | .join => "join" | .startswith => "startswith"
/-- the methods that are served -/
def bmOk : Bm → Bool
  | .append | .extend | .index | .split => true
  | _ => false
def boxable : Ex → Bool
  | .lst _ => true
  | .bi .list _ => true
  | _ => false
def ownNames (N : List Str) (own : List Nat) : List (Str × Nat) := own.map fun i => (N.getD i Str.empty, i)

def chkTgN (cl : Bool) (N : List Str) (sc : Scope) : List Nat → List Expr → Bool
  | [], [] => true
  | i :: is, .Name x _ :: es => decide (N[i]? = some x) && (isLoc sc x || (cl && decide (sc.names.lookup x = some .cell))) && chkTgN cl N sc is es
  | _, _ => false
/-- a target: names that are the frame's own; cl: cells, too -/
def chkTg (cl : Bool) (N : List Str) (sc : Scope) : Tg → Expr → Bool
  | .nm i, .Name x _ => decide (N[i]? = some x) && (isLoc sc x || (cl && decide (sc.names.lookup x = some .cell)))
  | .tp is, .Tuple es _ _ => chkTgN cl N sc is es
  | _, _ => false

mutual
def chkE (G : Gi) (N : List Str) (sc : Scope) : Ex → Expr → Bool
  | .var i, e => match e with
    | .Name x _ => decide (N[i]? = some x) && isVis sc x
    | _ => false
  | .cst d, e => match d, e with
    | .int i, .Constant (.int j) _ _ => decide (i = j)
    | .bl i, .Constant (.bool j) _ _ => i == j
    | .str i, .Constant (.str j) _ _ => decide (i = j)
    | .non, .Constant .none _ _ => true
    | _, _ => false
  | .glob k, e => match e with
    | .Name x _ => decide (G.consts[k]? = some x) && isGl sc x
    | _ => false
  | .tup es, e => match e with
    | .Tuple xs _ _ => chkEs G N sc es xs
    | _ => false
  | .lst es, e => match e with
    | .List xs _ => chkEs G N sc es xs
    | _ => false
  | .box a, e => boxable a && chkE G N sc a e
  | .bin op a b, e => match e with
    | .BinOp x o y _ => decide (o = pyOp op) && chkE G N sc a x && chkE G N sc b y
    | _ => false
  | .cmp op a b, e => match e with
    | .Compare x [o] [y] _ => decide (o = pyCmp op) && !behindInMarks o y && chkE G N sc a x && chkE G N sc b y
    | _ => false
  | .isN neg a, e => match e with
    | .Compare x [o] [.Constant .none _ _] _ => decide (o = if neg then .IsNot else .Is) && chkE G N sc a x
    | _ => false
  | .chain o p a b c, e => match e with
    | .Compare x [o1, p1] [y, z] _ => decide (o1 = pyCmp o) && decide (p1 = pyCmp p) && !behindInMarks p1 z && chkE G N sc a x && chkE G N sc b y && chkE G N sc c z
    | _ => false
  | .and es, e => match e with
    | .BoolOp .And xs _ => chkEs G N sc es xs && !xs.isEmpty
    | _ => false
  | .or es, e => match e with
    | .BoolOp .Or xs _ => chkEs G N sc es xs && !xs.isEmpty
    | _ => false
  | .not a, e => match e with
    | .UnaryOp .Not x _ => chkE G N sc a x
    | _ => false
  | .neg a, e => match e with
    | .UnaryOp .USub x _ => chkE G N sc a x
    | _ => false
  | .ite t a b, e => match e with
    | .IfExp u x y _ => chkE G N sc t u && chkE G N sc a x && chkE G N sc b y
    | _ => false
  | .idx a b, e => match e with
    | .Subscript x y _ => plainE y && chkE G N sc a x && chkE G N sc b y
    | _ => false
  | .sl a lo hi, e => match e with
    | .Subscript x (.Slice l h none _) _ => chkE G N sc a x && chkO G N sc lo l && chkO G N sc hi h
    | _ => false
  | .attr a f, e => match e with
    | .Attribute x y _ => decide (G.flds[f]? = some y) && noSuper x && chkE G N sc a x
    | _ => false
  | .call g args, e => match e with
    | .Call (.Name x _) xs [] _ => decide (G.fns[g]? = some x) && isGl sc x && chkEs G N sc args xs
    | _ => false
  | .callv i args, e => match e with
    | .Call (.Name x _) xs [] _ => decide (N[i]? = some x) && isVis sc x && chkEs G N sc args xs && !xs.isEmpty
    | _ => false
  | .make c args, e => match e with
    | .Call (.Name x _) xs [] _ => decide (G.clss[c]? = some x) && isGl sc x && chkEs G N sc args xs
    | _ => false
  | .meth m a args, e => match e with
    | .Call (.Attribute o y ap) xs [] p => decide (G.meths[m]? = some y) && (ap.endLine == p.line) && decide (xs.length < 30) && noSuper o && chkE G N sc a o && chkEs G N sc args xs
    | _ => false
  | .bi b args, e => match e with
    | .Call (.Name x _) xs [] _ => match b with
      | .isinst cl => match xs with
        | [u, .Name y _] => decide (x = "isinstance") && isGl sc x && isGl sc y && decide (y = Str.ofString cl) && decide (cl ∈ ["int", "bool", "str", "tuple", "list"]) && chkEs G N sc args [u]
        | _ => false
      | b => decide (biName b = some x) && isGl sc x && chkEs G N sc args xs && !xs.isEmpty
    | _ => false
  | .bm m a args, e => match e with
    | .Call (.Attribute o y ap) xs [] p => bmOk m && decide (y = bmName m) && noSuper o && decide (xs.length = 1) && (ap.endLine == p.line) && chkE G N sc a o && chkEs G N sc args xs
    | _ => false
  | .comp elt tg own it cond, e => match e with
    | .ListComp x [⟨t, i, fs, 0⟩] csc _ => blkC N sc csc (ownNames N own) && chkTg false N (relS csc sc) tg t && chkI G N sc it i t && chkC G N (relS csc sc) cond fs && chkE G N (relS csc sc) elt x && tgOwn own tg
    | _ => false
  | .compB elt tg own it cond, e => match e with
    | .ListComp x [⟨t, i, fs, 0⟩] csc _ => blkC N sc csc (ownNames N own) && chkTg false N (relS csc sc) tg t && chkI G N sc it i t && chkC G N (relS csc sc) cond fs && chkE G N (relS csc sc) elt x && tgOwn own tg
    | _ => false
def chkEs (G : Gi) (N : List Str) (sc : Scope) : Exs → List Expr → Bool
  | .nil, xs => xs.isEmpty
  | .cons a as, xs => match xs with
    | x :: r => plainE x && chkE G N sc a x && chkEs G N sc as r
    | [] => false
def chkO (G : Gi) (N : List Str) (sc : Scope) : Exo → Option Expr → Bool
  | .no, o => o.isNone
  | .so a, o => match o with
    | some x => chkE G N sc a x
    | none => false
def chkC (G : Gi) (N : List Str) (sc : Scope) : Exo → List Expr → Bool
  | .no, o => o.isEmpty
  | .so a, o => match o with
    | [x] => chkE G N sc a x
    | _ => false
/-- t: the target (zip, enumerate want a written tuple) -/
def chkI (G : Gi) (N : List Str) (sc : Scope) : It → Expr → Expr → Bool
  | .seq a, e, _ => plainE e && notSet e && chkE G N sc a e
  | .range1 a, e, _ => match e with
    | .Call (.Name x _) [y] [] _ => decide (x = "range") && isGl sc x && plainE y && chkE G N sc a y
    | _ => false
  | .range2 a b, e, _ => match e with
    | .Call (.Name x _) [y, z] [] _ => decide (x = "range") && isGl sc x && plainE y && plainE z && chkE G N sc a y && chkE G N sc b z
    | _ => false
  | .zip a b, e, t => match e with
    | .Call (.Name x _) [y, z] [] _ => decide (x = "zip") && isGl sc x && plainE y && plainE z && chkE G N sc a y && chkE G N sc b z && isTup t
    | _ => false
  | .enum a, e, t => match e with
    | .Call (.Name x _) [y] [] _ => decide (x = "enumerate") && isGl sc x && plainE y && chkE G N sc a y && isTup t
    | _ => false
  | .rev a, e, _ => match e with
    | .Call (.Name x _) [y] [] _ => decide (x = "reversed") && isGl sc x && plainE y && chkE G N sc a y
    | _ => false
def notSet : Expr → Bool
  | .Set _ _ _ => false
  | _ => true
def isTup : Expr → Bool
  | .Tuple _ _ _ => true
  | _ => false
/-- a comprehension's targets are its own names -/
def tgOwn (own : List Nat) : Tg → Bool
  | .nm i => decide (i ∈ own)
  | .tp is => is.all fun i => decide (i ∈ own)
end
end CN
set_option Elab.async false
set_option linter.all false
set_option maxRecDepth 100000
set_option maxHeartbeats 2000000
/-! CnExpr: the readings of expressions. -/
namespace CN
open PySem PyProof.Rows L2

/-! ### shapes of texts -/
theorem starE {e : Expr} {es : List Expr} {env : PySem.Env} (h : plainE e = true) : starEach (e :: es) env = (false, eval e env) :: starEach es env := by
  cases e <;> first | rfl | cases h
theorem plain_any {pos : Pos} {env : PySem.Env} : ∀ {es : List Expr}, es.all plainE = true → (backTo pos (starEach es env)).any (·.1) = false
  | [], _ => rfl
  | e :: es, h => by
    rw [List.all_cons, Bool.and_eq_true] at h
    rw [starE h.1]
    have ih := plain_any (pos := pos) (env := env) h.2
    unfold backTo at ih ⊢
    rw [List.map_cons, List.any_cons, ih]
    rfl
theorem plainNm_ne {x : Str} (h : plainNm x = true) : (x == ("__debug__" : Str)) = false ∧ (x == ("__classdict__" : Str)) = false ∧ x ≠ "__name__" := by
  unfold plainNm at h
  simp only [Bool.and_eq_true, Bool.not_eq_true', decide_eq_false_iff_not] at h
  exact ⟨h.1.1, h.1.2, h.2⟩
theorem isGl_ok {X : Cx} {x : Str} (h : isGl X.env.scope x = true) : Gl X x ∧ (x == ("__debug__" : Str)) = false ∧ x ≠ "__name__" := by
  unfold isGl at h
  rw [Bool.and_eq_true, decide_eq_true_eq] at h
  exact ⟨h.1, (plainNm_ne h.2).1, (plainNm_ne h.2).2.2⟩
theorem isVis_ok {X : Cx} {x : Str} (h : isVis X.env.scope x = true) : Vis X.env.scope x ∧ (x == ("__debug__" : Str)) = false ∧ (x == ("__classdict__" : Str)) = false := by
  unfold isVis at h
  simp only [Bool.and_eq_true, Bool.or_eq_true, decide_eq_true_eq] at h
  refine ⟨?_, (plainNm_ne h.2).1, (plainNm_ne h.2).2.1⟩
  rcases h.1 with (h | h) | h
  · exact .inl h
  · exact .inr (.inl h)
  · exact .inr (.inr h)
theorem base_of {o : Expr} {x : Str} {env : PySem.Env} {w : Sem Value} (h : noSuper o = true) : attributeBase o x env w = w := by
  unfold attributeBase
  split
  · rename_i id p1 p2
    have hx : ¬ id = "super" := by
      unfold noSuper at h
      simpa using h
    have hb : (id != ("super" : Str)) = true := by simpa using hx
    rw [hb]
    rfl
  · rfl

section
variable {X : Cx} {A : Ad} {W : WX}
/-! ### the simple ones -/
theorem px_cst {d : D} {v : V} {e : Expr} (h : PE X e (tC v)) (r : KD X.K A d v) : PE X e (TEo X.K A W fun _ s => .ok d s) := PE.imp h fun σ H Q ⟨env, S, μ, E, R, q⟩ => q v μ H (r μ H) R (Mo.refl _ _)
theorem px_var {i : Nat} {x : Str} {pos : Pos} (hN : X.N[i]? = some x) (h : isVis X.env.scope x = true) : PE X (.Name x pos) (TEo X.K A W fun env s => match env[i]? with | some (some d) => .ok d s | _ => .stuck) := by
  obtain ⟨h1, h2, h3⟩ := isVis_ok h
  refine PE.imp (pe_var hN h1 h2 h3) fun σ H Q ⟨env, S, μ, E, R, q⟩ => ?_
  dsimp only at q
  split at q
  · rename_i d hd
    obtain ⟨v, h4, r⟩ := E.at_ i d hd
    exact ⟨v, h4, q v μ H r R (Mo.refl _ _)⟩
  · exact q.elim
variable {a b c e : Expr} {ma mb mc : CN.Env → Hs → Res D} {pos : Pos}
theorem px_bin (op : BOp) (ha : PE X a (TEo X.K A W ma)) (hb : PE X b (TEo X.K A W mb)) :
    PE X (.BinOp a (pyOp op) b pos) (TEo X.K A W fun env s => (ma env s).bind fun x s1 => (mb env s1).bind fun y s2 => Res.of (binop s2 op x y) s2) :=
  PE.imp (pe_op (opR_bin (A := A) op) ha hb) fun σ H Q ⟨env, S, μ, E, R, h⟩ =>
    seq E R h fun d S1 x μ1 H1 _ r1 R1 E1 M1 h1 => seq E1 R1 h1 fun d2 S2 y μ2 H2 _ r2 R2 E2 M2 h2 => by
      obtain ⟨z, e, q⟩ := Post.of h2
      exact ⟨μ2, S2, d, d2, z, DR.mono M2 r1, r2, R2, e, q⟩
theorem Post.ofB {K : PySem.W.Frag} {σ : L2.St} {μ : Mu} {H : Hp} {Q : VK} {S : Hs} {o : Option Bool} (R : HR K A μ S H) (h : Post (ReD K A) K A W σ μ H Q (Res.of (o.map D.bl) S)) : ∃ b, o = some b ∧ Q (.bl b) H := by
  cases o with
  | none => exact h.elim
  | some b => exact ⟨b, rfl, h (.bl b) μ H (.bl b) R (Mo.refl _ _)⟩
theorem px_cmp (T : Tb) (TT : Tabs T A X.K X.w) (hu : X.A.units + 64 < cLine) (op : COp) (ha : PE X a (TEo X.K A W ma)) (hb : PE X b (TEo X.K A W mb)) (hm : behindInMarks (pyCmp op) b = false) :
    PE X (.Compare a [pyCmp op] [b] pos) (TEo X.K A W fun env s => (ma env s).bind fun x s1 => (mb env s1).bind fun y s2 => Res.of ((cmpop T.tabs s2 op x y).map .bl) s2) :=
  PE.imp (pe_cmpR (opR_cmp T TT hu op) ha hb hm) fun σ H Q ⟨env, S, μ, E, R, h⟩ =>
    seq E R h fun d S1 x μ1 H1 _ r1 R1 E1 M1 h1 => seq E1 R1 h1 fun d2 S2 y μ2 H2 _ r2 R2 E2 M2 h2 => by
      obtain ⟨z, e, q⟩ := Post.ofB R2 h2
      exact ⟨μ2, S2, d, d2, z, DR.mono M2 r1, r2, R2, e, q⟩
theorem isN_of {K : PySem.W.Frag} {μ : Mu} {H : Hp} {d : D} {v : V} (r : DR K A μ H d v) : isNd false d = decide (v = .non) ∧ isNd true d = !decide (v = .non) := by
  cases r <;> simp [isNd]
theorem px_isN (neg : Bool) {k : Nat} {p : Pos} (ha : PE X a (TEo X.K A W ma)) :
    PE X (.Compare a [if neg then .IsNot else .Is] [.Constant .none k p] pos) (TEo X.K A W fun env s => (ma env s).bind fun x s1 => .ok (.bl (isNd neg x)) s1) := by
  cases neg with
  | false =>
    exact PE.imp (pe_cmp (pc_isN ha) rfl) fun σ H Q ⟨env, S, μ, E, R, h⟩ => seq E R h fun d S1 x μ1 H1 _ r1 R1 E1 M1 h1 => by
      have q := h1 (.bl _) μ1 H1 (.bl _) R1 (Mo.refl _ _)
      rw [(isN_of r1).1] at q
      exact q
  | true =>
    exact PE.imp (pe_cmp (pc_notN ha) rfl) fun σ H Q ⟨env, S, μ, E, R, h⟩ => seq E R h fun d S1 x μ1 H1 _ r1 R1 E1 M1 h1 => by
      have q := h1 (.bl _) μ1 H1 (.bl _) R1 (Mo.refl _ _)
      rw [(isN_of r1).2] at q
      exact q
theorem px_chain (T : Tb) (TT : Tabs T A X.K X.w) (hu : X.A.units + 64 < cLine) (o p : COp) (ha : PE X a (TEo X.K A W ma)) (hb : PE X b (TEo X.K A W mb)) (hc : PE X c (TEo X.K A W mc)) (hm : behindInMarks (pyCmp p) c = false) :
    PE X (.Compare a [pyCmp o, pyCmp p] [b, c] pos) (TEo X.K A W fun env s => (ma env s).bind fun x s1 => (mb env s1).bind fun y s2 => match cmpop T.tabs s2 o x y with
      | some true => (mc env s2).bind fun z s3 => Res.of ((cmpop T.tabs s3 p y z).map .bl) s3
      | some false => .ok (.bl false) s2
      | none => .stuck) :=
  PE.imp (pe_chain (opR_cmp T TT hu o) (opR_cmp T TT hu p) ha hb hc hm) fun σ H Q ⟨env, S, μ, E, R, h⟩ =>
    seq E R h fun d S1 x μ1 H1 _ r1 R1 E1 M1 h1 => seq E1 R1 h1 fun d2 S2 y μ2 H2 _ r2 R2 E2 M2 h2 => by
      cases e : cmpop T.tabs S2 o d d2 with
      | none => rw [e] at h2; exact h2.elim
      | some k =>
        rw [e] at h2
        refine ⟨μ2, S2, d, d2, k, DR.mono M2 r1, r2, R2, e, k, rfl, ?_⟩
        cases k with
        | false => exact iteF (h2 (.bl false) μ2 H2 (.bl false) R2 (Mo.refl _ _))
        | true => exact iteT (seq E2 R2 h2 fun d3 S3 z μ3 H3 _ r3 R3 E3 M3 h3 => by
            obtain ⟨w, e, q⟩ := Post.ofB R3 h3
            exact ⟨μ3, S3, d2, d3, w, DR.mono M3 r2, r3, R3, e, q⟩)
theorem px_neg (ha : PE X a (TEo X.K A W ma)) : PE X (.UnaryOp .USub a pos) (TEo X.K A W fun env s => (ma env s).bind fun x s1 => match x with | .int i => .ok (.int (-i)) s1 | _ => .stuck) :=
  PE.imp (pe_un un_neg ha) fun σ H Q ⟨env, S, μ, E, R, h⟩ => seq E R h fun d S1 x μ1 H1 _ r1 R1 E1 M1 h1 => by
    cases d with
    | int i => cases r1; exact ⟨i, rfl, h1 _ μ1 H1 (.int _) R1 (Mo.refl _ _)⟩
    | _ => exact h1.elim
/-! ### tests -/
variable {ta tb : CN.Env → Hs → Res Bool}
theorem pt_ofE (h : PE X a (TEo X.K A W ma)) (he : ∀ whole, isTrue a X.env whole = (do let v ← whole; standAt a.pos; holding [v] (truthy v))) : PT X a (TTo X.K A W fun env s => (ma env s).bind fun x s1 => Res.of (truth s1 x) s1) := by
  refine ⟨fun pins s σ H Q I hw => ?_⟩
  obtain ⟨env, S, μ, E, R, q⟩ := hw
  refine isTrue_plain (thn (h.run pins s σ H _ I (seq (k := fun v H' => ∃ (μ : Mu) (S : Hs) (d : D) (b : Bool), DR X.K A μ H' d v ∧ HR X.K A μ S H' ∧ truth S d = some b ∧ Q b H') E R q fun d S1 x μ1 H1 _ r1 R1 E1 M1 h1 => ?_)) fun v s1 hh => ?_) (he _)
  · obtain ⟨b, e, q⟩ := Post.of h1
    exact ⟨μ1, S1, d, b, r1, R1, e, q b μ1 H1 rfl R1 (Mo.refl _ _)⟩
  · obtain ⟨x, H1, I1, r1, q1⟩ := hh
    exact tru_of (A := A) pins s1 σ H1 x v Q I1 r1 q1
/-- a comparison as a test -/
theorem pt_ofC {op : CmpOp} {y : Expr} (h : PE X (.Compare a [op] [y] pos) (TEo X.K A W ma)) {r : R2} {tx ty : TE} (ho : OpR X (compareOp op) r) (hx : PE X a tx) (hy : PE X y ty) (hm : behindInMarks op y = false)
    (hi : ∀ σ H Q, TTo X.K A W (fun env s => (ma env s).bind fun x s1 => Res.of (truth s1 x) s1) σ H Q → tTest (tOp r tx ty) σ H Q) : PT X (.Compare a [op] [y] pos) (TTo X.K A W fun env s => (ma env s).bind fun x s1 => Res.of (truth s1 x) s1) := PT.imp (pt_cmpR ho hx hy hm) hi
theorem px_not (ha : PE X a (TEo X.K A W ma)) : PE X (.UnaryOp .Not a pos) (TEo X.K A W fun env s => (ma env s).bind fun x s1 => Res.of ((truth s1 x).map fun b => .bl (!b)) s1) := by
  refine ⟨fun pins s σ H Q I hw => ?_⟩
  obtain ⟨env, S, μ, E, R, q⟩ := hw
  refine UnaryOp_ (thn (ha.run pins s σ H _ I (seq (k := fun v H' => ∃ (μ : Mu) (S : Hs) (d : D) (b : Bool), DR X.K A μ H' d v ∧ HR X.K A μ S H' ∧ truth S d = some b ∧ Q (.bl (!b)) H') E R q fun d S1 x μ1 H1 _ r1 R1 E1 M1 h1 => ?_)) fun v s1 hh => ?_)
  · cases e : truth S1 d with
    | none => rw [e] at h1; exact h1.elim
    | some b =>
      rw [e] at h1
      exact ⟨μ1, S1, d, b, r1, R1, e, h1 _ μ1 H1 (.bl _) R1 (Mo.refl _ _)⟩
  · obtain ⟨x, H1, I1, r1, q1⟩ := hh
    refine not_of (thn (tru_of (A := A) pins s1 σ H1 x v (fun b H' => Q (.bl (!b)) H') I1 r1 q1) fun b s2 hh => ?_)
    obtain ⟨H2, I2, q2⟩ := hh
    exact ⟨.bl (!b), H2, I2, rfl, q2⟩
theorem px_ite {t : Expr} (ht : PT X t (TTo X.K A W ta)) (ha : PE X a (TEo X.K A W ma)) (hb : PE X b (TEo X.K A W mb)) : PE X (.IfExp t a b pos) (TEo X.K A W fun env s => (ta env s).bind fun c s1 => if c then ma env s1 else mb env s1) :=
  PE.imp (pe_ifExp ht ha hb) fun σ H Q ⟨env, S, μ, E, R, h⟩ => seq E R h fun c S1 c' μ1 H1 _ r1 R1 E1 M1 h1 => by
    obtain rfl : c = c' := r1
    cases c with
    | true => exact iteT ⟨env, S1, μ1, E1, R1, h1⟩
    | false => exact iteF ⟨env, S1, μ1, E1, R1, h1⟩
end
end CN
set_option Elab.async false
set_option linter.all false
set_option maxRecDepth 100000
set_option maxHeartbeats 2000000
/-! CnExpr2: subscripts, displays, calls. -/
namespace CN
open PySem PyProof.Rows L2

/-- a wish of an exception that doesn't look at slots -/
def noSt (E : XK) : WX := fun cl dx _ H => E cl dx H
/-- a function's promise: what the interpreter answers at level k -/
def spOf (T : Tb) (wf : Nat) (K : PySem.W.Frag) (A : Ad) (k g : Nat) : Sp := fun vs H Q E => ∃ (ds : List D) (S : Hs) (μ : Mu), DRs K A μ H ds vs ∧ HR K A μ S H ∧ Post (ReD K A) K A (noSt E) [] μ H Q (runFn T wf k g ds S)
/-- a function stands -/
structure FF (T : Tb) (wf : Nat) (A : Ad) (P : Program) (w : World) (K : PySem.W.Frag) (mg : Str → Option Value) (base : Heap) (k g : Nat) (f : Fn) (a : Addr) : Prop where
  ex : ∃ (fd : FuncData) (ps : List Str), Binds K fd ps [] ∧ ps.length = f.params ∧ FnOk P w K mg base (L2.CX P w) (2 * k) a fd ps (spOf T wf K A k g)
  kp : PySem.W.keepIn K (.ref a) = true
structure Known (T : Tb) (G : Gi) (wf : Nat) (A : Ad) (P : Program) (w : World) (K : PySem.W.Frag) (mg : Str → Option Value) (base : Heap) (k : Nat) : Prop where
  tabs : Tabs T A K w
  consts : ∀ (i : Nat) (x : Str) (d : D), G.consts[i]? = some x → T.consts[i]? = some d → ∃ u v, mg x = some u ∧ RelV v u ∧ KD K A d v
  constsL : ∀ (i : Nat) (x : Str), G.consts[i]? = some x → ∃ d, T.consts[i]? = some d
  afn : ∀ (g : Nat) (a : Addr), A.fn g = some a → ∃ f, T.fns[g]? = some f ∧ FF T wf A P w K mg base k g f a
  glob : ∀ (g : Nat) (x : Str), G.fns[g]? = some x → ∃ a, A.fn g = some a ∧ mg x = some (.ref a)
  clss : ∀ (c : Nat) (x : Str), G.clss[c]? = some x → ∃ C g a, A.cl c = some C ∧ mg x = some (.ref C) ∧ T.inits[c]? = some g ∧ A.fn g = some a ∧ Mk K C a
  meth : ∀ (c : Nat) (C : Addr) (ms : List (Nat × Nat)) (m g : Nat) (x : Str), A.cl c = some C → T.clss[c]? = some ms → ms.lookup m = some g → G.meths[m]? = some x → ∃ a, A.fn g = some a ∧ Meth K C x a
  cls : ∀ (c : Nat) (C : Addr), A.cl c = some C → Cls K C
  noat : ∀ (c : Nat) (C : Addr) (f : Nat) (x : Str), A.cl c = some C → G.flds[f]? = some x → NoAttr K C x
  fld : ∀ (f : Nat) (x : Str), G.flds[f]? = some x → A.fld f = x
  inj : ∀ (f g : Nat), A.fld f = A.fld g → f = g
  mfld : ∀ (m : Nat) (x : Str), G.meths[m]? = some x → ∀ f : Nat, A.fld f ≠ x
  blt : ∀ x : Str, x ∈ (["len", "int", "tuple", "list", "all", "any", "sum", "max", "min", "abs", "isinstance", "range", "zip", "enumerate", "reversed", "bool", "str"] : List Str) → mg x = none
structure Gd (T : Tb) (G : Gi) (wf : Nat) (A : Ad) (k : Nat) (X : Cx) (W : WX) : Prop where
  kn : Known T G wf A X.prog X.w X.K X.mg X.base k
  room : Room (2 * k + 1) X.A
  calm : X.calm = true
  nd : X.N.Nodup
  takes : Takes X W
  pass : PassesOwn (model X.prog X.w) X.A X.env X.xe

section
variable {X : Cx} {A : Ad} {W : WX} {a b e : Expr} {ma mb : CN.Env → Hs → Res D} {mas : CN.Env → Hs → Res (List D)} {pos : Pos}
theorem plainIx {b : Expr} (h : plainE b = true) : PlainIx b := by
  intro o i
  unfold subscripted
  cases b <;> first | rfl | cases h
theorem px_idx (T : Tb) (TT : Tabs T A X.K X.w) (ha : PE X a (TEo X.K A W ma)) (hb : PE X b (TEo X.K A W mb)) (hp : plainE b = true) :
    PE X (.Subscript a b pos) (TEo X.K A W fun env s => (ma env s).bind fun x s1 => (mb env s1).bind fun y s2 => Res.of (idxop T.tabs s2 x y) s2) :=
  PE.imp (pe_ix (ixR (A := A) T TT) ha hb (plainIx hp)) fun σ H Q ⟨env, S, μ, E, R, h⟩ =>
    seq E R h fun d S1 x μ1 H1 _ r1 R1 E1 M1 h1 => seq E1 R1 h1 fun d2 S2 y μ2 H2 _ r2 R2 E2 M2 h2 => by
      obtain ⟨z, e, q⟩ := Post.of h2
      exact ⟨μ2, S2, d, d2, z, DR.mono M2 r1, r2, R2, e, q⟩
abbrev TOo (K : PySem.W.Frag) (A : Ad) (W : WX) (m : CN.Env → Hs → Res (Option Int)) : TO := Rd1 ReI K A W m
theorem PO.imp {o : Option Expr} {t t' : TO} (h : PO X o t) (f : ∀ σ H Q, t' σ H Q → t σ H Q) : PO X o t' := ⟨fun pins s σ H Q I q => h.run pins s σ H Q I (f σ H Q q)⟩
theorem px_no : PO X none (TOo X.K A W fun _ s => .ok none s) := PO.imp po_none fun σ H Q ⟨env, S, μ, E, R, h⟩ => h none μ H rfl R (Mo.refl _ _)
theorem px_so (ha : PE X a (TEo X.K A W ma)) : PO X (some a) (TOo X.K A W fun env s => (ma env s).bind fun x s1 => match x with | .int i => .ok (some i) s1 | _ => .stuck) :=
  PO.imp (po_some ha) fun σ H Q ⟨env, S, μ, E, R, h⟩ => seq E R h fun d S1 x μ1 H1 _ r1 R1 E1 M1 h1 => by
    cases d with
    | int i => cases r1; exact ⟨i, rfl, h1 _ μ1 H1 rfl R1 (Mo.refl _ _)⟩
    | _ => exact h1.elim
theorem px_sl {lo hi : Option Expr} {ml mh : CN.Env → Hs → Res (Option Int)} {p2 : Pos} (ha : PE X a (TEo X.K A W ma)) (hl : PO X lo (TOo X.K A W ml)) (hh : PO X hi (TOo X.K A W mh)) :
    PE X (.Subscript a (.Slice lo hi none p2) pos) (TEo X.K A W fun env s => (ma env s).bind fun x s1 => (ml env s1).bind fun l s2 => (mh env s2).bind fun h s3 => Res.of (slop s3 x l h) s3) :=
  PE.imp (pe_slice (slR (A := A)) ha hl hh) fun σ H Q ⟨env, S, μ, E, R, h⟩ =>
    seq E R h fun d S1 x μ1 H1 _ r1 R1 E1 M1 h1 => seq E1 R1 h1 fun l S2 l' μ2 H2 _ r2 R2 E2 M2 h2 => seq E2 R2 h2 fun u S3 u' μ3 H3 _ r3 R3 E3 M3 h3 => by
      obtain rfl : l = l' := r2
      obtain rfl : u = u' := r3
      obtain ⟨z, e, q⟩ := Post.of h3
      exact ⟨μ3, S3, d, z, DR.mono (M2.trans M3) r1, R3, e, q⟩
/-! ### arguments, displays -/
theorem px_nil : PA X [] (TAo X.K A W fun _ s => .ok [] s) := PA.imp pa_nil fun σ H Q ⟨env, S, μ, E, R, h⟩ => h [] μ H .nil R (Mo.refl _ _)
theorem px_cons {es : List Expr} (ha : PE X a (TEo X.K A W ma)) (hp : plainE a = true) (hs : PA X es (TAo X.K A W mas)) : PA X (a :: es) (TAo X.K A W fun env s => (ma env s).bind fun d s1 => (mas env s1).bind fun ds s2 => .ok (d :: ds) s2) :=
  PA.imp (pa_cons ha hs (starE hp)) fun σ H Q ⟨env, S, μ, E, R, h⟩ =>
    seq E R h fun d S1 x μ1 H1 _ r1 R1 E1 M1 h1 => seq E1 R1 h1 fun ds S2 xs μ2 H2 _ r2 R2 E2 M2 h2 => h2 (x :: xs) μ2 H2 (.cons (DR.mono M2 r1) r2) R2 (Mo.refl _ _)
theorem lenOk_le {n : Nat} (h : lenOk n = true) : n ≤ sizeLine := by simpa [lenOk] using h
theorem px_tup {es : List Expr} {k : Nat} (hs : PA X es (TAo X.K A W mas)) : PE X (.Tuple es k pos) (TEo X.K A W fun env s => (mas env s).bind fun ds s1 => if lenOk ds.length then .ok (.tup ds) s1 else .stuck) :=
  PE.imp (pe_tup hs) fun σ H Q ⟨env, S, μ, E, R, h⟩ => seq E R h fun ds S1 xs μ1 H1 _ r1 R1 E1 M1 h1 => by
    by_cases hl : lenOk ds.length = true
    · rw [if_pos hl] at h1
      refine ⟨by rw [DRs.length r1]; exact lenOk_le hl, fun p hp => ?_⟩
      obtain ⟨z1, z2, z3⟩ := new_tup R1 r1 hp
      exact h1 _ _ _ z1 z2 z3
    · rw [if_neg hl] at h1
      exact h1.elim
theorem px_lst {es : List Expr} (hs : PA X es (TAo X.K A W mas)) : PE X (.List es pos) (TEo X.K A W fun env s => (mas env s).bind fun ds s1 => if lenOk ds.length then .ok (.tl ds) s1 else .stuck) :=
  PE.imp (pe_lst hs) fun σ H Q ⟨env, S, μ, E, R, h⟩ => seq E R h fun ds S1 xs μ1 H1 _ r1 R1 E1 M1 h1 => by
    by_cases hl : lenOk ds.length = true
    · rw [if_pos hl] at h1
      refine ⟨by rw [DRs.length r1]; exact lenOk_le hl, fun p hp => ?_⟩
      obtain ⟨z1, z2, z3⟩ := new_tl R1 r1 hp
      exact h1 _ _ _ z1 z2 z3
    · rw [if_neg hl] at h1
      exact h1.elim
theorem box_fin {K : PySem.W.Frag} {σ : L2.St} {μ : Mu} {H : Hp} {S : Hs} {ds : List D} {vs : List V} {Q : VK} {p : Addr} (R : HR K A μ S H) (r : DRs K A μ H ds vs) (hp : H p = none) (h : Post (ReD K A) K A W σ μ H Q (.ok (.ref S.length) (S ++ [.lst ds]))) : Q (.ref p) (upd H p (.lst vs)) := by
  refine h (.ref p) (μ.add p) _ (.ref ?_) (R.place hp (.lst r)) (Mo.place hp)
  exact Mu.add_at R
theorem px_lstB {es : List Expr} (hs : PA X es (TAo X.K A W mas)) : PE X (.List es pos) (TEo X.K A W (boxed fun env s => (mas env s).bind fun ds s1 => if lenOk ds.length then .ok (.tl ds) s1 else .stuck)) :=
  PE.imp (pe_lst hs) fun σ H Q ⟨env, S, μ, E, R, h⟩ => by
    have e : boxed (fun env s => (mas env s).bind fun ds s1 => if lenOk ds.length then .ok (.tl ds) s1 else .stuck) env S = (mas env S).bind fun ds s1 => if lenOk ds.length then .ok (.ref s1.length) (s1 ++ [.lst ds]) else .stuck := by
      unfold boxed
      dsimp only
      cases mas env S with
      | stuck => rfl
      | err c fs s => rfl
      | ok ds s1 =>
        simp only [Res.bind_ok]
        split <;> rfl
    rw [e] at h
    exact seq E R h fun ds S1 xs μ1 H1 _ r1 R1 E1 M1 h1 => by
      by_cases hl : lenOk ds.length = true
      · rw [if_pos hl] at h1
        exact ⟨by rw [DRs.length r1]; exact lenOk_le hl, fun p hp => box_fin R1 r1 hp h1⟩
      · rw [if_neg hl] at h1
        exact h1.elim
/-! ### attributes -/
variable {T : Tb} {G : Gi} {wf k : Nat}
theorem px_attr (g : Gd T G wf A k X W) {f : Nat} {x : Str} (ha : PE X a (TEo X.K A W ma)) (hf : G.flds[f]? = some x) (hb : noSuper a = true) :
    PE X (.Attribute a x pos) (TEo X.K A W fun env s => (ma env s).bind fun x s1 => match x with
      | .ref n => match s1[n]? with
        | some (.ins _ fs) => Res.of (fs.lookup f) s1
        | _ => .stuck
      | _ => .stuck) :=
  PE.imp (pe_fld ha (base_of hb)) fun σ H Q ⟨env, S, μ, E, R, h⟩ => seq E R h fun d S1 y μ1 H1 _ r1 R1 E1 M1 h1 => by
    cases d with
    | ref n =>
      dsimp only at h1
      split at h1
      · rename_i c fs hs
        obtain ⟨z, e, q⟩ := Post.of h1
        cases r1 with
        | ref hn =>
          obtain ⟨ho, h2, h3⟩ := R1.obj _ _ _ hs hn
          cases h3 with
          | @ins _ C dx _ vs hc r =>
            have hx := g.kn.fld f x hf
            subst hx
            obtain ⟨v, e2, r2⟩ := r.look g.kn.inj e
            exact ⟨_, C, dx, vs, v, rfl, h2, g.kn.cls c C hc, g.kn.noat c C f _ hc hf, e2, q v μ1 H1 r2 R1 (Mo.refl _ _)⟩
      · exact h1.elim
    | _ => exact h1.elim

/-! ### calls -/
theorem sp_of {K : PySem.W.Frag} {σ : L2.St} {μ : Mu} {H : Hp} {S : Hs} {ds : List D} {vs : List V} {Q : VK} {g : Nat} (r : DRs K A μ H ds vs) (R : HR K A μ S H) (h : Post (ReD K A) K A W σ μ H Q (runFn T wf k g ds S)) :
    spOf T wf K A k g vs H Q (WE W σ) := by
  refine ⟨ds, S, μ, r, R, ?_⟩
  cases e : runFn T wf k g ds S with
  | stuck => rw [e] at h; exact h
  | ok d S' => rw [e] at h; exact h
  | err c fs S' => rw [e] at h; exact h
theorem px_call (g : Gd T G wf A k X W) {f : Nat} {x : Str} {es : List Expr} {p : Pos} (hf : G.fns[f]? = some x) (hx : isGl X.env.scope x = true) (hs : PA X (e :: es) (TAo X.K A W mas)) (hp : (e :: es).all plainE = true) :
    PE X (.Call (.Name x p) (e :: es) [] pos) (TEo X.K A W fun env s => (mas env s).bind fun ds s1 => runFn T wf k f ds s1) := by
  obtain ⟨a, h1, h2⟩ := g.kn.glob f x hf
  obtain ⟨fn, h3, ⟨fd, ps, hb, hl, F⟩, kp⟩ := g.kn.afn f a h1
  obtain ⟨gx, dbg, _⟩ := isGl_ok hx
  have hr : Room (2 * k) X.A := g.room.mono (by omega)
  rw [List.all_cons, Bool.and_eq_true] at hp
  exact PE.imp (pe_callS (E := WE W) F hr gx h2 kp hb (passAt g.takes) hs dbg (starE hp.1) (plain_any hp.2)) fun σ H Q ⟨env, S, μ, E, R, h⟩ =>
    seq E R h fun ds S1 xs μ1 H1 _ r1 R1 E1 M1 h1 => sp_of r1 R1 h1
theorem px_call0 (g : Gd T G wf A k X W) {f : Nat} {x : Str} {p : Pos} (hf : G.fns[f]? = some x) (hx : isGl X.env.scope x = true) :
    PE X (.Call (.Name x p) [] [] pos) (TEo X.K A W fun env s => runFn T wf k f [] s) := by
  obtain ⟨a, h1, h2⟩ := g.kn.glob f x hf
  obtain ⟨fn, h3, ⟨fd, ps, hb, hl, F⟩, kp⟩ := g.kn.afn f a h1
  obtain ⟨gx, dbg, _⟩ := isGl_ok hx
  have hr : Room (2 * k) X.A := g.room.mono (by omega)
  refine ⟨fun pins s σ H Q I h => ?_⟩
  obtain ⟨env, S, μ, E, R, h⟩ := h
  refine wpAny_Call_Name_kw (ld_glob I gx h2 ?_ dbg)
  exact PySem.W.callWith_K0 I.kIn kp (run_fnS (E := WE W) (us := []) F hr hb (passAt g.takes σ) I .nil (sp_of .nil R h))
/-- a call of a name that holds a function -/
theorem px_callv (g : Gd T G wf A k X W) {i : Nat} {x : Str} {es : List Expr} {p : Pos} (hN : X.N[i]? = some x) (hv : isVis X.env.scope x = true) (hs : PA X (e :: es) (TAo X.K A W mas)) (hp : (e :: es).all plainE = true) :
    PE X (.Call (.Name x p) (e :: es) [] pos) (TEo X.K A W fun env s => match env[i]? with
      | some (some (.fn g)) => (mas env s).bind fun ds s1 => runFn T wf k g ds s1
      | _ => .stuck) := by
  obtain ⟨vis, dbg, cdb⟩ := isVis_ok hv
  have hr : Room (2 * k) X.A := g.room.mono (by omega)
  rw [List.all_cons, Bool.and_eq_true] at hp
  refine ⟨fun pins s σ H Q I h => ?_⟩
  obtain ⟨env, S, μ, E, R, h⟩ := h
  dsimp only at h
  split at h
  · rename_i f hd
    obtain ⟨v, h4, r⟩ := E.at_ i _ hd
    cases r with
    | @fn _ a h1 =>
      obtain ⟨fn, h3, ⟨fd, ps, hb, hl, F⟩, kp⟩ := g.kn.afn f a h1
      refine wpAny_Call_Name_kw (thn ((pe_var (pos := p) hN vis dbg cdb).run pins s σ H (fun v H1 => v = .ref a ∧ H1 = H) I ⟨.ref a, h4, rfl, rfl⟩) fun u s1 hh => ?_)
      obtain ⟨v, H1, I1, r1, rfl, rfl⟩ := hh
      cases r1
      refine PySem.W.callWith_K (h₀ := X.base) I.ok.mod.kin kp (thn (hs.run pos pins s1 σ _ _ I1 (seq (k := fun vs H' => spOf T wf X.K A k f vs H' Q (WE W σ)) E R h fun ds S1 xs μ1 H1 _ r1 R1 E1 M1 h1 => sp_of r1 R1 h1)) fun us s2 hh => ?_) (starE hp.1) (plain_any hp.2)
      obtain ⟨vs, H2, I2, r, q⟩ := hh
      exact ⟨I2.kIn, run_fnS (E := WE W) F hr hb (passAt g.takes σ) I2 r q⟩
  · exact h.elim
theorem all_star {es : List Expr} {pos : Pos} {env : PySem.Env} (h : es.all plainE = true) : (backTo pos (starEach es env)).all (fun x => !x.1) = true := by
  have z := plain_any (pos := pos) (env := env) h
  rw [List.any_eq_false] at z
  rw [List.all_eq_true]
  intro x hx
  simpa using z x hx
theorem meth_ht {o : Expr} {m : Str} {apos pos : Pos} {es : List Expr} {env : PySem.Env} (hb : noSuper o = true) (hp : es.all plainE = true) (hn : es.length < 30) (hl : (apos.endLine == pos.line) = true) :
    eval (.Call (.Attribute o m apos) es [] pos) env = (do
      let ov ← eval o env
      standAt apos.atName
      let (f, first) ← holding [ov] (getMethod ov m (do return (← importBound o env).getD true))
      callWith pos f first (backTo pos (starEach es env)) (backToKw pos (keywordEach [] env))) := by
  show (do
    let ov ← attributeBase o m env (eval o env)
    standAt apos.atName
    methodCall o m apos pos env ov (es.length + 0) (backTo pos (starEach es env)) (backToKw pos (keywordEach [] env))) = _
  rw [base_of hb]
  have hf : methodCallForm (es.length + 0) (backTo pos (starEach es env)) (backToKw pos (keywordEach [] env)) = true := by
    unfold methodCallForm
    rw [all_star hp]
    show (true && true && decide (es.length + 0 + 0 < 30)) = true
    simpa using hn
  unfold methodCall
  rw [hf]
  unfold calleeOf methodCallPos
  rw [hl]
  rfl
/-- o.m(..), o an instance -/
theorem px_meth (g : Gd T G wf A k X W) {m : Nat} {x : Str} {es : List Expr} {apos : Pos} (hm : G.meths[m]? = some x) (ha : PE X a (TEo X.K A W ma)) (hb : noSuper a = true) (hs : PA X (e :: es) (TAo X.K A W mas)) (hp : (e :: es).all plainE = true)
    (hn : (e :: es).length < 30) (hl : (apos.endLine == pos.line) = true) :
    PE X (.Call (.Attribute a x apos) (e :: es) [] pos) (TEo X.K A W fun env s => (ma env s).bind fun x s1 => match x with
      | .ref n => match s1[n]? with
        | some (.ins c _) => match (T.clss[c]?).bind (·.lookup m) with
          | some g => (mas env s1).bind fun ds s2 => runFn T wf k g (.ref n :: ds) s2
          | none => .stuck
        | _ => .stuck
      | _ => .stuck) := by
  have hr : Room (2 * k) X.A := g.room.mono (by omega)
  have ht := meth_ht (m := x) (env := X.env) hb hp hn hl
  rw [List.all_cons, Bool.and_eq_true] at hp
  refine ⟨fun pins s σ H Q I h => ?_⟩
  obtain ⟨env, S, μ, E, R, h⟩ := h
  refine PySem.W.methodCall_KW (thn (ha.run pins s σ H (fun v H1 => ∃ (p C dx : Addr) (fs : List (Str × V)) (f fa : Nat → Addr) (gf : Nat) (aa : Addr), v = .ref p ∧ H1 p = some (.ins C dx fs) ∧ Cls X.K C ∧ A.fn gf = some aa ∧ Meth X.K C x aa ∧ fs.lookup x = none ∧
      TAo X.K A W mas σ H1 fun vs H2 => spOf T wf X.K A k gf (.ref p :: vs) H2 Q (WE W σ)) I (seq E R h fun d S1 y μ1 H1 _ r1 R1 E1 M1 h1 => ?_)) fun u s1 hh => ?_) ht
  · cases d with
    | ref n =>
      dsimp only at h1
      split at h1
      · rename_i c fs0 hs0
        split at h1
        · rename_i gf hgf
          cases r1 with
          | ref hn1 =>
            obtain ⟨ho, h2, h3⟩ := R1.obj _ _ _ hs0 hn1
            cases h3 with
            | @ins _ C dx _ vs hc r =>
              cases ec : T.clss[c]? with
              | none => rw [ec] at hgf; cases hgf
              | some ms =>
                rw [ec] at hgf
                obtain ⟨aa, h4, h5⟩ := g.kn.meth c C ms m gf x hc ec hgf hm
                refine ⟨_, C, dx, vs, fun _ => 0, fun _ => 0, gf, aa, rfl, h2, g.kn.cls c C hc, h4, h5, r.no (g.kn.mfld m x hm), ?_⟩
                exact seq E1 R1 h1 fun ds S2 xs μ2 H2 _ r2 R2 E2 M2 h2 => sp_of (.cons (.ref (M2.get hn1)) r2) R2 h2
        · exact h1.elim
      · exact h1.elim
    | _ => exact h1.elim
  · obtain ⟨v, H1, I1, r1, p, C, dx, fs, _, _, gf, aa, rfl, h2, hc, h4, hM, h6, q⟩ := hh
    obtain rfl : u = Value.ref p := r1
    obtain ⟨fn, h3, ⟨fd, ps, hb, hl, F⟩, kp⟩ := g.kn.afn gf aa h4
    refine getmeth_ok I1 h2 hc hM h6 ?_
    refine PySem.W.callWith_K (first := [.ref p]) (h₀ := X.base) I.ok.mod.kin hM.kp (thn (hs.run pos pins s1 σ H1 _ I1 q) fun us s2 hh => ?_) (starE hp.1) (plain_any hp.2)
    obtain ⟨vs, H2, I2, r, q2⟩ := hh
    exact ⟨I2.kIn, run_fnS (E := WE W) (us := .ref p :: us) (vs := .ref p :: vs) F hr hb (passAt g.takes σ) I2 (.cons rfl r) q2⟩
theorem px_meth0 (g : Gd T G wf A k X W) {m : Nat} {x : Str} {apos : Pos} (hm : G.meths[m]? = some x) (ha : PE X a (TEo X.K A W ma)) (hb : noSuper a = true) (hl : (apos.endLine == pos.line) = true) :
    PE X (.Call (.Attribute a x apos) [] [] pos) (TEo X.K A W fun env s => (ma env s).bind fun x s1 => match x with
      | .ref n => match s1[n]? with
        | some (.ins c _) => match (T.clss[c]?).bind (·.lookup m) with
          | some g => runFn T wf k g [.ref n] s1
          | none => .stuck
        | _ => .stuck
      | _ => .stuck) := by
  have hr : Room (2 * k) X.A := g.room.mono (by omega)
  have ht := meth_ht (m := x) (es := []) (env := X.env) (pos := pos) hb rfl (by decide) hl
  refine ⟨fun pins s σ H Q I h => ?_⟩
  obtain ⟨env, S, μ, E, R, h⟩ := h
  refine PySem.W.methodCall_KW (thn (ha.run pins s σ H (fun v H1 => ∃ (p C dx : Addr) (fs : List (Str × V)) (gf : Nat) (aa : Addr), v = .ref p ∧ H1 p = some (.ins C dx fs) ∧ Cls X.K C ∧ A.fn gf = some aa ∧ Meth X.K C x aa ∧ fs.lookup x = none ∧
      spOf T wf X.K A k gf [.ref p] H1 Q (WE W σ)) I (seq E R h fun d S1 y μ1 H1 _ r1 R1 E1 M1 h1 => ?_)) fun u s1 hh => ?_) ht
  · cases d with
    | ref n =>
      dsimp only at h1
      split at h1
      · rename_i c fs0 hs0
        split at h1
        · rename_i gf hgf
          cases r1 with
          | ref hn1 =>
            obtain ⟨ho, h2, h3⟩ := R1.obj _ _ _ hs0 hn1
            cases h3 with
            | @ins _ C dx _ vs hc r =>
              cases ec : T.clss[c]? with
              | none => rw [ec] at hgf; cases hgf
              | some ms =>
                rw [ec] at hgf
                obtain ⟨aa, h4, h5⟩ := g.kn.meth c C ms m gf x hc ec hgf hm
                exact ⟨_, C, dx, vs, gf, aa, rfl, h2, g.kn.cls c C hc, h4, h5, r.no (g.kn.mfld m x hm), sp_of (.cons (.ref hn1) .nil) R1 h1⟩
        · exact h1.elim
      · exact h1.elim
    | _ => exact h1.elim
  · obtain ⟨v, H1, I1, r1, p, C, dx, fs, gf, aa, rfl, h2, hc, h4, hM, h6, q⟩ := hh
    obtain rfl : u = Value.ref p := r1
    obtain ⟨fn, h3, ⟨fd, ps, hb, hl, F⟩, kp⟩ := g.kn.afn gf aa h4
    refine getmeth_ok I1 h2 hc hM h6 ?_
    exact PySem.W.callWith_K0 (first := [.ref p]) I1.kIn hM.kp (run_fnS (E := WE W) (us := [.ref p]) (vs := [.ref p]) F hr hb (passAt g.takes σ) I1 (.cons rfl .nil) q)
/-- a new instance; what its __init__ raises is wished for at these slots -/
theorem run_makeS {CX : CXT} {kk : Nat} {f C : Addr} {fd : FuncData} {ps : List Str} {sp : Sp} {E : XK} {pins : List (Addr × Obj)} {σ : L2.St} {H : Hp} {s : Shared} {Q : VK} {us : List Value} {vs : List V} (M : Mk X.K C f) (F : FnOk X.prog X.w X.K X.mg X.base CX kk f fd ps sp) (hr : Room (kk + 1) X.A) (hb : Binds X.K fd ps [])
    (hx : PassesAt CX X σ E) (I : Inv X pins σ H s) (r : Vals vs us)
    (h : ∀ x dx, H x = none → H dx = none → dx ≠ x → sp (.ref x :: vs) (upd (upd H dx (.own x)) x (.ins C dx [])) (fun v H2 => v = .non ∧ Q (.ref x) H2) E) :
    wpAny (model X.prog X.w) X.A (PySem.call (.ref C) us) (EP X pins σ Q) X.xe s := by
  have hq := h (s.heap.objs.size + 1) s.heap.objs.size (I.hok.fresh (Nat.le_succ _)) (I.hok.fresh (Nat.le_refl _)) (Nat.ne_of_lt (Nat.lt_succ_self _))
  have I2 := Inv.made (C := C) I
  have r2 : Vals (V.ref (s.heap.objs.size + 1) :: vs) (Value.ref (s.heap.objs.size + 1) :: us) := .cons rfl r
  have hl : (Value.ref (s.heap.objs.size + 1) :: us ++ []).length = ps.length := by
    have e := r2.length
    rw [F.len _ _ _ _ hq] at e
    rw [List.append_nil]
    exact e.symm
  have hb2 := hb { s with heap := _, toks := _ } (Value.ref (s.heap.objs.size + 1) :: us) I2.kIn hl
  rw [List.append_nil] at hb2
  refine wpAny_call (make_map (f := f) I.kIn M.makes M.init (beq_iff_eq.mp M.fn) (codeAny_mono (F.run _ X.stack _ _ ⟨Value.ref (s.heap.objs.size + 1) :: us, []⟩ (Value.ref (s.heap.objs.size + 1) :: us) _ _ E (hr.make C us [])
    (I2.env0.make C us []) hb2 r2 hq) fun r s' hq' => ?_))
  cases r with
  | error e => exact hx pins _ _ e s' I2 hq'
  | ok fl =>
    cases fl with
    | ret u =>
      obtain ⟨v, H', I3, rv, ev, q3⟩ := I2.after hq'
      subst ev
      exact ⟨rv, ⟨V.ref (s.heap.objs.size + 1), H', I3, rfl, q3⟩⟩
    | next => exact False.elim hq'
    | brk => exact False.elim hq'
    | cont => exact False.elim hq'
theorem made_sp {K : PySem.W.Frag} {σ : L2.St} {μ : Mu} {H : Hp} {S : Hs} {ds : List D} {vs : List V} {Q : VK} {c gi : Nat} {C : Addr} (hc : A.cl c = some C) (hi : T.inits[c]? = some gi) (r : DRs K A μ H ds vs) (R : HR K A μ S H)
    (h : Post (ReD K A) K A W σ μ H Q (madeBy T (runFn T wf k) c ds S)) : ∀ x dx, H x = none → H dx = none → dx ≠ x → spOf T wf K A k gi (.ref x :: vs) (upd (upd H dx (.own x)) x (.ins C dx [])) (fun v H2 => v = .non ∧ Q (.ref x) H2) (WE W σ) := by
  intro x dx hx hd hne
  have m1 : Mo μ H μ (upd H dx (.own x)) := Mo.new hd
  have hx1 : upd H dx (.own x) x = none := by rw [upd_ne hne.symm]; exact hx
  have m2 : Mo μ (upd H dx (.own x)) (μ.add x) (upd (upd H dx (.own x)) x (.ins C dx [])) := Mo.place hx1
  have M := m1.trans m2
  have R2 := (R.new (o := .own x) hd).place (g := .ins c []) (o := .ins C dx []) hx1 (.ins hc .nil)
  have e0 : (μ.add x).tr[S.length]? = some x := Mu.add_at R
  refine ⟨.ref S.length :: ds, S ++ [.ins c []], μ.add x, .cons (.ref e0) (r.mono M), R2, ?_⟩
  unfold madeBy at h
  rw [hi] at h
  dsimp only at h
  cases e : runFn T wf k gi (.ref S.length :: ds) (S ++ [.ins c []]) with
  | stuck => rw [e] at h; exact h.elim
  | err c2 fs S' =>
    rw [e] at h
    exact fun cl dx2 μ' H' X1 R1 M1 => h cl dx2 μ' H' X1 R1 (M.trans M1)
  | ok d S' =>
    rw [e] at h
    cases d with
    | non =>
      intro v μ' H' r1 R1 M1
      cases r1
      exact ⟨rfl, h (.ref x) μ' H' (.ref (M1.get e0)) R1 (M.trans M1)⟩
    | _ => exact h.elim
theorem px_make (g : Gd T G wf A k X W) {c : Nat} {x : Str} {es : List Expr} {p : Pos} (hf : G.clss[c]? = some x) (hx : isGl X.env.scope x = true) (hs : PA X (e :: es) (TAo X.K A W mas)) (hp : (e :: es).all plainE = true) :
    PE X (.Call (.Name x p) (e :: es) [] pos) (TEo X.K A W fun env s => (mas env s).bind fun ds s1 => madeBy T (runFn T wf k) c ds s1) := by
  obtain ⟨C, gi, a, hc, hm, hi, ha, M⟩ := g.kn.clss c x hf
  obtain ⟨fn, h3, ⟨fd, ps, hb, hl, F⟩, kp⟩ := g.kn.afn gi a ha
  obtain ⟨gx, dbg, _⟩ := isGl_ok hx
  rw [List.all_cons, Bool.and_eq_true] at hp
  refine ⟨fun pins s σ H Q I h => ?_⟩
  obtain ⟨env, S, μ, E, R, h⟩ := h
  refine wpAny_Call_Name_kw (ld_glob I gx hm ?_ dbg)
  refine PySem.W.callWith_K (h₀ := X.base) I.ok.mod.kin M.kp (thn (hs.run pos pins s σ H _ I (seq (k := fun vs H' => ∀ x dx, H' x = none → H' dx = none → dx ≠ x → spOf T wf X.K A k gi (.ref x :: vs) (upd (upd H' dx (.own x)) x (.ins C dx [])) (fun v H2 => v = .non ∧ Q (.ref x) H2) (WE W σ)) E R h fun ds S1 xs μ1 H1 _ r1 R1 E1 M1 h1 => made_sp hc hi r1 R1 h1)) fun us s1 hh => ?_) (starE hp.1) (plain_any hp.2)
  obtain ⟨vs, H1, I1, r, q⟩ := hh
  exact ⟨I1.kIn, run_makeS M F g.room hb (passAt g.takes σ) I1 r q⟩
theorem px_make0 (g : Gd T G wf A k X W) {c : Nat} {x : Str} {p : Pos} (hf : G.clss[c]? = some x) (hx : isGl X.env.scope x = true) :
    PE X (.Call (.Name x p) [] [] pos) (TEo X.K A W fun env s => madeBy T (runFn T wf k) c [] s) := by
  obtain ⟨C, gi, a, hc, hm, hi, ha, M⟩ := g.kn.clss c x hf
  obtain ⟨fn, h3, ⟨fd, ps, hb, hl, F⟩, kp⟩ := g.kn.afn gi a ha
  obtain ⟨gx, dbg, _⟩ := isGl_ok hx
  refine ⟨fun pins s σ H Q I h => ?_⟩
  obtain ⟨env, S, μ, E, R, h⟩ := h
  refine wpAny_Call_Name_kw (ld_glob I gx hm ?_ dbg)
  exact PySem.W.callWith_K0 I.kIn M.kp (run_makeS (us := []) M F g.room hb (passAt g.takes σ) I .nil (made_sp hc hi .nil R h))
/-! ### built-in functions -/
theorem px_bi (g : Gd T G wf A k X W) {b : Bi} {f : Value} {x : Str} {es : List Expr} {p : Pos} (hc : CallR X f (rC X.K A b)) (hf : (∃ id, f = .builtin id) ∨ ∃ t, f = .type t) (hv : bootBuiltins x = some f) (hm : X.mg x = none) (hx : isGl X.env.scope x = true)
    (hs : PA X (e :: es) (TAo X.K A W mas)) (hp : (e :: es).all plainE = true) :
    PE X (.Call (.Name x p) (e :: es) [] pos) (TEo X.K A W fun env s => (mas env s).bind fun ds s1 => Res.of (bifun s1 b ds) s1) := by
  obtain ⟨gx, dbg, nm⟩ := isGl_ok hx
  rw [List.all_cons, Bool.and_eq_true] at hp
  have fin : ∀ σ H Q, TEo X.K A W (fun env s => (mas env s).bind fun ds s1 => Res.of (bifun s1 b ds) s1) σ H Q → tCB (rC X.K A b) (TAo X.K A W mas) σ H Q := fun σ H Q ⟨env, S, μ, E, R, h⟩ =>
    seq E R h fun ds S1 xs μ1 H1 _ r1 R1 E1 M1 h1 => by
      obtain ⟨d, e, q⟩ := Post.of h1
      exact ⟨μ1, S1, ds, d, r1, R1, e, q⟩
  rcases hf with ⟨id, rfl⟩ | ⟨t, rfl⟩
  · exact PE.imp (pe_callB hc gx hm hv hs nm dbg (starE hp.1) (plain_any hp.2)) fin
  · exact PE.imp (pe_callTy hc gx hm hv hs nm dbg (starE hp.1) (plain_any hp.2)) fin
end
end CN
set_option Elab.async false
set_option linter.all false
set_option maxRecDepth 100000
set_option maxHeartbeats 2000000
/-! CnExpr3: isinstance, methods of built-in objects, targets, what is walked. -/
namespace CN
open PySem PyProof.Rows L2

section
variable {X : Cx} {A : Ad} {W : WX} {a b e : Expr} {ma mb : CN.Env → Hs → Res D} {mas : CN.Env → Hs → Res (List D)} {pos : Pos} {T : Tb} {G : Gi} {wf k : Nat}
theorem boot_cl {cl : String} (h : cl ∈ ["int", "bool", "str", "tuple", "list"]) : bootBuiltins (Str.ofString cl) = some (.type cl) := by
  have z : ∀ c ∈ ["int", "bool", "str", "tuple", "list"], bootBuiltins (Str.ofString c) = some (.type c) := by decide +kernel
  exact z cl h
theorem cl_blt {cl : String} (h : cl ∈ ["int", "bool", "str", "tuple", "list"]) : Str.ofString cl ∈ (["len", "int", "tuple", "list", "all", "any", "sum", "max", "min", "abs", "isinstance", "range", "zip", "enumerate", "reversed", "bool", "str"] : List Str) := by
  have z : ∀ c ∈ ["int", "bool", "str", "tuple", "list"], Str.ofString c ∈ (["len", "int", "tuple", "list", "all", "any", "sum", "max", "min", "abs", "isinstance", "range", "zip", "enumerate", "reversed", "bool", "str"] : List Str) := by decide +kernel
  exact z cl h
theorem px_isi (g : Gd T G wf A k X W) {cl : String} (hc : cl ∈ ["int", "bool", "str", "tuple", "list"]) {p q : Pos} (hx : isGl X.env.scope "isinstance" = true) (hy : isGl X.env.scope (Str.ofString cl) = true) (ha : PE X a (TEo X.K A W ma)) (hp : plainE a = true) :
    PE X (.Call (.Name "isinstance" p) [a, .Name (Str.ofString cl) q] [] pos) (TEo X.K A W fun env s => (ma env s).bind fun d s1 => Res.of (bifun s1 (.isinst cl) [d]) s1) := by
  obtain ⟨gx, dbg, nm⟩ := isGl_ok hx
  obtain ⟨gy, dbg2, nm2⟩ := isGl_ok hy
  have hm : X.mg "isinstance" = none := g.kn.blt _ (by decide +kernel)
  have hm2 : X.mg (Str.ofString cl) = none := g.kn.blt _ (cl_blt hc)
  refine PE.imp (pe_callB (cR_isi (A := A) cl hc) gx hm boot_isinstance (pa_cons ha (pa_cons (pe_bltn (v := .ty cl) gy hm2 (boot_cl hc) rfl nm2 dbg2) pa_nil (by rfl)) (starE hp)) nm dbg (starE hp) (by rfl)) fun σ H Q ⟨env, S, μ, E, R, h⟩ => ?_
  show TEo X.K A W ma σ H fun x H1 => ∃ y ys, [x, V.ty cl] = [y, .ty cl] ∧ ys = [y] ∧ rC X.K A (.isinst cl) ys H1 Q
  exact seq E R h fun d S1 y μ1 H1 _ r1 R1 E1 M1 h1 => by
    obtain ⟨z, e, q⟩ := Post.of h1
    exact ⟨y, [y], rfl, rfl, μ1, S1, [d], z, .cons r1 .nil, R1, e, q⟩
/-- list(x) that gets a place -/
theorem px_listB (g : Gd T G wf A k X W) {es : List Expr} {p : Pos} (hx : isGl X.env.scope "list" = true) (hs : PA X (e :: es) (TAo X.K A W mas)) (hp : (e :: es).all plainE = true) :
    PE X (.Call (.Name "list" p) (e :: es) [] pos) (TEo X.K A W (boxed fun env s => (mas env s).bind fun ds s1 => Res.of (bifun s1 .list ds) s1)) := by
  obtain ⟨gx, dbg, nm⟩ := isGl_ok hx
  rw [List.all_cons, Bool.and_eq_true] at hp
  refine PE.imp (pe_callTy call_list_of gx (g.kn.blt _ (by decide +kernel)) boot_list hs nm dbg (starE hp.1) (plain_any hp.2)) fun σ H Q ⟨env, S, μ, E, R, h⟩ => ?_
  have e : boxed (fun env s => (mas env s).bind fun ds s1 => Res.of (bifun s1 .list ds) s1) env S = (mas env S).bind fun ds s1 => (Res.of (bifun s1 .list ds) s1).bind fun d s1 => match d with
      | .tl ds => .ok (.ref s1.length) (s1 ++ [.lst ds])
      | _ => .stuck := by
    unfold boxed
    dsimp only
    cases mas env S <;> rfl
  rw [e] at h
  exact seq E R h fun ds S1 xs μ1 H1 _ r1 R1 E1 M1 h1 => by
    cases eb : bifun S1 .list ds with
    | none => rw [eb] at h1; exact h1.elim
    | some d =>
      rw [eb] at h1
      unfold bifun at eb
      split at eb <;> try contradiction
      · rename_i d0 _ _
        obtain ⟨v, rfl, r⟩ := one_inv r1
        cases e1 : seqAt S1 d0 with
        | none => rw [e1] at eb; cases eb
        | some es =>
          rw [e1] at eb
          cases eb
          obtain ⟨a, vs, rfl, h2, h3⟩ := seq_sq R1 r e1
          exact ⟨a, vs, rfl, h2, fun p hp => box_fin R1 h3 hp h1⟩
      all_goals cases eb
/-! ### methods of built-in objects -/
theorem bmTy_list {m : Bm} (hm : m = .append ∨ m = .extend ∨ m = .index) {K : PySem.W.Frag} {μ : Mu} {H : Hp} {S : Hs} {d : D} {v : V} (R : HR K A μ S H) (r : DR K A μ H d v) (h : bmTy S m d = true) : tyV K "list" v H := by
  have z : (lstAt S d).isSome = true := by
    rcases hm with rfl | rfl | rfl <;> exact h
  cases e : lstAt S d with
  | none => rw [e] at z; cases z
  | some ds =>
    obtain ⟨a, vs, rfl, h1, _⟩ := lst_sq R r e
    exact .inl ⟨rfl, vs, .inl h1⟩
theorem bmTy_str {K : PySem.W.Frag} {μ : Mu} {H : Hp} {S : Hs} {d : D} {v : V} (r : DR K A μ H d v) (h : bmTy S .split d = true) : tyV K "str" v H := by
  cases d with
  | str z => cases r; rfl
  | _ => cases h
theorem px_bm0 {m : Bm} {nm : Str} {Ty id : String} {es : List Expr} {apos : Pos} (pa : PlainAttrs Ty) (slot : Slot Ty nm id) (hty : typeOf (.builtin id) = pure (.type "method_descriptor")) (hm : MtR X id (rM X.K A m))
    (ht : ∀ {μ : Mu} {H : Hp} {S : Hs} {d : D} {v : V}, HR X.K A μ S H → DR X.K A μ H d v → bmTy S m d = true → tyV X.K Ty v H)
    (ha : PE X a (TEo X.K A W ma)) (hb : noSuper a = true) (hs : PA X (e :: es) (TAo X.K A W mas)) (hp : (e :: es).all plainE = true) (hn : (e :: es).length < 30) (hl : (apos.endLine == pos.line) = true) :
    PE X (.Call (.Attribute a nm apos) (e :: es) [] pos) (TEo X.K A W fun env s => (ma env s).bind fun x s1 => if bmTy s1 m x then (mas env s1).bind fun ds s2 => bmeth s2 m x ds else .stuck) := by
  have hfew : ((backTo pos (starEach (e :: es) X.env)).all (fun x => !x.1) && (backToKw pos (keywordEach [] X.env)).all (fun x => x.1.isSome)
      && decide ((e :: es).length + ([] : List Keyword).length + (if ([] : List Keyword).isEmpty then 0 else 1) < 30)) = true := by
    rw [all_star hp]
    show (true && true && decide ((e :: es).length + 0 + 0 < 30)) = true
    simpa using hn
  rw [List.all_cons, Bool.and_eq_true] at hp
  refine PE.imp (pe_bm pa slot hty hm ha hs (base_of hb) hfew hl (starE hp.1) (plain_any hp.2)) fun σ H Q ⟨env, S, μ, E, R, h⟩ => seq E R h fun d S1 y μ1 H1 _ r1 R1 E1 M1 h1 => ?_
  by_cases hbt : bmTy S1 m d = true
  · rw [if_pos hbt] at h1
    refine ⟨ht R1 r1 hbt, seq E1 R1 h1 fun ds S2 xs μ2 H2 _ r2 R2 E2 M2 h2 => ?_⟩
    cases eb : bmeth S2 m d ds with
    | stuck => rw [eb] at h2; exact h2.elim
    | err c fs S3 =>
      exfalso
      cases m <;> (unfold bmeth at eb; (repeat' (split at eb)) <;> cases eb)
    | ok d2 S3 =>
      rw [eb] at h2
      exact ⟨μ2, S2, S3, d, d2, ds, DR.mono M2 r1, r2, R2, eb, h2⟩
  · rw [if_neg hbt] at h1
    exact h1.elim
theorem px_bm {m : Bm} {es : List Expr} {apos : Pos} (hok : bmOk m = true) (ha : PE X a (TEo X.K A W ma)) (hb : noSuper a = true) (hs : PA X (e :: es) (TAo X.K A W mas)) (hp : (e :: es).all plainE = true) (hn : (e :: es).length < 30) (hl : (apos.endLine == pos.line) = true) :
    PE X (.Call (.Attribute a (bmName m) apos) (e :: es) [] pos) (TEo X.K A W fun env s => (ma env s).bind fun x s1 => if bmTy s1 m x then (mas env s1).bind fun ds s2 => bmeth s2 m x ds else .stuck) := by
  cases m with
  | append => exact px_bm0 PySem.F.plainAttrs_list PySem.F.slot_list_append PySem.F.type_list_append mR_append (bmTy_list (.inl rfl)) ha hb hs hp hn hl
  | extend => exact px_bm0 PySem.F.plainAttrs_list PySem.F.slot_list_extend PySem.F.type_list_extend mR_extend (bmTy_list (.inr (.inl rfl))) ha hb hs hp hn hl
  | index => exact px_bm0 PySem.F.plainAttrs_list PySem.F.slot_list_index PySem.F.type_list_index mR_index (bmTy_list (.inr (.inr rfl))) ha hb hs hp hn hl
  | split => exact px_bm0 PySem.F.plainAttrs_str PySem.F.slot_str_split PySem.F.type_str_split mR_split (fun _ r h => bmTy_str r h) ha hb hs hp hn hl
  | _ => cases hok

/-! ### targets -/
def tgIdx : Tg → List Nat
  | .nm i => [i]
  | .tp is => is
theorem wipe_set {σ : L2.St} {i : Nat} {x : Option V} : ∀ {own : List Nat}, i ∈ own → wipe (σ.set i x) own = wipe σ own
  | j :: own, h => by
    unfold wipe
    by_cases e : i ∈ own
    · rw [wipe_set e]
    · have ej : i = j := by
        rcases List.mem_cons.mp h with h | h
        · exact h
        · exact absurd h e
      subst ej
      have z : ∀ (l : List Nat) (σ : L2.St), i ∉ l → wipe (σ.set i x) l = (wipe σ l).set i x := by
        intro l
        induction l with
        | nil => intro σ _; rfl
        | cons v vs ih =>
          intro σ hv
          unfold wipe
          rw [ih σ fun q => hv (List.mem_cons_of_mem _ q), List.set_comm _ _ (fun q => hv (by rw [q]; exact List.mem_cons_self))]
      rw [z own σ e, List.set_set]
/-- the names of a target may be stored -/
def StoreOk (X : Cx) (x : Str) : Prop := Loc X.env.scope x ∧ (X.fn x = true ∨ X.env.scope.names.lookup x = some .local)
inductive TgsAt (X : Cx) : List Nat → List Expr → Prop where
  | nil : TgsAt X [] []
  | cons {i : Nat} {x : Str} {p : Pos} {is : List Nat} {es : List Expr} (hi : X.N[i]? = some x) (hs : StoreOk X x) (r : TgsAt X is es) : TgsAt X (i :: is) (.Name x p :: es)
inductive TgAt (X : Cx) : Tg → Expr → Prop where
  | nm {i : Nat} {x : Str} {p : Pos} (hi : X.N[i]? = some x) (hs : StoreOk X x) : TgAt X (.nm i) (.Name x p)
  | tp {is : List Nat} {es : List Expr} {k : Nat} {p : Pos} (r : TgsAt X is es) : TgAt X (.tp is) (.Tuple es k p)
/-- what a target's reading gives -/
def TgR (K : PySem.W.Frag) (A : Ad) (t : Tg) (g : TG) : Prop := ∀ (μ : Mu) (H : Hp) (env env' : CN.Env) (σ : L2.St) (d : D) (v : V) (Q : L2.St → Hp → Prop), ER K A μ H env σ → DR K A μ H d v → assignTg env t d = some env' →
  (∀ σ', ER K A μ H env' σ' → (∀ own : List Nat, (∀ i ∈ tgIdx t, i ∈ own) → wipe σ' own = wipe σ own) → Q σ' H) → g v σ H Q
def gsOf : List Nat → TGs
  | [] => gNil
  | i :: is => gCons (gName i) (gsOf is)
def gOf (K : PySem.W.Frag) : Tg → TG
  | .nm i => gName i
  | .tp is => gTup K is.length (gsOf is)
theorem pgs_of (hN : X.N.Nodup) : ∀ {is : List Nat} {es : List Expr}, TgsAt X is es → (assignEach es X.env).length = is.length ∧ (assignEach es X.env).findIdx? (·.1) = none ∧ PGs X es (gsOf is)
  | _, _, .nil => ⟨rfl, rfl, pgs_nil⟩
  | _, _, .cons (i := i) (x := x) (is := is) hi hs r => by
    obtain ⟨h1, h2, hg⟩ := pgs_of hN r
    refine ⟨by show _ + 1 = _ + 1; rw [h1], ?_, pgs_cons (pg_name hN hi hs.1 hs.2) hg rfl⟩
    show List.findIdx? _ ((false, assign (.Name x _) X.env) :: assignEach _ X.env) = none
    rw [List.findIdx?_cons, h2]
    rfl
theorem tgsR {K : PySem.W.Frag} {μ : Mu} {H : Hp} : ∀ {is : List Nat} {env env' : CN.Env} {σ : L2.St} {ds : List D} {vs : List V} {Q : L2.St → Hp → Prop}, ER K A μ H env σ → DRs K A μ H ds vs → setAll env is ds = some env' →
      (∀ σ', ER K A μ H env' σ' → (∀ own : List Nat, (∀ i ∈ is, i ∈ own) → wipe σ' own = wipe σ own) → Q σ' H) → gsOf is vs σ H Q
  | [], env, env', σ, ds, vs, Q, E, r, e, q => by
    cases ds with
    | nil =>
      cases r
      cases e
      exact ⟨rfl, q σ E fun _ _ => rfl⟩
    | cons => cases e
  | i :: is, env, env', σ, ds, vs, Q, E, rr, e, q => by
    cases ds with
    | nil => cases e
    | cons d ds =>
      cases rr with
      | cons rd rr =>
        refine ⟨_, _, rfl, ?_⟩
        show gsOf is _ (σ.set i (some _)) H Q
        refine tgsR (E.set rd) rr e fun σ' E' hw => q σ' E' fun own ho => ?_
        rw [hw own fun j hj => ho j (List.mem_cons_of_mem _ hj)]
        exact wipe_set (ho i List.mem_cons_self)
theorem setAll_len : ∀ {is : List Nat} {ds : List D} {env env' : CN.Env}, setAll env is ds = some env' → ds.length = is.length
  | [], [], _, _, _ => rfl
  | [], _ :: _, _, _, h => by cases h
  | _ :: _, [], _, _, h => by cases h
  | i :: is, d :: ds, env, env', h => by
    rw [List.length_cons, List.length_cons, setAll_len (is := is) (ds := ds) h]
theorem tgR {K : PySem.W.Frag} {t : Tg} : TgR K A t (gOf K t) := by
  intro μ H env env' σ d v Q E r e q
  cases t with
  | nm i =>
    cases e
    exact q _ (E.set r) fun own ho => wipe_set (ho i List.mem_cons_self)
  | tp is =>
    cases d with
    | tup ds =>
      cases r with
      | @tup _ a vs h r => exact ⟨a, vs, rfl, h.sq, by rw [r.length]; exact setAll_len e, tgsR E r e q⟩
    | _ => cases e
theorem pg_of (hc : X.calm = true) (hN : X.N.Nodup) {t : Tg} {te : Expr} (h : TgAt X t te) : PG X te (gOf X.K t) := by
  cases h with
  | @nm i x p hi hs => exact pg_name hN hi hs.1 hs.2
  | @tp is es kk p r =>
    obtain ⟨h1, h2, hg⟩ := pgs_of hN r
    exact pg_tup hc hg h1 h2
end
end CN
set_option Elab.async false
set_option linter.all false
set_option maxRecDepth 100000
set_option maxHeartbeats 2000000
/-! CnExpr4: what is walked; comprehensions. -/
namespace CN
open PySem PyProof.Rows L2

/-- an iterator that gives ds, as long as St holds -/
structure ItR (K : PySem.W.Frag) (A : Ad) (J : L2.It) (ds : List D) (w : Option (Nat × List D)) (St : Mu → Hp → Prop) : Prop where
  mono : ∀ (μ : Mu) (H : Hp) (S' : Hs) (μ' : Mu) (H' : Hp), St μ H → Mg μ H μ' H' → HR K A μ' S' H' → stays w S' = true → St μ' H'
  go : ∀ (μ : Mu) (H : Hp) (S : Hs) (i : Nat) (d : D), St μ H → HR K A μ S H → ds[i]? = some d → J.go i H ∧ ∀ x H', J.yld i H x H' → DR K A μ H' d x ∧ HR K A μ S H' ∧ Mo μ H μ H'
  stop : ∀ (μ : Mu) (H : Hp) (i : Nat), St μ H → ds.length ≤ i → J.stop i H
abbrev ReIt (K : PySem.W.Frag) (A : Ad) : Rl (List D × Option (Nat × List D)) L2.It := fun μ H p J => ∃ St, ItR K A J p.1 p.2 St ∧ St μ H
abbrev TIo (K : PySem.W.Frag) (A : Ad) (W : WX) (m : CN.Env → Hs → Res (List D × Option (Nat × List D))) : TI := Rd1 (ReIt K A) K A W m

section
variable {K : PySem.W.Frag} {A : Ad}
theorem it_tup {a : Addr} {ds : List D} : ItR K A (Itt K a) ds none (fun μ H => ∃ vs, TupR K μ H a vs ∧ DRs K A μ H ds vs) where
  mono := fun μ H S' μ' H' ⟨vs, h, r⟩ m _ _ => ⟨vs, h.mono m, r.monog m⟩
  go := fun μ H S i d ⟨vs, h, r⟩ R e => by
    obtain ⟨v, h1, h2⟩ := r.get e
    refine ⟨⟨vs, v, h.sq, h1⟩, fun x H' hy => ?_⟩
    obtain ⟨rfl, hx⟩ := hy
    have := hx vs h.sq
    rw [h1] at this
    cases this
    exact ⟨h2, R, Mo.refl _ _⟩
  stop := fun μ H i ⟨vs, h, r⟩ hl => ⟨vs, h.sq, by rw [r.length]; exact hl⟩
theorem it_tl {a : Addr} {ds : List D} : ItR K A (Itl K a) ds none (fun μ H => ∃ vs, LstR μ H a vs ∧ DRs K A μ H ds vs) where
  mono := fun μ H S' μ' H' ⟨vs, h, r⟩ m _ _ => ⟨vs, h.mono m, r.monog m⟩
  go := fun μ H S i d ⟨vs, h, r⟩ R e => by
    obtain ⟨v, h1, h2⟩ := r.get e
    refine ⟨⟨vs, v, h.sq, h1⟩, fun x H' hy => ?_⟩
    obtain ⟨rfl, hx⟩ := hy
    have := hx vs h.sq
    rw [h1] at this
    cases this
    exact ⟨h2, R, Mo.refl _ _⟩
  stop := fun μ H i ⟨vs, h, r⟩ hl => ⟨vs, h.sq, by rw [r.length]; exact hl⟩
theorem it_kl {a : Addr} {ds : List D} : ItR K A (Itl K a) ds none (fun μ H => ∃ vs, KSeq K "list" a vs ∧ DRs K A μ H ds vs) where
  mono := fun μ H S' μ' H' ⟨vs, h, r⟩ m _ _ => ⟨vs, h, r.monog m⟩
  go := fun μ H S i d ⟨vs, h, r⟩ R e => by
    obtain ⟨v, h1, h2⟩ := r.get e
    refine ⟨⟨vs, v, h.sqL, h1⟩, fun x H' hy => ?_⟩
    obtain ⟨rfl, hx⟩ := hy
    have := hx vs h.sqL
    rw [h1] at this
    cases this
    exact ⟨h2, R, Mo.refl _ _⟩
  stop := fun μ H i ⟨vs, h, r⟩ hl => ⟨vs, h.sqL, by rw [r.length]; exact hl⟩
theorem it_ref {a : Addr} {n : Nat} {ds : List D} : ItR K A (Itl K a) ds (some (n, ds)) (fun μ H => ∃ vs, μ.tr[n]? = some a ∧ SqL K H a vs ∧ DRs K A μ H ds vs) where
  mono := fun μ H S' μ' H' ⟨vs, hn, h, r⟩ m R' hs => by
    have hs' : (match S'[n]? with | some (.lst es) => D.eqbs es ds | _ => false) = true := hs
    split at hs'
    · rename_i es he
      have := D.eqbs_eq hs'
      subst this
      have hn' := m.get n a hn
      obtain ⟨ho, h1, h2⟩ := R'.obj _ _ _ he hn'
      cases h2 with
      | lst r' => exact ⟨_, hn', SqL.of h1, r'⟩
    · cases hs'
  go := fun μ H S i d ⟨vs, hn, h, r⟩ R e => by
    obtain ⟨v, h1, h2⟩ := r.get e
    refine ⟨⟨vs, v, h, h1⟩, fun x H' hy => ?_⟩
    obtain ⟨rfl, hx⟩ := hy
    have := hx vs h
    rw [h1] at this
    cases this
    exact ⟨h2, R, Mo.refl _ _⟩
  stop := fun μ H i ⟨vs, hn, h, r⟩ hl => ⟨vs, h, by rw [r.length]; exact hl⟩
theorem it_str {z : Str} : ItR K A (Its z) (signs z) none (fun _ _ => True) where
  mono := fun _ _ _ _ _ h _ _ _ => h
  go := fun μ H S i d _ R e => by
    unfold signs at e
    rw [List.getElem?_map] at e
    cases e1 : z.cps.toList[i]? with
    | none => rw [e1] at e; cases e
    | some c =>
      rw [e1] at e
      cases e
      have hi : i < z.cps.size := by simpa using (List.getElem?_eq_some_iff.mp e1).1
      refine ⟨hi, fun x H' hy => ?_⟩
      obtain ⟨rfl, c', hc, rfl⟩ := hy
      rw [Array.getElem?_toList, hc] at e1
      cases e1
      exact ⟨.str _, R, Mo.refl _ _⟩
  stop := fun μ H i _ hl => by
    unfold signs at hl
    simp at hl
    exact hl
theorem rangeD_get {lo : Int} {n i : Nat} {d : D} (h : (rangeD lo n)[i]? = some d) : i < n ∧ d = .int (lo + (i : Nat)) := by
  unfold rangeD at h
  rw [List.getElem?_map] at h
  cases e1 : (List.range n)[i]? with
  | none => rw [e1] at h; cases h
  | some c =>
    rw [e1] at h
    obtain ⟨hi, e2⟩ := List.getElem?_eq_some_iff.mp e1
    rw [List.length_range] at hi
    rw [List.getElem_range] at e2
    subst e2
    cases h
    exact ⟨hi, rfl⟩
theorem it_range {lo : Int} {n : Nat} : ItR K A (Itr lo n) (rangeD lo n) none (fun _ _ => True) where
  mono := fun _ _ _ _ _ h _ _ _ => h
  go := fun μ H S i d _ R e => by
    obtain ⟨hi, rfl⟩ := rangeD_get e
    refine ⟨hi, fun x H' hy => ?_⟩
    obtain ⟨rfl, rfl⟩ := hy
    exact ⟨.int _, R, Mo.refl _ _⟩
  stop := fun μ H i _ hl => by
    unfold rangeD at hl
    simp at hl
    exact hl
theorem zipD_get : ∀ {xs ys : List D} {i : Nat} {d : D}, (zipD xs ys)[i]? = some d → ∃ x y, xs[i]? = some x ∧ ys[i]? = some y ∧ d = .tup [x, y]
  | [], ys, i, d, h => by simp [zipD] at h
  | x :: xs, [], i, d, h => by simp [zipD] at h
  | x :: xs, y :: ys, 0, d, h => by
    simp [zipD] at h
    exact ⟨x, y, rfl, rfl, h.symm⟩
  | x :: xs, y :: ys, i + 1, d, h => by
    have h' : (zipD xs ys)[i]? = some d := by simpa [zipD] using h
    obtain ⟨a, b, h1, h2, h3⟩ := zipD_get h'
    exact ⟨a, b, by simpa using h1, by simpa using h2, h3⟩
theorem zipD_len : ∀ {xs ys : List D} {i : Nat}, (zipD xs ys).length ≤ i → xs.length ≤ i ∨ ys.length ≤ i
  | [], ys, i, h => .inl (Nat.zero_le _)
  | x :: xs, [], i, h => .inr (Nat.zero_le _)
  | x :: xs, y :: ys, 0, h => by simp [zipD] at h
  | x :: xs, y :: ys, i + 1, h => by
    have h' : (zipD xs ys).length ≤ i := by simpa [zipD] using h
    rcases zipD_len h' with h | h
    · exact .inl (by simpa using h)
    · exact .inr (by simpa using h)
theorem it_zipT {a b : Addr} {xs ys : List D} : ItR K A (RZ.ItzT K a b) (zipD xs ys) none (fun μ H => ∃ vs us, TupR K μ H a vs ∧ TupR K μ H b us ∧ DRs K A μ H xs vs ∧ DRs K A μ H ys us) where
  mono := fun μ H S' μ' H' ⟨vs, us, h, h', r, r'⟩ m _ _ => ⟨vs, us, h.mono m, h'.mono m, r.monog m, r'.monog m⟩
  go := fun μ H S i d ⟨vs, us, h, h', r, r'⟩ R e => by
    obtain ⟨x, y, e1, e2, rfl⟩ := zipD_get e
    obtain ⟨v, h1, h2⟩ := r.get e1
    obtain ⟨u, h3, h4⟩ := r'.get e2
    refine ⟨⟨vs, us, v, u, h.sq, h'.sq, h1, h3⟩, fun z H' hy => ?_⟩
    obtain ⟨t, x', y', rfl, ht, rfl, hx, hy⟩ := hy
    have z1 := hx vs h.sq
    have z2 := hy us h'.sq
    rw [h1] at z1
    rw [h3] at z2
    cases z1
    cases z2
    exact new_tup R (.cons h2 (.cons h4 .nil)) ht
  stop := fun μ H i ⟨vs, us, h, h', r, r'⟩ hl => by
    refine ⟨vs, us, h.sq, h'.sq, ?_⟩
    rw [r.length, r'.length]
    exact zipD_len hl
theorem it_zipL {a b : Addr} {xs ys : List D} : ItR K A (Itz K a b) (zipD xs ys) none (fun μ H => ∃ vs us, LstR μ H a vs ∧ LstR μ H b us ∧ DRs K A μ H xs vs ∧ DRs K A μ H ys us) where
  mono := fun μ H S' μ' H' ⟨vs, us, h, h', r, r'⟩ m _ _ => ⟨vs, us, h.mono m, h'.mono m, r.monog m, r'.monog m⟩
  go := fun μ H S i d ⟨vs, us, h, h', r, r'⟩ R e => by
    obtain ⟨x, y, e1, e2, rfl⟩ := zipD_get e
    obtain ⟨v, h1, h2⟩ := r.get e1
    obtain ⟨u, h3, h4⟩ := r'.get e2
    refine ⟨⟨vs, us, v, u, h.sq, h'.sq, h1, h3⟩, fun z H' hy => ?_⟩
    obtain ⟨t, x', y', rfl, ht, rfl, hx, hy⟩ := hy
    have z1 := hx vs h.sq
    have z2 := hy us h'.sq
    rw [h1] at z1
    rw [h3] at z2
    cases z1
    cases z2
    exact new_tup R (.cons h2 (.cons h4 .nil)) ht
  stop := fun μ H i ⟨vs, us, h, h', r, r'⟩ hl => by
    refine ⟨vs, us, h.sq, h'.sq, ?_⟩
    rw [r.length, r'.length]
    exact zipD_len hl
theorem enumD_get : ∀ {xs : List D} {k i : Nat} {d : D}, (enumD k xs)[i]? = some d → ∃ x, xs[i]? = some x ∧ d = .tup [.int ((k + i : Nat) : Int), x]
  | [], k, i, d, h => by simp [enumD] at h
  | x :: xs, k, 0, d, h => by
    simp [enumD] at h
    exact ⟨x, rfl, h.symm⟩
  | x :: xs, k, i + 1, d, h => by
    have h' : (enumD (k + 1) xs)[i]? = some d := by simpa [enumD] using h
    obtain ⟨a, h1, h2⟩ := enumD_get h'
    refine ⟨a, by simpa using h1, ?_⟩
    rw [h2, show k + 1 + i = k + (i + 1) by omega]
theorem enumD_len : ∀ {xs : List D} {k : Nat}, (enumD k xs).length = xs.length
  | [], _ => rfl
  | x :: xs, k => by simp [enumD, enumD_len (xs := xs)]
theorem it_enum {a : Addr} {xs : List D} : ItR K A (Ite K a) (enumD 0 xs) none (fun μ H => ∃ vs, LstR μ H a vs ∧ DRs K A μ H xs vs) where
  mono := fun μ H S' μ' H' ⟨vs, h, r⟩ m _ _ => ⟨vs, h.mono m, r.monog m⟩
  go := fun μ H S i d ⟨vs, h, r⟩ R e => by
    obtain ⟨x, e1, rfl⟩ := enumD_get e
    obtain ⟨v, h1, h2⟩ := r.get e1
    refine ⟨⟨vs, v, h.sq, h1⟩, fun z H' hy => ?_⟩
    obtain ⟨t, x', rfl, ht, rfl, hx⟩ := hy
    have z1 := hx vs h.sq
    rw [h1] at z1
    cases z1
    rw [Nat.zero_add]
    exact new_tup R (.cons (.int _) (.cons h2 .nil)) ht
  stop := fun μ H i ⟨vs, h, r⟩ hl => ⟨vs, h.sq, by rw [enumD_len] at hl; rw [r.length]; exact hl⟩
theorem it_rev {a : Addr} {xs : List D} : ItR K A (Itv K a xs.length) xs.reverse none (fun μ H => ∃ vs, LstR μ H a vs ∧ DRs K A μ H xs vs) where
  mono := fun μ H S' μ' H' ⟨vs, h, r⟩ m _ _ => ⟨vs, h.mono m, r.monog m⟩
  go := fun μ H S i d ⟨vs, h, r⟩ R e => by
    have hi : i < xs.length := by simpa using (List.getElem?_eq_some_iff.mp e).1
    rw [List.getElem?_reverse hi] at e
    obtain ⟨v, h1, h2⟩ := r.get e
    refine ⟨⟨hi, vs, v, h.sq, h1⟩, fun z H' hy => ?_⟩
    obtain ⟨rfl, hx⟩ := hy
    have z1 := hx vs h.sq
    rw [h1] at z1
    cases z1
    exact ⟨h2, R, Mo.refl _ _⟩
  stop := fun μ H i _ hl => by
    rw [List.length_reverse] at hl
    exact hl
end

section
variable {X : Cx} {A : Ad} {W : WX} {a b e tg : Expr} {ma mb : CN.Env → Hs → Res D} {pos : Pos} {T : Tb} {G : Gi} {wf k : Nat}
theorem PI.by_ {iter : Expr} {t' : TI} (f : ∀ σ H R, t' σ H R → ∃ t, PI X tg iter t ∧ t σ H R) : PI X tg iter t' := ⟨fun pins s σ H R I q => by
  obtain ⟨t, h, z⟩ := f σ H R q
  exact h.run pins s σ H R I z⟩
theorem pi_seq (ha : PE X a (TEo X.K A W ma)) : PI X tg a (TIo X.K A W fun env s => (ma env s).bind seqI) := by
  refine PI.by_ fun σ H R' hq => ?_
  obtain ⟨env, S, μ, E, R, h⟩ := hq
  cases em : ma env S with
  | stuck =>
    dsimp only at h
    rw [em] at h
    exact h.elim
  | err c fs S1 =>
    refine ⟨_, pi_list ha, env, S, μ, E, R, ?_⟩
    dsimp only at h
    rw [em] at h ⊢
    exact h
  | ok d S1 =>
    have other : ∀ ds, lstAt S1 d = some ds → seqI d S1 = .ok (ds, watchOf d ds) S1 → ∃ t, PI X tg a t ∧ t σ H R' := fun ds hd hs => by
      refine ⟨_, pi_list ha, seq E R h fun d' S' x μ1 H1 e1 r1 R1 E1 M1 h1 => ?_⟩
      rw [em] at e1
      cases e1
      rw [hs] at h1
      cases d with
      | tl es =>
        cases hd
        cases r1 with
        | @tl _ p vs hl r => exact ⟨p, rfl, ⟨vs, hl.sq⟩, h1 _ μ1 H1 ⟨_, it_tl, vs, hl, r⟩ R1 (Mo.refl _ _)⟩
      | ref n =>
        cases r1 with
        | @ref _ p hn =>
          obtain ⟨ho, h2, h3⟩ := R1.obj _ _ _ (lstAt_ref hd) hn
          cases h3 with
          | @lst _ vs r => exact ⟨p, rfl, ⟨vs, SqL.of h2⟩, h1 _ μ1 H1 ⟨_, it_ref, vs, hn, SqL.of h2, r⟩ R1 (Mo.refl _ _)⟩
      | _ => cases hd
    cases d with
    | kl es =>
      refine ⟨_, pi_list ha, seq E R h fun d' S' x μ1 H1 e1 r1 R1 E1 M1 h1 => ?_⟩
      rw [em] at e1
      cases e1
      cases r1 with
      | @kl _ p vs hl r => exact ⟨p, rfl, ⟨vs, hl.sqL⟩, h1 _ μ1 H1 ⟨_, it_kl, vs, hl, r⟩ R1 (Mo.refl _ _)⟩
    | str z =>
      refine ⟨_, pi_str ha, seq E R h fun d' S' x μ1 H1 e1 r1 R1 E1 M1 h1 => ?_⟩
      rw [em] at e1
      cases e1
      cases r1
      exact ⟨z, rfl, h1 _ μ1 H1 ⟨_, it_str, trivial⟩ R1 (Mo.refl _ _)⟩
    | tup ds =>
      refine ⟨_, pi_tup ha, seq E R h fun d' S' x μ1 H1 e1 r1 R1 E1 M1 h1 => ?_⟩
      rw [em] at e1
      cases e1
      cases r1 with
      | @tup _ p vs ht r => exact ⟨p, rfl, ⟨vs, ht.sq⟩, h1 _ μ1 H1 ⟨_, it_tup, vs, ht, r⟩ R1 (Mo.refl _ _)⟩
    | tl ds => exact other ds rfl rfl
    | ref n =>
      cases el : lstAt S1 (.ref n) with
      | some ds =>
        refine other ds el ?_
        show (match lstAt S1 (.ref n) with | some ds => Res.ok (ds, watchOf (.ref n) ds) S1 | none => Res.stuck) = _
        rw [el]
      | none =>
        dsimp only at h
        rw [em] at h
        have : seqI (.ref n) S1 = .stuck := by
          show (match lstAt S1 (.ref n) with | some ds => Res.ok (ds, watchOf (.ref n) ds) S1 | none => Res.stuck) = _
          rw [el]
        simp only [Res.bind_ok, this] at h
        exact h.elim
    | _ =>
      dsimp only at h
      rw [em] at h
      exact h.elim
theorem pi_r1 (g : Gd T G wf A k X W) {p : Pos} (hx : isGl X.env.scope "range" = true) (ha : PE X a (TEo X.K A W ma)) (hp : plainE a = true) :
    PI X tg (.Call (.Name "range" p) [a] [] pos) (TIo X.K A W fun env s => (ma env s).bind range1I) := by
  obtain ⟨gx, _, _⟩ := isGl_ok hx
  refine PI.by_ fun σ H R' hq => ?_
  obtain ⟨env, S, μ, E, R, h⟩ := hq
  refine ⟨_, pi_range1 gx (g.kn.blt _ (by decide +kernel)) (pa_cons ha pa_nil (starE hp)) (starE hp), seq E R h fun d S1 x μ1 H1 e1 r1 R1 E1 M1 h1 => ?_⟩
  unfold range1I at h1
  split at h1
  · rename_i n
    split at h1
    · rename_i hb
      simp only [Bool.and_eq_true, decide_eq_true_eq] at hb
      cases r1
      exact ⟨n, rfl, hb.1, hb.2, h1 _ μ1 H1 ⟨_, it_range, trivial⟩ R1 (Mo.refl _ _)⟩
    · exact h1.elim
  · exact h1.elim
theorem pi_r2 (g : Gd T G wf A k X W) {p : Pos} (hx : isGl X.env.scope "range" = true) (ha : PE X a (TEo X.K A W ma)) (hp : plainE a = true) (hb : PE X b (TEo X.K A W mb)) (hp2 : plainE b = true) :
    PI X tg (.Call (.Name "range" p) [a, b] [] pos) (TIo X.K A W fun env s => (ma env s).bind fun x s1 => (mb env s1).bind fun y s2 => range2I x y s2) := by
  obtain ⟨gx, _, _⟩ := isGl_ok hx
  refine PI.by_ fun σ H R' hq => ?_
  obtain ⟨env, S, μ, E, R, h⟩ := hq
  refine ⟨_, pi_range2 gx (g.kn.blt _ (by decide +kernel)) (pa_cons ha (pa_cons hb pa_nil (starE hp2)) (starE hp)) (by rw [starE hp, starE hp2]; rfl) (starE hp2), seq E R h fun d S1 x μ1 H1 e1 r1 R1 E1 M1 h1 => seq E1 R1 h1 fun d2 S2 y μ2 H2 e2 r2 R2 E2 M2 h2 => ?_⟩
  unfold range2I at h2
  split at h2
  · rename_i m n
    split at h2
    · rename_i hb
      simp only [Bool.and_eq_true, decide_eq_true_eq] at hb
      cases r1; cases r2
      exact ⟨m, n, rfl, ⟨hb.1.1.1, hb.1.1.2, hb.1.2, hb.2⟩, h2 _ μ2 H2 ⟨_, it_range, trivial⟩ R2 (Mo.refl _ _)⟩
    · exact h2.elim
  · exact h2.elim
theorem pi_z (g : Gd T G wf A k X W) {p p2 : Pos} {elts : List Expr} {kk : Nat} (hx : isGl X.env.scope "zip" = true) (ha : PE X a (TEo X.K A W ma)) (hp : plainE a = true) (hb : PE X b (TEo X.K A W mb)) (hp2 : plainE b = true) :
    PI X (.Tuple elts kk p2) (.Call (.Name "zip" p) [a, b] [] pos) (TIo X.K A W fun env s => (ma env s).bind fun x s1 => (mb env s1).bind fun y s2 => zipI x y s2) := by
  obtain ⟨gx, _, _⟩ := isGl_ok hx
  refine PI.by_ fun σ H R' hq => ?_
  obtain ⟨env, S, μ, E, R, h⟩ := hq
  refine ⟨_, RZ.pi_zipA gx (g.kn.blt _ (by decide +kernel)) (pa_cons ha (pa_cons hb pa_nil (starE hp2)) (starE hp)) (starE hp) (plain_any (by simp [hp2])), seq E R h fun d S1 x μ1 H1 e1 r1 R1 E1 M1 h1 => seq E1 R1 h1 fun d2 S2 y μ2 H2 e2 r2 R2 E2 M2 h2 => ?_⟩
  have r1' := DR.mono M2 r1
  unfold zipI at h2
  split at h2
  · cases r1' with
    | @tup _ a1 vs q1 w1 =>
      cases r2 with
      | @tup _ a2 us q2 w2 => exact ⟨a1, a2, vs, us, rfl, .inr ⟨q1.sq, q2.sq, h2 _ μ2 H2 ⟨_, it_zipT, vs, us, q1, q2, w1, w2⟩ R2 (Mo.refl _ _)⟩⟩
  · cases r1' with
    | @tl _ a1 vs q1 w1 =>
      cases r2 with
      | @tl _ a2 us q2 w2 => exact ⟨a1, a2, vs, us, rfl, .inl ⟨q1.sq, q2.sq, h2 _ μ2 H2 ⟨_, it_zipL, vs, us, q1, q2, w1, w2⟩ R2 (Mo.refl _ _)⟩⟩
  · exact h2.elim
theorem pi_en (g : Gd T G wf A k X W) {p p2 : Pos} {elts : List Expr} {kk : Nat} (hx : isGl X.env.scope "enumerate" = true) (ha : PE X a (TEo X.K A W ma)) (hp : plainE a = true) :
    PI X (.Tuple elts kk p2) (.Call (.Name "enumerate" p) [a] [] pos) (TIo X.K A W fun env s => (ma env s).bind enumI) := by
  obtain ⟨gx, _, _⟩ := isGl_ok hx
  refine PI.by_ fun σ H R' hq => ?_
  obtain ⟨env, S, μ, E, R, h⟩ := hq
  refine ⟨_, pi_enum gx (g.kn.blt _ (by decide +kernel)) (pa_cons ha pa_nil (starE hp)) (starE hp), seq E R h fun d S1 x μ1 H1 e1 r1 R1 E1 M1 h1 => ?_⟩
  unfold enumI at h1
  split at h1
  · cases r1 with
    | @tl _ a1 vs q1 w1 => exact ⟨a1, vs, rfl, q1.sq, h1 _ μ1 H1 ⟨_, it_enum, vs, q1, w1⟩ R1 (Mo.refl _ _)⟩
  · exact h1.elim
theorem pi_rv (g : Gd T G wf A k X W) {p : Pos} (hx : isGl X.env.scope "reversed" = true) (ha : PE X a (TEo X.K A W ma)) (hp : plainE a = true) :
    PI X tg (.Call (.Name "reversed" p) [a] [] pos) (TIo X.K A W fun env s => (ma env s).bind revI) := by
  obtain ⟨gx, _, _⟩ := isGl_ok hx
  refine PI.by_ fun σ H R' hq => ?_
  obtain ⟨env, S, μ, E, R, h⟩ := hq
  refine ⟨_, pi_reversed gx (g.kn.blt _ (by decide +kernel)) (pa_cons ha pa_nil (starE hp)) (starE hp), seq E R h fun d S1 x μ1 H1 e1 r1 R1 E1 M1 h1 => ?_⟩
  unfold revI at h1
  split at h1
  · cases r1 with
    | @tl _ a1 vs q1 w1 => 
      refine ⟨a1, vs, rfl, q1.sq, ?_⟩
      rw [DRs.length w1]
      exact h1 _ μ1 H1 ⟨_, it_rev, vs, q1, w1⟩ R1 (Mo.refl _ _)
  · exact h1.elim
end
end CN
set_option Elab.async false
set_option linter.all false
set_option maxRecDepth 100000
set_option maxHeartbeats 2000000
/-! CnExpr5: comprehensions. -/
namespace CN
open PySem PyProof.Rows L2

abbrev W0 : WX := fun _ _ _ _ => False
section
variable {X : Cx} {A : Ad} {W : WX} {T : Tb} {G : Gi} {wf k : Nat}
theorem Gd.blk (g : Gd T G wf A k X W) (s : Shared) (H : Hp) (scope : Scope) (C : Addr) (cl : List (Str × Addr)) (fp : List Addr) : Gd T G wf A k (X.blk s H scope (compEnvC scope cl C X.env) fp) W0 :=
  ⟨g.kn, g.room, g.calm, g.nd, takes0, PassesOwn.never⟩
theorem blk_scope (X : Cx) (s : Shared) (H : Hp) (scope : Scope) (C : Addr) (cl : List (Str × Addr)) (fp : List Addr) : (X.blk s H scope (compEnvC scope cl C X.env) fp).env.scope = relS scope X.env.scope := rfl
theorem wipe_sub {σ : L2.St} {own : List Nat} : ∀ {l : List Nat}, (∀ i ∈ l, i ∈ own) → wipe (wipe σ l) own = wipe σ own
  | [], _ => rfl
  | v :: vs, h => by
    show wipe ((wipe σ vs).set v none) own = _
    rw [wipe_set (h v List.mem_cons_self), wipe_sub fun i hi => h i (List.mem_cons_of_mem _ hi)]
theorem stepC_ok {own : List Nat} {t : Tg} {mc : CN.Env → Hs → Res Bool} {me : CN.Env → Hs → Res D} {env : CN.Env} {d : D} {s' : Hs} {o : Option D} {s2 : Hs} (h : stepC own t mc me env d s' = .ok o s2) :
    ∃ env', assignTg (wipeE env own) t d = some env' ∧ ((∃ s1 v, mc env' s' = .ok true s1 ∧ me env' s1 = .ok v s2 ∧ o = some v) ∨ (mc env' s' = .ok false s2 ∧ o = none)) := by
  unfold stepC at h
  split at h
  · rename_i env' he
    refine ⟨env', he, ?_⟩
    cases e1 : mc env' s' with
    | stuck => rw [e1] at h; cases h
    | err => rw [e1] at h; cases h
    | ok b s1 =>
      rw [e1] at h
      cases b with
      | false => cases h; exact .inr ⟨rfl, rfl⟩
      | true =>
        simp only [Res.bind_ok, if_true] at h
        cases e2 : me env' s1 with
        | stuck => rw [e2] at h; cases h
        | err => rw [e2] at h; cases h
        | ok v s3 =>
          rw [e2] at h
          cases h
          exact .inl ⟨s1, v, rfl, e2, rfl⟩
  · cases h
variable {K : PySem.W.Frag} {σ : L2.St} {env : CN.Env} {own : List Nat} {t : Tg} {mc : CN.Env → Hs → Res Bool} {me : CN.Env → Hs → Res D}
theorem Mo.sub {tr tr' pv pv0 : List Addr} {μ' : Mu} {H H' : Hp} (m : Mo ⟨tr, pv⟩ H μ' H') : Mo ⟨tr, pv0⟩ H ⟨μ'.tr, pv0⟩ H' := ⟨m.pre, rfl, m.keep, m.fresh⟩
theorem Mo.updNew {μ μ' : Mu} {H H' : Hp} {D : Addr} {o : HO} (m : Mo μ H μ' H') (h : H D = none) : Mo μ H μ' (upd H' D o) := ⟨m.pre, m.pv, fun a u e n => by rw [upd_ne (ne_of_none e h)]; exact m.keep a u e n, m.fresh⟩
theorem comp_read {J : L2.It} {ds : List D} {w : Option (Nat × List D)} {St : Mu → Hp → Prop} {μ1 : Mu} {H1 : Hp} {S1 : Hs} {Q : VK} (E1 : ER K A μ1 H1 env σ) (R1 : HR K A μ1 S1 H1) (I : ItR K A J ds w St) (st : St μ1 H1) (hst : stays w S1 = true) (ho : ∀ i ∈ tgIdx t, i ∈ own)
    (h : Post (ReD K A) K A W σ μ1 H1 Q ((loopComp (stepC own t mc me env) w ds [] S1).bind fun ds s2 => .ok (.tl ds) s2)) :
    ∀ D, H1 D = none → ∃ Wn : Nat → Nat → Hp → Prop, (∃ m, Wn 0 m (upd H1 D (.lst []))) ∧ ∀ i m H, Wn i m H →
      (J.stop i H ∧ Q (.ref D) H) ∨ (J.go i H ∧ ∃ Nx : Hp → Prop, (∀ H', Nx H' → ∃ m', m' < m ∧ Wn (i + 1) m' H') ∧ ∀ x H', J.yld i H x H' → gOf K t x (wipe σ own) H' fun σ2 H2 => wipe σ2 own = wipe σ own ∧ TTo K A W0 mc σ2 H2 fun b H3 =>
        if b = true then TEo K A W0 me σ2 H3 fun y H4 => ∃ acc, H4 D = some (.lst acc) ∧ acc.length < sizeLine ∧ Nx (upd H4 D (.lst (acc ++ [y]))) else Nx H3) := by
  intro Da hD
  have nD : Da ∉ μ1 := R1.nin hD
  refine ⟨fun i m H => m = ds.length - i ∧ i ≤ ds.length ∧ ∃ (tr : List Addr) (S : Hs) (acc : List D) (accV : List V), HR K A ⟨tr, Da :: μ1.pv⟩ S H ∧ Mo μ1 H1 ⟨tr, μ1.pv⟩ H ∧ H Da = some (.lst accV) ∧ DRs K A ⟨tr, Da :: μ1.pv⟩ H acc accV ∧ St ⟨tr, Da :: μ1.pv⟩ H ∧
      ER K A ⟨tr, Da :: μ1.pv⟩ H env σ ∧ Post (ReD K A) K A W σ μ1 H1 Q ((loopComp (stepC own t mc me env) w (ds.drop i) acc S).bind fun ds s2 => .ok (.tl ds) s2), ?_, ?_⟩
  · have Mh : Mg μ1 H1 (μ1.hide Da) (upd H1 Da (.lst [])) := Mg.hide hD
    have Rh : HR K A (μ1.hide Da) S1 (upd H1 Da (.lst [])) := R1.hide hD
    exact ⟨_, rfl, Nat.zero_le _, μ1.tr, S1, [], [], Rh, Mo.new hD, upd_same, .nil, I.mono _ _ _ _ _ st Mh Rh hst, E1.monog Mh, by simpa using h⟩
  · rintro i m H ⟨rfl, hi, tr, S, acc, accV, R, M, eD, ra, st, E, h⟩
    by_cases hl : i = ds.length
    · left
      refine ⟨I.stop _ _ _ st (by omega), ?_⟩
      rw [List.drop_of_length_le (by omega)] at h
      have z : DRs K A ⟨tr, μ1.pv⟩ H acc accV := ra.monog (Mg.show_ (μ := ⟨tr, μ1.pv⟩) (p := Da))
      refine h (.ref Da) ⟨tr, μ1.pv⟩ H (.tl ⟨.inl eD, ?_⟩ z) (HR.show_ (μ := ⟨tr, μ1.pv⟩) (p := Da) R) M
      rintro (q | q)
      · exact R.pvn Da List.mem_cons_self q
      · exact nD (.inr q)
    · right
      have hi' : i < ds.length := by omega
      have ed : ds[i]? = some ds[i] := List.getElem?_eq_getElem hi'
      obtain ⟨hgo, hy⟩ := I.go _ H S i ds[i] st R ed
      refine ⟨hgo, fun H' => ∃ m', m' < ds.length - i ∧ m' = ds.length - (i + 1) ∧ i + 1 ≤ ds.length ∧ ∃ (tr : List Addr) (S : Hs) (acc : List D) (accV : List V), HR K A ⟨tr, Da :: μ1.pv⟩ S H' ∧ Mo μ1 H1 ⟨tr, μ1.pv⟩ H' ∧ H' Da = some (.lst accV) ∧ DRs K A ⟨tr, Da :: μ1.pv⟩ H' acc accV ∧ St ⟨tr, Da :: μ1.pv⟩ H' ∧
        ER K A ⟨tr, Da :: μ1.pv⟩ H' env σ ∧ Post (ReD K A) K A W σ μ1 H1 Q ((loopComp (stepC own t mc me env) w (ds.drop (i + 1)) acc S).bind fun ds s2 => .ok (.tl ds) s2), fun H' hN => ?_, fun x H' hyl => ?_⟩
      · obtain ⟨m', h1, h2⟩ := hN
        exact ⟨m', h1, h2⟩
      · obtain ⟨rx, Rx, Mx⟩ := hy x H' hyl
        have edr : ds.drop i = ds[i] :: ds.drop (i + 1) := (List.drop_eq_getElem_cons hi')
        rw [edr] at h
        unfold loopComp at h
        cases es : stepC own t mc me env ds[i] S with
        | stuck => rw [es] at h; exact h.elim
        | err => rw [es] at h; exact h.elim
        | ok o S3 =>
          rw [es] at h
          dsimp only at h
          by_cases hs : stays w S3 = true
          · rw [if_pos hs] at h
            obtain ⟨env', he, hc⟩ := stepC_ok es
            have Eb : ER K A ⟨tr, Da :: μ1.pv⟩ H' (wipeE env own) (wipe σ own) := (E.mono Mx).wipe own
            have fin : ∀ (μ3 : Mu) (H3 : Hp), HR K A μ3 S3 H3 → Mo ⟨tr, Da :: μ1.pv⟩ H μ3 H3 → HR K A ⟨μ3.tr, Da :: μ1.pv⟩ S3 H3 ∧ Mo μ1 H1 ⟨μ3.tr, μ1.pv⟩ H3 ∧ H3 Da = some (.lst accV) ∧ DRs K A ⟨μ3.tr, Da :: μ1.pv⟩ H3 acc accV ∧ St ⟨μ3.tr, Da :: μ1.pv⟩ H3 ∧ ER K A ⟨μ3.tr, Da :: μ1.pv⟩ H3 env σ := by
              intro μ3 H3 R3 M3
              obtain ⟨tr3, pv3⟩ := μ3
              have hpv : pv3 = Da :: μ1.pv := M3.pv
              subst hpv
              exact ⟨R3, M.trans (Mo.sub (tr' := []) M3), M3.keep _ _ eD (R.pvn Da List.mem_cons_self), ra.mono M3, I.mono _ _ _ _ _ st M3.g R3 hs, E.mono M3⟩
            refine tgR _ _ _ _ _ _ _ _ Eb rx he fun σ2 E2 hw => ⟨(hw own ho).trans (wipe_sub fun _ z => z), env', S, ⟨tr, Da :: μ1.pv⟩, E2, Rx, ?_⟩
            rcases hc with ⟨s1, v, h1, h2, rfl⟩ | ⟨h1, rfl⟩
            · rw [h1]
              intro b μ2 H2 hb R2 M2
              obtain rfl : true = b := hb
              refine iteT ⟨env', s1, μ2, E2.mono M2, R2, ?_⟩
              rw [h2]
              intro y μ3 H3 ry R3 M3
              obtain ⟨R4, M4, e4, ra4, st4, E4⟩ := fin μ3 H3 R3 (Mx.trans (M2.trans M3))
              dsimp only at h
              by_cases hz : acc.length < sizeLine
              · rw [if_pos hz] at h
                have hpv : μ3.pv = Da :: μ1.pv := (Mx.trans (M2.trans M3)).pv
                have ry' : DR K A ⟨μ3.tr, Da :: μ1.pv⟩ H3 v y := by rw [← hpv]; exact ry
                have Mo1 : Mg ⟨μ3.tr, Da :: μ1.pv⟩ H3 ⟨μ3.tr, Da :: μ1.pv⟩ (upd H3 Da (.lst (accV ++ [y]))) := Mg.over List.mem_cons_self
                have R5 : HR K A ⟨μ3.tr, Da :: μ1.pv⟩ S3 (upd H3 Da (.lst (accV ++ [y]))) := R4.over List.mem_cons_self
                refine ⟨accV, e4, by rw [DRs.length ra4]; exact hz, _, (show ds.length - (i + 1) < ds.length - i by omega), rfl, hi', μ3.tr, S3, acc ++ [v], accV ++ [y], R5, M4.updNew hD, upd_same, (ra4.append (.cons ry' .nil)).monog Mo1, I.mono _ _ _ _ _ st4 Mo1 R5 hs, E4.monog Mo1, h⟩
              · rw [if_neg hz] at h
                exact h.elim
            · rw [h1]
              intro b μ2 H2 hb R2 M2
              obtain rfl : false = b := hb
              obtain ⟨R4, M4, e4, ra4, st4, E4⟩ := fin μ2 H2 R2 (Mx.trans M2)
              exact iteF ⟨_, (show ds.length - (i + 1) < ds.length - i by omega), rfl, hi', μ2.tr, S3, acc, accV, R4, M4, e4, ra4, st4, E4, h⟩
          · rw [if_neg hs] at h
            exact h.elim
theorem compB_read {J : L2.It} {ds : List D} {w : Option (Nat × List D)} {St : Mu → Hp → Prop} {μ1 : Mu} {H1 : Hp} {S1 : Hs} {Q : VK} (E1 : ER K A μ1 H1 env σ) (R1 : HR K A μ1 S1 H1) (I : ItR K A J ds w St) (st : St μ1 H1) (hst : stays w (S1 ++ [.lst []]) = true) (hw1 : ∀ n es, w = some (n, es) → n ≠ S1.length) (ho : ∀ i ∈ tgIdx t, i ∈ own)
    (h : Post (ReD K A) K A W σ μ1 H1 Q ((loopCompB (stepC own t mc me env) S1.length w ds [] (S1 ++ [.lst []])).bind fun _ s2 => .ok (.ref S1.length) s2)) :
    ∀ D, H1 D = none → ∃ Wn : Nat → Nat → Hp → Prop, (∃ m, Wn 0 m (upd H1 D (.lst []))) ∧ ∀ i m H, Wn i m H →
      (J.stop i H ∧ Q (.ref D) H) ∨ (J.go i H ∧ ∃ Nx : Hp → Prop, (∀ H', Nx H' → ∃ m', m' < m ∧ Wn (i + 1) m' H') ∧ ∀ x H', J.yld i H x H' → gOf K t x (wipe σ own) H' fun σ2 H2 => wipe σ2 own = wipe σ own ∧ TTo K A W0 mc σ2 H2 fun b H3 =>
        if b = true then TEo K A W0 me σ2 H3 fun y H4 => ∃ acc, H4 D = some (.lst acc) ∧ acc.length < sizeLine ∧ Nx (upd H4 D (.lst (acc ++ [y]))) else Nx H3) := by
  intro Da hD
  refine ⟨fun i m H => m = ds.length - i ∧ i ≤ ds.length ∧ ∃ (μ : Mu) (S : Hs) (acc : List D), HR K A μ S H ∧ Mo μ1 H1 μ H ∧ μ.tr[S1.length]? = some Da ∧ S[S1.length]? = some (.lst acc) ∧ St μ H ∧
      ER K A μ H env σ ∧ Post (ReD K A) K A W σ μ1 H1 Q ((loopCompB (stepC own t mc me env) S1.length w (ds.drop i) acc S).bind fun _ s2 => .ok (.ref S1.length) s2), ?_, ?_⟩
  · have Mp : Mo μ1 H1 (μ1.add Da) (upd H1 Da (.lst [])) := Mo.place hD
    have Rp : HR K A (μ1.add Da) (S1 ++ [.lst []]) (upd H1 Da (.lst [])) := R1.place (g := .lst []) hD (.lst .nil)
    exact ⟨_, rfl, Nat.zero_le _, μ1.add Da, S1 ++ [.lst []], [], Rp, Mp, Mu.add_at R1, by simp, I.mono _ _ _ _ _ st Mp.g Rp hst, E1.mono Mp, by simpa using h⟩
  · rintro i m H ⟨rfl, hi, μ, S, acc, R, M, eD, eS, st, E, h⟩
    obtain ⟨ho1, h2, h3⟩ := R.obj _ _ _ eS eD
    by_cases hl : i = ds.length
    · left
      refine ⟨I.stop _ _ _ st (by omega), ?_⟩
      rw [List.drop_of_length_le (by omega)] at h
      exact h (.ref Da) μ H (.ref eD) R M
    · right
      have hi' : i < ds.length := by omega
      have ed : ds[i]? = some ds[i] := List.getElem?_eq_getElem hi'
      obtain ⟨hgo, hy⟩ := I.go _ H S i ds[i] st R ed
      refine ⟨hgo, fun H' => ∃ m', m' < ds.length - i ∧ m' = ds.length - (i + 1) ∧ i + 1 ≤ ds.length ∧ ∃ (μ : Mu) (S : Hs) (acc : List D), HR K A μ S H' ∧ Mo μ1 H1 μ H' ∧ μ.tr[S1.length]? = some Da ∧ S[S1.length]? = some (.lst acc) ∧ St μ H' ∧
        ER K A μ H' env σ ∧ Post (ReD K A) K A W σ μ1 H1 Q ((loopCompB (stepC own t mc me env) S1.length w (ds.drop (i + 1)) acc S).bind fun _ s2 => .ok (.ref S1.length) s2), fun H' hN => ?_, fun x H' hyl => ?_⟩
      · obtain ⟨m', h1, h2⟩ := hN
        exact ⟨m', h1, h2⟩
      · obtain ⟨rx, Rx, Mx⟩ := hy x H' hyl
        have edr : ds.drop i = ds[i] :: ds.drop (i + 1) := (List.drop_eq_getElem_cons hi')
        rw [edr] at h
        unfold loopCompB at h
        cases es : stepC own t mc me env ds[i] S with
        | stuck => rw [es] at h; exact h.elim
        | err => rw [es] at h; exact h.elim
        | ok o S3 =>
          rw [es] at h
          dsimp only at h
          by_cases hs : (stays w S3 && stays (some (S1.length, acc)) S3) = true
          · rw [if_pos hs] at h
            rw [Bool.and_eq_true] at hs
            have eS3 : S3[S1.length]? = some (.lst acc) := by
              have hs' : (match S3[S1.length]? with | some (.lst es) => D.eqbs es acc | _ => false) = true := hs.2
              split at hs'
              · rename_i es he
                rw [he, D.eqbs_eq hs']
              · cases hs'
            obtain ⟨env', he, hc⟩ := stepC_ok es
            have Eb : ER K A μ H' (wipeE env own) (wipe σ own) := (E.mono Mx).wipe own
            refine tgR _ _ _ _ _ _ _ _ Eb rx he fun σ2 E2 hw => ⟨(hw own ho).trans (wipe_sub fun _ z => z), env', S, μ, E2, Rx, ?_⟩
            rcases hc with ⟨s1, v, h1, h2, rfl⟩ | ⟨h1, rfl⟩
            · rw [h1]
              intro b μ2 H2 hb R2 M2
              obtain rfl : true = b := hb
              refine iteT ⟨env', s1, μ2, E2.mono M2, R2, ?_⟩
              rw [h2]
              intro y μ3 H3 ry R3 M3
              have MM := Mx.trans (M2.trans M3)
              have eD3 := MM.get eD
              obtain ⟨ho3, h4, h5⟩ := R3.obj _ _ _ eS3 eD3
              cases h5 with
              | @lst _ accV ra =>
                dsimp only at h
                by_cases hz : acc.length < sizeLine
                · rw [if_pos hz] at h
                  have Mw : Mo μ3 H3 μ3 (upd H3 Da (.lst (accV ++ [y]))) := Mo.write (List.mem_of_getElem? eD3)
                  have R5 := R3.write (g := .lst (acc ++ [v])) eD3 (.lst (ra.append (.cons ry .nil)))
                  have hl3 : S1.length < S3.length := (List.getElem?_eq_some_iff.mp eS3).1
                  have hst5 : stays w (S3.set S1.length (.lst (acc ++ [v]))) = true := by
                    cases w with
                    | none => rfl
                    | some p =>
                      obtain ⟨n, es⟩ := p
                      have hn : n ≠ S1.length := hw1 n es rfl
                      show (match (S3.set S1.length (GO.lst (acc ++ [v])))[n]? with | some (.lst es') => D.eqbs es' es | _ => false) = true
                      rw [List.getElem?_set_ne (Ne.symm hn)]
                      exact hs.1
                  exact ⟨accV, h4, by rw [DRs.length ra]; exact hz, _, (show ds.length - (i + 1) < ds.length - i by omega), rfl, hi', μ3, _, acc ++ [v], R5, (M.trans MM).trans Mw, eD3, List.getElem?_set_self hl3, I.mono _ _ _ _ _ st (MM.trans Mw).g R5 hst5, (E.mono MM).mono Mw, h⟩
                · rw [if_neg hz] at h
                  exact h.elim
            · rw [h1]
              intro b μ2 H2 hb R2 M2
              obtain rfl : false = b := hb
              have MM := Mx.trans M2
              exact iteF ⟨_, (show ds.length - (i + 1) < ds.length - i by omega), rfl, hi', μ2, S3, acc, R2, M.trans MM, MM.get eD, eS3, I.mono _ _ _ _ _ st MM.g R2 hs.1, E.mono MM, h⟩
          · rw [if_neg hs] at h
            exact h.elim
theorem stays_watch {S : Hs} {d : D} {ds : List D} (e : lstAt S d = some ds) : stays (watchOf d ds) S = true ∧ ∀ n es, watchOf d ds = some (n, es) → n < S.length := by
  cases d with
  | ref n =>
    have h := lstAt_ref e
    refine ⟨?_, fun m es hm => ?_⟩
    · show (match S[n]? with | some (.lst es) => D.eqbs es ds | _ => false) = true
      rw [h]
      exact D.eqbs_refl ds
    · cases hm
      exact (List.getElem?_eq_some_iff.mp h).1
  | _ => exact ⟨rfl, fun _ _ h => by cases h⟩
/-- what is walked stays at first -/
def StayI (m : CN.Env → Hs → Res (List D × Option (Nat × List D))) : Prop := ∀ env S p S1, m env S = .ok p S1 → stays p.2 S1 = true ∧ ∀ n es, p.2 = some (n, es) → n < S1.length
theorem bind_inv {α β : Type} {r : Res α} {f : α → Hs → Res β} {b : β} {s : Hs} (h : r.bind f = .ok b s) : ∃ a s1, r = .ok a s1 ∧ f a s1 = .ok b s := by
  cases r with
  | stuck => cases h
  | err => cases h
  | ok a s1 => exact ⟨a, s1, rfl, h⟩
theorem none_stay {S1 : Hs} {ds : List D} : stays (ds, (none : Option (Nat × List D))).2 S1 = true ∧ ∀ n es, (ds, (none : Option (Nat × List D))).2 = some (n, es) → n < S1.length := ⟨rfl, fun _ _ h => by cases h⟩
theorem seqI_stay {x : D} {S S1 : Hs} {p : List D × Option (Nat × List D)} (h : seqI x S = .ok p S1) : stays p.2 S1 = true ∧ ∀ n es, p.2 = some (n, es) → n < S1.length := by
  unfold seqI at h
  split at h
  · cases h; exact none_stay
  · cases h; exact none_stay
  · cases h; exact none_stay
  · split at h
    · rename_i e
      cases h
      exact stays_watch e
    · cases h
theorem stayI (it : It) (call : Nat → List D → Hs → Res D) : StayI (evalI T call it) := by
  intro env S p S1 h
  cases it with
  | seq e => unfold evalI evI at h; obtain ⟨x, s1, _, h⟩ := bind_inv h; exact seqI_stay h
  | range1 a =>
    unfold evalI evI at h; obtain ⟨x, s1, _, h⟩ := bind_inv h
    unfold range1I at h
    split at h
    · split at h
      · cases h; exact none_stay
      · cases h
    · cases h
  | range2 a b =>
    unfold evalI evI at h; obtain ⟨x, s1, _, h⟩ := bind_inv h; obtain ⟨y, s2, _, h⟩ := bind_inv h
    unfold range2I at h
    split at h
    · split at h
      · cases h; exact none_stay
      · cases h
    · cases h
  | zip a b =>
    unfold evalI evI at h; obtain ⟨x, s1, _, h⟩ := bind_inv h; obtain ⟨y, s2, _, h⟩ := bind_inv h
    unfold zipI at h
    split at h
    · cases h; exact none_stay
    · cases h; exact none_stay
    · cases h
  | enum a =>
    unfold evalI evI at h; obtain ⟨x, s1, _, h⟩ := bind_inv h
    unfold enumI at h
    split at h
    · cases h; exact none_stay
    · cases h
  | rev a =>
    unfold evalI evI at h; obtain ⟨x, s1, _, h⟩ := bind_inv h
    unfold revI at h
    split at h
    · cases h; exact none_stay
    · cases h
/-- a comprehension's if -/
abbrev TTs (K : PySem.W.Frag) (A : Ad) (m : CN.Env → Hs → Res Bool) : TT := TTo K A W0 m
theorem pts_no {X : Cx} {A : Ad} : PTs X [] (TTo X.K A W0 fun _ s => .ok true s) := ⟨fun pins s σ H Q I h => by
  obtain ⟨env, S, μ, E, R, h⟩ := h
  exact pts_nil.run pins s σ H Q I (h true μ H rfl R (Mo.refl _ _))⟩
theorem own_map {N : List Str} {own : List Nat} : (ownNames N own).map (·.2) = own := by
  unfold ownNames
  rw [List.map_map]
  exact List.map_id _
theorem notSet_ok {it : Expr} (h : notSet it = true) : ∀ (env : PySem.Env) (x : Value), foldedSetIterable it env x = pure x := by
  intro env x
  cases it <;> first | rfl | cases h
theorem px_comp (g : Gd T G wf A k X W) {it : Expr} {ifs : List Expr} {csc : Scope} {own : List Nat} {tg : Tg} {te elt : Expr} {pos : Pos} {mi : CN.Env → Hs → Res (List D × Option (Nat × List D))} (hS : StayI mi) (ho : ∀ i ∈ tgIdx tg, i ∈ own)
    (hb : blkC X.N X.env.scope csc (ownNames X.N own) = true) (hi : PI X te it (TIo X.K A W mi)) (hn : notSet it = true)
    (ht : ∀ (s : Shared) (H : Hp) (C : Addr) (cl : List (Str × Addr)) (fp : List Addr), TgAt (X.blk s H csc (compEnvC csc cl C X.env) fp) tg te)
    (hc : ∀ (s : Shared) (H : Hp) (C : Addr) (cl : List (Str × Addr)) (fp : List Addr), PTs (X.blk s H csc (compEnvC csc cl C X.env) fp) ifs (TTo X.K A W0 mc))
    (he : ∀ (s : Shared) (H : Hp) (C : Addr) (cl : List (Str × Addr)) (fp : List Addr), PE (X.blk s H csc (compEnvC csc cl C X.env) fp) elt (TEo X.K A W0 me)) :
    PE X (.ListComp elt [⟨te, it, ifs, 0⟩] csc pos) (TEo X.K A W fun env s => (mi env s).bind fun p s1 => (loopComp (stepC own tg mc me env) p.2 p.1 [] s1).bind fun ds s2 => .ok (.tl ds) s2) := by
  refine PE.imp (pe_lc (g := gOf X.K tg) g.calm g.nd hi (blkOk_by hb) (fun s H C cl fp => pg_of (X := X.blk s H csc (compEnvC csc cl C X.env) fp) g.calm g.nd (ht s H C cl fp)) hc he (notSet_ok hn X.env)) fun σ H Q ⟨env, S, μ, E, R, h⟩ =>
    seq E R h fun p S1 J μ1 H1 e ⟨St, I, st⟩ R1 E1 M1 h1 => ?_
  rw [own_map]
  exact comp_read E1 R1 I st (hS _ _ _ _ e).1 ho h1
theorem px_compB (g : Gd T G wf A k X W) {it : Expr} {ifs : List Expr} {csc : Scope} {own : List Nat} {tg : Tg} {te elt : Expr} {pos : Pos} {mi : CN.Env → Hs → Res (List D × Option (Nat × List D))} (hS : StayI mi) (ho : ∀ i ∈ tgIdx tg, i ∈ own)
    (hb : blkC X.N X.env.scope csc (ownNames X.N own) = true) (hi : PI X te it (TIo X.K A W mi)) (hn : notSet it = true)
    (ht : ∀ (s : Shared) (H : Hp) (C : Addr) (cl : List (Str × Addr)) (fp : List Addr), TgAt (X.blk s H csc (compEnvC csc cl C X.env) fp) tg te)
    (hc : ∀ (s : Shared) (H : Hp) (C : Addr) (cl : List (Str × Addr)) (fp : List Addr), PTs (X.blk s H csc (compEnvC csc cl C X.env) fp) ifs (TTo X.K A W0 mc))
    (he : ∀ (s : Shared) (H : Hp) (C : Addr) (cl : List (Str × Addr)) (fp : List Addr), PE (X.blk s H csc (compEnvC csc cl C X.env) fp) elt (TEo X.K A W0 me)) :
    PE X (.ListComp elt [⟨te, it, ifs, 0⟩] csc pos) (TEo X.K A W fun env s => (mi env s).bind fun p s1 => (loopCompB (stepC own tg mc me env) s1.length p.2 p.1 [] (s1 ++ [.lst []])).bind fun _ s2 => .ok (.ref s1.length) s2) := by
  refine PE.imp (pe_lc (g := gOf X.K tg) g.calm g.nd hi (blkOk_by hb) (fun s H C cl fp => pg_of (X := X.blk s H csc (compEnvC csc cl C X.env) fp) g.calm g.nd (ht s H C cl fp)) hc he (notSet_ok hn X.env)) fun σ H Q ⟨env, S, μ, E, R, h⟩ =>
    seq E R h fun p S1 J μ1 H1 e ⟨St, I, st⟩ R1 E1 M1 h1 => ?_
  rw [own_map]
  obtain ⟨h2, h3⟩ := hS _ _ _ _ e
  refine compB_read E1 R1 I st ?_ (fun n es hz => Nat.ne_of_lt (h3 n es hz)) ho h1
  cases hp : p.2 with
  | none => rfl
  | some q =>
    obtain ⟨n, es⟩ := q
    rw [hp] at h2
    have hl := h3 n es hp
    show (match (S1 ++ [GO.lst []])[n]? with | some (.lst es') => D.eqbs es' es | _ => false) = true
    rw [List.getElem?_append_left hl]
    exact h2
/-! targets by the check -/
theorem tgsAt_of {X : Cx} {c : Bool} (hf : c = true → ∀ x, X.fn x = true) : ∀ {is : List Nat} {es : List Expr}, chkTgN c X.N X.env.scope is es = true → TgsAt X is es
  | [], [], _ => .nil
  | [], _ :: _, h => by cases h
  | i :: is, [], h => by cases h
  | i :: is, e :: es, h => by
    cases e with
    | Name x p =>
      have h' : (decide (X.N[i]? = some x) && (isLoc X.env.scope x || (c && decide (X.env.scope.names.lookup x = some .cell))) && chkTgN c X.N X.env.scope is es) = true := h
      simp only [Bool.and_eq_true, Bool.or_eq_true, decide_eq_true_eq, isLoc] at h'
      refine .cons h'.1.1 ?_ (tgsAt_of hf h'.2)
      rcases h'.1.2 with q | q
      · exact ⟨.inl q, .inr q⟩
      · exact ⟨.inr q.2, .inl (hf q.1 x)⟩
    | _ => cases h
theorem tgAt_of {X : Cx} {c : Bool} {t : Tg} {e : Expr} (hf : c = true → ∀ x, X.fn x = true) (h : chkTg c X.N X.env.scope t e = true) : TgAt X t e := by
  cases t with
  | nm i =>
    cases e with
    | Name x p =>
      have h' : (decide (X.N[i]? = some x) && (isLoc X.env.scope x || (c && decide (X.env.scope.names.lookup x = some .cell)))) = true := h
      simp only [Bool.and_eq_true, Bool.or_eq_true, decide_eq_true_eq, isLoc] at h'
      refine .nm h'.1 ?_
      rcases h'.2 with q | q
      · exact ⟨.inl q, .inr q⟩
      · exact ⟨.inr q.2, .inl (hf q.1 x)⟩
    | _ => cases h
  | tp is =>
    cases e with
    | Tuple es k p => exact .tp (tgsAt_of hf h)
    | _ => cases h
theorem tgOwn_ok {own : List Nat} {t : Tg} (h : tgOwn own t = true) : ∀ i ∈ tgIdx t, i ∈ own := by
  cases t with
  | nm i =>
    intro j hj
    simp only [tgIdx, List.mem_singleton] at hj
    subst hj
    simpa [tgOwn] using h
  | tp is =>
    intro j hj
    have h' := List.all_eq_true.mp (show is.all (fun i => decide (i ∈ own)) = true from h) j hj
    simpa using h'
end
end CN
set_option Elab.async false
set_option linter.all false
set_option maxRecDepth 100000
set_option maxHeartbeats 2000000
/-! CnExpr6: tests, and, or. -/
namespace CN
open PySem PyProof.Rows L2

section
variable {X : Cx} {A : Ad} {W : WX} {a b c e : Expr} {rest : List Expr} {ma mb mc m : CN.Env → Hs → Res D} {ta tb : CN.Env → Hs → Res Bool} {pos : Pos}
/-- its answers are bools -/
def BoolM (m : CN.Env → Hs → Res D) : Prop := ∀ env S d S1, m env S = .ok d S1 → ∃ b, d = .bl b
theorem tT_of {K : PySem.W.Frag} (hb : BoolM m) {σ : L2.St} {H : Hp} {Q : Bool → Hp → Prop} (h : TTo K A W (truly m) σ H Q) : TEo K A W m σ H fun x H' => ∃ k, x = .bl k ∧ Q k H' := by
  obtain ⟨env, S, μ, E, R, h⟩ := h
  refine seq E R h fun d S1 x μ1 H1 e r1 R1 E1 M1 h1 => ?_
  obtain ⟨b, rfl⟩ := hb _ _ _ _ e
  cases r1
  exact ⟨b, rfl, h1 b μ1 H1 rfl R1 (Mo.refl _ _)⟩
theorem map_bl {o : Option Bool} {S S1 : Hs} {d : D} (h : Res.of (o.map D.bl) S = .ok d S1) : ∃ b, d = .bl b := by
  cases o with
  | none => cases h
  | some b => cases h; exact ⟨b, rfl⟩
theorem cmpM_bool {T : Tb} {op : COp} : BoolM (cmpM T op ma mb) := by
  intro env S d S1 h
  obtain ⟨x, s1, _, h⟩ := bind_inv h
  obtain ⟨y, s2, _, h⟩ := bind_inv h
  exact map_bl h
theorem cmp_imp {K : PySem.W.Frag} {T : Tb} {op : COp} {σ : L2.St} {H : Hp} {Q : VK} (h : TEo K A W (cmpM T op ma mb) σ H Q) :
    tOp (fun x y H Q => ∃ (μ : Mu) (S : Hs) (dx dy : D) (b : Bool), DR K A μ H dx x ∧ DR K A μ H dy y ∧ HR K A μ S H ∧ cmpop T.tabs S op dx dy = some b ∧ Q (.bl b) H) (TEo K A W ma) (TEo K A W mb) σ H Q := by
  obtain ⟨env, S, μ, E, R, h⟩ := h
  exact seq E R h fun d S1 x μ1 H1 _ r1 R1 E1 M1 h1 => seq E1 R1 h1 fun d2 S2 y μ2 H2 _ r2 R2 E2 M2 h2 => by
      obtain ⟨z, e, q⟩ := Post.ofB R2 h2
      exact ⟨μ2, S2, d, d2, z, DR.mono M2 r1, r2, R2, e, q⟩
theorem pt_cmpM (T : Tb) (TT : Tabs T A X.K X.w) (hu : X.A.units + 64 < cLine) (op : COp) (ha : PE X a (TEo X.K A W ma)) (hb : PE X b (TEo X.K A W mb)) (hm : behindInMarks (pyCmp op) b = false) :
    PT X (.Compare a [pyCmp op] [b] pos) (TTo X.K A W (truly (cmpM T op ma mb))) :=
  PT.imp (pt_cmpR (opR_cmp T TT hu op) ha hb hm) fun σ H Q h => cmp_imp (tT_of cmpM_bool h)
theorem isNM_bool {neg : Bool} : BoolM (isNM neg ma) := by
  intro env S d S1 h
  obtain ⟨x, s1, _, h⟩ := bind_inv h
  cases h
  exact ⟨_, rfl⟩
theorem pt_isNM (neg : Bool) {k : Nat} {p : Pos} (ha : PE X a (TEo X.K A W ma)) : PT X (.Compare a [if neg then .IsNot else .Is] [.Constant .none k p] pos) (TTo X.K A W (truly (isNM neg ma))) := by
  cases neg with
  | false =>
    exact PT.imp (pt_cmp (pc_isN ha) rfl) fun σ H Q hh => by
      obtain ⟨env, S, μ, E, R, h⟩ := tT_of isNM_bool hh
      exact seq E R h fun d S1 x μ1 H1 _ r1 R1 E1 M1 h1 => by
        obtain ⟨k, e, q⟩ := h1 (.bl _) μ1 H1 (.bl _) R1 (Mo.refl _ _)
        rw [(isN_of r1).1] at e
        cases e
        exact ⟨_, rfl, q⟩
  | true =>
    exact PT.imp (pt_cmp (pc_notN ha) rfl) fun σ H Q hh => by
      obtain ⟨env, S, μ, E, R, h⟩ := tT_of isNM_bool hh
      exact seq E R h fun d S1 x μ1 H1 _ r1 R1 E1 M1 h1 => by
        obtain ⟨k, e, q⟩ := h1 (.bl _) μ1 H1 (.bl _) R1 (Mo.refl _ _)
        rw [(isN_of r1).2] at e
        cases e
        exact ⟨_, rfl, q⟩
theorem chainM_bool {T : Tb} {o p : COp} : BoolM (chainM T o p ma mb mc) := by
  intro env S d S1 h
  obtain ⟨x, s1, _, h⟩ := bind_inv h
  obtain ⟨y, s2, _, h⟩ := bind_inv h
  split at h
  · obtain ⟨z, s3, _, h⟩ := bind_inv h
    exact map_bl h
  · cases h; exact ⟨_, rfl⟩
  · cases h
theorem pt_chainM (T : Tb) (TT : Tabs T A X.K X.w) (hu : X.A.units + 64 < cLine) (o p : COp) (ha : PE X a (TEo X.K A W ma)) (hb : PE X b (TEo X.K A W mb)) (hc : PE X c (TEo X.K A W mc)) (hm : behindInMarks (pyCmp p) c = false) :
    PT X (.Compare a [pyCmp o, pyCmp p] [b, c] pos) (TTo X.K A W (truly (chainM T o p ma mb mc))) :=
  PT.imp (pt_chain (opR_cmp T TT hu o) (opR_cmp T TT hu p) ha hb hc hm) fun σ H Q hh => by
    obtain ⟨env, S, μ, E, R, h⟩ := tT_of chainM_bool hh
    exact seq E R h fun d S1 x μ1 H1 _ r1 R1 E1 M1 h1 => seq E1 R1 h1 fun d2 S2 y μ2 H2 _ r2 R2 E2 M2 h2 => by
      cases e : cmpop T.tabs S2 o d d2 with
      | none => rw [e] at h2; exact h2.elim
      | some k =>
        rw [e] at h2
        refine ⟨μ2, S2, d, d2, k, DR.mono M2 r1, r2, R2, e, k, rfl, ?_⟩
        cases k with
        | false => exact iteF (h2 (.bl false) μ2 H2 (.bl false) R2 (Mo.refl _ _))
        | true => exact iteT (seq E2 R2 h2 fun d3 S3 z μ3 H3 _ r3 R3 E3 M3 h3 => by
            obtain ⟨w, e, q⟩ := Post.ofB R3 h3
            exact ⟨μ3, S3, d2, d3, w, DR.mono M3 r2, r3, R3, e, q⟩)
theorem pt_notM (ha : PT X a (TTo X.K A W ta)) : PT X (.UnaryOp .Not a pos) (TTo X.K A W fun env s => (ta env s).bind fun b s1 => .ok (!b) s1) :=
  PT.imp (pt_not ha) fun σ H Q ⟨env, S, μ, E, R, h⟩ => seq E R h fun c S1 c' μ1 H1 _ r1 R1 E1 M1 h1 => by
    obtain rfl : c = c' := r1
    exact h1 (!c) μ1 H1 rfl R1 (Mo.refl _ _)
theorem pt_iteM {t : Expr} {tt : CN.Env → Hs → Res Bool} (ht : PT X t (TTo X.K A W tt)) (ha : PT X a (TTo X.K A W ta)) (hb : PT X b (TTo X.K A W tb)) : PT X (.IfExp t a b pos) (TTo X.K A W fun env s => (tt env s).bind fun c s1 => if c then ta env s1 else tb env s1) := by
  refine ⟨fun pins s σ H Q I hw => ?_⟩
  obtain ⟨env, S, μ, E, R, h⟩ := hw
  refine isTrue_IfExp (thn (ht.run pins s σ H _ I (seq (k := fun c H' => if c = true then TTo X.K A W ta σ H' Q else TTo X.K A W tb σ H' Q) E R h fun c S1 c' μ1 H1 _ r1 R1 E1 M1 h1 => ?_)) fun c s1 hh => ?_)
  · obtain rfl : c = c' := r1
    cases c with
    | true => exact iteT ⟨env, S1, μ1, E1, R1, h1⟩
    | false => exact iteF ⟨env, S1, μ1, E1, R1, h1⟩
  · obtain ⟨H1, I1, q1⟩ := hh
    cases c with
    | true => exact ha.run pins s1 σ H1 Q I1 (by simpa using q1)
    | false => exact hb.run pins s1 σ H1 Q I1 (by simpa using q1)
/-! and, or -/
theorem px_and2 (ha : PE X a (TEo X.K A W ma)) (hb : PE X (.BoolOp .And (b :: rest) pos) (TEo X.K A W mb)) : PE X (.BoolOp .And (a :: b :: rest) pos) (TEo X.K A W fun env s => (ma env s).bind fun x s1 => match x with
    | .bl true => mb env s1
    | .bl false => .ok (.bl false) s1
    | _ => .stuck) :=
  PE.imp (pe_and ha hb) fun σ H Q ⟨env, S, μ, E, R, h⟩ => seq E R h fun d S1 x μ1 H1 _ r1 R1 E1 M1 h1 => by
    cases d with
    | bl c =>
      cases r1
      cases c with
      | true => exact ⟨true, rfl, iteT ⟨env, S1, μ1, E1, R1, h1⟩⟩
      | false => exact ⟨false, rfl, iteF (h1 (.bl false) μ1 H1 (.bl false) R1 (Mo.refl _ _))⟩
    | _ => exact h1.elim
theorem px_or2 (ha : PE X a (TEo X.K A W ma)) (hb : PE X (.BoolOp .Or (b :: rest) pos) (TEo X.K A W mb)) : PE X (.BoolOp .Or (a :: b :: rest) pos) (TEo X.K A W fun env s => (ma env s).bind fun x s1 => match x with
    | .bl true => .ok (.bl true) s1
    | .bl false => mb env s1
    | _ => .stuck) :=
  PE.imp (pe_or ha hb) fun σ H Q ⟨env, S, μ, E, R, h⟩ => seq E R h fun d S1 x μ1 H1 _ r1 R1 E1 M1 h1 => by
    cases d with
    | bl c =>
      cases r1
      cases c with
      | true => exact ⟨true, rfl, iteT (h1 (.bl true) μ1 H1 (.bl true) R1 (Mo.refl _ _))⟩
      | false => exact ⟨false, rfl, iteF ⟨env, S1, μ1, E1, R1, h1⟩⟩
    | _ => exact h1.elim
theorem pw_and2 (ha : PT X a (TTo X.K A W ta)) (hb : PW X (.BoolOp .And (b :: rest) pos) (TTo X.K A W tb)) : PW X (.BoolOp .And (a :: b :: rest) pos) (TTo X.K A W fun env s => (ta env s).bind fun c s1 => if c then tb env s1 else .ok false s1) := by
  refine ⟨fun wh pins s σ H Q I hw => (pw_and ha hb).run wh pins s σ H Q I ?_⟩
  obtain ⟨env, S, μ, E, R, h⟩ := hw
  exact seq E R h fun c S1 c' μ1 H1 _ r1 R1 E1 M1 h1 => by
    obtain rfl : c = c' := r1
    cases c with
    | true => exact iteT ⟨env, S1, μ1, E1, R1, h1⟩
    | false => exact iteF (h1 false μ1 H1 rfl R1 (Mo.refl _ _))
theorem pw_or2 (ha : PT X a (TTo X.K A W ta)) (hb : PW X (.BoolOp .Or (b :: rest) pos) (TTo X.K A W tb)) : PW X (.BoolOp .Or (a :: b :: rest) pos) (TTo X.K A W fun env s => (ta env s).bind fun c s1 => if c then .ok true s1 else tb env s1) := by
  refine ⟨fun wh pins s σ H Q I hw => (pw_or ha hb).run wh pins s σ H Q I ?_⟩
  obtain ⟨env, S, μ, E, R, h⟩ := hw
  exact seq E R h fun c S1 c' μ1 H1 _ r1 R1 E1 M1 h1 => by
    obtain rfl : c = c' := r1
    cases c with
    | true => exact iteT (h1 true μ1 H1 rfl R1 (Mo.refl _ _))
    | false => exact iteF ⟨env, S1, μ1, E1, R1, h1⟩
end
end CN
set_option Elab.async false
set_option linter.all false
set_option maxRecDepth 100000
set_option maxHeartbeats 4000000
/-! CnMain: the interpreter is sound for expressions. -/
namespace CN
open PySem PyProof.Rows L2

section
variable {T : Tb} {G : Gi} {wf : Nat} {A : Ad} {k : Nat}
abbrev cl (T : Tb) (wf k : Nat) := runFn T wf k
theorem Gd.units {X : Cx} {W : WX} (g : Gd T G wf A k X W) : X.A.units + 64 < cLine := g.room.units
abbrev OkE (T : Tb) (wf k : Nat) (A : Ad) (X : Cx) (W : WX) (ex : Ex) (e : Expr) : Prop := PE X e (TEo X.K A W (evalE T (runFn T wf k) ex)) ∧ PT X e (TTo X.K A W (evalT T (runFn T wf k) ex))
theorem okE_of {X : Cx} {W : WX} {ex : Ex} {e : Expr} {m : CN.Env → Hs → Res D} (hm : evalE T (runFn T wf k) ex = m) (ht : evalT T (runFn T wf k) ex = truly m) (h : PE X e (TEo X.K A W m)) (he : ∀ whole, isTrue e X.env whole = (do let v ← whole; standAt e.pos; holding [v] (truthy v)) := by intro _; rfl) : OkE T wf k A X W ex e := by
  subst hm
  exact ⟨h, by rw [ht]; exact pt_ofE h he⟩
theorem okE_of2 {X : Cx} {W : WX} {ex : Ex} {e : Expr} {m : CN.Env → Hs → Res D} (hm : evalE T (runFn T wf k) ex = m) (ht : evalT T (runFn T wf k) ex = truly m) (h : PE X e (TEo X.K A W m)) (h2 : PT X e (TTo X.K A W (truly m))) : OkE T wf k A X W ex e := by
  subst hm
  exact ⟨h, by rw [ht]; exact h2⟩
abbrev OkEs (T : Tb) (wf k : Nat) (A : Ad) (X : Cx) (W : WX) (es : Exs) (xs : List Expr) : Prop :=
  PA X xs (TAo X.K A W (evalEs T (runFn T wf k) es)) ∧ xs.all plainE = true ∧ (xs.isEmpty = false → ∀ pos, PE X (.BoolOp .And xs pos) (TEo X.K A W ((evPs T (runFn T wf k) es).and)) ∧ PE X (.BoolOp .Or xs pos) (TEo X.K A W ((evPs T (runFn T wf k) es).or)) ∧
    PW X (.BoolOp .And xs pos) (TTo X.K A W ((evPs T (runFn T wf k) es).andT)) ∧ PW X (.BoolOp .Or xs pos) (TTo X.K A W ((evPs T (runFn T wf k) es).orT)))
theorem TTo.congr {K : PySem.W.Frag} {W : WX} {m m' : CN.Env → Hs → Res Bool} (h : m = m') : TTo K A W m = TTo K A W m' := by rw [h]
theorem bi_rest {X : Cx} {W : WX} {b : Bi} {nm x : Str} {args : Exs} {xs : List Expr} {p q : Pos} (hb : biName b = some nm) (ih : chkEs G X.N X.env.scope args xs = true → OkEs T wf k A X W args xs)
    (hp : ∀ {y : Expr} {ys : List Expr}, isGl X.env.scope nm = true → PA X (y :: ys) (TAo X.K A W (evalEs T (runFn T wf k) args)) → (y :: ys).all plainE = true → PE X (.Call (.Name nm p) (y :: ys) [] q) (TEo X.K A W (biM b (evalEs T (runFn T wf k) args))))
    (h : (decide (biName b = some x) && isGl X.env.scope x && chkEs G X.N X.env.scope args xs && !xs.isEmpty) = true) : OkE T wf k A X W (.bi b args) (.Call (.Name x p) xs [] q) := by
  simp only [Bool.and_eq_true, decide_eq_true_eq, Bool.not_eq_true'] at h
  obtain ⟨⟨⟨hx, hgl⟩, hs⟩, hne⟩ := h
  rw [hb] at hx
  cases hx
  cases xs with
  | nil => cases hne
  | cons y ys => exact okE_of rfl rfl (hp hgl (ih hs).1 (ih hs).2.1)

mutual
theorem soundE : ∀ (ex : Ex) {X : Cx} {W : WX} {e : Expr}, Gd T G wf A k X W → chkE G X.N X.env.scope ex e = true → OkE T wf k A X W ex e
  | .var i, X, W, e, g, h => by
    unfold chkE at h
    split at h
    · rename_i x p
      simp only [Bool.and_eq_true, decide_eq_true_eq] at h
      exact okE_of rfl rfl (px_var h.1 h.2)
    · cases h
  | .cst d, X, W, e, g, h => by
    unfold chkE at h
    split at h
    · simp only [decide_eq_true_eq] at h; subst h; exact okE_of rfl rfl (px_cst pe_int fun _ _ => .int _)
    · have h' := eq_of_beq h; subst h'; exact okE_of rfl rfl (px_cst pe_bl fun _ _ => .bl _)
    · simp only [decide_eq_true_eq] at h; subst h; exact okE_of rfl rfl (px_cst pe_str fun _ _ => .str _)
    · exact okE_of rfl rfl (px_cst pe_non fun _ _ => .non)
    · cases h
  | .glob i, X, W, e, g, h => by
    unfold chkE at h
    split at h
    · rename_i x p
      simp only [Bool.and_eq_true, decide_eq_true_eq] at h
      obtain ⟨d, hd⟩ := g.kn.constsL i x h.1
      obtain ⟨u, v, h1, h2, h3⟩ := g.kn.consts i x d h.1 hd
      obtain ⟨gx, dbg, _⟩ := isGl_ok h.2
      have e1 : evalE T (runFn T wf k) (.glob i) = fun _ s => .ok d s := by
        funext env s
        show Res.of T.consts[i]? s = _
        rw [hd]
        rfl
      refine okE_of e1 ?_ (px_cst (pe_glob gx h1 h2 dbg) h3)
      show truly (evalE T (runFn T wf k) (.glob i)) = _
      rw [e1]
    · cases h
  | .tup es, X, W, e, g, h => by
    unfold chkE at h
    split at h
    · exact okE_of rfl rfl (px_tup (soundEs es g h).1)
    · cases h
  | .lst es, X, W, e, g, h => by
    unfold chkE at h
    split at h
    · exact okE_of rfl rfl (px_lst (soundEs es g h).1)
    · cases h
  | .box (.lst es), X, W, e, g, h => by
    unfold chkE at h
    rw [Bool.and_eq_true] at h
    obtain ⟨_, h⟩ := h
    unfold chkE at h
    split at h
    · exact okE_of rfl rfl (px_lstB (soundEs es g h).1)
    · cases h
  | .box (.bi b es), X, W, e, g, h => by
    unfold chkE at h
    rw [Bool.and_eq_true] at h
    obtain ⟨hb, h⟩ := h
    cases b with
    | list =>
      unfold chkE at h
      split at h
      · rename_i x p xs p2
        simp only [Bool.and_eq_true, decide_eq_true_eq, Bool.not_eq_true'] at h
        obtain ⟨⟨⟨hx, hgl⟩, hs⟩, hne⟩ := h
        cases hx
        cases xs with
        | nil => cases hne
        | cons y ys =>
          have z := soundEs es g hs
          exact okE_of rfl rfl (px_listB g hgl z.1 z.2.1)
      · cases h
    | _ => cases hb
  | .box (.var _), X, W, e, g, h => by unfold chkE at h; cases h
  | .box (.cst _), X, W, e, g, h => by unfold chkE at h; cases h
  | .box (.glob _), X, W, e, g, h => by unfold chkE at h; cases h
  | .box (.tup _), X, W, e, g, h => by unfold chkE at h; cases h
  | .box (.box _), X, W, e, g, h => by unfold chkE at h; cases h
  | .box (.bin _ _ _), X, W, e, g, h => by unfold chkE at h; cases h
  | .box (.cmp _ _ _), X, W, e, g, h => by unfold chkE at h; cases h
  | .box (.isN _ _), X, W, e, g, h => by unfold chkE at h; cases h
  | .box (.chain _ _ _ _ _), X, W, e, g, h => by unfold chkE at h; cases h
  | .box (.and _), X, W, e, g, h => by unfold chkE at h; cases h
  | .box (.or _), X, W, e, g, h => by unfold chkE at h; cases h
  | .box (.not _), X, W, e, g, h => by unfold chkE at h; cases h
  | .box (.neg _), X, W, e, g, h => by unfold chkE at h; cases h
  | .box (.ite _ _ _), X, W, e, g, h => by unfold chkE at h; cases h
  | .box (.idx _ _), X, W, e, g, h => by unfold chkE at h; cases h
  | .box (.sl _ _ _), X, W, e, g, h => by unfold chkE at h; cases h
  | .box (.attr _ _), X, W, e, g, h => by unfold chkE at h; cases h
  | .box (.call _ _), X, W, e, g, h => by unfold chkE at h; cases h
  | .box (.callv _ _), X, W, e, g, h => by unfold chkE at h; cases h
  | .box (.make _ _), X, W, e, g, h => by unfold chkE at h; cases h
  | .box (.meth _ _ _), X, W, e, g, h => by unfold chkE at h; cases h
  | .box (.bm _ _ _), X, W, e, g, h => by unfold chkE at h; cases h
  | .box (.comp _ _ _ _ _), X, W, e, g, h => by unfold chkE at h; cases h
  | .box (.compB _ _ _ _ _), X, W, e, g, h => by unfold chkE at h; cases h
  | .bin op a b, X, W, e, g, h => by
    unfold chkE at h
    split at h
    · rename_i x o y p
      simp only [Bool.and_eq_true, decide_eq_true_eq] at h
      obtain ⟨⟨rfl, ha⟩, hb⟩ := h
      exact okE_of rfl rfl (px_bin op (soundE a g ha).1 (soundE b g hb).1)
    · cases h
  | .cmp op a b, X, W, e, g, h => by
    unfold chkE at h
    split at h
    · rename_i x o y p
      simp only [Bool.and_eq_true, decide_eq_true_eq, Bool.not_eq_true'] at h
      obtain ⟨⟨⟨rfl, hm⟩, ha⟩, hb⟩ := h
      have pa := (soundE a g ha).1
      have pb := (soundE b g hb).1
      exact okE_of2 (m := cmpM T op (evalE T (runFn T wf k) a) (evalE T (runFn T wf k) b)) rfl rfl (px_cmp T g.kn.tabs g.units op pa pb hm) (pt_cmpM T g.kn.tabs g.units op pa pb hm)
    · cases h
  | .isN neg a, X, W, e, g, h => by
    unfold chkE at h
    split at h
    · rename_i x o k2 p2 p
      simp only [Bool.and_eq_true, decide_eq_true_eq] at h
      obtain ⟨rfl, ha⟩ := h
      have pa := (soundE a g ha).1
      exact okE_of2 (m := isNM neg (evalE T (runFn T wf k) a)) rfl rfl (px_isN neg pa) (pt_isNM neg pa)
    · cases h
  | .chain o p a b c, X, W, e, g, h => by
    unfold chkE at h
    split at h
    · rename_i x o1 p1 y z pp
      simp only [Bool.and_eq_true, decide_eq_true_eq, Bool.not_eq_true'] at h
      obtain ⟨⟨⟨⟨⟨rfl, rfl⟩, hm⟩, ha⟩, hb⟩, hc⟩ := h
      have pa := (soundE a g ha).1
      have pb := (soundE b g hb).1
      have pc := (soundE c g hc).1
      exact okE_of2 (m := chainM T o p (evalE T (runFn T wf k) a) (evalE T (runFn T wf k) b) (evalE T (runFn T wf k) c)) rfl rfl (px_chain T g.kn.tabs g.units o p pa pb pc hm) (pt_chainM T g.kn.tabs g.units o p pa pb pc hm)
    · cases h
  | .and es, X, W, e, g, h => by
    unfold chkE at h
    split at h
    · rename_i xs p
      simp only [Bool.and_eq_true, Bool.not_eq_true'] at h
      have z := (soundEs es g h.1).2.2 h.2 p
      exact ⟨z.1, z.2.2.1.pt⟩
    · cases h
  | .or es, X, W, e, g, h => by
    unfold chkE at h
    split at h
    · rename_i xs p
      simp only [Bool.and_eq_true, Bool.not_eq_true'] at h
      have z := (soundEs es g h.1).2.2 h.2 p
      exact ⟨z.2.1, z.2.2.2.pt⟩
    · cases h
  | .not a, X, W, e, g, h => by
    unfold chkE at h
    split at h
    · rename_i x p
      have z := soundE a g h
      exact ⟨px_not z.1, pt_notM z.2⟩
    · cases h
  | .neg a, X, W, e, g, h => by
    unfold chkE at h
    split at h
    · exact okE_of rfl rfl (px_neg (soundE a g h).1)
    · cases h
  | .ite t a b, X, W, e, g, h => by
    unfold chkE at h
    split at h
    · rename_i u x y p
      simp only [Bool.and_eq_true] at h
      have zt := soundE t g h.1.1
      have za := soundE a g h.1.2
      have zb := soundE b g h.2
      exact ⟨px_ite zt.2 za.1 zb.1, pt_iteM zt.2 za.2 zb.2⟩
    · cases h
  | .idx a b, X, W, e, g, h => by
    unfold chkE at h
    split at h
    · rename_i x y p
      simp only [Bool.and_eq_true] at h
      exact okE_of rfl rfl (px_idx T g.kn.tabs (soundE a g h.1.2).1 (soundE b g h.2).1 h.1.1)
    · cases h
  | .sl a lo hi, X, W, e, g, h => by
    unfold chkE at h
    split at h
    · rename_i x l u p q
      simp only [Bool.and_eq_true] at h
      exact okE_of rfl rfl (px_sl (soundE a g h.1.1).1 (soundO lo g h.1.2) (soundO hi g h.2))
    · cases h
  | .attr a f, X, W, e, g, h => by
    unfold chkE at h
    split at h
    · rename_i x y p
      simp only [Bool.and_eq_true, decide_eq_true_eq] at h
      exact okE_of rfl rfl (px_attr g (soundE a g h.2).1 h.1.1 h.1.2)
    · cases h
  | .call f args, X, W, e, g, h => by
    unfold chkE at h
    split at h
    · rename_i x p xs q
      simp only [Bool.and_eq_true, decide_eq_true_eq] at h
      obtain ⟨⟨hf, hx⟩, hs⟩ := h
      cases args with
      | nil =>
        have hs' : xs.isEmpty = true := by unfold chkEs at hs; exact hs
        cases xs with
        | nil => exact okE_of (m := fun env s => runFn T wf k f [] s) (by funext env s; rfl) (by funext env s; rfl) (px_call0 g hf hx)
        | cons => cases hs'
      | cons a as =>
        cases xs with
        | nil => unfold chkEs at hs; cases hs
        | cons y ys =>
          have z := soundEs (.cons a as) g hs
          exact okE_of rfl rfl (px_call g hf hx z.1 z.2.1)
    · cases h
  | .callv i args, X, W, e, g, h => by
    unfold chkE at h
    split at h
    · rename_i x p xs q
      simp only [Bool.and_eq_true, decide_eq_true_eq, Bool.not_eq_true'] at h
      obtain ⟨⟨⟨hi, hx⟩, hs⟩, hne⟩ := h
      cases xs with
      | nil => cases hne
      | cons y ys =>
        have z := soundEs args g hs
        exact okE_of rfl rfl (px_callv g hi hx z.1 z.2.1)
    · cases h
  | .make c args, X, W, e, g, h => by
    unfold chkE at h
    split at h
    · rename_i x p xs q
      simp only [Bool.and_eq_true, decide_eq_true_eq] at h
      obtain ⟨⟨hf, hx⟩, hs⟩ := h
      cases args with
      | nil =>
        have hs' : xs.isEmpty = true := by unfold chkEs at hs; exact hs
        cases xs with
        | nil => exact okE_of (m := fun env s => madeBy T (runFn T wf k) c [] s) (by funext env s; rfl) (by funext env s; rfl) (px_make0 g hf hx)
        | cons => cases hs'
      | cons a as =>
        cases xs with
        | nil => unfold chkEs at hs; cases hs
        | cons y ys =>
          have z := soundEs (.cons a as) g hs
          exact okE_of (m := fun env s => (evalEs T (runFn T wf k) (.cons a as) env s).bind fun ds s1 => madeBy T (runFn T wf k) c ds s1) (by funext env s; rfl) (by funext env s; rfl) (px_make g hf hx z.1 z.2.1)
    · cases h
  | .meth m a args, X, W, e, g, h => by
    unfold chkE at h
    split at h
    · rename_i o y ap xs p
      simp only [Bool.and_eq_true, decide_eq_true_eq] at h
      obtain ⟨⟨⟨⟨⟨hm, hl⟩, hn⟩, hb⟩, ha⟩, hs⟩ := h
      have pa := (soundE a g ha).1
      cases args with
      | nil =>
        have hs' : xs.isEmpty = true := by unfold chkEs at hs; exact hs
        cases xs with
        | nil => exact okE_of (by funext env s; rfl) (by funext env s; rfl) (px_meth0 g hm pa hb hl)
        | cons => cases hs'
      | cons b bs =>
        cases xs with
        | nil => unfold chkEs at hs; cases hs
        | cons y ys =>
          have z := soundEs (.cons b bs) g hs
          exact okE_of rfl rfl (px_meth g hm pa hb z.1 z.2.1 hn hl)
    · cases h
  | .bi b args, X, W, e, g, h => by
    unfold chkE at h
    split at h
    · rename_i x p xs q
      cases b with
      | isinst c =>
        dsimp only at h
        split at h
        · rename_i u y p2
          simp only [Bool.and_eq_true, decide_eq_true_eq] at h
          obtain ⟨⟨⟨⟨⟨rfl, hx⟩, hy⟩, rfl⟩, hc⟩, hs⟩ := h
          cases args with
          | nil => unfold chkEs at hs; cases hs
          | cons a as =>
            cases as with
            | cons b bs =>
              have hs' : (plainE u && chkE G X.N X.env.scope a u && chkEs G X.N X.env.scope (.cons b bs) []) = true := hs
              have z : chkEs G X.N X.env.scope (.cons b bs) [] = false := rfl
              rw [z, Bool.and_false] at hs'
              cases hs'
            | nil =>
              have hs' : (plainE u && chkE G X.N X.env.scope a u && true) = true := hs
              simp only [Bool.and_eq_true] at hs'
              have em : evalE T (runFn T wf k) (.bi (.isinst c) (.cons a .nil)) = fun env s => ((evP T (runFn T wf k) a).e env s).bind fun d s1 => Res.of (bifun s1 (.isinst c) [d]) s1 := by
                funext env s
                show ((((evP T (runFn T wf k) a).e env s).bind fun d s1 => Res.ok [d] s1).bind fun ds s1 => Res.of (bifun s1 (.isinst c) ds) s1) = _
                cases (evP T (runFn T wf k) a).e env s <;> rfl
              exact okE_of em (by rw [← em]; rfl) (px_isi g hc hx hy (soundE a g hs'.1.2).1 hs'.1.1)
        · cases h
      | len => exact bi_rest (nm := "len") rfl (soundEs args g) (fun z hs hp => px_bi (x := "len") g cR_len (.inl ⟨_, rfl⟩) rfl (g.kn.blt _ (by decide)) z hs hp) h
      | int => exact bi_rest (nm := "int") rfl (soundEs args g) (fun z hs hp => px_bi (x := "int") g cR_int (.inr ⟨_, rfl⟩) rfl (g.kn.blt _ (by decide)) z hs hp) h
      | tuple => exact bi_rest (nm := "tuple") rfl (soundEs args g) (fun z hs hp => px_bi (x := "tuple") g cR_tuple (.inr ⟨_, rfl⟩) rfl (g.kn.blt _ (by decide)) z hs hp) h
      | list => exact bi_rest (nm := "list") rfl (soundEs args g) (fun z hs hp => px_bi (x := "list") g cR_list (.inr ⟨_, rfl⟩) rfl (g.kn.blt _ (by decide)) z hs hp) h
      | all => exact bi_rest (nm := "all") rfl (soundEs args g) (fun z hs hp => px_bi (x := "all") g (cR_all g.calm) (.inl ⟨_, rfl⟩) rfl (g.kn.blt _ (by decide)) z hs hp) h
      | any => exact bi_rest (nm := "any") rfl (soundEs args g) (fun z hs hp => px_bi (x := "any") g (cR_any g.calm) (.inl ⟨_, rfl⟩) rfl (g.kn.blt _ (by decide)) z hs hp) h
      | sum => exact bi_rest (nm := "sum") rfl (soundEs args g) (fun z hs hp => px_bi (x := "sum") g (cR_sum g.calm) (.inl ⟨_, rfl⟩) rfl (g.kn.blt _ (by decide)) z hs hp) h
      | max2 => exact bi_rest (nm := "max") rfl (soundEs args g) (fun z hs hp => px_bi (x := "max") g (cR_max2 g.calm) (.inl ⟨_, rfl⟩) rfl (g.kn.blt _ (by decide)) z hs hp) h
      | min2 => exact bi_rest (nm := "min") rfl (soundEs args g) (fun z hs hp => px_bi (x := "min") g (cR_min2 g.calm) (.inl ⟨_, rfl⟩) rfl (g.kn.blt _ (by decide)) z hs hp) h
      | abs => exact bi_rest (nm := "abs") rfl (soundEs args g) (fun z hs hp => px_bi (x := "abs") g cR_abs (.inl ⟨_, rfl⟩) rfl (g.kn.blt _ (by decide)) z hs hp) h
    · cases h
  | .bm m a args, X, W, e, g, h => by
    unfold chkE at h
    split at h
    · rename_i o y ap xs p
      simp only [Bool.and_eq_true, decide_eq_true_eq] at h
      obtain ⟨⟨⟨⟨⟨⟨hok, rfl⟩, hb⟩, hn⟩, hl⟩, ha⟩, hs⟩ := h
      have pa := (soundE a g ha).1
      cases xs with
      | nil => cases hn
      | cons y ys =>
        have z := soundEs args g hs
        exact okE_of rfl rfl (px_bm hok pa hb z.1 z.2.1 (by rw [hn]; decide) hl)
    · cases h
  | .comp elt tg own it cond, X, W, e, g, h => by
    unfold chkE at h
    split at h
    · rename_i x t i fs csc p
      simp only [Bool.and_eq_true] at h
      obtain ⟨⟨⟨⟨⟨hb, ht⟩, hi⟩, hc⟩, he⟩, ho⟩ := h
      have z := soundI it g hi
      exact okE_of rfl rfl (px_comp g (stayI it _) (tgOwn_ok ho) hb z.1 z.2 (fun s H C cl fp => tgAt_of (c := false) (fun q => by cases q) ht) (fun s H C cl fp => soundC cond (g.blk s H csc C cl fp) hc) (fun s H C cl fp => (soundE elt (g.blk s H csc C cl fp) he).1))
    · cases h
  | .compB elt tg own it cond, X, W, e, g, h => by
    unfold chkE at h
    split at h
    · rename_i x t i fs csc p
      simp only [Bool.and_eq_true] at h
      obtain ⟨⟨⟨⟨⟨hb, ht⟩, hi⟩, hc⟩, he⟩, ho⟩ := h
      have z := soundI it g hi
      exact okE_of rfl rfl (px_compB g (stayI it _) (tgOwn_ok ho) hb z.1 z.2 (fun s H C cl fp => tgAt_of (c := false) (fun q => by cases q) ht) (fun s H C cl fp => soundC cond (g.blk s H csc C cl fp) hc) (fun s H C cl fp => (soundE elt (g.blk s H csc C cl fp) he).1))
    · cases h
theorem soundEs : ∀ (es : Exs) {X : Cx} {W : WX} {xs : List Expr}, Gd T G wf A k X W → chkEs G X.N X.env.scope es xs = true → OkEs T wf k A X W es xs
  | .nil, X, W, xs, g, h => by
    unfold chkEs at h
    cases xs with
    | nil => exact ⟨px_nil, rfl, fun z => by cases z⟩
    | cons => cases h
  | .cons a as, X, W, xs, g, h => by
    unfold chkEs at h
    split at h
    · rename_i x r
      simp only [Bool.and_eq_true] at h
      have za := soundE a g h.1.2
      have zs := soundEs as g h.2
      refine ⟨px_cons za.1 h.1.1 zs.1, by rw [List.all_cons, h.1.1, zs.2.1]; rfl, fun _ pos => ?_⟩
      cases as with
      | nil =>
        cases r with
        | nil => exact ⟨pe_one za.1, pe_one za.1, pw_and1 za.2, pw_or1 za.2⟩
        | cons => unfold chkEs at h; cases h.2
      | cons b bs =>
        cases r with
        | nil => unfold chkEs at h; cases h.2
        | cons y ys =>
          have q := zs.2.2 rfl pos
          exact ⟨px_and2 za.1 q.1, px_or2 za.1 q.2.1, pw_and2 za.2 q.2.2.1, pw_or2 za.2 q.2.2.2⟩
    · cases h
theorem soundO : ∀ (o : Exo) {X : Cx} {W : WX} {oe : Option Expr}, Gd T G wf A k X W → chkO G X.N X.env.scope o oe = true → PO X oe (TOo X.K A W (evalO T (runFn T wf k) o))
  | .no, X, W, oe, g, h => by
    unfold chkO at h
    cases oe with
    | none => exact px_no
    | some _ => cases h
  | .so a, X, W, oe, g, h => by
    unfold chkO at h
    split at h
    · exact px_so (soundE a g h).1
    · cases h
theorem soundC : ∀ (o : Exo) {X : Cx} {xs : List Expr}, Gd T G wf A k X W0 → chkC G X.N X.env.scope o xs = true → PTs X xs (TTo X.K A W0 (evalC T (runFn T wf k) o))
  | .no, X, xs, g, h => by
    unfold chkC at h
    cases xs with
    | nil => exact pts_no
    | cons => cases h
  | .so a, X, xs, g, h => by
    unfold chkC at h
    split at h
    · exact pts_one (soundE a g h).2
    · cases h
theorem soundI : ∀ (it : It) {X : Cx} {W : WX} {e t : Expr}, Gd T G wf A k X W → chkI G X.N X.env.scope it e t = true → PI X t e (TIo X.K A W (evalI T (runFn T wf k) it)) ∧ notSet e = true
  | .seq a, X, W, e, t, g, h => by
    unfold chkI at h
    simp only [Bool.and_eq_true] at h
    exact ⟨pi_seq (soundE a g h.2).1, h.1.2⟩
  | .range1 a, X, W, e, t, g, h => by
    unfold chkI at h
    split at h
    · simp only [Bool.and_eq_true, decide_eq_true_eq] at h
      obtain ⟨⟨⟨rfl, hx⟩, hp⟩, ha⟩ := h
      exact ⟨pi_r1 g hx (soundE a g ha).1 hp, rfl⟩
    · cases h
  | .range2 a b, X, W, e, t, g, h => by
    unfold chkI at h
    split at h
    · simp only [Bool.and_eq_true, decide_eq_true_eq] at h
      obtain ⟨⟨⟨⟨⟨rfl, hx⟩, hp⟩, hp2⟩, ha⟩, hb⟩ := h
      exact ⟨pi_r2 g hx (soundE a g ha).1 hp (soundE b g hb).1 hp2, rfl⟩
    · cases h
  | .zip a b, X, W, e, t, g, h => by
    unfold chkI at h
    split at h
    · simp only [Bool.and_eq_true, decide_eq_true_eq] at h
      obtain ⟨⟨⟨⟨⟨⟨rfl, hx⟩, hp⟩, hp2⟩, ha⟩, hb⟩, ht⟩ := h
      cases t with
      | Tuple => exact ⟨pi_z g hx (soundE a g ha).1 hp (soundE b g hb).1 hp2, rfl⟩
      | _ => cases ht
    · cases h
  | .enum a, X, W, e, t, g, h => by
    unfold chkI at h
    split at h
    · simp only [Bool.and_eq_true, decide_eq_true_eq] at h
      obtain ⟨⟨⟨⟨rfl, hx⟩, hp⟩, ha⟩, ht⟩ := h
      cases t with
      | Tuple => exact ⟨pi_en g hx (soundE a g ha).1 hp, rfl⟩
      | _ => cases ht
    · cases h
  | .rev a, X, W, e, t, g, h => by
    unfold chkI at h
    split at h
    · simp only [Bool.and_eq_true, decide_eq_true_eq] at h
      obtain ⟨⟨⟨rfl, hx⟩, hp⟩, ha⟩ := h
      exact ⟨pi_rv g hx (soundE a g ha).1 hp, rfl⟩
    · cases h
end
end
end CN
set_option Elab.async false
set_option linter.all false
set_option maxRecDepth 100000
set_option maxHeartbeats 2000000
/-! CnStm: statements - the check, the readings, the rules. -/
namespace CN
open PySem PyProof.Rows L2

def isComp : Expr → Bool
  | .ListComp _ _ _ _ => true
  | .SetComp _ _ _ _ => true
  | .DictComp _ _ _ _ _ => true
  | _ => false
def notSD : Expr → Bool
  | .SetComp _ _ _ _ => false
  | .DictComp _ _ _ _ _ => false
  | _ => true
def isTupE : Expr → Option (List Expr)
  | .Tuple vs _ _ => some vs
  | _ => none
/-- does a comprehension stored to a name keep its block's own way? -/
def swapB (sc : Scope) : Expr → Expr → Bool
  | .ListComp _ _ s p, .Name t pos => decide (sc.names.lookup t = some .local) && (pos.line == p.line) && !(s.names.any fun (n, k) => n == t && (k == .local || k == .cell))
  | _, _ => false
/-- a, b = x, y: stored from the right -/
def parOk (ts vs : List Expr) : Bool := vs.all plainE && !(vs.all (foldedForSure 8)) && !(vs.all (constantsAlone 8)) && match ts with
  | [.Name x px, .Name y py] => (px.line == py.line) && decide ([x, y].eraseDups.length = 2) && decide (x ≠ y)
  | [.Name x px, .Name y py, .Name z pz] => (px.line == py.line) && (px.line == pz.line) && decide ([x, y, z].eraseDups.length = 3) && decide (x ≠ y) && decide (x ≠ z) && decide (y ≠ z)
  | _ => false
/-- two names, not both the frame's plain own: stored from the left -/
def cellPar (sc : Scope) (ts vs : List Expr) : Bool := match ts, vs with
  | [.Name x _, .Name y _], [_, _] => !(decide (sc.names.lookup x = some .local) && decide (sc.names.lookup y = some .local))
  | _, _ => false
def compE : Ex → Bool
  | .comp _ _ _ _ _ => true
  | .compB _ _ _ _ _ => true
  | _ => false
def augOk : BOp → Bool
  | .add => true
  | .sub => true
  | _ => false
mutual
def chkS (G : Gi) (N : List Str) (sc : Scope) : CN.St → Stmt → Bool
  | .asg t e, st => match st with
    | .Assign [tg] v _ => chkTg true N sc t tg && chkE G N sc e v && notSD v && (match tg with | .Tuple ts _ _ => !isComp v && (match isTupE v with | some vs => cellPar sc ts vs | none => true) | .Name _ _ => !swapB sc v tg || compE e | _ => false)
    | _ => false
  | .sub o i e, st => match st with
    | .Assign [.Subscript x y _] v _ => plainE y && chkE G N sc o x && chkE G N sc i y && chkE G N sc e v
    | _ => false
  | .fld o f e, st => match st with
    | .Assign [.Attribute x y _] v _ => decide (G.flds[f]? = some y) && chkE G N sc o x && chkE G N sc e v
    | _ => false
  | .par is es, st => match st with
    | .Assign [.Tuple ts _ _] (.Tuple vs _ _) _ => chkTgN false N sc is ts && chkEs G N sc es vs && parOk ts vs && decide (is.length = vs.length)
    | _ => false
  | .aug i op e, st => match st with
    | .AugAssign (.Name x _) o v _ => decide (N[i]? = some x) && isLoc sc x && decide (o = pyOp op) && augOk op && chkE G N sc e v
    | _ => false
  | .augf o f op e, st => match st with
    | .AugAssign (.Attribute x y _) p v _ => decide (G.flds[f]? = some y) && decide (p = pyOp op) && augOk op && chkE G N sc o x && chkE G N sc e v
    | _ => false
  | .expr e, st => match st with
    | .Expr v _ => !isComp v && chkE G N sc e v
    | _ => false
  | .ret e, st => match st with
    | .Return (some v) _ => chkE G N sc e v
    | _ => false
  | .retN, st => match st with
    | .Return none _ => true
    | _ => false
  | .ite t a b, st => match st with
    | .If c x y _ => chkE G N sc t c && chkSs G N sc a x && chkSs G N sc b y
    | _ => false
  | .whl t b, st => match st with
    | .While c x [] _ => chkE G N sc t c && chkSs G N sc b x
    | _ => false
  | .for_ tg it b, st => match st with
    | .For t i x [] _ => chkTg true N sc tg t && chkI G N sc it i t && chkSs G N sc b x
    | _ => false
  | .pass, st => match st with
    | .Pass _ => true
    | _ => false
  | .brk, st => match st with
    | .Break _ => true
    | _ => false
  | .cont, st => match st with
    | .Continue _ => true
    | _ => false
  | .raise _ _, _ => false
  | .thru b, st => match st with
    | .Try x (_ :: _) [] [] _ => chkSs G N sc b x
    | _ => false
  | .try_ _ _, _ => false
  | .never, _ => true
def chkSs (G : Gi) (N : List Str) (sc : Scope) : Sts → List Stmt → Bool
  | .nil, xs => xs.isEmpty
  | .cons a as, xs => match xs with
    | x :: r => chkS G N sc a x && chkSs G N sc as r
    | [] => false
end

/-- what an answer asks of the ends -/
def PostS (K : PySem.W.Frag) (A : Ad) (W : WX) (μ : Mu) (H : Hp) (D : Ends) : Res CN.Flow → Prop
  | .ok (.next e) S => ∀ σ' μ' H', ER K A μ' H' e σ' → HR K A μ' S H' → Mo μ H μ' H' → D.nx σ' H'
  | .ok (.brk e) S => ∀ σ' μ' H', ER K A μ' H' e σ' → HR K A μ' S H' → Mo μ H μ' H' → D.bk σ' H'
  | .ok (.cont e) S => ∀ σ' μ' H', ER K A μ' H' e σ' → HR K A μ' S H' → Mo μ H μ' H' → D.ct σ' H'
  | .ok (.ret d) S => ∀ v μ' H', DR K A μ' H' d v → HR K A μ' S H' → Mo μ H μ' H' → D.rt v H'
  | .ok (.exc e c fs) S => ∀ cl dx σ' μ' H', ER K A μ' H' e σ' → XR K A μ' H' c fs cl dx → HR K A μ' S H' → Mo μ H μ' H' → W cl dx σ' H'
  | _ => False
theorem PostS.base {K : PySem.W.Frag} {A : Ad} {W : WX} {μ μ' : Mu} {H H' : Hp} {D : Ends} {r : Res CN.Flow} (m : Mo μ H μ' H') (h : PostS K A W μ H D r) : PostS K A W μ' H' D r := by
  unfold PostS at h ⊢
  split
  · exact fun σ2 μ2 H2 r R M => h σ2 μ2 H2 r R (m.trans M)
  · exact fun σ2 μ2 H2 r R M => h σ2 μ2 H2 r R (m.trans M)
  · exact fun σ2 μ2 H2 r R M => h σ2 μ2 H2 r R (m.trans M)
  · exact fun σ2 μ2 H2 r R M => h σ2 μ2 H2 r R (m.trans M)
  · exact fun cl dx σ2 μ2 H2 e r R M => h cl dx σ2 μ2 H2 e r R (m.trans M)
  · rename_i x n1 n2 n3 n4 n5
    split at h
    · exact absurd rfl (n1 _ _)
    · exact absurd rfl (n2 _ _)
    · exact absurd rfl (n3 _ _)
    · exact absurd rfl (n4 _ _)
    · exact absurd rfl (n5 _ _ _ _)
    · exact h
/-- other ends -/
theorem PostS.imp {K : PySem.W.Frag} {A : Ad} {W : WX} {μ : Mu} {H : Hp} {D D' : Ends} {r : Res CN.Flow} (h : PostS K A W μ H D r) (hn : ∀ σ H, D.nx σ H → D'.nx σ H) (hb : ∀ σ H, D.bk σ H → D'.bk σ H) (hc : ∀ σ H, D.ct σ H → D'.ct σ H) (hr : ∀ v H, D.rt v H → D'.rt v H) : PostS K A W μ H D' r := by
  cases r with
  | stuck => exact h
  | err => exact h
  | ok f S =>
    cases f with
    | next e => exact fun σ2 μ2 H2 r R M => hn _ _ (h σ2 μ2 H2 r R M)
    | ret d => exact fun σ2 μ2 H2 r R M => hr _ _ (h σ2 μ2 H2 r R M)
    | brk e => exact fun σ2 μ2 H2 r R M => hb _ _ (h σ2 μ2 H2 r R M)
    | cont e => exact fun σ2 μ2 H2 r R M => hc _ _ (h σ2 μ2 H2 r R M)
    | exc e c fs => exact h
abbrev TSo (K : PySem.W.Frag) (A : Ad) (W : WX) (m : CN.Env → Hs → Res CN.Flow) : TS := fun D σ H => ∃ (env : CN.Env) (S : Hs) (μ : Mu), ER K A μ H env σ ∧ HR K A μ S H ∧ PostS K A W μ H D (m env S)
structure GdS (T : Tb) (G : Gi) (wf : Nat) (A : Ad) (k : Nat) (X : Cx) (W : WX) : Prop extends Gd T G wf A k X W where
  fn : ∀ x, X.fn x = true
  bk : X.env.blockKind = .function
section
variable {K : PySem.W.Frag} {A : Ad} {W : WX} {σ : L2.St} {μ : Mu} {H : Hp} {env : CN.Env} {S : Hs}
theorem sseq {α β : Type} {Re : Rl α β} {m : CN.Env → Hs → Res α} {f : α → Hs → Res CN.Flow} {D : Ends} {k : β → Hp → Prop} (E : ER K A μ H env σ) (R : HR K A μ S H) (h : PostS K A W μ H D ((m env S).bs env f))
    (hk : ∀ a S1 b μ1 H1, m env S = .ok a S1 → Re μ1 H1 a b → HR K A μ1 S1 H1 → ER K A μ1 H1 env σ → Mo μ H μ1 H1 → PostS K A W μ1 H1 D (f a S1) → k b H1) : Rd1 Re K A W m σ H k := by
  refine ⟨env, S, μ, E, R, ?_⟩
  cases e : m env S with
  | stuck => rw [e] at h; exact h
  | ok a S1 =>
    rw [e] at h
    exact fun b μ1 H1 r R1 M => hk a S1 b μ1 H1 e r R1 (E.mono M) M (h.base M)
  | err c fs S1 =>
    rw [e] at h
    exact fun cl dx μ1 H1 x R1 M => h cl dx σ μ1 H1 (E.mono M) x R1 M
theorem PostS.of {D : Ends} {o : Option CN.Flow} {S : Hs} (h : PostS K A W μ H D (Res.of o S)) : ∃ f, o = some f ∧ PostS K A W μ H D (.ok f S) := by
  cases o with
  | none => exact h.elim
  | some f => exact ⟨f, rfl, h⟩
end
section
variable {X : Cx} {A : Ad} {W : WX} {st : Stmt}
theorem PS.imp {t t' : TS} (h : PS X st t) (f : ∀ D σ H, t' D σ H → t D σ H) : PS X st t' := ⟨fun pins s σ H D I q => h.run pins s σ H D I (f D σ H q)⟩
theorem PSs.imp {sts : List Stmt} {t t' : TS} (h : PSs X sts t) (f : ∀ D σ H, t' D σ H → t D σ H) : PSs X sts t' := ⟨fun pins s σ H D I q => h.run pins s σ H D I (f D σ H q)⟩
variable {m : CN.Env → Hs → Res D} {e : Expr} {pos : Pos}
theorem map_next {env : CN.Env} {t : Tg} {d : D} {K : PySem.W.Frag} {μ : Mu} {H : Hp} {D : Ends} {S : Hs} (h : PostS K A W μ H D (Res.of ((assignTg env t d).map .next) S)) : ∃ env', assignTg env t d = some env' ∧ PostS K A W μ H D (.ok (.next env') S) := by
  cases e : assignTg env t d with
  | none => rw [e] at h; exact h.elim
  | some env' => rw [e] at h; exact ⟨env', rfl, h⟩
theorem asg_read {K : PySem.W.Frag} {t : Tg} {D : Ends} {σ : L2.St} {H : Hp} (h : TSo K A W (asgM t m) D σ H) : tAsg (TEo K A W m) (gOf K t) D σ H := by
  obtain ⟨env, S, μ, E, R, h⟩ := h
  exact sseq E R h fun d S1 x μ1 H1 _ r1 R1 E1 M1 h1 => by
    obtain ⟨env', e, q⟩ := map_next h1
    exact tgR _ _ _ _ _ _ _ _ E1 r1 e fun σ' E' _ => q σ' μ1 H1 E' R1 (Mo.refl _ _)
theorem swap_no {v : Expr} {t : Option Expr} {l : Nat} {env : PySem.Env} (h : isComp v = false) : swapsWith v t l env = pure false := by
  cases v <;> first | rfl | cases h
theorem swap_nm {v t : Expr} {l : Nat} {env : PySem.Env} (hb : env.blockKind = .function) (h : ∀ x p, t = .Name x p → swapB env.scope v t = false) (hn : notSD v = true) : swapsWith v (some t) l env = pure false := by
  cases v with
  | ListComp a b s p =>
    cases t with
    | Name x q =>
      have h' := h x q rfl
      have e : swapsWith (.ListComp a b s p) (some (.Name x q)) l env = pure (env.blockKind == .function && env.kindOf x == some .local && q.line == p.line && !(s.names.any fun (n, k) => n == x && (k == .local || k == .cell))) := rfl
      rw [e, hb]
      have h2 : (decide (env.scope.names.lookup x = some .local) && (q.line == p.line) && !(s.names.any fun (n, k) => n == x && (k == .local || k == .cell))) = false := h'
      have e2 : (env.kindOf x == some NameKind.local) = decide (env.scope.names.lookup x = some .local) := by
        show (env.scope.names.lookup x == some NameKind.local) = _
        by_cases q : env.scope.names.lookup x = some .local
        · simp [q]
        · simp [q]
      rw [e2, show ((ScopeKind.function == ScopeKind.function) : Bool) = true from rfl, Bool.true_and, h2]
    | _ => rfl
  | SetComp => cases hn
  | DictComp => cases hn
  | _ => rfl
theorem ps_asgN (g : GdS T G wf A k X W) {t : Tg} {te : Expr} (hs : swapsWith e (some te) pos.line X.env = pure false) (hw : swappedStores [te] e X.env = pure none) (ht : TgAt X t te) (he : PE X e (TEo X.K A W m)) : PS X (.Assign [te] e pos) (TSo X.K A W (asgM t m)) := by
  refine PS.imp (ps_asg he (pg_of g.calm g.nd ht) hs hw ?_) fun D σ H h => asg_read h
  cases ht <;> rfl
end
end CN
set_option Elab.async false
set_option linter.all false
set_option maxRecDepth 100000
set_option maxHeartbeats 2000000
/-! CnStm2: the rules of the statements. -/
namespace CN
open PySem PyProof.Rows L2

section
variable {X : Cx} {A : Ad} {W : WX} {T : Tb} {G : Gi} {wf k : Nat} {st : Stmt} {m mo mi : ME} {o i e : Expr} {pos p2 : Pos}
/-- a comprehension stored the block's own way -/
theorem ps_asgLc (g : GdS T G wf A k X W) {n : Nat} {y : Str} {py : Pos} {it : Expr} {ifs : List Expr} {csc : Scope} {own : List Nat} {tg : Tg} {te elt : Expr} {mi : CN.Env → Hs → Res (List D × Option (Nat × List D))} {mc : MT} {me : ME} (hS : StayI mi) (ho : ∀ i ∈ tgIdx tg, i ∈ own)
    (hy : X.N[n]? = some y) (hyl : X.env.scope.names.lookup y = some .local) (hsw : swapB X.env.scope (.ListComp elt [⟨te, it, ifs, 0⟩] csc p2) (.Name y py) = true)
    (hb : blkC X.N X.env.scope csc (ownNames X.N own) = true) (hi : PI X te it (TIo X.K A W mi)) (hn : notSet it = true)
    (ht : ∀ (s : Shared) (H : Hp) (C : Addr) (cl : List (Str × Addr)) (fp : List Addr), TgAt (X.blk s H csc (compEnvC csc cl C X.env) fp) tg te)
    (hc : ∀ (s : Shared) (H : Hp) (C : Addr) (cl : List (Str × Addr)) (fp : List Addr), PTs (X.blk s H csc (compEnvC csc cl C X.env) fp) ifs (TTo X.K A W0 mc))
    (he : ∀ (s : Shared) (H : Hp) (C : Addr) (cl : List (Str × Addr)) (fp : List Addr), PE (X.blk s H csc (compEnvC csc cl C X.env) fp) elt (TEo X.K A W0 me)) :
    PS X (.Assign [.Name y py] (.ListComp elt [⟨te, it, ifs, 0⟩] csc p2) pos) (TSo X.K A W (asgM (.nm n) (compM own tg mi mc me))) ∧
    PS X (.Assign [.Name y py] (.ListComp elt [⟨te, it, ifs, 0⟩] csc p2) pos) (TSo X.K A W (asgM (.nm n) (compBM own tg mi mc me))) := by
  have hsw' : swapsWith (.ListComp elt [⟨te, it, ifs, 0⟩] csc p2) (some (.Name y py)) pos.line X.env = pure true := by
    have e : swapsWith (.ListComp elt [⟨te, it, ifs, 0⟩] csc p2) (some (.Name y py)) pos.line X.env = pure (X.env.blockKind == .function && X.env.kindOf y == some .local && py.line == p2.line && !(csc.names.any fun (n, k) => n == y && (k == .local || k == .cell))) := rfl
    have h2 : (decide (X.env.scope.names.lookup y = some .local) && (py.line == p2.line) && !(csc.names.any fun (n, k) => n == y && (k == .local || k == .cell))) = true := hsw
    have e2 : (X.env.kindOf y == some NameKind.local) = decide (X.env.scope.names.lookup y = some .local) := by
      show (X.env.scope.names.lookup y == some NameKind.local) = _
      simp [hyl]
    rw [e, g.bk, e2, show ((ScopeKind.function == ScopeKind.function) : Bool) = true from rfl, Bool.true_and, h2]
  have base := ps_setLc (g := gOf X.K tg) (spos := pos) g.calm g.nd hy hyl hsw' hi (blkOk_by hb) (fun s H C cl fp => pg_of (X := X.blk s H csc (compEnvC csc cl C X.env) fp) g.calm g.nd (ht s H C cl fp)) hc he (notSet_ok hn X.env)
  rw [own_map] at base
  constructor
  · refine PS.imp base fun D σ H h => ?_
    obtain ⟨env, S, μ, E, R, h⟩ := asg_read h
    exact seq E R h fun p S1 J μ1 H1 e ⟨St, I, st⟩ R1 E1 M1 h1 => comp_read E1 R1 I st (hS _ _ _ _ e).1 ho h1
  · refine PS.imp base fun D σ H h => ?_
    obtain ⟨env, S, μ, E, R, h⟩ := asg_read h
    refine seq E R h fun p S1 J μ1 H1 e ⟨St, I, st⟩ R1 E1 M1 h1 => ?_
    obtain ⟨h2, h3⟩ := hS _ _ _ _ e
    refine compB_read E1 R1 I st ?_ (fun n es hz => Nat.ne_of_lt (h3 n es hz)) ho h1
    cases hp : p.2 with
    | none => rfl
    | some q =>
      obtain ⟨n, es⟩ := q
      rw [hp] at h2
      have hl := h3 n es hp
      show (match (S1 ++ [GO.lst []])[n]? with | some (.lst es') => CN.D.eqbs es' es | _ => false) = true
      rw [List.getElem?_append_left hl]
      exact h2
theorem ps_subN (ho : PE X o (TEo X.K A W mo)) (hi : PE X i (TEo X.K A W mi)) (he : PE X e (TEo X.K A W m)) (hp : plainE i = true) : PS X (.Assign [.Subscript o i p2] e pos) (TSo X.K A W (subM mo mi m)) := by
  refine PS.imp (ps_asg he (pg_sub ho hi set_list (by intro v; cases i <;> first | rfl | cases hp)) (by cases e <;> rfl) (by cases e <;> rfl) (by cases i <;> first | rfl | cases hp)) fun D σ H ⟨env, S, μ, E, R, h⟩ => ?_
  refine sseq E R h fun d S1 x μ1 H1 _ r1 R1 E1 M1 h1 => sseq E1 R1 h1 fun a S2 ov μ2 H2 _ r2 R2 E2 M2 h2 => sseq E2 R2 h2 fun b S3 iv μ3 H3 _ r3 R3 E3 M3 h3 => ?_
  cases a with
  | ref n =>
    dsimp only at h3
    split at h3
    · rename_i ds kk hs hm
      split at h3
      · rename_i j hj
        cases r3
        cases r2 with
        | ref hn =>
          have hn3 := M3.get hn
          obtain ⟨ho, h4, h5⟩ := R3.obj _ _ _ hs hn3
          cases h5 with
          | @lst _ vs ra =>
            have Mw : Mo μ3 H3 μ3 (upd H3 _ (.lst (vs.set j x))) := Mo.write (List.mem_of_getElem? hn3)
            have ra2 : DRs X.K A μ3 H3 (ds.set j d) (vs.set j x) := ra.set j (DR.mono (M2.trans M3) r1)
            refine ⟨_, vs, kk, j, rfl, rfl, h4, by rw [DRs.length ra]; exact hj, h3 σ μ3 _ (E3.mono Mw) (R3.write (g := .lst (ds.set j d)) hn3 (.lst ra2)) Mw⟩
      · exact h3.elim
    · exact h3.elim
  | _ => exact h3.elim
theorem ps_fldN (g : GdS T G wf A k X W) {f : Nat} {y : Str} (hf : G.flds[f]? = some y) (ho : PE X o (TEo X.K A W mo)) (he : PE X e (TEo X.K A W m)) : PS X (.Assign [.Attribute o y p2] e pos) (TSo X.K A W (fldM mo f m)) := by
  refine PS.imp (ps_fld ho he (by cases e <;> rfl)) fun D σ H ⟨env, S, μ, E, R, h⟩ => ?_
  refine sseq E R h fun d S1 x μ1 H1 _ r1 R1 E1 M1 h1 => sseq E1 R1 h1 fun a S2 ov μ2 H2 _ r2 R2 E2 M2 h2 => ?_
  cases a with
  | ref n =>
    dsimp only at h2
    split at h2
    · rename_i c fs hs
      split at h2
      · rename_i hl
        cases r2 with
        | ref hn =>
          obtain ⟨ho, h4, h5⟩ := R2.obj _ _ _ hs hn
          cases h5 with
          | @ins _ C dx _ vs hc r =>
            have hx := g.kn.fld f y hf
            subst hx
            have r' := r.put g.kn.inj (f := f) (DR.mono M2 r1)
            have Mw : Mo μ2 H2 μ2 (upd H2 _ (.ins C dx (putF (A.fld f) x vs))) := Mo.write (List.mem_of_getElem? hn)
            exact ⟨_, C, dx, vs, rfl, h4, g.kn.cls c C hc, g.kn.noat c C f _ hc hf, by rw [r.length]; exact hl, h2 σ μ2 _ (E2.mono Mw) (R2.write (g := .ins c (putN f d fs)) hn (.ins hc r')) Mw⟩
      · exact h2.elim
    · exact h2.elim
  | _ => exact h2.elim
theorem aug_add {d1 d2 z : CN.D} (h : augop .add d1 d2 = some z) : ∃ i j, d1 = .int i ∧ d2 = .int j ∧ z = .int (i + j) := by
  unfold augop at h
  split at h
  · cases h; exact ⟨_, _, rfl, rfl, rfl⟩
  · rename_i q; cases q
  · cases h
theorem aug_sub {d1 d2 z : CN.D} (h : augop .sub d1 d2 = some z) : ∃ i j, d1 = .int i ∧ d2 = .int j ∧ z = .int (i - j) := by
  unfold augop at h
  split at h
  · rename_i q; cases q
  · cases h; exact ⟨_, _, rfl, rfl, rfl⟩
  · cases h
theorem aug_read {K : PySem.W.Frag} {n : Nat} {op : BOp} {z : Int → Int → Int} (hz : ∀ d1 d2 d3, augop op d1 d2 = some d3 → ∃ i j, d1 = .int i ∧ d2 = .int j ∧ d3 = .int (z i j)) {D : Ends} {σ : L2.St} {H : Hp} (h : TSo K A W (augM n op m) D σ H) : tAug n (TEo K A W m) (ipI z) D σ H := by
  obtain ⟨env, S, μ, E, R, h⟩ := h
  unfold augM at h
  split at h
  · rename_i a ha
    obtain ⟨v, h4, r⟩ := E.at_ n a ha
    refine ⟨v, h4, sseq E R h fun b S1 y μ1 H1 _ r1 R1 E1 M1 h1 => ?_⟩
    split at h1
    · rename_i d3 e3
      obtain ⟨i, j, rfl, rfl, rfl⟩ := hz _ _ _ e3
      cases r; cases r1
      exact ⟨i, j, rfl, rfl, h1 _ μ1 H1 (E1.set (.int _)) R1 (Mo.refl _ _)⟩
    · exact h1.elim
  · exact h.elim
theorem ps_augN (g : GdS T G wf A k X W) {n : Nat} {x : Str} {op : BOp} (hi : X.N[n]? = some x) (hx : X.env.scope.names.lookup x = some .local) (hop : augOk op = true) (he : PE X e (TEo X.K A W m)) : PS X (.AugAssign (.Name x p2) (pyOp op) e pos) (TSo X.K A W (augM n op m)) := by
  cases op with
  | add => exact PS.imp (ps_aug g.nd hi (.inl hx) he ip_add (.inr hx)) fun D σ H h => aug_read (fun _ _ _ => aug_add) h
  | sub => exact PS.imp (ps_aug g.nd hi (.inl hx) he ip_sub (.inr hx)) fun D σ H h => aug_read (fun _ _ _ => aug_sub) h
  | _ => cases hop
/-- the class of an instance stays -/
theorem augf_read (g : GdS T G wf A k X W) {f : Nat} {op : BOp} {D : Ends} {σ : L2.St} {H : Hp} {rd : V → V → Hp → VK → Prop} {z : Int → Int → Int} (hz : ∀ d1 d2 d3, augop op d1 d2 = some d3 → ∃ i j, d1 = .int i ∧ d2 = .int j ∧ d3 = .int (z i j))
    (hrd : ∀ i j H Q, Q (.int (z i j)) H → rd (.int i) (.int j) H Q) {y : Str} (hf : G.flds[f]? = some y) (h : TSo X.K A W (augfM mo f op m) D σ H) : sFldAug X.K (TEo X.K A W mo) (TEo X.K A W m) rd y D σ H := by
  obtain ⟨env, S, μ, E, R, h⟩ := h
  refine sseq E R h fun a S1 ov μ1 H1 _ r1 R1 E1 M1 h1 => ?_
  cases a with
  | ref n =>
    dsimp only at h1
    split at h1
    · rename_i c fs hs
      split at h1
      · rename_i va hl
        cases r1 with
        | ref hn =>
          obtain ⟨ho, h4, h5⟩ := R1.obj _ _ _ hs hn
          cases h5 with
          | @ins _ C dx _ vs hc r =>
            have hx := g.kn.fld f y hf
            subst hx
            obtain ⟨v, e2, r2⟩ := r.look g.kn.inj hl
            refine ⟨_, C, dx, vs, v, rfl, h4, g.kn.cls c C hc, g.kn.noat c C f _ hc hf, e2, sseq E1 R1 h1 fun b S2 w μ2 H2 _ r3 R2 E2 M2 h2 => ?_⟩
            have hn2 := M2.get hn
            split at h2
            · rename_i c2 fs2 d3 hs2 e3
              obtain ⟨i, j, rfl, rfl, rfl⟩ := hz _ _ _ e3
              cases r2; cases r3
              split at h2
              · rename_i hl2
                obtain ⟨rfl, hl2⟩ := hl2
                obtain ⟨ho2, h6, h7⟩ := R2.obj _ _ _ hs2 hn2
                cases h7 with
                | @ins _ C2 dx2 _ vs2 hc2 r7 =>
                  have hC : C2 = C := Option.some.inj (hc2.symm.trans hc)
                  subst hC
                  have r' := r7.put g.kn.inj (f := f) (DR.int (z i j))
                  have Mw : Mo μ2 H2 μ2 (upd H2 _ (.ins C2 dx2 (putF (A.fld f) (.int (z i j)) vs2))) := Mo.write (List.mem_of_getElem? hn2)
                  exact hrd i j _ _ ⟨dx2, vs2, h6, by rw [r7.length]; exact hl2, h2 σ μ2 _ (E2.mono Mw) (R2.write (g := .ins c2 (putN f (.int (z i j)) fs2)) hn2 (.ins hc2 r')) Mw⟩
              · exact h2.elim
            · exact h2.elim
      · exact h1.elim
    · exact h1.elim
  | _ => exact h1.elim
theorem ps_augfN (g : GdS T G wf A k X W) {f : Nat} {y : Str} {op : BOp} (hf : G.flds[f]? = some y) (hop : augOk op = true) (ho : PE X o (TEo X.K A W mo)) (he : PE X e (TEo X.K A W m)) : PS X (.AugAssign (.Attribute o y p2) (pyOp op) e pos) (TSo X.K A W (augfM mo f op m)) := by
  cases op with
  | add => exact PS.imp (ps_fldaug ho he in_add) fun D σ H h => augf_read g (fun _ _ _ => aug_add) (fun i j H Q q => ⟨i, j, rfl, rfl, q⟩) hf h
  | sub => exact PS.imp (ps_fldaug ho he in_sub) fun D σ H h => augf_read g (fun _ _ _ => aug_sub) (fun i j H Q q => ⟨i, j, rfl, rfl, q⟩) hf h
  | _ => cases hop
end
end CN
set_option Elab.async false
set_option linter.all false
set_option maxRecDepth 100000
set_option maxHeartbeats 4000000
/-! CnStm3: loops, pairs, and: the interpreter is sound for statements. -/
namespace CN
open PySem PyProof.Rows L2

section
variable {X : Cx} {A : Ad} {W : WX} {T : Tb} {G : Gi} {wf k : Nat} {m : ME} {mt : MT} {mb : MS} {o i e : Expr} {pos p2 : Pos}
/-- the ends of a loop's body -/
theorem while_read {K : PySem.W.Frag} {n : Nat} {D : Ends} {σ : L2.St} {H : Hp} (h : TSo K A W (loopWhl mt mb n) D σ H) : tWhile (TTo K A W mt) (TSo K A W mb) D σ H := by
  obtain ⟨env, S, μ0, E, R, h⟩ := h
  refine ⟨fun j σ' H' => ∃ (env : CN.Env) (S : Hs) (μ : Mu), ER K A μ H' env σ' ∧ HR K A μ S H' ∧ Mo μ0 H μ H' ∧ PostS K A W μ0 H D (loopWhl mt mb j env S), ⟨n, env, S, μ0, E, R, Mo.refl _ _, h⟩, ?_⟩
  rintro j σ1 H1 ⟨env1, S1, μ1, E1, R1, M1, h1⟩
  cases j with
  | zero => exact h1.elim
  | succ j =>
    unfold loopWhl at h1
    refine sseq E1 R1 (h1.base M1) fun c S2 c' μ2 H2 _ r2 R2 E2 M2 h2 => ?_
    obtain rfl : c = c' := r2
    cases c with
    | false => exact iteF (h2 σ1 μ2 H2 E2 R2 (Mo.refl _ _))
    | true =>
      refine iteT ⟨fun σ' H' => ∃ j', j' < j + 1 ∧ ∃ (env : CN.Env) (S : Hs) (μ : Mu), ER K A μ H' env σ' ∧ HR K A μ S H' ∧ Mo μ0 H μ H' ∧ PostS K A W μ0 H D (loopWhl mt mb j' env S), fun σ' H' h => h, env1, S2, μ2, E2, R2, ?_⟩
      have h3 : PostS K A W μ2 H2 D ((mb env1 S2).bind fun f s' => match f with
        | .next env' => loopWhl mt mb j env' s'
        | .cont env' => loopWhl mt mb j env' s'
        | .brk env' => .ok (.next env') s'
        | f => .ok f s') := h2
      have h1' := h1
      rename_i hm
      -- the answer of the whole, at the start
      have h0 : PostS K A W μ0 H D ((mb env1 S2).bind fun f s' => match f with
        | .next env' => loopWhl mt mb j env' s'
        | .cont env' => loopWhl mt mb j env' s'
        | .brk env' => .ok (.next env') s'
        | f => .ok f s') := by
        rw [hm] at h1'
        exact h1'
      cases eb : mb env1 S2 with
      | stuck => rw [eb] at h3; exact h3
      | err => rw [eb] at h3; exact h3
      | ok f S3 =>
        rw [eb] at h3 h0
        cases f with
        | next e3 => exact fun σ3 μ3 H3 E3 R3 M3 => ⟨j, Nat.lt_succ_self _, e3, S3, μ3, E3, R3, M1.trans (M2.trans M3), h0⟩
        | cont e3 => exact fun σ3 μ3 H3 E3 R3 M3 => ⟨j, Nat.lt_succ_self _, e3, S3, μ3, E3, R3, M1.trans (M2.trans M3), h0⟩
        | brk e3 => exact h3
        | ret d => exact h3
        | exc e3 c fs => exact h3
theorem for_read {K : PySem.W.Frag} {t : Tg} {mi : CN.Env → Hs → Res (List D × Option (Nat × List D))} (hS : StayI mi) {D : Ends} {σ : L2.St} {H : Hp} (h : TSo K A W (forM t mi mb) D σ H) : tFor (TIo K A W mi) (gOf K t) (TSo K A W mb) D σ H := by
  obtain ⟨env, S, μ, E, R, h⟩ := h
  refine sseq E R h fun p S1 J μ1 H1 ep ⟨St, I, st⟩ R1 E1 M1 h1 => ?_
  obtain ⟨ds, w⟩ := p
  have hst := (hS _ _ _ _ ep).1
  refine ⟨fun i j σ' H' => j = ds.length - i ∧ i ≤ ds.length ∧ ∃ (env : CN.Env) (S : Hs) (μ : Mu), ER K A μ H' env σ' ∧ HR K A μ S H' ∧ Mo μ1 H1 μ H' ∧ St μ H' ∧ PostS K A W μ1 H1 D (loopFor (forStep t mb) w (ds.drop i) env S), ⟨_, rfl, Nat.zero_le _, env, S1, μ1, E1, R1, Mo.refl _ _, st, h1⟩, ?_⟩
  rintro i j σ2 H2 ⟨rfl, hi, env2, S2, μ2, E2, R2, M2, st2, h2⟩
  by_cases hl : i = ds.length
  · left
    rw [List.drop_of_length_le (by omega)] at h2
    exact ⟨I.stop _ _ _ st2 (by show ds.length ≤ i; omega), h2 σ2 μ2 H2 E2 R2 M2⟩
  · right
    have hi' : i < ds.length := by omega
    have ed : ds[i]? = some ds[i] := List.getElem?_eq_getElem hi'
    obtain ⟨hgo, hy⟩ := I.go _ H2 S2 i ds[i] st2 R2 ed
    refine ⟨hgo, fun σ' H' => ∃ j', j' < ds.length - i ∧ j' = ds.length - (i + 1) ∧ i + 1 ≤ ds.length ∧ ∃ (env : CN.Env) (S : Hs) (μ : Mu), ER K A μ H' env σ' ∧ HR K A μ S H' ∧ Mo μ1 H1 μ H' ∧ St μ H' ∧ PostS K A W μ1 H1 D (loopFor (forStep t mb) w (ds.drop (i + 1)) env S), fun σ' H' hN => ?_, fun x H' hyl => ?_⟩
    · obtain ⟨j', q1, q2⟩ := hN
      exact ⟨j', q1, q2⟩
    · obtain ⟨rx, Rx, Mx⟩ := hy x H' hyl
      have edr : ds.drop i = ds[i] :: ds.drop (i + 1) := (List.drop_eq_getElem_cons hi')
      rw [edr] at h2
      unfold loopFor at h2
      cases es : assignTg env2 t ds[i] with
      | none =>
        have e0 : forStep t mb ds[i] env2 S2 = .stuck := by unfold forStep; rw [es]
        rw [e0] at h2
        exact h2.elim
      | some env3 =>
        have e0 : forStep t mb ds[i] env2 S2 = mb env3 S2 := by unfold forStep; rw [es]
        rw [e0] at h2
        refine tgR _ _ _ _ _ _ _ _ (E2.mono Mx) rx es fun σ3 E3 _ => ⟨env3, S2, μ2, E3, Rx, ?_⟩
        cases eb : mb env3 S2 with
        | stuck => rw [eb] at h2; exact h2
        | err => rw [eb] at h2; exact h2
        | ok f S3 =>
          rw [eb] at h2
          have again : ∀ {e4 : CN.Env}, PostS K A W μ1 H1 D (if stays w S3 then loopFor (forStep t mb) w (ds.drop (i + 1)) e4 S3 else .stuck) → ∀ σ4 μ4 H4, ER K A μ4 H4 e4 σ4 → HR K A μ4 S3 H4 → Mo μ2 H' μ4 H4 →
              ∃ j', j' < ds.length - i ∧ j' = ds.length - (i + 1) ∧ i + 1 ≤ ds.length ∧ ∃ (env : CN.Env) (S : Hs) (μ : Mu), ER K A μ H4 env σ4 ∧ HR K A μ S H4 ∧ Mo μ1 H1 μ H4 ∧ St μ H4 ∧ PostS K A W μ1 H1 D (loopFor (forStep t mb) w (ds.drop (i + 1)) env S) := by
            intro e4 q σ4 μ4 H4 E4 R4 M4
            by_cases hs : stays w S3 = true
            · rw [if_pos hs] at q
              exact ⟨_, (show ds.length - (i + 1) < ds.length - i by omega), rfl, hi', e4, S3, μ4, E4, R4, M2.trans (Mx.trans M4), I.mono _ _ _ _ _ st2 (Mx.trans M4).g R4 hs, q⟩
            · rw [if_neg hs] at q
              exact q.elim
          have hb : PostS K A W μ1 H1 D (.ok (.next env3) S3) → True := fun _ => trivial
          cases f with
          | next e4 => exact again h2
          | cont e4 => exact again h2
          | brk e4 => exact fun σ4 μ4 H4 E4 R4 M4 => h2 σ4 μ4 H4 E4 R4 (M2.trans (Mx.trans M4))
          | ret d => exact fun v μ4 H4 r4 R4 M4 => h2 v μ4 H4 r4 R4 (M2.trans (Mx.trans M4))
          | exc e4 c fs => exact fun cl dx σ4 μ4 H4 E4 x4 R4 M4 => h2 cl dx σ4 μ4 H4 E4 x4 R4 (M2.trans (Mx.trans M4))
theorem whole_seq {K : PySem.W.Frag} {ma mr : MS} {D : Ends} {σ : L2.St} {H : Hp} (h : TSo K A W (fun env s => (ma env s).bind fun f s1 => match f with
    | .next env' => mr env' s1
    | f => .ok f s1) D σ H) : tSeq (TSo K A W ma) (TSo K A W mr) D σ H := by
  obtain ⟨env, S, μ, E, R, h⟩ := h
  refine ⟨env, S, μ, E, R, ?_⟩
  dsimp only at h
  cases eb : ma env S with
  | stuck => rw [eb] at h; exact h
  | err => rw [eb] at h; exact h
  | ok f S3 =>
    rw [eb] at h
    cases f with
    | next e4 => exact fun σ4 μ4 H4 E4 R4 M4 => ⟨e4, S3, μ4, E4, R4, PostS.base M4 h⟩
    | cont e4 => exact h
    | brk e4 => exact h
    | ret d => exact h
    | exc e4 c fs => exact h
theorem thru_read {K : PySem.W.Frag} {D : Ends} {σ : L2.St} {H : Hp} (h : TSo K A W (thruM mb) D σ H) : TSo K A W0 mb D σ H := by
  obtain ⟨env, S, μ, E, R, h⟩ := h
  refine ⟨env, S, μ, E, R, ?_⟩
  unfold thruM at h
  cases eb : mb env S with
  | stuck => rw [eb] at h; exact h
  | err => rw [eb] at h; exact h
  | ok f S3 =>
    rw [eb] at h
    cases f with
    | next e4 => exact h
    | cont e4 => exact h
    | brk e4 => exact h
    | ret d => exact h
    | exc e4 c fs => exact h.elim
/-! pairs, triples -/
theorem beq_self_loc : (some NameKind.local == some NameKind.local) = true := by decide
theorem swapped2 {env : PySem.Env} {x y : Str} {px py pt pt2 : Pos} {kt k2 : Nat} {a b : Expr} (hb : env.blockKind = .function) (hx : env.kindOf x = some .local) (hy : env.kindOf y = some .local) (h : parOk [.Name x px, .Name y py] [a, b] = true) :
    swappedStores [.Tuple [.Name x px, .Name y py] kt pt] (.Tuple [a, b] k2 pt2) env = pure (some [x, y]) := by
  unfold parOk at h
  simp only [Bool.and_eq_true, Bool.not_eq_true', decide_eq_true_eq] at h
  obtain ⟨⟨⟨hp, hf⟩, hc⟩, ⟨hl, hd⟩, hne⟩ := h
  have hp' : plainE a = true ∧ plainE b = true := by simpa using hp
  have hl' : (py.line == px.line) = true := by
    rw [beq_iff_eq] at hl ⊢
    exact hl.symm
  have e1 : ([Expr.Name x px, Expr.Name y py].filterMap fun
    | .Name id pos => if env.kindOf id == some .local && pos.line == px.line then some id else none
    | _ => none) = [x, y] := by
    simp only [List.filterMap, hx, hy, hl', beq_self_eq_true, Bool.and_self, beq_self_loc, if_true]
  have e2 : ([a, b].any fun | .Starred .. => true | _ => false) = false := by
    simp only [List.any_cons, List.any_nil, Bool.or_false, Bool.or_eq_false_iff]
    constructor
    · have q := hp'.1; clear e1 hp' hp hf hc; cases a <;> first | rfl | cases q
    · have q := hp'.2; clear e1 hp' hp hf hc; cases b <;> first | rfl | cases q
  show (show Sem (Option (List Str)) from do
    if !(([Expr.Name x px, Expr.Name y py]).length == 2 || ([Expr.Name x px, Expr.Name y py]).length == 3) || [a, b].length != ([Expr.Name x px, Expr.Name y py]).length || env.blockKind != ScopeKind.function then return none
    if [a, b].any fun | .Starred .. => true | _ => false then return none
    let names := [Expr.Name x px, Expr.Name y py].filterMap fun
      | .Name id pos => if env.kindOf id == some .local && pos.line == px.line then some id else none
      | _ => none
    if names.length != ([Expr.Name x px, Expr.Name y py]).length || names.eraseDups.length != names.length then return none
    if [a, b].all (foldedForSure 8) then return none
    if [a, b].all (constantsAlone 8) then unsupported "assign.tuple-of-constant-expressions:order-of-the-stores"
    return some names) = _
  rw [hb]
  simp only [e1, e2, hd, hf, hc]
  rfl
theorem swapped3 {env : PySem.Env} {x y z : Str} {px py pz pt pt2 : Pos} {kt k2 : Nat} {a b c : Expr} (hb : env.blockKind = .function) (hx : env.kindOf x = some .local) (hy : env.kindOf y = some .local) (hz : env.kindOf z = some .local) (h : parOk [.Name x px, .Name y py, .Name z pz] [a, b, c] = true) :
    swappedStores [.Tuple [.Name x px, .Name y py, .Name z pz] kt pt] (.Tuple [a, b, c] k2 pt2) env = pure (some [x, y, z]) := by
  unfold parOk at h
  simp only [Bool.and_eq_true, Bool.not_eq_true', decide_eq_true_eq] at h
  obtain ⟨⟨⟨hp, hf⟩, hc⟩, ⟨⟨⟨⟨hl, hl2⟩, hd⟩, hne⟩, hne2⟩, hne3⟩ := h
  have hp' : plainE a = true ∧ plainE b = true ∧ plainE c = true := by simpa using hp
  have hl' : (py.line == px.line) = true := by
    rw [beq_iff_eq] at hl ⊢
    exact hl.symm
  have hl2' : (pz.line == px.line) = true := by
    rw [beq_iff_eq] at hl2 ⊢
    exact hl2.symm
  have e1 : ([Expr.Name x px, Expr.Name y py, Expr.Name z pz].filterMap fun
    | .Name id pos => if env.kindOf id == some .local && pos.line == px.line then some id else none
    | _ => none) = [x, y, z] := by
    simp only [List.filterMap, hx, hy, hz, hl', hl2', beq_self_eq_true, Bool.and_self, beq_self_loc, if_true]
  have e2 : ([a, b, c].any fun | .Starred .. => true | _ => false) = false := by
    simp only [List.any_cons, List.any_nil, Bool.or_false, Bool.or_eq_false_iff]
    refine ⟨?_, ?_, ?_⟩
    · have q := hp'.1; clear e1 hp' hp hf hc; cases a <;> first | rfl | cases q
    · have q := hp'.2.1; clear e1 hp' hp hf hc; cases b <;> first | rfl | cases q
    · have q := hp'.2.2; clear e1 hp' hp hf hc; cases c <;> first | rfl | cases q
  show (show Sem (Option (List Str)) from do
    if !(([Expr.Name x px, Expr.Name y py, Expr.Name z pz]).length == 2 || ([Expr.Name x px, Expr.Name y py, Expr.Name z pz]).length == 3) || [a, b, c].length != ([Expr.Name x px, Expr.Name y py, Expr.Name z pz]).length || env.blockKind != ScopeKind.function then return none
    if [a, b, c].any fun | .Starred .. => true | _ => false then return none
    let names := [Expr.Name x px, Expr.Name y py, Expr.Name z pz].filterMap fun
      | .Name id pos => if env.kindOf id == some .local && pos.line == px.line then some id else none
      | _ => none
    if names.length != ([Expr.Name x px, Expr.Name y py, Expr.Name z pz]).length || names.eraseDups.length != names.length then return none
    if [a, b, c].all (foldedForSure 8) then return none
    if [a, b, c].all (constantsAlone 8) then unsupported "assign.tuple-of-constant-expressions:order-of-the-stores"
    return some names) = _
  rw [hb]
  simp only [e1, e2, hd, hf, hc]
  rfl
theorem swapped2c {env : PySem.Env} {x y : Str} {px py pt pt2 : Pos} {kt k2 : Nat} {a b : Expr} (hb : env.blockKind = .function) (h : ¬ (env.kindOf x = some .local ∧ env.kindOf y = some .local)) :
    swappedStores [.Tuple [.Name x px, .Name y py] kt pt] (.Tuple [a, b] k2 pt2) env = pure none := by
  have e1 : ([Expr.Name x px, Expr.Name y py].filterMap fun
    | .Name id pos => if env.kindOf id == some .local && pos.line == px.line then some id else none
    | _ => none).length < 2 := by
    simp only [List.filterMap]
    by_cases hx : env.kindOf x = some .local
    · have hy : ¬ env.kindOf y = some .local := fun q => h ⟨hx, q⟩
      have hy' : (env.kindOf y == some NameKind.local) = false := by simpa using hy
      simp only [hy', Bool.false_and, Bool.false_eq_true, if_false]
      split <;> simp
    · have hx' : (env.kindOf x == some NameKind.local) = false := by simpa using hx
      simp only [hx', Bool.false_and, Bool.false_eq_true, if_false]
      split <;> simp
  show (show Sem (Option (List Str)) from do
    if !(([Expr.Name x px, Expr.Name y py]).length == 2 || ([Expr.Name x px, Expr.Name y py]).length == 3) || [a, b].length != ([Expr.Name x px, Expr.Name y py]).length || env.blockKind != ScopeKind.function then return none
    if [a, b].any fun | .Starred .. => true | _ => false then return none
    let names := [Expr.Name x px, Expr.Name y py].filterMap fun
      | .Name id pos => if env.kindOf id == some .local && pos.line == px.line then some id else none
      | _ => none
    if names.length != ([Expr.Name x px, Expr.Name y py]).length || names.eraseDups.length != names.length then return none
    if [a, b].all (foldedForSure 8) then return none
    if [a, b].all (constantsAlone 8) then unsupported "assign.tuple-of-constant-expressions:order-of-the-stores"
    return some names) = _
  rw [hb]
  generalize ([Expr.Name x px, Expr.Name y py].filterMap fun
    | .Name id pos => if env.kindOf id == some .local && pos.line == px.line then some id else none
    | _ => none) = L at e1 ⊢
  have e2 : (L.length != ([Expr.Name x px, Expr.Name y py]).length || L.eraseDups.length != L.length) = true := by
    have q : ¬ L.length = 2 := by omega
    have q2 : (L.length != ([Expr.Name x px, Expr.Name y py]).length) = true := by
      rw [bne_iff_ne]
      exact q
    rw [q2, Bool.true_or]
  simp only [e2, if_true]
  split
  · rfl
  · split <;> rfl
theorem loc_of {sc : Scope} {x : Str} (h : isLoc sc x = true) : sc.names.lookup x = some .local := by simpa [isLoc] using h
theorem ne_ix {N : List Str} {i j : Nat} {x y : Str} (hi : N[i]? = some x) (hj : N[j]? = some y) (h : x ≠ y) : i ≠ j := by
  rintro rfl
  exact h (Option.some.inj (hi.symm.trans hj))
theorem par_two {K : PySem.W.Frag} {i j : Nat} {ms : CN.Env → Hs → Res (List CN.D)} {D : Ends} {σ : L2.St} {H : Hp} (h : TSo K A W (parM [i, j] ms) D σ H) : tPar i j (TAo K A W ms) D σ H := by
  obtain ⟨env, S, μ, E, R, h⟩ := h
  refine sseq E R h fun ds S1 vs μ1 H1 _ r1 R1 E1 M1 h1 => ?_
  match ds, r1, h1 with
  | [], _, h1 => exact h1.elim
  | [_], _, h1 => exact h1.elim
  | _ :: _ :: _ :: _, _, h1 => exact h1.elim
  | [d, d2], r1, h1 =>
    cases r1 with
    | cons ra rr =>
      cases rr with
      | cons rb rr =>
        cases rr
        exact ⟨_, _, rfl, h1 _ μ1 H1 ((E1.set ra).set rb) R1 (Mo.refl _ _)⟩
theorem par_three {K : PySem.W.Frag} {i j l : Nat} {ms : CN.Env → Hs → Res (List CN.D)} {D : Ends} {σ : L2.St} {H : Hp} (h : TSo K A W (parM [i, j, l] ms) D σ H) : tPar3 i j l (TAo K A W ms) D σ H := by
  obtain ⟨env, S, μ, E, R, h⟩ := h
  refine sseq E R h fun ds S1 vs μ1 H1 _ r1 R1 E1 M1 h1 => ?_
  match ds, r1, h1 with
  | [], _, h1 => exact h1.elim
  | [_], _, h1 => exact h1.elim
  | [_, _], _, h1 => exact h1.elim
  | _ :: _ :: _ :: _ :: _, _, h1 => exact h1.elim
  | [d, d2, d3], r1, h1 =>
    cases r1 with
    | cons ra rr =>
      cases rr with
      | cons rb rr =>
        cases rr with
        | cons rc rr =>
          cases rr
          exact ⟨_, _, _, rfl, h1 _ μ1 H1 (((E1.set ra).set rb).set rc) R1 (Mo.refl _ _)⟩
theorem tgN_len {c : Bool} {N : List Str} {sc : Scope} : ∀ {is : List Nat} {ts : List Expr}, chkTgN c N sc is ts = true → is.length = ts.length
  | [], [], _ => rfl
  | [], _ :: _, h => by cases h
  | _ :: _, [], h => by cases h
  | i :: is, e :: es, h => by
    cases e with
    | Name x p =>
      have h' : (decide (N[i]? = some x) && (isLoc sc x || (c && decide (sc.names.lookup x = some .cell))) && chkTgN c N sc is es) = true := h
      simp only [Bool.and_eq_true] at h'
      rw [List.length_cons, List.length_cons, tgN_len h'.2]
    | _ => cases h
theorem ps_parN (g : GdS T G wf A k X W) {is : List Nat} {ts vs : List Expr} {kt k2 : Nat} {pt pt2 : Pos} {ms : CN.Env → Hs → Res (List CN.D)} (ht : chkTgN false X.N X.env.scope is ts = true) (hp : parOk ts vs = true) (hv : is.length = vs.length) (ha : PA X vs (TAo X.K A W ms)) :
    PS X (.Assign [.Tuple ts kt pt] (.Tuple vs k2 pt2) pos) (TSo X.K A W (parM is ms)) := by
  have hp0 := hp
  have hl := tgN_len ht
  unfold parOk at hp
  split at hp
  · rename_i x px y py
    obtain ⟨i, j, rfl⟩ : ∃ i j, is = [i, j] := by
      match is, hl with
      | [i, j], _ => exact ⟨i, j, rfl⟩
    obtain ⟨a, b, rfl⟩ : ∃ a b, vs = [a, b] := by
      match vs, hv with
      | [a, b], _ => exact ⟨a, b, rfl⟩
    have ht' : (decide (X.N[i]? = some x) && (isLoc X.env.scope x || false) && (decide (X.N[j]? = some y) && (isLoc X.env.scope y || false) && true)) = true := ht
    simp only [Bool.and_eq_true, decide_eq_true_eq, Bool.or_false] at ht' hp
    obtain ⟨⟨hi, hx⟩, ⟨hj, hy⟩, _⟩ := ht'
    exact PS.imp (ps_par g.calm g.nd hi hj (ne_ix hi hj hp.2.2) (loc_of hx) (loc_of hy) ha (swapped2 g.bk (loc_of hx) (loc_of hy) hp0)) fun D σ H h => par_two h
  · rename_i x px y py z pz
    obtain ⟨i, j, l, rfl⟩ : ∃ i j l, is = [i, j, l] := by
      match is, hl with
      | [i, j, l], _ => exact ⟨i, j, l, rfl⟩
    obtain ⟨a, b, c, rfl⟩ : ∃ a b c, vs = [a, b, c] := by
      match vs, hv with
      | [a, b, c], _ => exact ⟨a, b, c, rfl⟩
    have ht' : (decide (X.N[i]? = some x) && (isLoc X.env.scope x || false) && (decide (X.N[j]? = some y) && (isLoc X.env.scope y || false) && (decide (X.N[l]? = some z) && (isLoc X.env.scope z || false) && true))) = true := ht
    simp only [Bool.and_eq_true, decide_eq_true_eq, Bool.or_false] at ht' hp
    obtain ⟨⟨hi, hx⟩, ⟨hj, hy⟩, ⟨hl, hz⟩, _⟩ := ht'
    obtain ⟨_, ⟨⟨⟨_, n1⟩, n2⟩, n3⟩⟩ := hp
    exact PS.imp (ps_par3 g.calm g.nd hi hj hl (ne_ix hi hj n1) (ne_ix hi hl n2) (ne_ix hj hl n3) (loc_of hx) (loc_of hy) (loc_of hz) ha (swapped3 g.bk (loc_of hx) (loc_of hy) (loc_of hz) hp0)) fun D σ H h => par_three h
  · simp at hp
end
end CN
set_option Elab.async false
set_option linter.all false
set_option maxRecDepth 100000
set_option maxHeartbeats 4000000
/-! CnStm4: the interpreter is sound for statements. -/
namespace CN
open PySem PyProof.Rows L2

section
variable {T : Tb} {G : Gi} {wf : Nat} {A : Ad} {k : Nat}
theorem GdS.nox {X : Cx} {W : WX} (g : GdS T G wf A k X W) : GdS T G wf A k X.nox W0 := ⟨⟨g.kn, g.room, g.calm, g.nd, takes0, PassesOwn.never⟩, g.fn, g.bk⟩
abbrev OkS (T : Tb) (wf k : Nat) (A : Ad) (X : Cx) (W : WX) (st : CN.St) (s : Stmt) : Prop := PS X s (TSo X.K A W (evalS T wf (runFn T wf k) st))
abbrev OkSs (T : Tb) (wf k : Nat) (A : Ad) (X : Cx) (W : WX) (st : Sts) (s : List Stmt) : Prop := PSs X s (TSo X.K A W (evalSs T wf (runFn T wf k) st))
theorem ps_exprN {X : Cx} {W : WX} {e : Expr} {pos : Pos} {m : ME} (hc : isComp e = false) (he : PE X e (TEo X.K A W m)) : PS X (.Expr e pos) (TSo X.K A W fun env s => (m env s).bs env fun _ s1 => .ok (.next env) s1) :=
  PS.imp (ps_expr he (swap_no hc)) fun D σ H ⟨env, S, μ, E, R, h⟩ => sseq E R h fun d S1 x μ1 H1 _ r1 R1 E1 M1 h1 => h1 σ μ1 H1 E1 R1 (Mo.refl _ _)
theorem ps_retE {X : Cx} {W : WX} {e : Expr} {pos : Pos} {m : ME} (he : PE X e (TEo X.K A W m)) : PS X (.Return (some e) pos) (TSo X.K A W fun env s => (m env s).bs env fun d s1 => .ok (.ret d) s1) :=
  PS.imp (ps_ret he) fun D σ H ⟨env, S, μ, E, R, h⟩ => sseq E R h fun d S1 x μ1 H1 _ r1 R1 E1 M1 h1 => h1 x μ1 H1 r1 R1 (Mo.refl _ _)
theorem ps_iteN {X : Cx} {W : WX} {c : Expr} {x y : List Stmt} {pos : Pos} {mt : MT} {ma mb : MS} (hc : PT X c (TTo X.K A W mt)) (ha : PSs X x (TSo X.K A W ma)) (hb : PSs X y (TSo X.K A W mb)) : PS X (.If c x y pos) (TSo X.K A W fun env s => (mt env s).bs env fun c s1 => if c then ma env s1 else mb env s1) :=
  PS.imp (ps_if hc ha hb) fun D σ H ⟨env, S, μ, E, R, h⟩ => sseq E R h fun c S1 c' μ1 H1 _ r1 R1 E1 M1 h1 => by
    obtain rfl : c = c' := r1
    cases c with
    | true => exact iteT ⟨env, S1, μ1, E1, R1, h1⟩
    | false => exact iteF ⟨env, S1, μ1, E1, R1, h1⟩
theorem sound_asg {X : Cx} {W : WX} (g : GdS T G wf A k X W) {t : Tg} {e : Ex} {tg v : Expr} {p : Pos} (h : (chkTg true X.N X.env.scope t tg && chkE G X.N X.env.scope e v && notSD v && (match tg with | .Tuple ts _ _ => !isComp v && (match isTupE v with | some vs => cellPar X.env.scope ts vs | none => true) | .Name _ _ => !swapB X.env.scope v tg || compE e | _ => false)) = true) :
    PS X (.Assign [tg] v p) (TSo X.K A W (asgM t (evalE T (runFn T wf k) e))) := by
  simp only [Bool.and_eq_true] at h
  obtain ⟨⟨⟨ht, he⟩, hn⟩, h4⟩ := h
  have tt := tgAt_of (X := X) (fun _ => g.fn) ht
  have pe := (soundE e g.toGd he).1
  cases tg with
  | Tuple es kk pp =>
    have h4' : (!isComp v && (match isTupE v with | some vs => cellPar X.env.scope es vs | none => true)) = true := h4
    simp only [Bool.and_eq_true, Bool.not_eq_true'] at h4'
    refine ps_asgN g (swap_no h4'.1) ?_ tt pe
    cases v with
    | Tuple vs k3 p3 =>
      have hc : cellPar X.env.scope es vs = true := h4'.2
      unfold cellPar at hc
      split at hc
      · rename_i x px y py a b
        simp only [Bool.not_eq_true', Bool.and_eq_false_iff, decide_eq_false_iff_not] at hc
        exact swapped2c g.bk fun q => hc.elim (fun z => z q.1) fun z => z q.2
      · cases hc
    | _ => rfl
  | Name x px =>
    have h4' : (!swapB X.env.scope v (.Name x px) || compE e) = true := h4
    cases hs : swapB X.env.scope v (.Name x px) with
    | false =>
      refine ps_asgN g (swap_nm g.bk (fun y q hy => by cases hy; exact hs) hn) ?_ tt pe
      cases v <;> rfl
    | true =>
      rw [hs] at h4'
      have hce : compE e = true := h4'
      cases t with
      | tp is => cases tt
      | nm n =>
        have hy : X.N[n]? = some x := by
          cases tt with
          | nm hi _ => exact hi
        cases v with
        | ListComp elt gs csc p2 =>
          have hyl : X.env.scope.names.lookup x = some .local := by
            have h2 : (decide (X.env.scope.names.lookup x = some .local) && (px.line == p2.line) && !(csc.names.any fun (n, k) => n == x && (k == .local || k == .cell))) = true := hs
            simp only [Bool.and_eq_true, decide_eq_true_eq] at h2
            exact h2.1.1
          cases e with
          | comp ce tg own it cond =>
            unfold chkE at he
            split at he
            · rename_i x2 t2 i2 fs2 csc2 pp hv
              cases hv
              simp only [Bool.and_eq_true] at he
              obtain ⟨⟨⟨⟨⟨hb, ht⟩, hi⟩, hc⟩, he⟩, ho⟩ := he
              have z := soundI it g.toGd hi
              exact (ps_asgLc g (stayI it _) (tgOwn_ok ho) hy hyl hs hb z.1 z.2 (fun s H C cl fp => tgAt_of (c := false) (fun q => by cases q) ht) (fun s H C cl fp => soundC cond (g.toGd.blk s H _ C cl fp) hc) (fun s H C cl fp => (soundE ce (g.toGd.blk s H _ C cl fp) he).1)).1
            · cases he
          | compB ce tg own it cond =>
            unfold chkE at he
            split at he
            · rename_i x2 t2 i2 fs2 csc2 pp hv
              cases hv
              simp only [Bool.and_eq_true] at he
              obtain ⟨⟨⟨⟨⟨hb, ht⟩, hi⟩, hc⟩, he⟩, ho⟩ := he
              have z := soundI it g.toGd hi
              exact (ps_asgLc g (stayI it _) (tgOwn_ok ho) hy hyl hs hb z.1 z.2 (fun s H C cl fp => tgAt_of (c := false) (fun q => by cases q) ht) (fun s H C cl fp => soundC cond (g.toGd.blk s H _ C cl fp) hc) (fun s H C cl fp => (soundE ce (g.toGd.blk s H _ C cl fp) he).1)).2
            · cases he
          | _ => cases hce
        | _ => cases hs
  | _ => cases h4

mutual
theorem soundS : ∀ (st : CN.St) {X : Cx} {W : WX} {s : Stmt}, GdS T G wf A k X W → chkS G X.N X.env.scope st s = true → OkS T wf k A X W st s
  | .asg t e, X, W, s, g, h => by
    unfold chkS at h
    split at h
    · exact sound_asg g h
    · cases h
  | .sub o i e, X, W, s, g, h => by
    unfold chkS at h
    split at h
    · simp only [Bool.and_eq_true] at h
      exact ps_subN (soundE o g.toGd h.1.1.2).1 (soundE i g.toGd h.1.2).1 (soundE e g.toGd h.2).1 h.1.1.1
    · cases h
  | .fld o f e, X, W, s, g, h => by
    unfold chkS at h
    split at h
    · simp only [Bool.and_eq_true, decide_eq_true_eq] at h
      exact ps_fldN g h.1.1 (soundE o g.toGd h.1.2).1 (soundE e g.toGd h.2).1
    · cases h
  | .par is es, X, W, s, g, h => by
    unfold chkS at h
    split at h
    · simp only [Bool.and_eq_true, decide_eq_true_eq] at h
      exact ps_parN g h.1.1.1 h.1.2 h.2 (soundEs es g.toGd h.1.1.2).1
    · cases h
  | .aug i op e, X, W, s, g, h => by
    unfold chkS at h
    split at h
    · simp only [Bool.and_eq_true, decide_eq_true_eq] at h
      obtain ⟨⟨⟨⟨hi, hx⟩, rfl⟩, hop⟩, he⟩ := h
      exact ps_augN g hi (loc_of hx) hop (soundE e g.toGd he).1
    · cases h
  | .augf o f op e, X, W, s, g, h => by
    unfold chkS at h
    split at h
    · simp only [Bool.and_eq_true, decide_eq_true_eq] at h
      obtain ⟨⟨⟨⟨hf, rfl⟩, hop⟩, ho⟩, he⟩ := h
      exact ps_augfN g hf hop (soundE o g.toGd ho).1 (soundE e g.toGd he).1
    · cases h
  | .expr e, X, W, s, g, h => by
    unfold chkS at h
    split at h
    · simp only [Bool.and_eq_true, Bool.not_eq_true'] at h
      exact ps_exprN h.1 (soundE e g.toGd h.2).1
    · cases h
  | .ret e, X, W, s, g, h => by
    unfold chkS at h
    split at h
    · exact ps_retE (soundE e g.toGd h).1
    · cases h
  | .retN, X, W, s, g, h => by
    unfold chkS at h
    split at h
    · exact PS.imp ps_retN fun D σ H ⟨env, S, μ, E, R, h⟩ => h .non μ H .non R (Mo.refl _ _)
    · cases h
  | .ite t a b, X, W, s, g, h => by
    unfold chkS at h
    split at h
    · simp only [Bool.and_eq_true] at h
      exact ps_iteN (soundE t g.toGd h.1.1).2 (soundSs a g h.1.2) (soundSs b g h.2)
    · cases h
  | .whl t b, X, W, s, g, h => by
    unfold chkS at h
    split at h
    · simp only [Bool.and_eq_true] at h
      exact PS.imp (ps_while g.pass (soundE t g.toGd h.1).2 (soundSs b g h.2)) fun D σ H h => while_read h
    · cases h
  | .for_ tg it b, X, W, s, g, h => by
    unfold chkS at h
    split at h
    · simp only [Bool.and_eq_true] at h
      have z := soundI it g.toGd h.1.2
      exact PS.imp (ps_for g.pass g.calm z.1 (pg_of g.calm g.nd (tgAt_of (fun _ => g.fn) h.1.1)) (soundSs b g h.2) (notSet_ok z.2 X.env)) fun D σ H h => for_read (stayI it _) h
    · cases h
  | .pass, X, W, s, g, h => by
    unfold chkS at h
    split at h
    · exact PS.imp ps_pass fun D σ H ⟨env, S, μ, E, R, h⟩ => h σ μ H E R (Mo.refl _ _)
    · cases h
  | .brk, X, W, s, g, h => by
    unfold chkS at h
    split at h
    · exact PS.imp ps_break fun D σ H ⟨env, S, μ, E, R, h⟩ => h σ μ H E R (Mo.refl _ _)
    · cases h
  | .cont, X, W, s, g, h => by
    unfold chkS at h
    split at h
    · exact PS.imp ps_continue fun D σ H ⟨env, S, μ, E, R, h⟩ => h σ μ H E R (Mo.refl _ _)
    · cases h
  | .raise _ _, X, W, s, g, h => by unfold chkS at h; cases h
  | .thru b, X, W, s, g, h => by
    unfold chkS at h
    split at h
    · exact PS.imp (ps_try_thru0 (soundSs b g.nox h)) fun D σ H h => thru_read h
    · cases h
  | .try_ _ _, X, W, s, g, h => by unfold chkS at h; cases h
  | .never, X, W, s, g, h => PS.imp ps_never fun D σ H ⟨env, S, μ, E, R, h⟩ => h
theorem soundSs : ∀ (sts : Sts) {X : Cx} {W : WX} {ss : List Stmt}, GdS T G wf A k X W → chkSs G X.N X.env.scope sts ss = true → OkSs T wf k A X W sts ss
  | .nil, X, W, ss, g, h => by
    unfold chkSs at h
    cases ss with
    | nil => exact PSs.imp pss_nil fun D σ H ⟨env, S, μ, E, R, h⟩ => h σ μ H E R (Mo.refl _ _)
    | cons => cases h
  | .cons a as, X, W, ss, g, h => by
    unfold chkSs at h
    split at h
    · simp only [Bool.and_eq_true] at h
      exact PSs.imp (pss_cons (soundS a g h.1) (soundSs as g h.2)) fun D σ H h => whole_seq h
    · cases h
end
end
end CN
set_option Elab.async false
set_option linter.all false
set_option maxRecDepth 100000
set_option maxHeartbeats 4000000
/-! CnFun: a function of the program answers as the interpreter says, at every level. -/
namespace CN
open PySem PyProof.Rows L2

section
variable {K : PySem.W.Frag} {A : Ad} {μ μ' : Mu} {H H' : Hp}
mutual
theorem DR.below_ : ∀ {d : D} {v : V}, DR K A μ H d v → below μ.tr.length d = true
  | _, _, .non => rfl
  | _, _, .bl b => rfl
  | _, _, .int i => rfl
  | _, _, .str x => rfl
  | _, _, .tup h r => DRs.below_ r
  | _, _, .tl h r => DRs.below_ r
  | _, _, .kl h r => DRs.below_ r
  | _, _, .ref h => by
    show decide _ = true
    exact decide_eq_true (List.getElem?_eq_some_iff.mp h).1
  | _, _, .fn h => rfl
  | _, _, .cls h => rfl
  | _, _, .ty n => rfl
  | _, _, .tab h => rfl
theorem DRs.below_ : ∀ {ds : List D} {vs : List V}, DRs K A μ H ds vs → belows μ.tr.length ds = true
  | _, _, .nil => rfl
  | _, _, .cons h r => by
    show (below _ _ && belows _ _) = true
    rw [DR.below_ h, DRs.below_ r]
    rfl
end
mutual
theorem noRef_below {n : Nat} : ∀ {d : D}, noRef d = true → below n d = true
  | .non, _ => rfl
  | .bl _, _ => rfl
  | .int _, _ => rfl
  | .str _, _ => rfl
  | .tup ds, h => noRefs_below (show noRefs ds = true from h)
  | .tl ds, h => noRefs_below (show noRefs ds = true from h)
  | .kl ds, h => noRefs_below (show noRefs ds = true from h)
  | .ref _, h => by cases h
  | .fn _, _ => rfl
  | .cls _, _ => rfl
  | .ty _, _ => rfl
  | .tab _, _ => rfl
theorem noRefs_below {n : Nat} : ∀ {ds : List D}, noRefs ds = true → belows n ds = true
  | [], _ => rfl
  | d :: ds, h => by
    have h' : (noRef d && noRefs ds) = true := h
    rw [Bool.and_eq_true] at h'
    show (below n d && belows n ds) = true
    rw [noRef_below h'.1, noRefs_below h'.2]
    rfl
end
variable {l : List Addr}
theorem mem_of_pre (hp : μ'.tr = μ.tr ++ l) (hv : μ'.pv = μ.pv) {a : Addr} (h : a ∈ μ) : a ∈ μ' := by
  rcases h with h | h
  · left; rw [hp]; exact List.mem_append_left _ h
  · right; rw [hv]; exact h
mutual
theorem DR.shrink (hp : μ'.tr = μ.tr ++ l) (hv : μ'.pv = μ.pv) : ∀ {d : D} {v : V}, DR K A μ' H d v → below μ.tr.length d = true → DR K A μ H d v
  | _, _, .non, _ => .non
  | _, _, .bl b, _ => .bl b
  | _, _, .int i, _ => .int i
  | _, _, .str x, _ => .str x
  | _, _, .tup h r, b => .tup (by
      rcases h with ⟨h, n⟩ | h
      · exact .inl ⟨h, fun q => n (mem_of_pre hp hv q)⟩
      · exact .inr h) (DRs.shrink hp hv r b)
  | _, _, .tl h r, b => .tl ⟨h.1, fun q => h.2 (mem_of_pre hp hv q)⟩ (DRs.shrink hp hv r b)
  | _, _, .kl h r, b => .kl h (DRs.shrink hp hv r b)
  | _, _, .ref (n := n) h, b => .ref (by
      have hn : n < μ.tr.length := of_decide_eq_true b
      rw [hp, List.getElem?_append_left hn] at h
      exact h)
  | _, _, .fn h, _ => .fn h
  | _, _, .cls h, _ => .cls h
  | _, _, .ty n, _ => .ty n
  | _, _, .tab h, _ => .tab h
theorem DRs.shrink (hp : μ'.tr = μ.tr ++ l) (hv : μ'.pv = μ.pv) : ∀ {ds : List D} {vs : List V}, DRs K A μ' H ds vs → belows μ.tr.length ds = true → DRs K A μ H ds vs
  | _, _, .nil, _ => .nil
  | _, _, .cons (d := d) (ds := ds) h r, b => by
    have b' : (below μ.tr.length d && belows μ.tr.length ds) = true := b
    rw [Bool.and_eq_true] at b'
    exact .cons (DR.shrink hp hv h b'.1) (DRs.shrink hp hv r b'.2)
end
theorem FR.shrink (hp : μ'.tr = μ.tr ++ l) (hv : μ'.pv = μ.pv) : ∀ {fs : List (Nat × D)} {vs : List (Str × V)}, FR K A μ' H fs vs → (fs.all fun p => CN.below μ.tr.length p.2) = true → FR K A μ H fs vs
  | _, _, .nil, _ => .nil
  | _, _, .cons h r, b => by
    rw [List.all_cons, Bool.and_eq_true] at b
    exact .cons (h.shrink hp hv b.1) (FR.shrink hp hv r b.2)
theorem KR.shrink (hp : μ'.tr = μ.tr ++ l) (hv : μ'.pv = μ.pv) : ∀ {fs : List (Key × D)} {vs : List (Key × V)}, KR K A μ' H fs vs → (fs.all fun p => CN.below μ.tr.length p.2) = true → KR K A μ H fs vs
  | _, _, .nil, _ => .nil
  | _, _, .cons h r, b => by
    rw [List.all_cons, Bool.and_eq_true] at b
    exact .cons (h.shrink hp hv b.1) (KR.shrink hp hv r b.2)
theorem OR.shrink (hp : μ'.tr = μ.tr ++ l) (hv : μ'.pv = μ.pv) {g : GO} {o : HO} (r : OR K A μ' H g o) (b : belowG μ.tr.length g = true) : OR K A μ H g o := by
  cases r with
  | lst r => exact .lst (r.shrink hp hv b)
  | ins h r => exact .ins h (r.shrink hp hv b)
  | dct r => exact .dct (r.shrink hp hv b)
theorem FR.below_ : ∀ {fs : List (Nat × D)} {vs : List (Str × V)}, FR K A μ H fs vs → (fs.all fun p => CN.below μ.tr.length p.2) = true
  | _, _, .nil => rfl
  | _, _, .cons h r => by rw [List.all_cons, h.below_, FR.below_ r]; rfl
theorem KR.below_ : ∀ {fs : List (Key × D)} {vs : List (Key × V)}, KR K A μ H fs vs → (fs.all fun p => CN.below μ.tr.length p.2) = true
  | _, _, .nil => rfl
  | _, _, .cons h r => by rw [List.all_cons, h.below_, KR.below_ r]; rfl
theorem OR.below_ {g : GO} {o : HO} (r : OR K A μ H g o) : belowG μ.tr.length g = true := by
  cases r with
  | lst r => exact r.below_
  | ins h r => exact r.below_
  | dct r => exact r.below_
theorem HR.below_ {S : Hs} (R : HR K A μ S H) : S.all (belowG S.length) = true := by
  rw [List.all_eq_true]
  intro g hg
  obtain ⟨n, hn, e⟩ := List.mem_iff_getElem.mp hg
  have hn2 : n < μ.tr.length := by rw [R.len]; exact hn
  obtain ⟨o, _, r⟩ := R.obj n g μ.tr[n] (by rw [List.getElem?_eq_getElem hn, e]) (List.getElem?_eq_getElem hn2)
  rw [← R.len]
  exact r.below_
/-- what was made is dropped -/
theorem HR.shrink {S S1 : Hs} (R : HR K A μ S H) (R1 : HR K A μ' S1 H') (M : Mo μ H μ' H') (b : (S1.take S.length).all (belowG S.length) = true) : HR K A μ (S1.take S.length) H' := by
  obtain ⟨l, hp⟩ := M.pre
  have hl : S1.length = S.length + l.length := by rw [← R1.len, hp, List.length_append, R.len]
  refine ⟨R.nd, by rw [List.length_take, R.len]; omega, fun n o a h1 h2 => ?_, fun a ha => ?_, R.pvn⟩
  · have hn : n < S.length := by rw [← R.len]; exact (List.getElem?_eq_some_iff.mp h2).1
    have h1' : S1[n]? = some o := by rw [List.getElem?_take] at h1; rw [if_pos hn] at h1; exact h1
    obtain ⟨ho, h3, h4⟩ := R1.obj n o a h1' (M.get h2)
    have bo := List.all_eq_true.mp b o (List.mem_of_getElem? h1)
    exact ⟨ho, h3, h4.shrink hp M.pv (by rw [R.len]; exact bo)⟩
  · exact R1.pvt a (by rw [M.pv]; exact ha)
theorem Mo.shrink (M : Mo μ H μ' H') : Mo μ H μ H' := ⟨⟨[], by simp⟩, rfl, M.keep, fun _ h n => absurd h n⟩
/-- a call's end -/
theorem back_ok {W : WX} {σ : L2.St} {S S1 : Hs} {d : D} {v : V} {flag : Nat} {Q : VK} (h : Post (ReD K A) K A W σ μ H Q (back flag S d S1)) (R : HR K A μ S H) (r : DR K A μ' H' d v) (R1 : HR K A μ' S1 H') (M : Mo μ H μ' H') : Q v H' := by
  obtain ⟨l, hp⟩ := M.pre
  unfold back at h
  split at h
  · exact h v μ' H' r R1 M
  · split at h
    · split at h
      · rename_i hb
        rw [Bool.and_eq_true] at hb
        have e := eqHs_eq hb.2
        have R2 : HR K A μ (S1.take S.length) H' := R.shrink R1 M (by rw [e]; exact R.below_)
        rw [e] at R2
        exact h v μ H' (r.shrink hp M.pv (noRef_below hb.1)) R2 M.shrink
      · exact h.elim
    · split at h
      · split at h
        · rename_i n
          split at h
          · rename_i ds hs
            split at h
            · rename_i hb
              simp only [Bool.and_eq_true, decide_eq_true_eq] at hb
              have e := eqHs_eq hb.2
              have R2 : HR K A μ (S1.take S.length) H' := R.shrink R1 M (by rw [e]; exact R.below_)
              rw [e] at R2
              cases r with
              | @ref _ a hn =>
                obtain ⟨ho, h1, h2⟩ := R1.obj _ _ _ hs hn
                cases h2 with
                | @lst _ vs rl =>
                  have hna : a ∉ μ.tr := fun q => by
                    obtain ⟨j, hj, ej⟩ := List.mem_iff_getElem.mp q
                    have e1 : μ'.tr[j]? = some a := M.get (by rw [List.getElem?_eq_getElem hj, ej])
                    have := nd_ix R1.nd e1 hn
                    have hl := R.len
                    omega
                  have hnp : a ∉ μ.pv := fun q => R1.pvn a (by rw [M.pv]; exact q) (List.mem_of_getElem? hn)
                  exact h (.ref a) μ H' (.tl ⟨.inl h1, fun q => q.elim hna hnp⟩ (rl.shrink hp M.pv (noRefs_below hb.1.2))) R2 M.shrink
            · exact h.elim
          · exact h.elim
        · exact h.elim
      · split at h
        · rename_i hb
          simp only [Bool.and_eq_true, decide_eq_true_eq] at hb
          exact h v μ H' (r.shrink hp M.pv (by rw [R.len]; exact hb.1.2)) (R.shrink R1 M hb.2) M.shrink
        · exact h.elim
mutual
theorem DR.sub {μ1 μ2 : Mu} (hs : ∀ a, a ∈ μ2 → a ∈ μ1) : ∀ {d : D} {v : V}, noRef d = true → DR K A μ1 H d v → DR K A μ2 H d v
  | _, _, _, .non => .non
  | _, _, _, .bl b => .bl b
  | _, _, _, .int i => .int i
  | _, _, _, .str x => .str x
  | _, _, n, .tup h r => .tup (by
      rcases h with ⟨h, q⟩ | h
      · exact .inl ⟨h, fun z => q (hs _ z)⟩
      · exact .inr h) (DRs.sub hs n r)
  | _, _, n, .tl h r => .tl ⟨h.1, fun z => h.2 (hs _ z)⟩ (DRs.sub hs n r)
  | _, _, n, .kl h r => .kl h (DRs.sub hs n r)
  | _, _, n, .ref _ => by cases n
  | _, _, _, .fn h => .fn h
  | _, _, _, .cls h => .cls h
  | _, _, _, .ty n => .ty n
  | _, _, _, .tab h => .tab h
theorem DRs.sub {μ1 μ2 : Mu} (hs : ∀ a, a ∈ μ2 → a ∈ μ1) : ∀ {ds : List D} {vs : List V}, noRefs ds = true → DRs K A μ1 H ds vs → DRs K A μ2 H ds vs
  | _, _, _, .nil => .nil
  | d :: ds, _ :: _, n, .cons h r => by
    have n' : (noRef d && noRefs ds) = true := n
    rw [Bool.and_eq_true] at n'
    exact .cons (DR.sub hs n'.1 h) (DRs.sub hs n'.2 r)
end
theorem FR.sub {μ1 μ2 : Mu} (hs : ∀ a, a ∈ μ2 → a ∈ μ1) : ∀ {fs : List (Nat × D)} {vs : List (Str × V)}, (fs.all fun p => noRef p.2) = true → FR K A μ1 H fs vs → FR K A μ2 H fs vs
  | _, _, _, .nil => .nil
  | _ :: _, _ :: _, n, .cons h r => by
    rw [List.all_cons, Bool.and_eq_true] at n
    exact .cons (h.sub hs n.1) (FR.sub hs n.2 r)
def Mu.hideAll (μ : Mu) : Mu := ⟨[], μ.tr ++ μ.pv⟩
theorem hideAll_mem {a : Addr} : a ∈ μ.hideAll ↔ a ∈ μ := by
  constructor
  · rintro (h | h)
    · cases h
    · rcases List.mem_append.mp h with h | h
      · exact .inl h
      · exact .inr h
  · rintro (h | h)
    · exact .inr (List.mem_append_left _ h)
    · exact .inr (List.mem_append_right _ h)
theorem HR.hideAll {S : Hs} (R : HR K A μ S H) : HR K A μ.hideAll [] H := ⟨List.nodup_nil, rfl, fun n o a h => by simp at h, fun a h => R.there (hideAll_mem.mp (.inr h)), fun a h q => by cases q⟩
theorem Mo.unhide (M : Mo μ.hideAll H μ' H') : Mo μ H μ H' := ⟨⟨[], by simp⟩, rfl, fun a o e _ => M.keep a o e (by intro q; cases q), fun _ h n => absurd h n⟩
theorem Mo.sub_un (M : Mo μ.hideAll H μ' H') : ∀ a, a ∈ μ → a ∈ μ' := fun a h => .inr (by rw [M.pv]; exact (hideAll_mem.mpr h).elim (fun q => by cases q) id)
theorem HR.unhide {S : Hs} (R : HR K A μ S H) (M : Mo μ.hideAll H μ' H') : HR K A μ S H' := ⟨R.nd, R.len, fun n o a h1 h2 => by
  obtain ⟨ho, h3, h4⟩ := R.obj n o a h1 h2
  exact ⟨ho, M.keep a ho h3 (by intro q; cases q), h4.mono M.unhide⟩, fun a h => by
  obtain ⟨o, e⟩ := R.pvt a h
  exact ⟨o, M.keep a o e (by intro q; cases q)⟩, R.pvn⟩
theorem ER.start {N : List Str} {n : Nat} {ds : List D} {vs : List V} (r : DRs K A μ H ds vs) (hn : N.length = n) : ER K A μ H (startE n ds) (L2.start N vs) := by
  have hl := r.length
  refine ⟨by simp [startE, L2.start, hl, hn], fun i d e => ?_⟩
  unfold startE at e
  by_cases hi : i < ds.length
  · rw [List.getElem?_append_left (by simpa using hi), List.getElem?_map] at e
    cases ed : ds[i]? with
    | none => rw [ed] at e; cases e
    | some d2 =>
      rw [ed] at e
      cases e
      obtain ⟨v, h1, h2⟩ := r.get ed
      refine ⟨v, ?_, h2⟩
      unfold L2.start
      rw [List.getElem?_append_left (by rw [List.length_map, hl]; exact hi), List.getElem?_map, h1]
      rfl
  · rw [List.getElem?_append_right (by simpa using hi)] at e
    rw [List.getElem?_replicate] at e
    split at e <;> cases e
end

/-- a function's text is read -/
structure FnAt (T : Tb) (G : Gi) (K : PySem.W.Frag) (f : Fn) (a : Addr) : Prop where
  ex : ∃ (x qual : Str) (pa : Arguments) (body : List Stmt) (sc : Scope) (fd : FuncData) (ps N : List Str), FunD K x qual pa body sc [] [] a fd ∧ Binds K fd ps [] ∧ ps.length = f.params ∧ FnScope N ps sc ∧ N.length = f.slots ∧ chkSs G N sc f.body body = true
/-- what stands at every level -/
structure Stat (T : Tb) (G : Gi) (A : Ad) (w : World) (K : PySem.W.Frag) (mg : Str → Option Value) : Prop where
  tabs : Tabs T A K w
  consts : ∀ (i : Nat) (x : Str) (d : D), G.consts[i]? = some x → T.consts[i]? = some d → ∃ u v, mg x = some u ∧ RelV v u ∧ KD K A d v
  constsL : ∀ (i : Nat) (x : Str), G.consts[i]? = some x → ∃ d, T.consts[i]? = some d
  afn : ∀ (g : Nat) (a : Addr), A.fn g = some a → ∃ f, T.fns[g]? = some f ∧ FnAt T G K f a
  glob : ∀ (g : Nat) (x : Str), G.fns[g]? = some x → ∃ a, A.fn g = some a ∧ mg x = some (.ref a)
  clss : ∀ (c : Nat) (x : Str), G.clss[c]? = some x → ∃ C g a, A.cl c = some C ∧ mg x = some (.ref C) ∧ T.inits[c]? = some g ∧ A.fn g = some a ∧ Mk K C a
  meth : ∀ (c : Nat) (C : Addr) (ms : List (Nat × Nat)) (m g : Nat) (x : Str), A.cl c = some C → T.clss[c]? = some ms → ms.lookup m = some g → G.meths[m]? = some x → ∃ a, A.fn g = some a ∧ Meth K C x a
  cls : ∀ (c : Nat) (C : Addr), A.cl c = some C → Cls K C
  noat : ∀ (c : Nat) (C : Addr) (f : Nat) (x : Str), A.cl c = some C → G.flds[f]? = some x → NoAttr K C x
  fld : ∀ (f : Nat) (x : Str), G.flds[f]? = some x → A.fld f = x
  inj : ∀ (f g : Nat), A.fld f = A.fld g → f = g
  mfld : ∀ (m : Nat) (x : Str), G.meths[m]? = some x → ∀ f : Nat, A.fld f ≠ x
  blt : ∀ x : Str, x ∈ (["len", "int", "tuple", "list", "all", "any", "sum", "max", "min", "abs", "isinstance", "range", "zip", "enumerate", "reversed", "bool", "str"] : List Str) → mg x = none
section
variable {T : Tb} {G : Gi} {wf : Nat} {A : Ad} {P : Program} {w : World} {K : PySem.W.Frag} {mg : Str → Option Value} {base : Heap}
theorem Stat.known (s : Stat T G A w K mg) {k : Nat} (h : ∀ (g : Nat) (f : Fn) (a : Addr), A.fn g = some a → T.fns[g]? = some f → FF T wf A P w K mg base k g f a) : Known T G wf A P w K mg base k :=
  ⟨s.tabs, s.consts, s.constsL, fun g a ha => by
    obtain ⟨f, hf, _⟩ := s.afn g a ha
    exact ⟨f, hf, h g f a ha hf⟩, s.glob, s.clss, s.meth, s.cls, s.noat, s.fld, s.inj, s.mfld, s.blt⟩
theorem isNeFun {sc : ScopeKind} (h : sc = .function) : (if sc.isAnnotationScope then ScopeKind.function else sc) = .function := by
  subst h
  rfl
theorem Stat.ff (s : Stat T G A w K mg) : ∀ (k g : Nat) (f : Fn) (a : Addr), A.fn g = some a → T.fns[g]? = some f → FF T wf A P w K mg base k g f a
  | 0, g, f, a, ha, hf => by
    obtain ⟨f', hf', ⟨x, qual, pa, body, sc, fd, ps, N, F, hb, hl, S, hN, hc⟩⟩ := s.afn g a ha
    rw [hf] at hf'
    cases hf'
    refine ⟨⟨fd, ps, hb, hl, ⟨fun vs H Q E ⟨ds, S0, μ, r, R, q⟩ => q.elim, fun _ _ _ _ _ _ _ _ _ _ _ _ _ ⟨ds, S0, μ, r, R, q⟩ => q.elim⟩⟩, F.kp⟩
  | k + 1, g, f, a, ha, hf => by
    have kn : Known T G wf A P w K mg base k := s.known (s.ff k)
    obtain ⟨f', hf', ⟨x, qual, pa, body, sc, fd, ps, N, F, hb, hl, S, hN, hc⟩⟩ := s.afn g a ha
    rw [hf] at hf'
    cases hf'
    have hdl : ∀ vs H Q E, spOf T wf K A (k + 1) g vs H Q E → vs.length = ps.length := by
      intro vs H Q E ⟨ds, S0, μ, r, R, q⟩
      rw [r.length, hl]
      unfold runFn at q
      rw [hf] at q
      dsimp only at q
      split at q
      · assumption
      · exact q.elim
    refine ⟨⟨fd, ps, hb, hl, F.ok (CX := L2.CX P w) (k := 2 * k + 1) S hdl fun cdv A' outer s0 H vs Q E hr hsp => ?_⟩, F.kp⟩
    obtain ⟨ds, S0, μ, r, R, q⟩ := hsp
    unfold runFn at q
    rw [hf] at q
    dsimp only at q
    split at q
    · by_cases h4 : 4 ≤ f.flag
      · rw [if_pos h4] at q
        split at q
        · rename_i hn
          have gd : GdS T G wf A k (cxOf (L2.CX P w) P w K mg base N qual sc a cdv A' outer s0 H E) (noSt E) :=
            ⟨⟨kn, hr, rfl, S.nd, takes_of (X := cxOf (L2.CX P w) P w K mg base N qual sc a cdv A' outer s0 H E) rfl rfl rfl rfl, passes_of (X := cxOf (L2.CX P w) P w K mg base N qual sc a cdv A' outer s0 H E) rfl⟩, fun _ => rfl, isNeFun S.kind⟩
          have r0 : DRs K A μ.hideAll H ds vs := r.sub (fun a h => hideAll_mem.mp h) hn
          refine ⟨_, soundSs f.body gd hc, startE f.slots ds, [], μ.hideAll, ER.start r0 hN, R.hideAll, ?_⟩
          cases eb : evalSs T wf (runFn T wf k) f.body (startE f.slots ds) [] with
          | stuck => rw [eb] at q; exact q.elim
          | err => rw [eb] at q; exact q.elim
          | ok fl S1 =>
            rw [eb] at q
            cases fl with
            | next e => exact fun σ' μ' H' E' R' M' => q .non μ H' .non (R.unhide M') M'.unhide
            | ret d =>
              intro v μ' H' r' R' M'
              unfold backF at q
              dsimp only at q
              split at q
              · rename_i hd
                exact q v μ H' (r'.sub M'.sub_un hd) (R.unhide M') M'.unhide
              · split at q
                · split at q
                  · rename_i n _ _
                    split at q
                    · rename_i ls hs
                      split at q
                      · rename_i hl
                        cases r' with
                        | @ref _ a hn' =>
                          obtain ⟨ho, g1, g2⟩ := R'.obj _ _ _ hs hn'
                          cases g2 with
                          | @lst _ us rl =>
                            have hna : a ∉ μ := fun z => by
                              obtain ⟨o, e⟩ := R.there z
                              have := M'.fresh a (List.mem_of_getElem? hn') (by intro y; cases y)
                              rw [e] at this
                              cases this
                            exact q (.ref a) μ H' (.tl ⟨.inl g1, hna⟩ (rl.sub M'.sub_un hl)) (R.unhide M') M'.unhide
                      · exact q.elim
                    · exact q.elim
                  · exact q.elim
                · exact q.elim
            | brk e => exact q.elim
            | cont e => exact q.elim
            | exc e c fs =>
              intro cl dx σ' μ' H' E' x' R' M'
              unfold backF at q
              dsimp only at q
              split at q
              · rename_i hfs
                cases x' with
                | mk hc' hd' hn' rf' => exact q _ _ μ H' (.mk hc' hd' (fun z => hn' (M'.sub_un _ z)) (rf'.sub M'.sub_un hfs)) (R.unhide M') M'.unhide
              · exact q.elim
        · exact q.elim
      rw [if_neg h4] at q
      have gd : GdS T G wf A k (cxOf (L2.CX P w) P w K mg base N qual sc a cdv A' outer s0 H E) (noSt E) :=
        ⟨⟨kn, hr, rfl, S.nd, takes_of (X := cxOf (L2.CX P w) P w K mg base N qual sc a cdv A' outer s0 H E) rfl rfl rfl rfl, passes_of (X := cxOf (L2.CX P w) P w K mg base N qual sc a cdv A' outer s0 H E) rfl⟩, fun _ => rfl, isNeFun S.kind⟩
      refine ⟨_, soundSs f.body gd hc, startE f.slots ds, S0, μ, ER.start r hN, R, ?_⟩
      cases eb : evalSs T wf (runFn T wf k) f.body (startE f.slots ds) S0 with
      | stuck => rw [eb] at q; exact q.elim
      | err => rw [eb] at q; exact q.elim
      | ok fl S1 =>
        rw [eb] at q
        cases fl with
        | next e => exact fun σ' μ' H' E' R' M' => back_ok q R .non R' M'
        | ret d => exact fun v μ' H' r' R' M' => back_ok q R r' R' M'
        | brk e => exact q.elim
        | cont e => exact q.elim
        | exc e c fs => exact fun cl dx σ' μ' H' E' x' R' M' => q cl dx μ' H' x' R' M'
    · exact q.elim
end
end CN
set_option Elab.async false
set_option linter.all false
set_option maxRecDepth 100000
set_option maxHeartbeats 4000000
/-! CnLaw: what the top has written, by the names; a law by its interpreter's answer. -/
namespace CN
open PySem PyProof.Rows L2

/-- a law's data -/
structure LawD where
  fn : List He.DefD
  T : Tb
  G : Gi
  tabs : List Str
/-- far names for the fields that there aren't -/
def farName (f : Nat) : Str := ⟨(List.replicate (f + 200) (122 : Nat)).toArray⟩
def fldName (fl : List Str) (f : Nat) : Str := match fl[f]? with
  | some x => x
  | none => farName f
def LawD.ad (D : LawD) (K : PySem.W.Frag) : Ad where
  fn := fun g => (D.fn[g]?).map fun d => He.fAd K d.at_
  cl := fun c => (D.G.clss[c]?).map (He.ga K)
  tb := fun t => (D.tabs[t]?).map (He.ga K)
  fld := fldName D.G.flds
/-! values by their text -/
mutual
def kdB (K : PySem.W.Frag) (A : Ad) : D → Value → Bool
  | .non, u => (match u with | .none => true | _ => false)
  | .bl b, u => (match u with | .bool c => b == c | _ => false)
  | .int i, u => (match u with | .int j _ => decide (i = j) | _ => false)
  | .str x, u => (match u with | .str y _ => decide (x = y) | _ => false)
  | .tup ds, u => (match u with
    | .ref a => (match K.lookup a with
      | some ⟨.type c, none, .seq its _, _⟩ => decide (c = "tuple") && (decide (its.size ≤ sizeLine) && kdsB K A ds its.toList)
      | _ => false)
    | _ => false)
  | .fn g, u => (match u with | .ref a => decide (A.fn g = some a) | _ => false)
  | .tab t, u => (match u with | .ref a => decide (A.tb t = some a) | _ => false)
  | _, _ => false
def kdsB (K : PySem.W.Frag) (A : Ad) : List D → List Value → Bool
  | [], us => us.isEmpty
  | d :: ds, us => (match us with
    | u :: us => kdB K A d u && kdsB K A ds us
    | [] => false)
end
mutual
theorem kdB_ok {K : PySem.W.Frag} {A : Ad} : ∀ {d : D} {u : Value}, kdB K A d u = true → ∃ v, RelV v u ∧ KD K A d v
  | .non, u, h => by
    unfold kdB at h
    split at h
    · exact ⟨.non, rfl, fun _ _ => .non⟩
    · cases h
  | .bl b, u, h => by
    unfold kdB at h
    split at h
    · have := eq_of_beq h
      subst this
      exact ⟨.bl b, rfl, fun _ _ => .bl b⟩
    · cases h
  | .int i, u, h => by
    unfold kdB at h
    split at h
    · have := of_decide_eq_true h
      subst this
      exact ⟨.int i, ⟨_, rfl⟩, fun _ _ => .int i⟩
    · cases h
  | .str x, u, h => by
    unfold kdB at h
    split at h
    · have := of_decide_eq_true h
      subst this
      exact ⟨.str x, ⟨_, rfl⟩, fun _ _ => .str x⟩
    · cases h
  | .tup ds, u, h => by
    unfold kdB at h
    split at h
    · rename_i a
      split at h
      · rename_i c its n sl hk
        simp only [Bool.and_eq_true, decide_eq_true_eq] at h
        obtain ⟨rfl, hz, hs⟩ := h
        obtain ⟨vs, r, k⟩ := kdsB_ok hs
        exact ⟨.ref a, rfl, fun μ H => .tup (.inr ⟨_, its, n, hk, rfl, rfl, rfl, hz, r⟩) (k μ H)⟩
      · cases h
    · cases h
  | .fn g, u, h => by
    unfold kdB at h
    split at h
    · exact ⟨.ref _, rfl, fun μ H => .fn (of_decide_eq_true h)⟩
    · cases h
  | .tab g, u, h => by
    unfold kdB at h
    split at h
    · exact ⟨.ref _, rfl, fun μ H => .tab (of_decide_eq_true h)⟩
    · cases h
  | .tl _, u, h => by unfold kdB at h; cases h
  | .kl _, u, h => by unfold kdB at h; cases h
  | .ref _, u, h => by unfold kdB at h; cases h
  | .cls _, u, h => by unfold kdB at h; cases h
  | .ty _, u, h => by unfold kdB at h; cases h
theorem kdsB_ok {K : PySem.W.Frag} {A : Ad} : ∀ {ds : List D} {us : List Value}, kdsB K A ds us = true → ∃ vs, Vals vs us ∧ ∀ μ H, DRs K A μ H ds vs
  | [], us, h => by
    unfold kdsB at h
    cases us with
    | nil => exact ⟨[], .nil, fun _ _ => .nil⟩
    | cons => cases h
  | d :: ds, us, h => by
    unfold kdsB at h
    split at h
    · rw [Bool.and_eq_true] at h
      obtain ⟨v, r, k⟩ := kdB_ok h.1
      obtain ⟨vs, rs, ks⟩ := kdsB_ok h.2
      exact ⟨v :: vs, .cons r rs, fun μ H => .cons (k μ H) (ks μ H)⟩
    · cases h
end
def tbB (K : PySem.W.Frag) (A : Ad) : List DictEntry → List (Str × D) → Bool
  | [], [] => true
  | e :: es, (x, d) :: kvs => (match e.key with | .str y _ => decide (y = x) | _ => false) && (kdB K A d e.val && tbB K A es kvs)
  | _, _ => false
theorem tbB_ok {K : PySem.W.Frag} {A : Ad} : ∀ {es : List DictEntry} {kvs : List (Str × D)}, tbB K A es kvs = true → TbR K A es kvs
  | [], [], _ => .nil
  | e :: es, (x, d) :: kvs, h => by
    unfold tbB at h
    simp only [Bool.and_eq_true] at h
    obtain ⟨hk, hv, hr⟩ := h
    refine .cons ?_ (kdB_ok hv) (tbB_ok hr)
    split at hk
    · rename_i y t hy
      have := of_decide_eq_true hk
      subst this
      exact ⟨t, hy⟩
    · cases hk
  | [], _ :: _, h => by cases h
  | _ :: _, [], h => by cases h
/-- the constants, the tables -/
def LawD.ex (D : LawD) (K : PySem.W.Frag) : Bool :=
  ((D.G.consts.zip D.T.consts).all fun q => match PySem.W.nsIn K mainGlobals q.1 with
    | some (some u) => kdB K (D.ad K) q.2 u
    | _ => false) &&
  ((D.tabs.zip D.T.tabs).all fun q => match K.lookup (He.ga K q.1) with
    | some ⟨.type _, none, .dict es _, _⟩ => tbB K (D.ad K) es.toList q.2
    | _ => false)
def blts : List Str := ["len", "int", "tuple", "list", "all", "any", "sum", "max", "min", "abs", "isinstance", "range", "zip", "enumerate", "reversed", "bool", "str"]
def LawD.fa (D : LawD) : List He.Fa :=
  D.G.fns.map .glo ++ (D.G.clss.flatMap fun x => [.glo x, .cls x, .mkr x] ++ D.G.flds.map (.noat x)) ++ ((D.G.clss.zip D.T.clss).flatMap fun q => q.2.map fun p => .meth q.1 (D.G.meths.getD p.1 Str.empty)) ++ blts.map .free
def LawD.ts (D : LawD) : List He.Tab := (D.tabs.zip D.T.tabs).map fun q => (fun K => He.ga K q.1, q.2.map (·.1))
def LawD.hook (D : LawD) (n : Nat) : PySem.W.Hook := He.hookX n D.fa D.fn D.ts [] D.ex
/-- what can be seen without the heap -/
def LawD.good (D : LawD) : Bool :=
  decide (D.G.consts.length ≤ D.T.consts.length) && decide (D.tabs.length ≤ D.T.tabs.length) && decide (D.fn.length ≤ D.T.fns.length) &&
  decide ((D.fn.take D.G.fns.length).map (·.at_) = D.G.fns.map fun x => (x, none)) && decide (D.G.clss.length ≤ D.T.inits.length) && decide (D.G.clss.length ≤ D.T.clss.length) &&
  ((D.G.clss.zip D.T.inits).all fun q => decide ((D.fn[q.2]?).map (·.at_) = some (q.1, some ("__init__" : Str)))) &&
  ((D.G.clss.zip D.T.clss).all fun q => q.2.all fun p => decide (p.1 < D.G.meths.length) && decide ((D.fn[p.2]?).map (·.at_) = some (q.1, some (D.G.meths.getD p.1 Str.empty)))) &&
  decide D.G.flds.Nodup && (D.G.flds.all fun x => decide (x.length < 200)) && (D.G.meths.all fun x => decide (x.length < 200) && decide (x ∉ D.G.flds))
/-- a def's text is as the interpreter's -/
def FnC (G : Gi) (f : Fn) (d : He.DefD) : Prop := d.dfl = [] ∧ d.kwd = [] ∧ ∃ (ps N : List Str), (∀ (kV doc pm : Value) (an : Option Addr) (cdv ct : Value) (us : List Value), us.length = ps.length → bindArgs (PySem.W.fnOf d.name d.qual d.params d.body d.scope .none kV doc pm an cdv ct) ⟨us, []⟩ = pure (ps.zip us)) ∧
  (decide (ps.length = f.params) && C8.scC N ps d.scope && decide (N.length = f.slots) && chkSs G N d.scope f.body d.body) = true
def AllC (G : Gi) : List Fn → List He.DefD → Prop
  | f :: fs, d :: ds => FnC G f d ∧ AllC G fs ds
  | _, [] => True
  | [], _ :: _ => False
theorem AllC.get {G : Gi} : ∀ {fs : List Fn} {ds : List He.DefD} {g : Nat} {d : He.DefD}, AllC G fs ds → ds[g]? = some d → ∃ f, fs[g]? = some f ∧ FnC G f d
  | f :: fs, d :: ds, 0, d', h, e => by
    cases e
    exact ⟨f, rfl, h.1⟩
  | f :: fs, d :: ds, g + 1, d', h, e => AllC.get (g := g) h.2 (by simpa using e)
  | _, [], g, d', _, e => by simp at e
  | [], _ :: _, g, d', h, e => h.elim
theorem far_len (f : Nat) : (farName f).length = f + 200 := by
  show (List.replicate (f + 200) (122 : Nat)).toArray.size = _
  simp
theorem fld_inj {fl : List Str} (hd : fl.Nodup) (hl : ∀ x ∈ fl, x.length < 200) (f g : Nat) (e : fldName fl f = fldName fl g) : f = g := by
  unfold fldName at e
  cases hf : fl[f]? with
  | some x =>
    rw [hf] at e
    cases hg : fl[g]? with
    | some y =>
      rw [hg] at e
      have e' : x = y := e
      subst e'
      exact nd_ix hd hf hg
    | none =>
      rw [hg] at e
      have e' : x = farName g := e
      have := hl x (List.mem_of_getElem? hf)
      rw [e', far_len] at this
      omega
  | none =>
    rw [hf] at e
    cases hg : fl[g]? with
    | some y =>
      rw [hg] at e
      have e' : farName f = y := e
      have := hl y (List.mem_of_getElem? hg)
      rw [← e', far_len] at this
      omega
    | none =>
      rw [hg] at e
      have e' : farName f = farName g := e
      have := congrArg Str.length e'
      rw [far_len, far_len] at this
      omega
theorem lookup_memN {β : Type} {m : Nat} {g : β} : ∀ {ms : List (Nat × β)}, ms.lookup m = some g → (m, g) ∈ ms
  | [], h => by simp at h
  | (a, b) :: ms, h => by
    by_cases e : m = a
    · subst e
      simp at h
      subst h
      exact List.mem_cons_self
    · have e' : (m == a) = false := by simpa using e
      rw [List.lookup, e'] at h
      exact List.mem_cons_of_mem _ (lookup_memN h)
theorem zip_mem {α β : Type} {as : List α} {bs : List β} {i : Nat} {a : α} {b : β} (ha : as[i]? = some a) (hb : bs[i]? = some b) : (a, b) ∈ as.zip bs := by
  refine List.mem_of_getElem? (i := i) ?_
  rw [List.getElem?_zip_eq_some]
  exact ⟨ha, hb⟩
theorem at_of_len {α β : Type} {as : List α} {bs : List β} {i : Nat} {a : α} (ha : as[i]? = some a) (h : as.length ≤ bs.length) : ∃ b, bs[i]? = some b :=
  ⟨bs[i]'(Nat.lt_of_lt_of_le (List.getElem?_eq_some_iff.mp ha).1 h), List.getElem?_eq_getElem _⟩
section
variable {D : LawD} {w : World} {h : Heap} {K : PySem.W.Frag} {mg : Str → Option Value}
theorem stat_of (gd : D.good = true) (fc : AllC D.G D.T.fns D.fn) (X : K.In h) (N : h.Ns mainGlobals mg) (c : He.SaysX D.fa D.fn D.ts [] D.ex w h K) : Stat D.T D.G (D.ad K) w K mg := by
  unfold LawD.good at gd
  simp only [Bool.and_eq_true, decide_eq_true_eq, List.all_eq_true] at gd
  obtain ⟨⟨⟨⟨⟨⟨⟨⟨⟨⟨g1, g2⟩, g3⟩, g4⟩, g5⟩, g6⟩, g7⟩, g8⟩, g9⟩, g10⟩, g11⟩ := gd
  have ex := c.more
  unfold LawD.ex at ex
  simp only [Bool.and_eq_true, List.all_eq_true] at ex
  obtain ⟨ex1, ex2⟩ := ex
  have fact : ∀ {f : He.Fa}, f ∈ D.fa → f.ok K = true := fun hf => He.SaysD.facts c.t.d hf
  have f1 : ∀ {x : Str}, x ∈ D.G.fns → He.Fa.glo x ∈ D.fa := fun hx => List.mem_append_left _ (List.mem_append_left _ (List.mem_append_left _ (List.mem_map_of_mem hx)))
  have f2 : ∀ {x : Str} {f : He.Fa}, x ∈ D.G.clss → f ∈ ([.glo x, .cls x, .mkr x] ++ D.G.flds.map (.noat x) : List He.Fa) → f ∈ D.fa := fun hx hf => List.mem_append_left _ (List.mem_append_left _ (List.mem_append_right _ (List.mem_flatMap.mpr ⟨_, hx, hf⟩)))
  have f3 : ∀ {q : Str × List (Nat × Nat)} {p : Nat × Nat}, q ∈ D.G.clss.zip D.T.clss → p ∈ q.2 → He.Fa.meth q.1 (D.G.meths.getD p.1 Str.empty) ∈ D.fa := fun hq hp => List.mem_append_left _ (List.mem_append_right _ (List.mem_flatMap.mpr ⟨_, hq, List.mem_map.mpr ⟨_, hp, rfl⟩⟩))
  have f4 : ∀ {x : Str}, x ∈ blts → He.Fa.free x ∈ D.fa := fun hx => List.mem_append_right _ (List.mem_map_of_mem hx)
  have cl : ∀ {i : Nat} {C : Addr}, (D.ad K).cl i = some C → ∃ x, D.G.clss[i]? = some x ∧ C = He.ga K x := fun {i C} e => by
    have e' : (D.G.clss[i]?).map (He.ga K) = some C := e
    cases hx : D.G.clss[i]? with
    | none => rw [hx] at e'; cases e'
    | some x => rw [hx] at e'; cases e'; exact ⟨x, rfl, rfl⟩
  have fnAt : ∀ {g : Nat} {p : Str × Option Str}, (D.fn[g]?).map (·.at_) = some p → (D.ad K).fn g = some (He.fAd K p) := fun {g p} e => by
    show (D.fn[g]?).map _ = _
    cases hd : D.fn[g]? with
    | none => rw [hd] at e; cases e
    | some d => rw [hd] at e; cases e; rfl
  refine ⟨?_, ?_, ?_, ?_, ?_, ?_, ?_, ?_, ?_, ?_, ?_, ?_, ?_⟩
  · intro t kvs a ht ha
    have ha' : (D.tabs[t]?).map (He.ga K) = some a := ha
    cases hx : D.tabs[t]? with
    | none => rw [hx] at ha'; cases ha'
    | some x =>
      rw [hx] at ha'
      cases ha'
      have hz := zip_mem hx ht
      have hts : D.ts[t]? = some (fun K => He.ga K x, kvs.map (·.1)) := by
        show ((D.tabs.zip D.T.tabs).map _)[t]? = _
        rw [List.getElem?_map, (List.getElem?_zip_eq_some (z := (x, kvs))).mpr ⟨hx, ht⟩]
        rfl
      obtain ⟨es, n, kd⟩ := He.SaysT.tab c.t t hts
      have q := ex2 _ hz
      have lk := kd.at_
      dsimp only at q lk
      rw [lk] at q
      exact ⟨es, n, lk, kd.lit, kd.low, tbB_ok q⟩
  · intro i x d hx hd
    have q := ex1 _ (zip_mem hx hd)
    dsimp only at q
    split at q
    · rename_i u hu
      obtain ⟨v, r, k⟩ := kdB_ok q
      exact ⟨u, v, PySem.W.mg_of X N hu, r, k⟩
    · cases q
  · intro i x hx
    exact at_of_len hx g1
  · intro g a ha
    have ha' : (D.fn[g]?).map (fun d => He.fAd K d.at_) = some a := ha
    cases hd : D.fn[g]? with
    | none => rw [hd] at ha'; cases ha'
    | some d =>
      rw [hd] at ha'
      cases ha'
      obtain ⟨f, hf, h1, h2, ps, N', hb, hc⟩ := fc.get hd
      obtain ⟨fd, F⟩ := He.SaysD.defs c.t.d (List.mem_of_getElem? hd)
      have e1 : d.dvs K = [] := by unfold He.DefD.dvs; rw [h1]; rfl
      have e2 : d.kws K = [] := by unfold He.DefD.kws; rw [h2]; rfl
      rw [e1, e2] at F
      simp only [Bool.and_eq_true, decide_eq_true_eq] at hc
      exact ⟨f, hf, d.name, d.qual, d.params, d.body, d.scope, fd, ps, N', F, F.bindsN hb, hc.1.1.1, C8.fnScope_by hc.1.1.2, hc.1.2, hc.2⟩
  · intro g x hx
    have hm : (D.fn[g]?).map (·.at_) = some (x, none) := by
      have e : ((D.fn.take D.G.fns.length).map (·.at_))[g]? = (D.G.fns.map fun x => (x, none))[g]? := by rw [g4]
      rw [List.getElem?_map, List.getElem?_map, hx, List.getElem?_take, if_pos (List.getElem?_eq_some_iff.mp hx).1] at e
      exact e
    exact ⟨_, fnAt hm, He.glo_ok X N (fact (f1 (List.mem_of_getElem? hx)))⟩
  · intro i x hx
    obtain ⟨g, hg⟩ := at_of_len hx g5
    have hm := g7 _ (zip_mem hx hg)
    have hx' := List.mem_of_getElem? hx
    refine ⟨He.ga K x, g, He.ma K (He.ga K x) "__init__", by show (D.G.clss[i]?).map _ = _; rw [hx]; rfl, He.glo_ok X N (fact (f2 hx' (by simp))), hg, fnAt hm, He.mkr_ok (fact (f2 hx' (by simp)))⟩
  · intro i C ms m g x hC hms hl hx
    obtain ⟨y, hy, rfl⟩ := cl hC
    have hz := zip_mem hy hms
    have hp : (m, g) ∈ ms := lookup_memN hl
    have q := g8 _ hz _ hp
    simp only [Bool.and_eq_true, decide_eq_true_eq] at q
    have ex : D.G.meths.getD m Str.empty = x := by
      rw [List.getD_eq_getElem?_getD, hx]
      rfl
    have hf := fact (f3 hz hp)
    dsimp only at hf q
    rw [ex] at hf q
    exact ⟨_, fnAt q.2, He.meth_ok hf⟩
  · intro i C hC
    obtain ⟨y, hy, rfl⟩ := cl hC
    exact He.cls_ok (fact (f2 (List.mem_of_getElem? hy) (by simp)))
  · intro i C f x hC hf
    obtain ⟨y, hy, rfl⟩ := cl hC
    exact He.noat_ok (fact (f2 (List.mem_of_getElem? hy) (List.mem_append_right _ (List.mem_map_of_mem (List.mem_of_getElem? hf)))))
  · intro f x hx
    show fldName _ _ = _
    unfold fldName
    rw [hx]
  · exact fld_inj g9 g10
  · intro m x hx f e
    have q := g11 x (List.mem_of_getElem? hx)
    have e' : fldName D.G.flds f = x := e
    unfold fldName at e'
    cases hf : D.G.flds[f]? with
    | some y =>
      rw [hf] at e'
      have e2 : y = x := e'
      subst e2
      exact q.2 (List.mem_of_getElem? hf)
    | none =>
      rw [hf] at e'
      have e2 : farName f = x := e'
      have := q.1
      rw [← e2, far_len] at this
      omega
  · intro x hx
    exact He.free_ok X N (fact (f4 hx))
/-- the script, as the interpreter takes it -/
def spLaw (K : PySem.W.Frag) : Sp := fun vs H Q _ => ∃ (a : Addr) (ns : List Int), vs = [.ref a] ∧ SqL K H a (ns.map V.int) ∧ ns.length ≤ 63 ∧ ∀ H', Q (.bl true) H'
theorem ints_drs {A : Ad} {μ : Mu} {H : Hp} : ∀ ns : List Int, DRs K A μ H (ns.map CN.D.int) (ns.map V.int)
  | [] => .nil
  | n :: ns => .cons (.int n) (ints_drs ns)
/-- what is to be shown of a law: whatever the script -/
def LawRuns (T : Tb) (wf k g : Nat) : Prop := ∀ ns : List Int, ns.length ≤ 63 → ∀ d, d = CN.D.tl (ns.map CN.D.int) ∨ d = CN.D.kl (ns.map CN.D.int) → ∃ s, runFn T wf (k + 1) g [d] [] = .ok (.bl true) s
theorem law_fn {P : Program} {base : Heap} {wf k g : Nat} (st : Stat D.T D.G (D.ad K) w K mg) {d : He.DefD} {f : Fn} {fd : FuncData} (hd : D.fn[g]? = some d) (hf : D.T.fns[g]? = some f) (F : FunD K d.name d.qual d.params d.body d.scope [] [] (He.fAd K d.at_) fd) {N : List Str}
    (hc : (decide (f.params = 1) && C8.scC N ["script"] d.scope && decide (N.length = f.slots) && chkSs D.G N d.scope f.body d.body) = true) (hfl : f.flag = 0) (run : LawRuns D.T wf k g) : FnOk P w K mg base CX0 (2 * k + 2) (He.fAd K d.at_) fd ["script"] (spLaw K) := by
  simp only [Bool.and_eq_true, decide_eq_true_eq] at hc
  obtain ⟨⟨⟨h1, S⟩, h3⟩, h4⟩ := hc
  have S := C8.fnScope_by S
  have kn : Known D.T D.G wf (D.ad K) P w K mg base k := st.known (st.ff k)
  refine F.ok (k := 2 * k + 1) S (fun vs H Q E ⟨a, ns, e, _⟩ => by rw [e]; rfl) fun cdv A' outer s0 H vs Q E hr hsp => ?_
  obtain ⟨a, ns, rfl, hS, hl, hQ⟩ := hsp
  have gd : GdS D.T D.G wf (D.ad K) k (cxOf CX0 P w K mg base N d.qual d.scope (He.fAd K d.at_) cdv A' outer s0 H E) W0 :=
    ⟨⟨kn, hr, rfl, S.nd, takes0, passes_of (X := cxOf CX0 P w K mg base N d.qual d.scope (He.fAd K d.at_) cdv A' outer s0 H E) rfl⟩, fun _ => rfl, isNeFun S.kind⟩
  have R0 : HR K (D.ad K) ⟨[], []⟩ [] H := ⟨List.nodup_nil, rfl, fun n o a h => by simp at h, fun a h => by simp at h, fun a h => by simp at h⟩
  obtain ⟨dd, hdd, rd⟩ : ∃ dd, (dd = CN.D.tl (ns.map CN.D.int) ∨ dd = CN.D.kl (ns.map CN.D.int)) ∧ DR K (D.ad K) ⟨[], []⟩ H dd (.ref a) := by
    rcases hS with h | ⟨o, its, n, q1, q2, q3, q4, q5, q6⟩
    · exact ⟨_, .inl rfl, .tl ⟨h, fun q => by rcases q with q | q <;> cases q⟩ (ints_drs ns)⟩
    · exact ⟨_, .inr rfl, .kl ⟨o, its, n, q1, q2, q3, q4, q5, q6⟩ (ints_drs ns)⟩
  obtain ⟨sf, hrun⟩ := run ns hl dd hdd
  refine ⟨_, soundSs f.body gd h4, startE f.slots [dd], [], ⟨[], []⟩, ER.start (.cons rd .nil) h3, R0, ?_⟩
  unfold runFn at hrun
  rw [hf] at hrun
  dsimp only at hrun
  rw [if_pos (show [dd].length = f.params by rw [h1]; rfl), if_neg (show ¬ 4 ≤ f.flag by rw [hfl]; decide)] at hrun
  cases eb : evalSs D.T wf (runFn D.T wf k) f.body (startE f.slots [dd]) [] with
  | stuck => rw [eb] at hrun; cases hrun
  | err => rw [eb] at hrun; cases hrun
  | ok fl S1 =>
    rw [eb] at hrun
    cases fl with
    | next e =>
      have q : back f.flag [] .non S1 = .ok (.bl true) sf := hrun
      unfold back at q
      rw [if_pos hfl] at q
      cases q
    | ret dv =>
      have q : back f.flag [] dv S1 = .ok (.bl true) sf := hrun
      unfold back at q
      rw [if_pos hfl] at q
      cases q
      intro v μ' H' r' R' M'
      cases r'
      exact hQ H'
    | brk e => cases hrun
    | cont e => cases hrun
    | exc e c fs => cases hrun
end
end CN
set_option Elab.async false
set_option linter.all false
set_option maxRecDepth 100000
set_option maxHeartbeats 0
/-! the data of codenotary_k69_machine_counts, printed by gen.py -/
namespace K69
open PySem CN L2
abbrev R : PySem.W.OpenRow := PySem.W.OpenLaw.row PySem.Challenge.rw_codenotary_k69_machine_counts
def top (i : Nat) : Stmt := PySem.Challenge.pw_codenotary_k69_machine_counts.main.body.getD i (.Pass ⟨0, 0, 0, 0⟩)
-- 0: law  [script]
def i_law : Fn := ⟨1, 1, .cons (.thru (.cons (.ret (.call 1 (.cons (.var 0) (.nil)))) (.nil))) (.nil), 0⟩
def d_law : He.DefD := ⟨("law", none), "law", "law", defArgs (top 65), defBody (top 65), defScope (top 65), [], []⟩
-- 1: _law_all  [script, jar, size, base, more, places, one, code, memory, k, boxes, top, state, number, steps, n, told, behind, due, at, form, a, b, loop, part, start, step, events, end, byte]
def i__law_all : Fn := ⟨30, 1, .cons (.asg (.nm 1) (.call 2 (.cons (.var 0) (.nil)))) (.cons (.par [20, 21, 22] (.cons (.call 3 (.cons (.var 1) (.cons (.cst (.int 3)) (.nil)))) (.cons (.idx (.lst (.cons (.cst (.int 0)) (.cons (.cst (.int 1)) (.cons (.cst (.int 3)) (.cons (.cst (.int 255)) (.cons (.call 3 (.cons (.var 1) (.cons (.cst (.int 256)) (.nil)))) (.nil))))))) (.call 3 (.cons (.var 1) (.cons (.cst (.int 5)) (.nil))))) (.cons (.bin .add (.cst (.int 1)) (.call 3 (.cons (.var 1) (.cons (.idx (.lst (.cons (.cst (.int 5)) (.cons (.cst (.int 30)) (.cons (.cst (.int 100)) (.nil))))) (.call 3 (.cons (.var 1) (.cons (.cst (.int 3)) (.nil))))) (.nil))))) (.nil))))) (.cons (.asg (.nm 2) (.idx (.lst (.cons (.cst (.int 64)) (.cons (.cst (.int 65)) (.cons (.cst (.int 128)) (.cons (.bin .add (.cst (.int 300)) (.call 3 (.cons (.var 1) (.cons (.cst (.int 300)) (.nil))))) (.cons (.cst (.int 4096)) (.nil))))))) (.idx (.lst (.cons (.cst (.int 0)) (.cons (.cst (.int 0)) (.cons (.cst (.int 1)) (.cons (.cst (.int 2)) (.cons (.cst (.int 3)) (.cons (.cst (.int 3)) (.cons (.cst (.int 0)) (.cons (.cst (.int 4)) (.nil)))))))))) (.call 3 (.cons (.var 1) (.cons (.cst (.int 8)) (.nil))))))) (.cons (.asg (.nm 3) (.idx (.lst (.cons (.call 3 (.cons (.var 1) (.cons (.var 2) (.nil)))) (.cons (.bin .sub (.bin .sub (.var 2) (.cst (.int 1))) (.call 3 (.cons (.var 1) (.cons (.cst (.int 14)) (.nil))))) (.cons (.cst (.int 0)) (.nil))))) (.call 3 (.cons (.var 1) (.cons (.cst (.int 3)) (.nil)))))) (.cons (.asg (.nm 4) (.bin .mul (.var 2) (.call 3 (.cons (.var 1) (.cons (.cst (.int 3)) (.nil)))))) (.cons (.asg (.nm 5) (.box (.lst (.cons (.cst (.int 0)) (.nil))))) (.cons (.for_ (.nm 6) (.seq (.call 4 (.cons (.var 20) (.cons (.var 21) (.cons (.var 22) (.cons (.cst (.int 0)) (.cons (.cst (.int 0)) (.nil)))))))) (.cons (.expr (.bm .append (.var 5) (.cons (.bin .add (.idx (.var 5) (.bin .sub (.bi .len (.cons (.var 5) (.nil))) (.cst (.int 1)))) (.bi .len (.cons (.call 5 (.cons (.var 6) (.nil))) (.nil)))) (.nil)))) (.nil))) (.cons (.par [23, 24] (.cons (.bin .add (.bin .mod (.bi .int (.cons (.bin .add (.var 3) (.idx (.var 5) (.cst (.int 5)))) (.nil))) (.var 2)) (.var 4)) (.cons (.bin .add (.bin .mod (.bi .int (.cons (.bin .add (.var 3) (.idx (.var 5) (.cst (.int 10)))) (.nil))) (.var 2)) (.var 4)) (.nil)))) (.cons (.asg (.nm 7) (.box (.lst (.nil)))) (.cons (.for_ (.nm 6) (.seq (.call 4 (.cons (.var 20) (.cons (.var 21) (.cons (.var 22) (.cons (.var 23) (.cons (.var 24) (.nil)))))))) (.cons (.expr (.bm .extend (.var 7) (.cons (.call 5 (.cons (.var 6) (.nil))) (.nil)))) (.nil))) (.cons (.asg (.tp [25, 26]) (.tup (.cons (.call 3 (.cons (.var 1) (.cons (.cst (.int 256)) (.nil)))) (.cons (.call 3 (.cons (.var 1) (.cons (.cst (.int 256)) (.nil)))) (.nil))))) (.cons (.asg (.nm 8) (.compB (.bin .mod (.bi .int (.cons (.bin .add (.var 25) (.bin .mul (.var 26) (.var 9))) (.nil))) (.cst (.int 256))) (.nm 9) [9] (.range1 (.var 2)) .no)) (.cons (.for_ (.nm 9) (.range1 (.bi .len (.cons (.var 7) (.nil)))) (.cons (.sub (.var 8) (.bin .mod (.bi .int (.cons (.bin .add (.var 3) (.var 9)) (.nil))) (.var 2)) (.idx (.var 7) (.var 9))) (.nil))) (.cons (.asg (.nm 10) (.comp (.call 3 (.cons (.var 1) (.cons (.cst (.int 256)) (.nil)))) (.nm 9) [9] (.range1 (.cst (.int 8))) .no)) (.cons (.asg (.nm 11) (.bin .mod (.bi .int (.cons (.bin .sub (.var 3) (.call 3 (.cons (.var 1) (.cons (.cst (.int 9)) (.nil))))) (.nil))) (.var 2))) (.cons (.asg (.nm 12) (.tup (.cons (.bi .tuple (.cons (.var 8) (.nil))) (.cons (.bi .tuple (.cons (.var 10) (.nil))) (.cons (.var 3) (.cons (.var 11) (.nil))))))) (.cons (.asg (.nm 13) (.cst (.int 1))) (.cons (.for_ (.nm 9) (.range1 (.var 22)) (.cons (.asg (.nm 13) (.bin .mod (.bi .int (.cons (.bin .mul (.var 13) (.var 21)) (.nil))) (.cst (.int 256)))) (.nil))) (.cons (.asg (.nm 13) (.idx (.lst (.cons (.bin .mod (.bi .int (.cons (.bin .mul (.var 21) (.var 22)) (.nil))) (.cst (.int 256))) (.cons (.bin .mod (.bi .int (.cons (.bin .sub (.cst (.int 0)) (.bin .mul (.var 21) (.var 22))) (.nil))) (.cst (.int 256))) (.cons (.var 13) (.nil))))) (.var 20))) (.cons (.asg (.nm 14) (.bin .add (.cst (.int 7)) (.bin .mul (.cst (.int 7)) (.var 22)))) (.cons (.asg (.nm 15) (.bin .sub (.var 14) (.idx (.lst (.cons (.cst (.int 0)) (.cons (.cst (.int 0)) (.cons (.cst (.int 1)) (.cons (.cst (.int 2)) (.cons (.bin .sub (.cst (.int 0)) (.cst (.int 5))) (.nil))))))) (.call 3 (.cons (.var 1) (.cons (.cst (.int 5)) (.nil))))))) (.cons (.asg (.nm 16) (.call 6 (.cons (.var 12) (.cons (.tup (.nil)) (.cons (.var 15) (.nil)))))) (.cons (.par [27, 28] (.cons (.bin .mul (.tup (.cons (.tup (.cons (.cst (.str "tell")) (.cons (.var 13) (.nil)))) (.nil))) (.bi .int (.cons (.cmp .gt (.var 15) (.bin .sub (.var 14) (.cst (.int 2)))) (.nil)))) (.cons (.ite (.cmp .ge (.var 15) (.var 14)) (.tup (.cons (.cst (.str "stopped")) (.nil))) (.tup (.cons (.cst (.str "tired")) (.nil)))) (.nil)))) (.cons (.ite (.or (.cons (.not (.bi (.isinst "tuple") (.cons (.var 16) (.nil)))) (.cons (.cmp .ne (.bi .len (.cons (.var 16) (.nil))) (.cst (.int 3))) (.cons (.not (.call 41 (.cons (.sl (.var 16) .no (.so (.cst (.int 2)))) (.cons (.tup (.cons (.var 27) (.cons (.var 28) (.nil)))) (.nil))))) (.nil))))) (.cons (.ret (.cst (.bl false))) (.nil)) (.nil)) (.cons (.asg (.nm 17) (.bin .mod (.bi .int (.cons (.bin .add (.var 3) (.idx (.var 5) (.cst (.int 6)))) (.nil))) (.var 2))) (.cons (.for_ (.tp [9, 29]) (.seq (.tup (.cons (.tup (.cons (.cst (.int 3)) (.cons (.var 21) (.nil)))) (.cons (.tup (.cons (.cst (.int 2)) (.cons (.bin .fdiv (.var 17) (.cst (.int 256))) (.nil)))) (.cons (.tup (.cons (.cst (.int 1)) (.cons (.bin .mod (.bi .int (.cons (.var 17) (.nil))) (.cst (.int 256))) (.nil)))) (.nil)))))) (.cons (.sub (.var 8) (.bin .mod (.bi .int (.cons (.bin .sub (.var 11) (.var 9)) (.nil))) (.var 2)) (.var 29)) (.nil))) (.cons (.asg (.nm 18) (.lst (.cons (.var 21) (.cons (.cst (.int 0)) (.cons (.var 13) (.cons (.cst (.int 1)) (.cons (.var 21) (.cons (.idx (.var 10) (.cst (.int 5))) (.cons (.idx (.var 10) (.cst (.int 6))) (.cons (.cst (.int 0)) (.nil))))))))))) (.cons (.asg (.nm 19) (.bin .mod (.bi .int (.cons (.bin .add (.var 3) (.idx (.var 5) (.bin .add (.cst (.int 8)) (.bi .int (.cons (.cmp .gt (.var 15) (.bin .sub (.var 14) (.cst (.int 2)))) (.nil)))))) (.nil))) (.var 2))) (.cons (.ite (.or (.cons (.not (.bi (.isinst "tuple") (.cons (.idx (.var 16) (.cst (.int 2))) (.nil)))) (.cons (.cmp .ne (.bi .len (.cons (.idx (.var 16) (.cst (.int 2))) (.nil))) (.cst (.int 4))) (.cons (.not (.call 42 (.cons (.idx (.idx (.var 16) (.cst (.int 2))) (.cst (.int 0))) (.cons (.var 8) (.nil))))) (.nil))))) (.cons (.ret (.cst (.bl false))) (.nil)) (.nil)) (.cons (.ret (.call 41 (.cons (.sl (.idx (.var 16) (.cst (.int 2))) (.so (.cst (.int 1))) .no) (.cons (.tup (.cons (.bi .tuple (.cons (.var 18) (.nil))) (.cons (.var 19) (.cons (.var 11) (.nil))))) (.nil))))) (.nil)))))))))))))))))))))))))))))), 0⟩
def d__law_all : He.DefD := ⟨("_law_all", none), "_law_all", "_law_all", defArgs (top 64), defBody (top 64), defScope (top 64), [], []⟩
-- 2: _law_jar  [script, cell]
def i__law_jar : Fn := ⟨2, 1, .cons (.ret (.box (.lst (.cons (.bin .add (.sl (.comp (.bi .int (.cons (.var 1) (.nil))) (.nm 1) [1] (.seq (.var 0)) .no) .no (.so (.cst (.int 63)))) (.bin .mul (.lst (.cons (.cst (.int 5)) (.nil))) (.bi .int (.cons (.cmp .eq (.bi .len (.cons (.var 0) (.nil))) (.cst (.int 0))) (.nil))))) (.cons (.cst (.int 0)) (.cons (.cst (.int 0)) (.cons (.cst (.int 0)) (.nil)))))))) (.nil), 0⟩
def d__law_jar : He.DefD := ⟨("_law_jar", none), "_law_jar", "_law_jar", defArgs (top 58), defBody (top 58), defScope (top 58), [], []⟩
-- 3: _law_draw  [jar, limit, cell, mixed, digit]
def i__law_draw : Fn := ⟨5, 2, .cons (.sub (.var 0) (.cst (.int 3)) (.bin .add (.idx (.var 0) (.cst (.int 3))) (.cst (.int 1)))) (.cons (.ite (.and (.cons (.cmp .eq (.idx (.var 0) (.cst (.int 2))) (.cst (.int 0))) (.cons (.cmp .lt (.idx (.var 0) (.cst (.int 1))) (.bi .len (.cons (.idx (.var 0) (.cst (.int 0))) (.nil)))) (.nil)))) (.cons (.sub (.var 0) (.cst (.int 2)) (.ite (.cmp .ge (.idx (.idx (.var 0) (.cst (.int 0))) (.idx (.var 0) (.cst (.int 1)))) (.bin .pow (.cst (.int 10)) (.cst (.int 12)))) (.idx (.idx (.var 0) (.cst (.int 0))) (.idx (.var 0) (.cst (.int 1)))) (.cst (.int 0)))) (.cons (.sub (.var 0) (.cst (.int 1)) (.bin .add (.idx (.var 0) (.cst (.int 1))) (.cst (.int 1)))) (.nil))) (.nil)) (.cons (.ite (.cmp .gt (.idx (.var 0) (.cst (.int 2))) (.cst (.int 0))) (.cons (.asg (.nm 4) (.bin .mod (.bi .int (.cons (.idx (.var 0) (.cst (.int 2))) (.nil))) (.var 1))) (.cons (.sub (.var 0) (.cst (.int 2)) (.bin .fdiv (.idx (.var 0) (.cst (.int 2))) (.var 1))) (.cons (.ret (.var 4)) (.nil)))) (.nil)) (.cons (.asg (.nm 2) (.idx (.idx (.var 0) (.cst (.int 0))) (.bin .mod (.bi .int (.cons (.idx (.var 0) (.cst (.int 3))) (.nil))) (.bi .len (.cons (.idx (.var 0) (.cst (.int 0))) (.nil)))))) (.cons (.asg (.nm 3) (.bin .mod (.bi .int (.cons (.bin .add (.bin .add (.bin .mul (.var 2) (.cst (.int 69069))) (.bin .mul (.idx (.var 0) (.cst (.int 3))) (.cst (.int 40503)))) (.cst (.int 11))) (.nil))) (.cst (.int 1000000007)))) (.cons (.asg (.nm 3) (.bin .mod (.bi .int (.cons (.bin .add (.bin .add (.bin .mul (.var 3) (.var 3)) (.bin .mul (.idx (.var 0) (.cst (.int 3))) (.cst (.int 7919)))) (.var 2)) (.nil))) (.cst (.int 998244353)))) (.cons (.ret (.bin .mod (.bi .int (.cons (.bin .fdiv (.var 3) (.cst (.int 16))) (.nil))) (.var 1))) (.nil))))))), 0⟩
def d__law_draw : He.DefD := ⟨("_law_draw", none), "_law_draw", "_law_draw", defArgs (top 59), defBody (top 59), defScope (top 59), [], []⟩
-- 4: _law_lines  [form, a, b, loop, part, word, rows]
def i__law_lines : Fn := ⟨7, 5, .cons (.asg (.nm 5) (.idx (.lst (.cons (.cst (.str "add")) (.cons (.cst (.str "sub")) (.cons (.cst (.str "mul")) (.nil))))) (.var 0))) (.cons (.asg (.nm 6) (.box (.lst (.cons (.tup (.cons (.cst (.str "set")) (.cons (.cst (.int 0)) (.cons (.var 1) (.nil))))) (.cons (.tup (.cons (.cst (.str "set")) (.cons (.cst (.int 1)) (.cons (.var 2) (.nil))))) (.cons (.tup (.cons (.cst (.str "set")) (.cons (.cst (.int 2)) (.cons (.bi .int (.cons (.cmp .eq (.var 0) (.cst (.int 2))) (.nil))) (.nil))))) (.cons (.tup (.cons (.cst (.str "set")) (.cons (.cst (.int 3)) (.cons (.cst (.int 1)) (.nil))))) (.cons (.tup (.cons (.cst (.str "set")) (.cons (.cst (.int 7)) (.cons (.cst (.int 0)) (.nil))))) (.nil))))))))) (.cons (.expr (.bm .extend (.var 6) (.cons (.lst (.cons (.tup (.cons (.cst (.str "call")) (.cons (.var 4) (.nil)))) (.cons (.tup (.cons (.cst (.str "sub")) (.cons (.cst (.int 1)) (.cons (.cst (.int 1)) (.cons (.cst (.int 3)) (.nil)))))) (.cons (.tup (.cons (.cst (.str "less")) (.cons (.cst (.int 7)) (.cons (.cst (.int 1)) (.cons (.var 3) (.nil)))))) (.cons (.tup (.cons (.cst (.str "tell")) (.cons (.cst (.int 2)) (.nil)))) (.cons (.tup (.cons (.cst (.str "stop")) (.nil))) (.nil))))))) (.nil)))) (.cons (.ret (.bin .add (.var 6) (.lst (.cons (.tup (.cons (.cst (.str "push")) (.cons (.cst (.int 0)) (.nil)))) (.cons (.tup (.cons (.var 5) (.cons (.cst (.int 2)) (.cons (.cst (.int 2)) (.cons (.cst (.int 0)) (.nil)))))) (.cons (.tup (.cons (.cst (.str "pop")) (.cons (.cst (.int 4)) (.nil)))) (.cons (.tup (.cons (.cst (.str "back")) (.nil))) (.nil)))))))) (.nil)))), 4⟩
def d__law_lines : He.DefD := ⟨("_law_lines", none), "_law_lines", "_law_lines", defArgs (top 63), defBody (top 63), defScope (top 63), [], []⟩
-- 5: _law_coded  [one, words, shape, told, k]
def i__law_coded : Fn := ⟨5, 1, .cons (.asg (.nm 1) (.bm .split (.cst (.str "set copy add sub mul low ask tell get put less same jump call back push pop out stop")) (.cons (.cst (.str " ")) (.nil)))) (.cons (.asg (.nm 2) (.idx (.bm .split (.cst (.str "rn rr rrr rrr rrr rn r r rAr Arr rrA rrA A A - r r A -")) (.cons (.cst (.str " ")) (.nil))) (.bm .index (.var 1) (.cons (.idx (.var 0) (.cst (.int 0))) (.nil))))) (.cons (.asg (.nm 3) (.box (.lst (.cons (.bin .add (.bm .index (.var 1) (.cons (.idx (.var 0) (.cst (.int 0))) (.nil))) (.cst (.int 1))) (.nil))))) (.cons (.for_ (.nm 4) (.range1 (.bin .sub (.bi .len (.cons (.var 0) (.nil))) (.cst (.int 1)))) (.cons (.expr (.bm .extend (.var 3) (.cons (.sl (.lst (.cons (.bin .fdiv (.idx (.var 0) (.bin .add (.var 4) (.cst (.int 1)))) (.cst (.int 256))) (.cons (.bin .mod (.bi .int (.cons (.idx (.var 0) (.bin .add (.var 4) (.cst (.int 1)))) (.nil))) (.cst (.int 256))) (.nil)))) (.so (.bi .int (.cons (.cmp .ne (.idx (.var 2) (.var 4)) (.cst (.str "A"))) (.nil)))) .no) (.nil)))) (.nil))) (.cons (.ret (.var 3)) (.nil))))), 5⟩
def d__law_coded : He.DefD := ⟨("_law_coded", none), "_law_coded", "_law_coded", defArgs (top 62), defBody (top 62), defScope (top 62), [], []⟩
-- 6: machine_run  [state, answers, n]
def i_machine_run : Fn := ⟨3, 3, .cons (.ite (.not (.call 7 (.cons (.var 0) (.nil)))) (.cons (.never) (.nil)) (.nil)) (.cons (.ite (.not (.call 15 (.cons (.var 1) (.nil)))) (.cons (.never) (.nil)) (.nil)) (.cons (.ite (.not (.call 16 (.cons (.var 2) (.nil)))) (.cons (.never) (.nil)) (.nil)) (.cons (.ret (.call 17 (.cons (.var 0) (.cons (.var 1) (.cons (.var 2) (.nil)))))) (.nil)))), 4⟩
def d_machine_run : He.DefD := ⟨("machine_run", none), "machine_run", "machine_run", defArgs (top 56), defBody (top 56), defScope (top 56), [], []⟩
-- 7: is_machine_state  [value]
def i_is_machine_state : Fn := ⟨1, 1, .cons (.ite (.or (.cons (.not (.call 8 (.cons (.var 0) (.cons (.cst (.int 4)) (.nil))))) (.cons (.not (.call 9 (.cons (.idx (.var 0) (.cst (.int 0))) (.nil)))) (.cons (.not (.chain .le .le (.cst (.int 1)) (.bi .len (.cons (.idx (.var 0) (.cst (.int 0))) (.nil))) (.glob 0))) (.nil))))) (.cons (.ret (.cst (.bl false))) (.nil)) (.nil)) (.cons (.ite (.not (.call 13 (.cons (.idx (.var 0) (.cst (.int 1))) (.cons (.glob 1) (.cons (.glob 2) (.nil)))))) (.cons (.ret (.cst (.bl false))) (.nil)) (.nil)) (.cons (.ret (.and (.cons (.call 11 (.cons (.idx (.var 0) (.cst (.int 2))) (.cons (.bi .len (.cons (.idx (.var 0) (.cst (.int 0))) (.nil))) (.nil)))) (.cons (.call 11 (.cons (.idx (.var 0) (.cst (.int 3))) (.cons (.bi .len (.cons (.idx (.var 0) (.cst (.int 0))) (.nil))) (.nil)))) (.nil))))) (.nil))), 0⟩
def d_is_machine_state : He.DefD := ⟨("is_machine_state", none), "is_machine_state", "is_machine_state", defArgs (top 34), defBody (top 34), defScope (top 34), [], []⟩
-- 8: is_tuple_of  [value, many]
def i_is_tuple_of : Fn := ⟨2, 2, .cons (.ret (.and (.cons (.bi (.isinst "tuple") (.cons (.var 0) (.nil))) (.cons (.cmp .eq (.bi .len (.cons (.var 0) (.nil))) (.var 1)) (.nil))))) (.nil), 0⟩
def d_is_tuple_of : He.DefD := ⟨("is_tuple_of", none), "is_tuple_of", "is_tuple_of", defArgs (top 5), defBody (top 5), defScope (top 5), [], []⟩
-- 9: are_bytes  [value, one]
def i_are_bytes : Fn := ⟨2, 1, .cons (.ret (.and (.cons (.bi (.isinst "tuple") (.cons (.var 0) (.nil))) (.cons (.bi .all (.cons (.comp (.call 10 (.cons (.var 1) (.nil))) (.nm 1) [1] (.seq (.var 0)) .no) (.nil))) (.nil))))) (.nil), 0⟩
def d_are_bytes : He.DefD := ⟨("are_bytes", none), "are_bytes", "are_bytes", defArgs (top 6), defBody (top 6), defScope (top 6), [], []⟩
-- 10: is_byte  [value]
def i_is_byte : Fn := ⟨1, 1, .cons (.ret (.call 11 (.cons (.var 0) (.cons (.cst (.int 256)) (.nil))))) (.nil), 0⟩
def d_is_byte : He.DefD := ⟨("is_byte", none), "is_byte", "is_byte", defArgs (top 4), defBody (top 4), defScope (top 4), [], []⟩
-- 11: is_number_below  [value, limit]
def i_is_number_below : Fn := ⟨2, 2, .cons (.ret (.and (.cons (.call 12 (.cons (.var 0) (.nil))) (.cons (.chain .le .lt (.cst (.int 0)) (.var 0) (.var 1)) (.nil))))) (.nil), 0⟩
def d_is_number_below : He.DefD := ⟨("is_number_below", none), "is_number_below", "is_number_below", defArgs (top 3), defBody (top 3), defScope (top 3), [], []⟩
-- 12: is_integer  [value]
def i_is_integer : Fn := ⟨1, 1, .cons (.ret (.and (.cons (.bi (.isinst "int") (.cons (.var 0) (.nil))) (.cons (.not (.bi (.isinst "bool") (.cons (.var 0) (.nil)))) (.nil))))) (.nil), 0⟩
def d_is_integer : He.DefD := ⟨("is_integer", none), "is_integer", "is_integer", defArgs (top 1), defBody (top 1), defScope (top 1), [], []⟩
-- 13: are_numbers_below  [value, many, limit]
def i_are_numbers_below : Fn := ⟨3, 3, .cons (.ret (.and (.cons (.call 8 (.cons (.var 0) (.cons (.var 1) (.nil)))) (.cons (.call 14 (.cons (.var 0) (.cons (.var 2) (.nil)))) (.nil))))) (.nil), 0⟩
def d_are_numbers_below : He.DefD := ⟨("are_numbers_below", none), "are_numbers_below", "are_numbers_below", defArgs (top 8), defBody (top 8), defScope (top 8), [], []⟩
-- 14: are_below  [value, limit, one]
def i_are_below : Fn := ⟨3, 2, .cons (.ret (.and (.cons (.bi (.isinst "tuple") (.cons (.var 0) (.nil))) (.cons (.bi .all (.cons (.comp (.call 11 (.cons (.var 2) (.cons (.var 1) (.nil)))) (.nm 2) [2] (.seq (.var 0)) .no) (.nil))) (.nil))))) (.nil), 0⟩
def d_are_below : He.DefD := ⟨("are_below", none), "are_below", "are_below", defArgs (top 7), defBody (top 7), defScope (top 7), [], []⟩
-- 15: are_machine_answers  [value, one]
def i_are_machine_answers : Fn := ⟨2, 1, .cons (.ret (.and (.cons (.bi (.isinst "tuple") (.cons (.var 0) (.nil))) (.cons (.call 9 (.cons (.bi .tuple (.cons (.comp (.var 1) (.nm 1) [1] (.seq (.var 0)) (.so (.isN true (.var 1)))) (.nil))) (.nil))) (.nil))))) (.nil), 0⟩
def d_are_machine_answers : He.DefD := ⟨("are_machine_answers", none), "are_machine_answers", "are_machine_answers", defArgs (top 35), defBody (top 35), defScope (top 35), [], []⟩
-- 16: is_number  [value]
def i_is_number : Fn := ⟨1, 1, .cons (.ret (.and (.cons (.call 12 (.cons (.var 0) (.nil))) (.cons (.cmp .ge (.var 0) (.cst (.int 0))) (.nil))))) (.nil), 0⟩
def d_is_number : He.DefD := ⟨("is_number", none), "is_number", "is_number", defArgs (top 2), defBody (top 2), defScope (top 2), [], []⟩
-- 17: ran  [state, answers, n, machine, end]
def i_ran : Fn := ⟨5, 3, .cons (.asg (.nm 3) (.make 0 (.cons (.var 0) (.cons (.var 1) (.nil))))) (.cons (.asg (.nm 4) (.meth 18 (.var 3) (.cons (.var 2) (.nil)))) (.cons (.ret (.tup (.cons (.meth 11 (.attr (.var 3) 6) (.nil)) (.cons (.var 4) (.cons (.meth 12 (.var 3) (.nil)) (.nil)))))) (.nil))), 0⟩
def d_ran : He.DefD := ⟨("ran", none), "ran", "ran", defArgs (top 55), defBody (top 55), defScope (top 55), [], []⟩
-- 18: joined_bytes  [high, low]
def i_joined_bytes : Fn := ⟨2, 2, .cons (.ret (.bin .add (.bin .mul (.var 0) (.glob 2)) (.var 1))) (.nil), 0⟩
def d_joined_bytes : He.DefD := ⟨("joined_bytes", none), "joined_bytes", "joined_bytes", defArgs (top 28), defBody (top 28), defScope (top 28), [], []⟩
-- 19: high_and_low  [number]
def i_high_and_low : Fn := ⟨1, 1, .cons (.ret (.tup (.cons (.bin .fdiv (.var 0) (.glob 2)) (.cons (.bin .mod (.bi .int (.cons (.var 0) (.nil))) (.glob 2)) (.nil))))) (.nil), 0⟩
def d_high_and_low : He.DefD := ⟨("high_and_low", none), "high_and_low", "high_and_low", defArgs (top 27), defBody (top 27), defScope (top 27), [], []⟩
-- 20: is_opcode  [number]
def i_is_opcode : Fn := ⟨1, 1, .cons (.ret (.chain .le .le (.cst (.int 1)) (.var 0) (.bi .len (.cons (.glob 3) (.nil))))) (.nil), 0⟩
def d_is_opcode : He.DefD := ⟨("is_opcode", none), "is_opcode", "is_opcode", defArgs (top 21), defBody (top 21), defScope (top 21), [], []⟩
-- 21: word_of  [opcode]
def i_word_of : Fn := ⟨1, 1, .cons (.ret (.idx (.glob 3) (.bin .sub (.var 0) (.cst (.int 1))))) (.nil), 0⟩
def d_word_of : He.DefD := ⟨("word_of", none), "word_of", "word_of", defArgs (top 22), defBody (top 22), defScope (top 22), [], []⟩
-- 22: length_of  [word, kind]
def i_length_of : Fn := ⟨2, 1, .cons (.ret (.bin .add (.cst (.int 1)) (.bi .sum (.cons (.comp (.idx (.glob 5) (.var 1)) (.nm 1) [1] (.seq (.idx (.glob 4) (.var 0))) .no) (.nil))))) (.nil), 0⟩
def d_length_of : He.DefD := ⟨("length_of", none), "length_of", "length_of", defArgs (top 23), defBody (top 23), defScope (top 23), [], []⟩
-- 23: raw_set  [machine, instruction, _, r, n]
def i_raw_set : Fn := ⟨5, 2, .cons (.asg (.tp [2, 3, 4]) (.var 1)) (.cons (.sub (.attr (.var 0) 3) (.var 3) (.var 4)) (.nil)), 0⟩
def d_raw_set : He.DefD := ⟨("raw_set", none), "raw_set", "raw_set", defArgs (top 38), defBody (top 38), defScope (top 38), [], []⟩
-- 24: raw_copy  [machine, instruction, _, r, s]
def i_raw_copy : Fn := ⟨5, 2, .cons (.asg (.tp [2, 3, 4]) (.var 1)) (.cons (.sub (.attr (.var 0) 3) (.var 3) (.idx (.attr (.var 0) 3) (.var 4))) (.nil)), 0⟩
def d_raw_copy : He.DefD := ⟨("raw_copy", none), "raw_copy", "raw_copy", defArgs (top 39), defBody (top 39), defScope (top 39), [], []⟩
-- 25: raw_sum  [machine, instruction, word, r, s, t]
def i_raw_sum : Fn := ⟨6, 2, .cons (.asg (.tp [2, 3, 4, 5]) (.var 1)) (.cons (.sub (.attr (.var 0) 3) (.var 3) (.call 26 (.cons (.var 2) (.cons (.idx (.attr (.var 0) 3) (.var 4)) (.cons (.idx (.attr (.var 0) 3) (.var 5)) (.nil)))))) (.nil)), 0⟩
def d_raw_sum : He.DefD := ⟨("raw_sum", none), "raw_sum", "raw_sum", defArgs (top 40), defBody (top 40), defScope (top 40), [], []⟩
-- 26: sum_of  [word, a, b]
def i_sum_of : Fn := ⟨3, 3, .cons (.ite (.cmp .eq (.var 0) (.cst (.str "add"))) (.cons (.ret (.bin .mod (.bi .int (.cons (.bin .add (.var 1) (.var 2)) (.nil))) (.glob 2))) (.nil)) (.nil)) (.cons (.ite (.cmp .eq (.var 0) (.cst (.str "sub"))) (.cons (.ret (.bin .mod (.bi .int (.cons (.bin .sub (.var 1) (.var 2)) (.nil))) (.glob 2))) (.nil)) (.nil)) (.cons (.ret (.bin .mod (.bi .int (.cons (.bin .mul (.var 1) (.var 2)) (.nil))) (.glob 2))) (.nil))), 0⟩
def d_sum_of : He.DefD := ⟨("sum_of", none), "sum_of", "sum_of", defArgs (top 24), defBody (top 24), defScope (top 24), [], []⟩
-- 27: raw_low  [machine, instruction, _, r, n]
def i_raw_low : Fn := ⟨5, 2, .cons (.asg (.tp [2, 3, 4]) (.var 1)) (.cons (.sub (.attr (.var 0) 3) (.var 3) (.call 28 (.cons (.idx (.attr (.var 0) 3) (.var 3)) (.cons (.var 4) (.nil))))) (.nil)), 0⟩
def d_raw_low : He.DefD := ⟨("raw_low", none), "raw_low", "raw_low", defArgs (top 41), defBody (top 41), defScope (top 41), [], []⟩
-- 28: rest_of  [a, n]
def i_rest_of : Fn := ⟨2, 2, .cons (.ret (.ite (.cmp .eq (.var 1) (.cst (.int 0))) (.var 0) (.bin .mod (.bi .int (.cons (.var 0) (.nil))) (.var 1)))) (.nil), 0⟩
def d_rest_of : He.DefD := ⟨("rest_of", none), "rest_of", "rest_of", defArgs (top 25), defBody (top 25), defScope (top 25), [], []⟩
-- 29: raw_ask  [machine, instruction, answer]
def i_raw_ask : Fn := ⟨3, 2, .cons (.asg (.nm 2) (.meth 9 (.attr (.var 0) 6) (.nil))) (.cons (.sub (.attr (.var 0) 3) (.idx (.var 1) (.cst (.int 1))) (.var 2)) (.cons (.expr (.meth 10 (.attr (.var 0) 6) (.cons (.tup (.cons (.cst (.str "ask")) (.cons (.var 2) (.nil)))) (.nil)))) (.nil))), 0⟩
def d_raw_ask : He.DefD := ⟨("raw_ask", none), "raw_ask", "raw_ask", defArgs (top 42), defBody (top 42), defScope (top 42), [], []⟩
-- 30: raw_tell  [machine, instruction]
def i_raw_tell : Fn := ⟨2, 2, .cons (.expr (.meth 10 (.attr (.var 0) 6) (.cons (.tup (.cons (.cst (.str "tell")) (.cons (.idx (.attr (.var 0) 3) (.idx (.var 1) (.cst (.int 1)))) (.nil)))) (.nil)))) (.nil), 0⟩
def d_raw_tell : He.DefD := ⟨("raw_tell", none), "raw_tell", "raw_tell", defArgs (top 43), defBody (top 43), defScope (top 43), [], []⟩
-- 31: raw_get  [machine, instruction, place, answer, _, r, address, s]
def i_raw_get : Fn := ⟨8, 2, .cons (.asg (.tp [4, 5, 6, 7]) (.var 1)) (.cons (.asg (.nm 2) (.meth 0 (.attr (.var 0) 0) (.cons (.bin .add (.var 6) (.idx (.attr (.var 0) 3) (.var 7))) (.nil)))) (.cons (.asg (.nm 3) (.meth 9 (.attr (.var 0) 6) (.nil))) (.cons (.ite (.isN true (.var 3)) (.cons (.expr (.meth 2 (.attr (.var 0) 0) (.cons (.var 2) (.cons (.var 3) (.nil))))) (.nil)) (.nil)) (.cons (.sub (.attr (.var 0) 3) (.var 5) (.meth 1 (.attr (.var 0) 0) (.cons (.var 2) (.nil)))) (.cons (.expr (.meth 10 (.attr (.var 0) 6) (.cons (.tup (.cons (.cst (.str "get")) (.cons (.var 2) (.cons (.idx (.attr (.var 0) 3) (.var 5)) (.nil))))) (.nil)))) (.nil)))))), 0⟩
def d_raw_get : He.DefD := ⟨("raw_get", none), "raw_get", "raw_get", defArgs (top 44), defBody (top 44), defScope (top 44), [], []⟩
-- 32: raw_put  [machine, instruction, place, _, address, s, t]
def i_raw_put : Fn := ⟨7, 2, .cons (.asg (.tp [3, 4, 5, 6]) (.var 1)) (.cons (.asg (.nm 2) (.meth 0 (.attr (.var 0) 0) (.cons (.bin .add (.var 4) (.idx (.attr (.var 0) 3) (.var 5))) (.nil)))) (.cons (.expr (.meth 2 (.attr (.var 0) 0) (.cons (.var 2) (.cons (.idx (.attr (.var 0) 3) (.var 6)) (.nil))))) (.cons (.expr (.meth 10 (.attr (.var 0) 6) (.cons (.tup (.cons (.cst (.str "put")) (.cons (.var 2) (.cons (.idx (.attr (.var 0) 3) (.var 6)) (.nil))))) (.nil)))) (.nil)))), 0⟩
def d_raw_put : He.DefD := ⟨("raw_put", none), "raw_put", "raw_put", defArgs (top 45), defBody (top 45), defScope (top 45), [], []⟩
-- 33: raw_test  [machine, instruction, word, s, t, address]
def i_raw_test : Fn := ⟨6, 2, .cons (.asg (.tp [2, 3, 4, 5]) (.var 1)) (.cons (.ite (.call 34 (.cons (.var 2) (.cons (.idx (.attr (.var 0) 3) (.var 3)) (.cons (.idx (.attr (.var 0) 3) (.var 4)) (.nil))))) (.cons (.expr (.meth 13 (.var 0) (.cons (.var 5) (.nil)))) (.nil)) (.nil)) (.nil)), 0⟩
def d_raw_test : He.DefD := ⟨("raw_test", none), "raw_test", "raw_test", defArgs (top 46), defBody (top 46), defScope (top 46), [], []⟩
-- 34: test_holds  [word, a, b]
def i_test_holds : Fn := ⟨3, 3, .cons (.ret (.ite (.cmp .eq (.var 0) (.cst (.str "less"))) (.cmp .lt (.var 1) (.var 2)) (.cmp .eq (.var 1) (.var 2)))) (.nil), 0⟩
def d_test_holds : He.DefD := ⟨("test_holds", none), "test_holds", "test_holds", defArgs (top 26), defBody (top 26), defScope (top 26), [], []⟩
-- 35: raw_jump  [machine, instruction]
def i_raw_jump : Fn := ⟨2, 2, .cons (.expr (.meth 13 (.var 0) (.cons (.idx (.var 1) (.cst (.int 1))) (.nil)))) (.nil), 0⟩
def d_raw_jump : He.DefD := ⟨("raw_jump", none), "raw_jump", "raw_jump", defArgs (top 47), defBody (top 47), defScope (top 47), [], []⟩
-- 36: raw_call  [machine, instruction]
def i_raw_call : Fn := ⟨2, 2, .cons (.expr (.meth 14 (.var 0) (.cons (.neg (.cst (.int 2))) (.nil)))) (.cons (.expr (.meth 4 (.attr (.var 0) 0) (.cons (.attr (.var 0) 5) (.cons (.attr (.var 0) 4) (.nil))))) (.cons (.expr (.meth 13 (.var 0) (.cons (.idx (.var 1) (.cst (.int 1))) (.nil)))) (.nil))), 0⟩
def d_raw_call : He.DefD := ⟨("raw_call", none), "raw_call", "raw_call", defArgs (top 48), defBody (top 48), defScope (top 48), [], []⟩
-- 37: raw_back  [machine, instruction]
def i_raw_back : Fn := ⟨2, 2, .cons (.expr (.meth 13 (.var 0) (.cons (.meth 3 (.attr (.var 0) 0) (.cons (.attr (.var 0) 5) (.nil))) (.nil)))) (.cons (.expr (.meth 14 (.var 0) (.cons (.cst (.int 2)) (.nil)))) (.nil)), 0⟩
def d_raw_back : He.DefD := ⟨("raw_back", none), "raw_back", "raw_back", defArgs (top 49), defBody (top 49), defScope (top 49), [], []⟩
-- 38: raw_push  [machine, instruction]
def i_raw_push : Fn := ⟨2, 2, .cons (.expr (.meth 14 (.var 0) (.cons (.neg (.cst (.int 1))) (.nil)))) (.cons (.expr (.meth 2 (.attr (.var 0) 0) (.cons (.attr (.var 0) 5) (.cons (.idx (.attr (.var 0) 3) (.idx (.var 1) (.cst (.int 1)))) (.nil))))) (.nil)), 0⟩
def d_raw_push : He.DefD := ⟨("raw_push", none), "raw_push", "raw_push", defArgs (top 50), defBody (top 50), defScope (top 50), [], []⟩
-- 39: raw_pop  [machine, instruction]
def i_raw_pop : Fn := ⟨2, 2, .cons (.sub (.attr (.var 0) 3) (.idx (.var 1) (.cst (.int 1))) (.meth 1 (.attr (.var 0) 0) (.cons (.attr (.var 0) 5) (.nil)))) (.cons (.expr (.meth 14 (.var 0) (.cons (.cst (.int 1)) (.nil)))) (.nil)), 0⟩
def d_raw_pop : He.DefD := ⟨("raw_pop", none), "raw_pop", "raw_pop", defArgs (top 51), defBody (top 51), defScope (top 51), [], []⟩
-- 40: raw_out  [machine, instruction, boxes, answer]
def i_raw_out : Fn := ⟨4, 2, .cons (.asg (.nm 2) (.bi .tuple (.cons (.attr (.var 0) 3) (.nil)))) (.cons (.asg (.nm 3) (.meth 9 (.attr (.var 0) 6) (.nil))) (.cons (.sub (.attr (.var 0) 3) (.cst (.int 0)) (.var 3)) (.cons (.expr (.meth 10 (.attr (.var 0) 6) (.cons (.tup (.cons (.cst (.str "out")) (.cons (.idx (.var 1) (.cst (.int 1))) (.cons (.var 2) (.cons (.var 3) (.nil)))))) (.nil)))) (.nil)))), 0⟩
def d_raw_out : He.DefD := ⟨("raw_out", none), "raw_out", "raw_out", defArgs (top 52), defBody (top 52), defScope (top 52), [], []⟩
-- 41: _law_same  [came, due, good, k]
def i__law_same : Fn := ⟨4, 2, .cons (.ite (.bi (.isinst "tuple") (.cons (.var 1) (.nil))) (.cons (.asg (.nm 2) (.and (.cons (.bi (.isinst "tuple") (.cons (.var 0) (.nil))) (.cons (.cmp .eq (.bi .len (.cons (.var 0) (.nil))) (.bi .len (.cons (.var 1) (.nil)))) (.nil))))) (.cons (.ret (.and (.cons (.var 2) (.cons (.cmp .notin (.cst (.bl false)) (.comp (.call 41 (.cons (.idx (.var 0) (.var 3)) (.cons (.idx (.var 1) (.var 3)) (.nil)))) (.nm 3) [3] (.range1 (.bi .len (.cons (.var 1) (.nil)))) .no)) (.nil))))) (.nil))) (.nil)) (.cons (.ite (.or (.cons (.isN false (.var 1)) (.cons (.isN false (.var 0)) (.nil)))) (.cons (.ret (.and (.cons (.isN false (.var 1)) (.cons (.isN false (.var 0)) (.nil))))) (.nil)) (.nil)) (.cons (.ite (.or (.cons (.cmp .ne (.bi (.isinst "bool") (.cons (.var 0) (.nil))) (.bi (.isinst "bool") (.cons (.var 1) (.nil)))) (.cons (.cmp .ne (.bi (.isinst "int") (.cons (.var 0) (.nil))) (.bi (.isinst "int") (.cons (.var 1) (.nil)))) (.nil)))) (.cons (.ret (.cst (.bl false))) (.nil)) (.nil)) (.cons (.ret (.and (.cons (.cmp .eq (.bi (.isinst "str") (.cons (.var 0) (.nil))) (.bi (.isinst "str") (.cons (.var 1) (.nil)))) (.cons (.cmp .eq (.var 0) (.var 1)) (.nil))))) (.nil)))), 0⟩
def d__law_same : He.DefD := ⟨("_law_same", none), "_law_same", "_law_same", defArgs (top 60), defBody (top 60), defScope (top 60), [], []⟩
-- 42: _law_bytes  [came, due, one]
def i__law_bytes : Fn := ⟨3, 2, .cons (.ite (.or (.cons (.not (.bi (.isinst "tuple") (.cons (.var 0) (.nil)))) (.cons (.cmp .isin (.cst (.bl false)) (.comp (.and (.cons (.bi (.isinst "int") (.cons (.var 2) (.nil))) (.cons (.not (.bi (.isinst "bool") (.cons (.var 2) (.nil)))) (.nil)))) (.nm 2) [2] (.seq (.var 0)) .no)) (.nil)))) (.cons (.ret (.cst (.bl false))) (.nil)) (.nil)) (.cons (.ret (.cmp .eq (.var 0) (.bi .tuple (.cons (.var 1) (.nil))))) (.nil)), 0⟩
def d__law_bytes : He.DefD := ⟨("_law_bytes", none), "_law_bytes", "_law_bytes", defArgs (top 61), defBody (top 61), defScope (top 61), [], []⟩
-- 43: RawMachine.__init__  [self, state, answers, memory, boxes, at, top]
def i_RawMachine___init__ : Fn := ⟨7, 3, .cons (.asg (.tp [3, 4, 5, 6]) (.var 1)) (.cons (.fld (.var 0) 0 (.make 1 (.cons (.var 3) (.nil)))) (.cons (.fld (.var 0) 3 (.box (.bi .list (.cons (.var 4) (.nil))))) (.cons (.fld (.var 0) 4 (.var 5)) (.cons (.fld (.var 0) 5 (.var 6)) (.cons (.fld (.var 0) 6 (.make 2 (.cons (.var 2) (.nil)))) (.nil)))))), 0⟩
def d_RawMachine___init__ : He.DefD := ⟨("RawMachine", some "__init__"), "__init__", "RawMachine.__init__", defArgs (inClass (top 37) 0), defBody (inClass (top 37) 0), defScope (inClass (top 37) 0), [], []⟩
-- 44: RawMemory.__init__  [self, row]
def i_RawMemory___init__ : Fn := ⟨2, 2, .cons (.fld (.var 0) 1 (.box (.bi .list (.cons (.var 1) (.nil))))) (.cons (.fld (.var 0) 2 (.bi .len (.cons (.var 1) (.nil)))) (.nil)), 0⟩
def d_RawMemory___init__ : He.DefD := ⟨("RawMemory", some "__init__"), "__init__", "RawMemory.__init__", defArgs (inClass (top 36) 0), defBody (inClass (top 36) 0), defScope (inClass (top 36) 0), [], []⟩
-- 45: RawMemory.place_of_address  [self, address]
def i_RawMemory_place_of_address : Fn := ⟨2, 2, .cons (.ret (.bin .mod (.bi .int (.cons (.var 1) (.nil))) (.attr (.var 0) 2))) (.nil), 0⟩
def d_RawMemory_place_of_address : He.DefD := ⟨("RawMemory", some "place_of_address"), "place_of_address", "RawMemory.place_of_address", defArgs (inClass (top 36) 1), defBody (inClass (top 36) 1), defScope (inClass (top 36) 1), [], []⟩
-- 46: RawMemory.byte_at  [self, address]
def i_RawMemory_byte_at : Fn := ⟨2, 2, .cons (.ret (.idx (.attr (.var 0) 1) (.meth 0 (.var 0) (.cons (.var 1) (.nil))))) (.nil), 0⟩
def d_RawMemory_byte_at : He.DefD := ⟨("RawMemory", some "byte_at"), "byte_at", "RawMemory.byte_at", defArgs (inClass (top 36) 2), defBody (inClass (top 36) 2), defScope (inClass (top 36) 2), [], []⟩
-- 47: RawMemory.set_byte  [self, address, byte]
def i_RawMemory_set_byte : Fn := ⟨3, 3, .cons (.sub (.attr (.var 0) 1) (.meth 0 (.var 0) (.cons (.var 1) (.nil))) (.var 2)) (.nil), 0⟩
def d_RawMemory_set_byte : He.DefD := ⟨("RawMemory", some "set_byte"), "set_byte", "RawMemory.set_byte", defArgs (inClass (top 36) 3), defBody (inClass (top 36) 3), defScope (inClass (top 36) 3), [], []⟩
-- 48: RawMemory.pair_at  [self, address]
def i_RawMemory_pair_at : Fn := ⟨2, 2, .cons (.ret (.call 18 (.cons (.meth 1 (.var 0) (.cons (.var 1) (.nil))) (.cons (.meth 1 (.var 0) (.cons (.bin .add (.var 1) (.cst (.int 1))) (.nil))) (.nil))))) (.nil), 0⟩
def d_RawMemory_pair_at : He.DefD := ⟨("RawMemory", some "pair_at"), "pair_at", "RawMemory.pair_at", defArgs (inClass (top 36) 4), defBody (inClass (top 36) 4), defScope (inClass (top 36) 4), [], []⟩
-- 49: RawMemory.set_pair  [self, address, number, high, low]
def i_RawMemory_set_pair : Fn := ⟨5, 3, .cons (.asg (.tp [3, 4]) (.call 19 (.cons (.var 2) (.nil)))) (.cons (.expr (.meth 2 (.var 0) (.cons (.var 1) (.cons (.var 3) (.nil))))) (.cons (.expr (.meth 2 (.var 0) (.cons (.bin .add (.var 1) (.cst (.int 1))) (.cons (.var 4) (.nil))))) (.nil))), 0⟩
def d_RawMemory_set_pair : He.DefD := ⟨("RawMemory", some "set_pair"), "set_pair", "RawMemory.set_pair", defArgs (inClass (top 36) 5), defBody (inClass (top 36) 5), defScope (inClass (top 36) 5), [], []⟩
-- 50: RawMemory.operand  [self, kind, address]
def i_RawMemory_operand : Fn := ⟨3, 3, .cons (.ite (.cmp .eq (.var 1) (.cst (.str "address"))) (.cons (.ret (.meth 3 (.var 0) (.cons (.var 2) (.nil)))) (.nil)) (.nil)) (.cons (.ite (.cmp .eq (.var 1) (.cst (.str "box"))) (.cons (.ret (.bin .mod (.bi .int (.cons (.meth 1 (.var 0) (.cons (.var 2) (.nil))) (.nil))) (.glob 1))) (.nil)) (.nil)) (.cons (.ret (.meth 1 (.var 0) (.cons (.var 2) (.nil)))) (.nil))), 0⟩
def d_RawMemory_operand : He.DefD := ⟨("RawMemory", some "operand"), "operand", "RawMemory.operand", defArgs (inClass (top 36) 6), defBody (inClass (top 36) 6), defScope (inClass (top 36) 6), [], []⟩
-- 51: RawMemory.instruction_at  [self, address, opcode, members, place, kind]
def i_RawMemory_instruction_at : Fn := ⟨6, 2, .cons (.asg (.nm 2) (.meth 1 (.var 0) (.cons (.var 1) (.nil)))) (.cons (.ite (.not (.call 20 (.cons (.var 2) (.nil)))) (.cons (.ret (.cst (.non))) (.nil)) (.nil)) (.cons (.asg (.nm 3) (.box (.lst (.cons (.call 21 (.cons (.var 2) (.nil))) (.nil))))) (.cons (.asg (.nm 4) (.bin .add (.var 1) (.cst (.int 1)))) (.cons (.for_ (.nm 5) (.seq (.idx (.glob 4) (.idx (.var 3) (.cst (.int 0))))) (.cons (.expr (.bm .append (.var 3) (.cons (.meth 5 (.var 0) (.cons (.var 5) (.cons (.var 4) (.nil)))) (.nil)))) (.cons (.aug 4 .add (.idx (.glob 5) (.var 5))) (.nil)))) (.cons (.ret (.bi .tuple (.cons (.var 3) (.nil)))) (.nil)))))), 1⟩
def d_RawMemory_instruction_at : He.DefD := ⟨("RawMemory", some "instruction_at"), "instruction_at", "RawMemory.instruction_at", defArgs (inClass (top 36) 7), defBody (inClass (top 36) 7), defScope (inClass (top 36) 7), [], []⟩
-- 52: RawMemory.whole  [self]
def i_RawMemory_whole : Fn := ⟨1, 1, .cons (.ret (.bi .tuple (.cons (.attr (.var 0) 1) (.nil)))) (.nil), 0⟩
def d_RawMemory_whole : He.DefD := ⟨("RawMemory", some "whole"), "whole", "RawMemory.whole", defArgs (inClass (top 36) 8), defBody (inClass (top 36) 8), defScope (inClass (top 36) 8), [], []⟩
-- 53: Outside.__init__  [self, answers]
def i_Outside___init__ : Fn := ⟨2, 2, .cons (.fld (.var 0) 7 (.var 1)) (.cons (.fld (.var 0) 8 (.cst (.int 0))) (.cons (.fld (.var 0) 9 (.box (.lst (.nil)))) (.nil))), 0⟩
def d_Outside___init__ : He.DefD := ⟨("Outside", some "__init__"), "__init__", "Outside.__init__", defArgs (inClass (top 30) 0), defBody (inClass (top 30) 0), defScope (inClass (top 30) 0), [], []⟩
-- 54: Outside.has_answer  [self]
def i_Outside_has_answer : Fn := ⟨1, 1, .cons (.ret (.cmp .lt (.attr (.var 0) 8) (.bi .len (.cons (.attr (.var 0) 7) (.nil))))) (.nil), 0⟩
def d_Outside_has_answer : He.DefD := ⟨("Outside", some "has_answer"), "has_answer", "Outside.has_answer", defArgs (inClass (top 30) 1), defBody (inClass (top 30) 1), defScope (inClass (top 30) 1), [], []⟩
-- 55: Outside.take  [self, answer]
def i_Outside_take : Fn := ⟨2, 1, .cons (.asg (.nm 1) (.idx (.attr (.var 0) 7) (.attr (.var 0) 8))) (.cons (.augf (.var 0) 8 .add (.cst (.int 1))) (.cons (.ret (.var 1)) (.nil))), 0⟩
def d_Outside_take : He.DefD := ⟨("Outside", some "take"), "take", "Outside.take", defArgs (inClass (top 30) 2), defBody (inClass (top 30) 2), defScope (inClass (top 30) 2), [], []⟩
-- 56: Outside.tell  [self, event]
def i_Outside_tell : Fn := ⟨2, 2, .cons (.expr (.bm .append (.attr (.var 0) 9) (.cons (.var 1) (.nil)))) (.nil), 0⟩
def d_Outside_tell : He.DefD := ⟨("Outside", some "tell"), "tell", "Outside.tell", defArgs (inClass (top 30) 3), defBody (inClass (top 30) 3), defScope (inClass (top 30) 3), [], []⟩
-- 57: Outside.events  [self]
def i_Outside_events : Fn := ⟨1, 1, .cons (.ret (.bi .tuple (.cons (.attr (.var 0) 9) (.nil)))) (.nil), 0⟩
def d_Outside_events : He.DefD := ⟨("Outside", some "events"), "events", "Outside.events", defArgs (inClass (top 30) 4), defBody (inClass (top 30) 4), defScope (inClass (top 30) 4), [], []⟩
-- 58: RawMachine.whole_state  [self]
def i_RawMachine_whole_state : Fn := ⟨1, 1, .cons (.ret (.tup (.cons (.meth 7 (.attr (.var 0) 0) (.nil)) (.cons (.bi .tuple (.cons (.attr (.var 0) 3) (.nil))) (.cons (.attr (.var 0) 4) (.cons (.attr (.var 0) 5) (.nil))))))) (.nil), 0⟩
def d_RawMachine_whole_state : He.DefD := ⟨("RawMachine", some "whole_state"), "whole_state", "RawMachine.whole_state", defArgs (inClass (top 37) 1), defBody (inClass (top 37) 1), defScope (inClass (top 37) 1), [], []⟩
-- 59: RawMachine.go_to  [self, address]
def i_RawMachine_go_to : Fn := ⟨2, 2, .cons (.fld (.var 0) 4 (.meth 0 (.attr (.var 0) 0) (.cons (.var 1) (.nil)))) (.nil), 0⟩
def d_RawMachine_go_to : He.DefD := ⟨("RawMachine", some "go_to"), "go_to", "RawMachine.go_to", defArgs (inClass (top 37) 2), defBody (inClass (top 37) 2), defScope (inClass (top 37) 2), [], []⟩
-- 60: RawMachine.move_top  [self, many]
def i_RawMachine_move_top : Fn := ⟨2, 2, .cons (.fld (.var 0) 5 (.meth 0 (.attr (.var 0) 0) (.cons (.bin .add (.attr (.var 0) 5) (.var 1)) (.nil)))) (.nil), 0⟩
def d_RawMachine_move_top : He.DefD := ⟨("RawMachine", some "move_top"), "move_top", "RawMachine.move_top", defArgs (inClass (top 37) 3), defBody (inClass (top 37) 3), defScope (inClass (top 37) 3), [], []⟩
-- 61: RawMachine.answer_ahead  [self]
def i_RawMachine_answer_ahead : Fn := ⟨1, 1, .cons (.ret (.idx (.attr (.attr (.var 0) 6) 7) (.attr (.attr (.var 0) 6) 8))) (.nil), 0⟩
def d_RawMachine_answer_ahead : He.DefD := ⟨("RawMachine", some "answer_ahead"), "answer_ahead", "RawMachine.answer_ahead", defArgs (inClass (top 37) 4), defBody (inClass (top 37) 4), defScope (inClass (top 37) 4), [], []⟩
-- 62: RawMachine.waits_at  [self, word]
def i_RawMachine_waits_at : Fn := ⟨2, 2, .cons (.ite (.cmp .isin (.var 1) (.glob 6)) (.cons (.ret (.not (.meth 8 (.attr (.var 0) 6) (.nil)))) (.nil)) (.nil)) (.cons (.ite (.cmp .isin (.var 1) (.glob 7)) (.cons (.ret (.or (.cons (.not (.meth 8 (.attr (.var 0) 6) (.nil))) (.cons (.isN false (.meth 15 (.var 0) (.nil))) (.nil))))) (.nil)) (.nil)) (.cons (.ret (.cst (.bl false))) (.nil))), 0⟩
def d_RawMachine_waits_at : He.DefD := ⟨("RawMachine", some "waits_at"), "waits_at", "RawMachine.waits_at", defArgs (inClass (top 37) 5), defBody (inClass (top 37) 5), defScope (inClass (top 37) 5), [], []⟩
-- 63: RawMachine.do  [self, instruction, deed]
def i_RawMachine_do : Fn := ⟨3, 2, .cons (.expr (.meth 13 (.var 0) (.cons (.bin .add (.attr (.var 0) 4) (.call 22 (.cons (.idx (.var 1) (.cst (.int 0))) (.nil)))) (.nil)))) (.cons (.asg (.nm 2) (.idx (.glob 8) (.idx (.var 1) (.cst (.int 0))))) (.cons (.expr (.callv 2 (.cons (.var 0) (.cons (.var 1) (.nil))))) (.nil))), 0⟩
def d_RawMachine_do : He.DefD := ⟨("RawMachine", some "do"), "do", "RawMachine.do", defArgs (inClass (top 37) 6), defBody (inClass (top 37) 6), defScope (inClass (top 37) 6), [], []⟩
-- 64: RawMachine.run_on  [self, n, done, instruction]
def i_RawMachine_run_on : Fn := ⟨4, 2, .cons (.asg (.nm 2) (.cst (.int 0))) (.cons (.whl (.cst (.bl true)) (.cons (.asg (.nm 3) (.meth 6 (.attr (.var 0) 0) (.cons (.attr (.var 0) 4) (.nil)))) (.cons (.ite (.and (.cons (.isN true (.var 3)) (.cons (.meth 16 (.var 0) (.cons (.idx (.var 3) (.cst (.int 0))) (.nil))) (.nil)))) (.cons (.ret (.tup (.cons (.cst (.str "waits")) (.nil)))) (.nil)) (.nil)) (.cons (.ite (.cmp .eq (.var 2) (.var 1)) (.cons (.ret (.tup (.cons (.cst (.str "tired")) (.nil)))) (.nil)) (.nil)) (.cons (.aug 2 .add (.cst (.int 1))) (.cons (.ite (.isN false (.var 3)) (.cons (.expr (.meth 13 (.var 0) (.cons (.bin .add (.attr (.var 0) 4) (.cst (.int 1))) (.nil)))) (.nil)) (.cons (.ite (.cmp .eq (.idx (.var 3) (.cst (.int 0))) (.cst (.str "stop"))) (.cons (.ret (.tup (.cons (.cst (.str "stopped")) (.nil)))) (.nil)) (.cons (.expr (.meth 17 (.var 0) (.cons (.var 3) (.nil)))) (.nil))) (.nil))) (.nil))))))) (.nil)), 0⟩
def d_RawMachine_run_on : He.DefD := ⟨("RawMachine", some "run_on"), "run_on", "RawMachine.run_on", defArgs (inClass (top 37) 7), defBody (inClass (top 37) 7), defScope (inClass (top 37) 7), [], []⟩
def T : Tb where
  fns := [i_law, i__law_all, i__law_jar, i__law_draw, i__law_lines, i__law_coded, i_machine_run, i_is_machine_state, i_is_tuple_of, i_are_bytes, i_is_byte, i_is_number_below, i_is_integer, i_are_numbers_below, i_are_below, i_are_machine_answers, i_is_number, i_ran, i_joined_bytes, i_high_and_low, i_is_opcode, i_word_of, i_length_of, i_raw_set, i_raw_copy, i_raw_sum, i_sum_of, i_raw_low, i_rest_of, i_raw_ask, i_raw_tell, i_raw_get, i_raw_put, i_raw_test, i_test_holds, i_raw_jump, i_raw_call, i_raw_back, i_raw_push, i_raw_pop, i_raw_out, i__law_same, i__law_bytes, i_RawMachine___init__, i_RawMemory___init__, i_RawMemory_place_of_address, i_RawMemory_byte_at, i_RawMemory_set_byte, i_RawMemory_pair_at, i_RawMemory_set_pair, i_RawMemory_operand, i_RawMemory_instruction_at, i_RawMemory_whole, i_Outside___init__, i_Outside_has_answer, i_Outside_take, i_Outside_tell, i_Outside_events, i_RawMachine_whole_state, i_RawMachine_go_to, i_RawMachine_move_top, i_RawMachine_answer_ahead, i_RawMachine_waits_at, i_RawMachine_do, i_RawMachine_run_on]
  clss := [[(12, 58), (13, 59), (14, 60), (15, 61), (16, 62), (17, 63), (18, 64)], [(0, 45), (1, 46), (2, 47), (3, 48), (4, 49), (5, 50), (6, 51), (7, 52)], [(8, 54), (9, 55), (10, 56), (11, 57)]]
  inits := [43, 44, 53]
  tabs := [[("set", .tup [.str "box", .str "byte"]), ("copy", .tup [.str "box", .str "box"]), ("add", .tup [.str "box", .str "box", .str "box"]), ("sub", .tup [.str "box", .str "box", .str "box"]), ("mul", .tup [.str "box", .str "box", .str "box"]), ("low", .tup [.str "box", .str "byte"]), ("ask", .tup [.str "box"]), ("tell", .tup [.str "box"]), ("get", .tup [.str "box", .str "address", .str "box"]), ("put", .tup [.str "address", .str "box", .str "box"]), ("less", .tup [.str "box", .str "box", .str "address"]), ("same", .tup [.str "box", .str "box", .str "address"]), ("jump", .tup [.str "address"]), ("call", .tup [.str "address"]), ("back", .tup []), ("push", .tup [.str "box"]), ("pop", .tup [.str "box"]), ("out", .tup [.str "address"]), ("stop", .tup [])], [("box", .int 1), ("byte", .int 1), ("address", .int 2)], [("set", .fn 23), ("copy", .fn 24), ("add", .fn 25), ("sub", .fn 25), ("mul", .fn 25), ("low", .fn 27), ("ask", .fn 29), ("tell", .fn 30), ("get", .fn 31), ("put", .fn 32), ("less", .fn 33), ("same", .fn 33), ("jump", .fn 35), ("call", .fn 36), ("back", .fn 37), ("push", .fn 38), ("pop", .fn 39), ("out", .fn 40)]]
  consts := [.int 65536, .int 8, .int 256, .tup [.str "set", .str "copy", .str "add", .str "sub", .str "mul", .str "low", .str "ask", .str "tell", .str "get", .str "put", .str "less", .str "same", .str "jump", .str "call", .str "back", .str "push", .str "pop", .str "out", .str "stop"], .tab 0, .tab 1, .tup [.str "get"], .tup [.str "ask", .str "out"], .tab 2]
def G : Gi := ⟨["ADDRESSES", "BOXES", "BYTES", "WORDS", "OPERANDS", "SIZES", "ANSWER_OR_NONE", "ANSWER_NEEDED", "RAW_DEEDS"], ((["law", "_law_all", "_law_jar", "_law_draw", "_law_lines", "_law_coded", "machine_run", "is_machine_state", "is_tuple_of", "are_bytes", "is_byte", "is_number_below", "is_integer", "are_numbers_below", "are_below", "are_machine_answers", "is_number", "ran", "joined_bytes", "high_and_low", "is_opcode", "word_of", "length_of", "raw_set", "raw_copy", "raw_sum", "sum_of", "raw_low", "rest_of", "raw_ask"] : List Str) ++ (["raw_tell", "raw_get", "raw_put", "raw_test", "test_holds", "raw_jump", "raw_call", "raw_back", "raw_push", "raw_pop", "raw_out", "_law_same", "_law_bytes"] : List Str)), ["RawMachine", "RawMemory", "Outside"], ["place_of_address", "byte_at", "set_byte", "pair_at", "set_pair", "operand", "instruction_at", "whole", "has_answer", "take", "tell", "events", "whole_state", "go_to", "move_top", "answer_ahead", "waits_at", "do", "run_on"], ["memory", "row", "many", "boxes", "at", "top", "outside", "answers", "taken", "told"]⟩
def LD : LawD := ⟨[d_law, d__law_all, d__law_jar, d__law_draw, d__law_lines, d__law_coded, d_machine_run, d_is_machine_state, d_is_tuple_of, d_are_bytes, d_is_byte, d_is_number_below, d_is_integer, d_are_numbers_below, d_are_below, d_are_machine_answers, d_is_number, d_ran, d_joined_bytes, d_high_and_low, d_is_opcode, d_word_of, d_length_of, d_raw_set, d_raw_copy, d_raw_sum, d_sum_of, d_raw_low, d_rest_of, d_raw_ask, d_raw_tell, d_raw_get, d_raw_put, d_raw_test, d_test_holds, d_raw_jump, d_raw_call, d_raw_back, d_raw_push, d_raw_pop, d_raw_out, d__law_same, d__law_bytes, d_RawMachine___init__, d_RawMemory___init__, d_RawMemory_place_of_address, d_RawMemory_byte_at, d_RawMemory_set_byte, d_RawMemory_pair_at, d_RawMemory_set_pair, d_RawMemory_operand, d_RawMemory_instruction_at, d_RawMemory_whole, d_Outside___init__, d_Outside_has_answer, d_Outside_take, d_Outside_tell, d_Outside_events, d_RawMachine_whole_state, d_RawMachine_go_to, d_RawMachine_move_top, d_RawMachine_answer_ahead, d_RawMachine_waits_at, d_RawMachine_do, d_RawMachine_run_on], T, G, ["OPERANDS", "SIZES", "RAW_DEEDS"]⟩
theorem c_law : FnC G i_law d_law := ⟨rfl, rfl, ["script"], ["script"], fun _ _ _ _ _ _ us hl => match us, hl with | [_], _ => rfl, by decide +kernel⟩
theorem c__law_all : FnC G i__law_all d__law_all := ⟨rfl, rfl, ["script"], ["script", "jar", "size", "base", "more", "places", "one", "code", "memory", "k", "boxes", "top", "state", "number", "steps", "n", "told", "behind", "due", "at", "form", "a", "b", "loop", "part", "start", "step", "events", "end", "byte"], fun _ _ _ _ _ _ us hl => match us, hl with | [_], _ => rfl, by decide +kernel⟩
theorem c__law_jar : FnC G i__law_jar d__law_jar := ⟨rfl, rfl, ["script"], ["script", "cell"], fun _ _ _ _ _ _ us hl => match us, hl with | [_], _ => rfl, by decide +kernel⟩
theorem c__law_draw : FnC G i__law_draw d__law_draw := ⟨rfl, rfl, ["jar", "limit"], ["jar", "limit", "cell", "mixed", "digit"], fun _ _ _ _ _ _ us hl => match us, hl with | [_, _], _ => rfl, by decide +kernel⟩
theorem c__law_lines : FnC G i__law_lines d__law_lines := ⟨rfl, rfl, ["form", "a", "b", "loop", "part"], ["form", "a", "b", "loop", "part", "word", "rows"], fun _ _ _ _ _ _ us hl => match us, hl with | [_, _, _, _, _], _ => rfl, by decide +kernel⟩
theorem c__law_coded : FnC G i__law_coded d__law_coded := ⟨rfl, rfl, ["one"], ["one", "words", "shape", "told", "k"], fun _ _ _ _ _ _ us hl => match us, hl with | [_], _ => rfl, by decide +kernel⟩
theorem c_machine_run : FnC G i_machine_run d_machine_run := ⟨rfl, rfl, ["state", "answers", "n"], ["state", "answers", "n"], fun _ _ _ _ _ _ us hl => match us, hl with | [_, _, _], _ => rfl, by decide +kernel⟩
theorem c_is_machine_state : FnC G i_is_machine_state d_is_machine_state := ⟨rfl, rfl, ["value"], ["value"], fun _ _ _ _ _ _ us hl => match us, hl with | [_], _ => rfl, by decide +kernel⟩
theorem c_is_tuple_of : FnC G i_is_tuple_of d_is_tuple_of := ⟨rfl, rfl, ["value", "many"], ["value", "many"], fun _ _ _ _ _ _ us hl => match us, hl with | [_, _], _ => rfl, by decide +kernel⟩
theorem c_are_bytes : FnC G i_are_bytes d_are_bytes := ⟨rfl, rfl, ["value"], ["value", "one"], fun _ _ _ _ _ _ us hl => match us, hl with | [_], _ => rfl, by decide +kernel⟩
theorem c_is_byte : FnC G i_is_byte d_is_byte := ⟨rfl, rfl, ["value"], ["value"], fun _ _ _ _ _ _ us hl => match us, hl with | [_], _ => rfl, by decide +kernel⟩
theorem c_is_number_below : FnC G i_is_number_below d_is_number_below := ⟨rfl, rfl, ["value", "limit"], ["value", "limit"], fun _ _ _ _ _ _ us hl => match us, hl with | [_, _], _ => rfl, by decide +kernel⟩
theorem c_is_integer : FnC G i_is_integer d_is_integer := ⟨rfl, rfl, ["value"], ["value"], fun _ _ _ _ _ _ us hl => match us, hl with | [_], _ => rfl, by decide +kernel⟩
theorem c_are_numbers_below : FnC G i_are_numbers_below d_are_numbers_below := ⟨rfl, rfl, ["value", "many", "limit"], ["value", "many", "limit"], fun _ _ _ _ _ _ us hl => match us, hl with | [_, _, _], _ => rfl, by decide +kernel⟩
theorem c_are_below : FnC G i_are_below d_are_below := ⟨rfl, rfl, ["value", "limit"], ["value", "limit", "one"], fun _ _ _ _ _ _ us hl => match us, hl with | [_, _], _ => rfl, by decide +kernel⟩
theorem c_are_machine_answers : FnC G i_are_machine_answers d_are_machine_answers := ⟨rfl, rfl, ["value"], ["value", "one"], fun _ _ _ _ _ _ us hl => match us, hl with | [_], _ => rfl, by decide +kernel⟩
theorem c_is_number : FnC G i_is_number d_is_number := ⟨rfl, rfl, ["value"], ["value"], fun _ _ _ _ _ _ us hl => match us, hl with | [_], _ => rfl, by decide +kernel⟩
theorem c_ran : FnC G i_ran d_ran := ⟨rfl, rfl, ["state", "answers", "n"], ["state", "answers", "n", "machine", "end"], fun _ _ _ _ _ _ us hl => match us, hl with | [_, _, _], _ => rfl, by decide +kernel⟩
theorem c_joined_bytes : FnC G i_joined_bytes d_joined_bytes := ⟨rfl, rfl, ["high", "low"], ["high", "low"], fun _ _ _ _ _ _ us hl => match us, hl with | [_, _], _ => rfl, by decide +kernel⟩
theorem c_high_and_low : FnC G i_high_and_low d_high_and_low := ⟨rfl, rfl, ["number"], ["number"], fun _ _ _ _ _ _ us hl => match us, hl with | [_], _ => rfl, by decide +kernel⟩
theorem c_is_opcode : FnC G i_is_opcode d_is_opcode := ⟨rfl, rfl, ["number"], ["number"], fun _ _ _ _ _ _ us hl => match us, hl with | [_], _ => rfl, by decide +kernel⟩
theorem c_word_of : FnC G i_word_of d_word_of := ⟨rfl, rfl, ["opcode"], ["opcode"], fun _ _ _ _ _ _ us hl => match us, hl with | [_], _ => rfl, by decide +kernel⟩
theorem c_length_of : FnC G i_length_of d_length_of := ⟨rfl, rfl, ["word"], ["word", "kind"], fun _ _ _ _ _ _ us hl => match us, hl with | [_], _ => rfl, by decide +kernel⟩
theorem c_raw_set : FnC G i_raw_set d_raw_set := ⟨rfl, rfl, ["machine", "instruction"], ["machine", "instruction", "_", "r", "n"], fun _ _ _ _ _ _ us hl => match us, hl with | [_, _], _ => rfl, by decide +kernel⟩
theorem c_raw_copy : FnC G i_raw_copy d_raw_copy := ⟨rfl, rfl, ["machine", "instruction"], ["machine", "instruction", "_", "r", "s"], fun _ _ _ _ _ _ us hl => match us, hl with | [_, _], _ => rfl, by decide +kernel⟩
theorem c_raw_sum : FnC G i_raw_sum d_raw_sum := ⟨rfl, rfl, ["machine", "instruction"], ["machine", "instruction", "word", "r", "s", "t"], fun _ _ _ _ _ _ us hl => match us, hl with | [_, _], _ => rfl, by decide +kernel⟩
theorem c_sum_of : FnC G i_sum_of d_sum_of := ⟨rfl, rfl, ["word", "a", "b"], ["word", "a", "b"], fun _ _ _ _ _ _ us hl => match us, hl with | [_, _, _], _ => rfl, by decide +kernel⟩
theorem c_raw_low : FnC G i_raw_low d_raw_low := ⟨rfl, rfl, ["machine", "instruction"], ["machine", "instruction", "_", "r", "n"], fun _ _ _ _ _ _ us hl => match us, hl with | [_, _], _ => rfl, by decide +kernel⟩
theorem c_rest_of : FnC G i_rest_of d_rest_of := ⟨rfl, rfl, ["a", "n"], ["a", "n"], fun _ _ _ _ _ _ us hl => match us, hl with | [_, _], _ => rfl, by decide +kernel⟩
theorem c_raw_ask : FnC G i_raw_ask d_raw_ask := ⟨rfl, rfl, ["machine", "instruction"], ["machine", "instruction", "answer"], fun _ _ _ _ _ _ us hl => match us, hl with | [_, _], _ => rfl, by decide +kernel⟩
theorem c_raw_tell : FnC G i_raw_tell d_raw_tell := ⟨rfl, rfl, ["machine", "instruction"], ["machine", "instruction"], fun _ _ _ _ _ _ us hl => match us, hl with | [_, _], _ => rfl, by decide +kernel⟩
theorem c_raw_get : FnC G i_raw_get d_raw_get := ⟨rfl, rfl, ["machine", "instruction"], ["machine", "instruction", "place", "answer", "_", "r", "address", "s"], fun _ _ _ _ _ _ us hl => match us, hl with | [_, _], _ => rfl, by decide +kernel⟩
theorem c_raw_put : FnC G i_raw_put d_raw_put := ⟨rfl, rfl, ["machine", "instruction"], ["machine", "instruction", "place", "_", "address", "s", "t"], fun _ _ _ _ _ _ us hl => match us, hl with | [_, _], _ => rfl, by decide +kernel⟩
theorem c_raw_test : FnC G i_raw_test d_raw_test := ⟨rfl, rfl, ["machine", "instruction"], ["machine", "instruction", "word", "s", "t", "address"], fun _ _ _ _ _ _ us hl => match us, hl with | [_, _], _ => rfl, by decide +kernel⟩
theorem c_test_holds : FnC G i_test_holds d_test_holds := ⟨rfl, rfl, ["word", "a", "b"], ["word", "a", "b"], fun _ _ _ _ _ _ us hl => match us, hl with | [_, _, _], _ => rfl, by decide +kernel⟩
theorem c_raw_jump : FnC G i_raw_jump d_raw_jump := ⟨rfl, rfl, ["machine", "instruction"], ["machine", "instruction"], fun _ _ _ _ _ _ us hl => match us, hl with | [_, _], _ => rfl, by decide +kernel⟩
theorem c_raw_call : FnC G i_raw_call d_raw_call := ⟨rfl, rfl, ["machine", "instruction"], ["machine", "instruction"], fun _ _ _ _ _ _ us hl => match us, hl with | [_, _], _ => rfl, by decide +kernel⟩
theorem c_raw_back : FnC G i_raw_back d_raw_back := ⟨rfl, rfl, ["machine", "instruction"], ["machine", "instruction"], fun _ _ _ _ _ _ us hl => match us, hl with | [_, _], _ => rfl, by decide +kernel⟩
theorem c_raw_push : FnC G i_raw_push d_raw_push := ⟨rfl, rfl, ["machine", "instruction"], ["machine", "instruction"], fun _ _ _ _ _ _ us hl => match us, hl with | [_, _], _ => rfl, by decide +kernel⟩
theorem c_raw_pop : FnC G i_raw_pop d_raw_pop := ⟨rfl, rfl, ["machine", "instruction"], ["machine", "instruction"], fun _ _ _ _ _ _ us hl => match us, hl with | [_, _], _ => rfl, by decide +kernel⟩
theorem c_raw_out : FnC G i_raw_out d_raw_out := ⟨rfl, rfl, ["machine", "instruction"], ["machine", "instruction", "boxes", "answer"], fun _ _ _ _ _ _ us hl => match us, hl with | [_, _], _ => rfl, by decide +kernel⟩
theorem c__law_same : FnC G i__law_same d__law_same := ⟨rfl, rfl, ["came", "due"], ["came", "due", "good", "k"], fun _ _ _ _ _ _ us hl => match us, hl with | [_, _], _ => rfl, by decide +kernel⟩
theorem c__law_bytes : FnC G i__law_bytes d__law_bytes := ⟨rfl, rfl, ["came", "due"], ["came", "due", "one"], fun _ _ _ _ _ _ us hl => match us, hl with | [_, _], _ => rfl, by decide +kernel⟩
theorem c_RawMachine___init__ : FnC G i_RawMachine___init__ d_RawMachine___init__ := ⟨rfl, rfl, ["self", "state", "answers"], ["self", "state", "answers", "memory", "boxes", "at", "top"], fun _ _ _ _ _ _ us hl => match us, hl with | [_, _, _], _ => rfl, by decide +kernel⟩
theorem c_RawMemory___init__ : FnC G i_RawMemory___init__ d_RawMemory___init__ := ⟨rfl, rfl, ["self", "row"], ["self", "row"], fun _ _ _ _ _ _ us hl => match us, hl with | [_, _], _ => rfl, by decide +kernel⟩
theorem c_RawMemory_place_of_address : FnC G i_RawMemory_place_of_address d_RawMemory_place_of_address := ⟨rfl, rfl, ["self", "address"], ["self", "address"], fun _ _ _ _ _ _ us hl => match us, hl with | [_, _], _ => rfl, by decide +kernel⟩
theorem c_RawMemory_byte_at : FnC G i_RawMemory_byte_at d_RawMemory_byte_at := ⟨rfl, rfl, ["self", "address"], ["self", "address"], fun _ _ _ _ _ _ us hl => match us, hl with | [_, _], _ => rfl, by decide +kernel⟩
theorem c_RawMemory_set_byte : FnC G i_RawMemory_set_byte d_RawMemory_set_byte := ⟨rfl, rfl, ["self", "address", "byte"], ["self", "address", "byte"], fun _ _ _ _ _ _ us hl => match us, hl with | [_, _, _], _ => rfl, by decide +kernel⟩
theorem c_RawMemory_pair_at : FnC G i_RawMemory_pair_at d_RawMemory_pair_at := ⟨rfl, rfl, ["self", "address"], ["self", "address"], fun _ _ _ _ _ _ us hl => match us, hl with | [_, _], _ => rfl, by decide +kernel⟩
theorem c_RawMemory_set_pair : FnC G i_RawMemory_set_pair d_RawMemory_set_pair := ⟨rfl, rfl, ["self", "address", "number"], ["self", "address", "number", "high", "low"], fun _ _ _ _ _ _ us hl => match us, hl with | [_, _, _], _ => rfl, by decide +kernel⟩
theorem c_RawMemory_operand : FnC G i_RawMemory_operand d_RawMemory_operand := ⟨rfl, rfl, ["self", "kind", "address"], ["self", "kind", "address"], fun _ _ _ _ _ _ us hl => match us, hl with | [_, _, _], _ => rfl, by decide +kernel⟩
theorem c_RawMemory_instruction_at : FnC G i_RawMemory_instruction_at d_RawMemory_instruction_at := ⟨rfl, rfl, ["self", "address"], ["self", "address", "opcode", "members", "place", "kind"], fun _ _ _ _ _ _ us hl => match us, hl with | [_, _], _ => rfl, by decide +kernel⟩
theorem c_RawMemory_whole : FnC G i_RawMemory_whole d_RawMemory_whole := ⟨rfl, rfl, ["self"], ["self"], fun _ _ _ _ _ _ us hl => match us, hl with | [_], _ => rfl, by decide +kernel⟩
theorem c_Outside___init__ : FnC G i_Outside___init__ d_Outside___init__ := ⟨rfl, rfl, ["self", "answers"], ["self", "answers"], fun _ _ _ _ _ _ us hl => match us, hl with | [_, _], _ => rfl, by decide +kernel⟩
theorem c_Outside_has_answer : FnC G i_Outside_has_answer d_Outside_has_answer := ⟨rfl, rfl, ["self"], ["self"], fun _ _ _ _ _ _ us hl => match us, hl with | [_], _ => rfl, by decide +kernel⟩
theorem c_Outside_take : FnC G i_Outside_take d_Outside_take := ⟨rfl, rfl, ["self"], ["self", "answer"], fun _ _ _ _ _ _ us hl => match us, hl with | [_], _ => rfl, by decide +kernel⟩
theorem c_Outside_tell : FnC G i_Outside_tell d_Outside_tell := ⟨rfl, rfl, ["self", "event"], ["self", "event"], fun _ _ _ _ _ _ us hl => match us, hl with | [_, _], _ => rfl, by decide +kernel⟩
theorem c_Outside_events : FnC G i_Outside_events d_Outside_events := ⟨rfl, rfl, ["self"], ["self"], fun _ _ _ _ _ _ us hl => match us, hl with | [_], _ => rfl, by decide +kernel⟩
theorem c_RawMachine_whole_state : FnC G i_RawMachine_whole_state d_RawMachine_whole_state := ⟨rfl, rfl, ["self"], ["self"], fun _ _ _ _ _ _ us hl => match us, hl with | [_], _ => rfl, by decide +kernel⟩
theorem c_RawMachine_go_to : FnC G i_RawMachine_go_to d_RawMachine_go_to := ⟨rfl, rfl, ["self", "address"], ["self", "address"], fun _ _ _ _ _ _ us hl => match us, hl with | [_, _], _ => rfl, by decide +kernel⟩
theorem c_RawMachine_move_top : FnC G i_RawMachine_move_top d_RawMachine_move_top := ⟨rfl, rfl, ["self", "many"], ["self", "many"], fun _ _ _ _ _ _ us hl => match us, hl with | [_, _], _ => rfl, by decide +kernel⟩
theorem c_RawMachine_answer_ahead : FnC G i_RawMachine_answer_ahead d_RawMachine_answer_ahead := ⟨rfl, rfl, ["self"], ["self"], fun _ _ _ _ _ _ us hl => match us, hl with | [_], _ => rfl, by decide +kernel⟩
theorem c_RawMachine_waits_at : FnC G i_RawMachine_waits_at d_RawMachine_waits_at := ⟨rfl, rfl, ["self", "word"], ["self", "word"], fun _ _ _ _ _ _ us hl => match us, hl with | [_, _], _ => rfl, by decide +kernel⟩
theorem c_RawMachine_do : FnC G i_RawMachine_do d_RawMachine_do := ⟨rfl, rfl, ["self", "instruction"], ["self", "instruction", "deed"], fun _ _ _ _ _ _ us hl => match us, hl with | [_, _], _ => rfl, by decide +kernel⟩
theorem c_RawMachine_run_on : FnC G i_RawMachine_run_on d_RawMachine_run_on := ⟨rfl, rfl, ["self", "n"], ["self", "n", "done", "instruction"], fun _ _ _ _ _ _ us hl => match us, hl with | [_, _], _ => rfl, by decide +kernel⟩
theorem allc : AllC LD.G LD.T.fns LD.fn := ⟨c_law, c__law_all, c__law_jar, c__law_draw, c__law_lines, c__law_coded, c_machine_run, c_is_machine_state, c_is_tuple_of, c_are_bytes, c_is_byte, c_is_number_below, c_is_integer, c_are_numbers_below, c_are_below, c_are_machine_answers, c_is_number, c_ran, c_joined_bytes, c_high_and_low, c_is_opcode, c_word_of, c_length_of, c_raw_set, c_raw_copy, c_raw_sum, c_sum_of, c_raw_low, c_rest_of, c_raw_ask, c_raw_tell, c_raw_get, c_raw_put, c_raw_test, c_test_holds, c_raw_jump, c_raw_call, c_raw_back, c_raw_push, c_raw_pop, c_raw_out, c__law_same, c__law_bytes, c_RawMachine___init__, c_RawMemory___init__, c_RawMemory_place_of_address, c_RawMemory_byte_at, c_RawMemory_set_byte, c_RawMemory_pair_at, c_RawMemory_set_pair, c_RawMemory_operand, c_RawMemory_instruction_at, c_RawMemory_whole, c_Outside___init__, c_Outside_has_answer, c_Outside_take, c_Outside_tell, c_Outside_events, c_RawMachine_whole_state, c_RawMachine_go_to, c_RawMachine_move_top, c_RawMachine_answer_ahead, c_RawMachine_waits_at, c_RawMachine_do, c_RawMachine_run_on, trivial⟩
theorem good : LD.good = true := by decide +kernel
end K69
set_option Elab.async false
set_option linter.all false
set_option maxRecDepth 100000
set_option maxHeartbeats 4000000
namespace K69
open CN
variable {wf k : Nat}
/-- a call's end -/
def fin (flag : Nat) (s : Hs) : Res Flow → Res D
  | .ok (.next _) s1 => back flag s .non s1
  | .ok (.ret d) s1 => back flag s d s1
  | .ok (.exc _ c fs) s1 => .err c fs s1
  | _ => .stuck
theorem rf {k g : Nat} {f : Fn} {ds : List D} {s : Hs} (hf : T.fns[g]? = some f) (hl : ds.length = f.params) (h4 : ¬ 4 ≤ f.flag := by decide) : runFn T wf (k + 1) g ds s = fin f.flag s (evalSs T wf (runFn T wf k) f.body (startE f.slots ds) s) := by
  unfold runFn
  rw [hf]
  dsimp only
  rw [if_pos hl, if_neg h4]
  cases evalSs T wf (runFn T wf k) f.body (startE f.slots ds) s with
  | stuck => rfl
  | err => rfl
  | ok fl s1 => cases fl <;> rfl
@[simp] theorem eqD_int (s : Hs) (i j : Int) : eqD s (.int i) (.int j) = some (decide (i = j)) := by
  show (if (PySem.SeqAt.shaped (.int i) && PySem.SeqAt.shaped (.int j)) = true then some (PySem.PyData.eqv (.int i) (.int j)) else none) = _
  have h1 : PySem.SeqAt.shaped (.int i) = true := rfl
  have h2 : PySem.SeqAt.shaped (.int j) = true := rfl
  rw [h1, h2]
  by_cases h : i = j
  · subst h; simp [PySem.PyData.eqv]
  · simp [PySem.PyData.eqv, h]
theorem eqD_str (s : Hs) (i j : PySem.Str) (hi : PySem.PyData.strOk i = true) (hj : PySem.PyData.strOk j = true) : eqD s (.str i) (.str j) = some (decide (i = j)) := by
  show (if (PySem.SeqAt.shaped (.str i) && PySem.SeqAt.shaped (.str j)) = true then some (PySem.PyData.eqv (.str i) (.str j)) else none) = _
  have h1 : PySem.SeqAt.shaped (.str i) = true := by simp [PySem.SeqAt.shaped, PySem.PyData.canLay0, PySem.PyData.depth, hi]
  have h2 : PySem.SeqAt.shaped (.str j) = true := by simp [PySem.SeqAt.shaped, PySem.PyData.canLay0, PySem.PyData.depth, hj]
  rw [h1, h2]
  by_cases h : i = j
  · subst h; simp [PySem.PyData.eqv]
  · simp [PySem.PyData.eqv, h]
@[simp] theorem eqD_bl (s : Hs) (i j : Bool) : eqD s (.bl i) (.bl j) = some (decide (i = j)) := by
  cases i <;> cases j <;> rfl
theorem rf4 {k g : Nat} {f : Fn} {ds : List D} {s : Hs} (hf : T.fns[g]? = some f) (hl : ds.length = f.params) (hn : noRefs ds = true) (h4 : 4 ≤ f.flag := by decide) : runFn T wf (k + 1) g ds s = backF f.flag s (evalSs T wf (runFn T wf k) f.body (startE f.slots ds) []) := by
  unfold runFn
  rw [hf]
  dsimp only
  rw [if_pos hl, if_pos h4, if_pos hn]
theorem r12 (i : Int) (s : Hs) : runFn T wf (k + 1) 12 [.int i] s = .ok (.bl true) s := by
  rw [rf (f := i_is_integer) rfl rfl]
  rfl
theorem r11 (i j : Int) (s : Hs) : runFn T wf (k + 2) 11 [.int i, .int j] s = .ok (.bl (decide (0 ≤ i) && decide (i < j))) s := by
  rw [rf (f := i_is_number_below) rfl rfl]
  by_cases h : 0 ≤ i
  · simp [i_is_number_below, r12, h, evalE, evalT, evalEs, evalO, evalC, evalI, evalSs, evalS, evP, evPs, evO, evC, evI, pE, consL, pick, and2, or2, andT2, orT2, callM, callvM, makeM, madeBy, methM, biM, bmM, attrM, idxM, slM, soM, tupM, lstM, boxed, binM, cmpM, isNM, chainM, CN.notM, notT, negM, iteM, varM, asgM, subM, fldM, parM, augM, augfM, CN.forM, thruM, truly, assignTg, setAll, startE, fin, back, truth, binop, cmpop, idxop, slop, inD, bifun, bmeth, bmTy, seqAt, lstAt, tyName, isi, isNd, lenOk, putN, augop]
  · simp [i_is_number_below, r12, h, evalE, evalT, evalEs, evalO, evalC, evalI, evalSs, evalS, evP, evPs, evO, evC, evI, pE, consL, pick, and2, or2, andT2, orT2, callM, callvM, makeM, madeBy, methM, biM, bmM, attrM, idxM, slM, soM, tupM, lstM, boxed, binM, cmpM, isNM, chainM, CN.notM, notT, negM, iteM, varM, asgM, subM, fldM, parM, augM, augfM, CN.forM, thruM, truly, assignTg, setAll, startE, fin, back, truth, binop, cmpop, idxop, slop, inD, bifun, bmeth, bmTy, seqAt, lstAt, tyName, isi, isNd, lenOk, putN, augop]
theorem r10 (i : Int) (s : Hs) : runFn T wf (k + 3) 10 [.int i] s = .ok (.bl (decide (0 ≤ i) && decide (i < 256))) s := by
  rw [rf (f := i_is_byte) rfl rfl]
  simp [i_is_byte, r11, evalE, evalT, evalEs, evalO, evalC, evalI, evalSs, evalS, evP, evPs, evO, evC, evI, pE, consL, pick, and2, or2, andT2, orT2, callM, callvM, makeM, madeBy, methM, biM, bmM, attrM, idxM, slM, soM, tupM, lstM, boxed, binM, cmpM, isNM, chainM, CN.notM, notT, negM, iteM, varM, asgM, subM, fldM, parM, augM, augfM, CN.forM, thruM, truly, assignTg, setAll, startE, fin, back, truth, binop, cmpop, idxop, slop, inD, bifun, bmeth, bmTy, seqAt, lstAt, tyName, isi, isNd, lenOk, putN, augop]
theorem r16 (i : Int) (s : Hs) : runFn T wf (k + 2) 16 [.int i] s = .ok (.bl (decide (0 ≤ i))) s := by
  rw [rf (f := i_is_number) rfl rfl]
  simp [i_is_number, r12, evalE, evalT, evalEs, evalO, evalC, evalI, evalSs, evalS, evP, evPs, evO, evC, evI, pE, consL, pick, and2, or2, andT2, orT2, callM, callvM, makeM, madeBy, methM, biM, bmM, attrM, idxM, slM, soM, tupM, lstM, boxed, binM, cmpM, isNM, chainM, CN.notM, notT, negM, iteM, varM, asgM, subM, fldM, parM, augM, augfM, CN.forM, thruM, truly, assignTg, setAll, startE, fin, back, truth, binop, cmpop, idxop, slop, inD, bifun, bmeth, bmTy, seqAt, lstAt, tyName, isi, isNd, lenOk, putN, augop]
theorem r8 (ds : List D) (m : Int) (s : Hs) : runFn T wf (k + 1) 8 [.tup ds, .int m] s = .ok (.bl (decide ((ds.length : Int) = m))) s := by
  rw [rf (f := i_is_tuple_of) rfl rfl]
  simp [i_is_tuple_of, evalE, evalT, evalEs, evalO, evalC, evalI, evalSs, evalS, evP, evPs, evO, evC, evI, pE, consL, pick, and2, or2, andT2, orT2, callM, callvM, makeM, madeBy, methM, biM, bmM, attrM, idxM, slM, soM, tupM, lstM, boxed, binM, cmpM, isNM, chainM, CN.notM, notT, negM, iteM, varM, asgM, subM, fldM, parM, augM, augfM, CN.forM, thruM, truly, assignTg, setAll, startE, fin, back, truth, binop, cmpop, idxop, slop, inD, bifun, bmeth, bmTy, seqAt, lstAt, tyName, isi, isNd, lenOk, putN, augop]
/-- a comprehension over plain items -/
theorem comp_map {step : D → Hs → Res (Option D)} {f : D → D} {s : Hs} : ∀ (ds acc : List D), (∀ d ∈ ds, step d s = .ok (some (f d)) s) → acc.length + ds.length ≤ PySem.sizeLine → loopComp step none ds acc s = .ok (acc ++ ds.map f) s
  | [], acc, _, _ => by simp [loopComp]
  | d :: ds, acc, h, hl => by
    rw [List.length_cons] at hl
    unfold loopComp
    rw [h d List.mem_cons_self]
    have h2 : acc.length < PySem.sizeLine := by omega
    simp only [stays, if_true, if_pos h2]
    rw [comp_map ds (acc ++ [f d]) (fun x hx => h x (List.mem_cons_of_mem _ hx)) (by simp; omega)]
    simp
/-- a comprehension whose walk makes nothing -/
theorem compM_map {own : List Nat} {tg : Tg} {mi : CN.Env → Hs → Res (List D × Option (Nat × List D))} {mc : MT} {me : ME} {env : CN.Env} {s s1 : Hs} {ds : List D} {w : Option (Nat × List D)} (f : D → D) (hi : mi env s = .ok (ds, w) s1) (hw : stays w s1 = true) (h : ∀ d ∈ ds, stepC own tg mc me env d s1 = .ok (some (f d)) s1) (hl : ds.length ≤ PySem.sizeLine) :
    compM own tg mi mc me env s = .ok (.tl (ds.map f)) s1 := by
  unfold compM
  rw [hi]
  rw [Res.bind_ok]
  have z : ∀ (xs acc : List D), (∀ d ∈ xs, d ∈ ds) → acc.length + xs.length ≤ PySem.sizeLine → loopComp (stepC own tg mc me env) w xs acc s1 = .ok (acc ++ xs.map f) s1 := by
    intro xs
    induction xs with
    | nil => intro acc _ _; simp [loopComp]
    | cons x xs ih =>
      intro acc hx hl
      rw [List.length_cons] at hl
      unfold loopComp
      rw [h x (hx x List.mem_cons_self)]
      have h2 : acc.length < PySem.sizeLine := by omega
      simp only [hw, if_true, if_pos h2]
      rw [ih (acc ++ [f x]) (fun y hy => hx y (List.mem_cons_of_mem _ hy)) (by simp; omega)]
      simp
  rw [z ds [] (fun _ q => q) (by simpa using hl)]
  rfl
theorem bools_true (n : Nat) : bools? (List.replicate n (D.bl true)) = some (List.replicate n true) := by
  induction n with
  | zero => rfl
  | succ n ih => simp [List.replicate_succ, bools?, ih]
theorem small5 {n : Nat} (h : n ≤ 5000) : n ≤ PySem.sizeLine := Nat.le_trans h (by decide)
theorem r9 (xs : List Int) (s : Hs) (hx : ∀ x ∈ xs, 0 ≤ x ∧ x < 256) (hl : xs.length ≤ 5000) : runFn T wf (k + 4) 9 [.tup (xs.map .int)] s = .ok (.bl true) s := by
  rw [rf (f := i_are_bytes) rfl rfl]
  have h := compM_map (own := [1]) (tg := .nm 1) (mi := evI T (runFn T wf (k + 3)) (.seq (.var 0))) (mc := evC T (runFn T wf (k + 3)) .no) (me := (evP T (runFn T wf (k + 3)) (.call 10 (.cons (.var 1) .nil))).e) (env := [some (.tup (xs.map .int)), none]) (s := s) (s1 := s) (ds := xs.map .int) (w := none) (fun _ => .bl true) rfl rfl (by
    intro d hd
    obtain ⟨x, hx', rfl⟩ := List.mem_map.mp hd
    obtain ⟨h1, h2⟩ := hx x hx'
    simp [stepC, wipeE, r10, h1, h2, evalE, evalT, evalEs, evalO, evalC, evalI, evalSs, evalS, evP, evPs, evO, evC, evI, pE, consL, pick, and2, or2, andT2, orT2, callM, callvM, makeM, madeBy, methM, biM, bmM, attrM, idxM, slM, soM, tupM, lstM, boxed, binM, cmpM, isNM, chainM, CN.notM, notT, negM, iteM, varM, asgM, subM, fldM, parM, augM, augfM, CN.forM, thruM, truly, assignTg, setAll, startE, fin, back, truth, binop, cmpop, idxop, slop, inD, bifun, bmeth, bmTy, seqAt, lstAt, tyName, isi, isNd, lenOk, putN, augop]) (by rw [List.length_map]; exact small5 hl)
  have e : (xs.map D.int).map (fun _ => D.bl true) = List.replicate xs.length (D.bl true) := by
    rw [List.map_map]
    exact List.map_const' ..
  rw [e] at h
  simp only [evalE, evalT, evalEs, evalO, evalC, evalI, evalSs, evalS, evP, evPs, evO, evC, evI, pE, consL, pick, and2, or2, andT2, orT2, callM, callvM, makeM, madeBy, methM, biM, bmM, attrM, idxM, slM, soM, tupM, lstM, boxed, binM, cmpM, isNM, chainM, CN.notM, notT, negM, iteM, varM, asgM, subM, fldM, parM, augM, augfM, CN.forM, thruM, truly, assignTg, setAll, startE, fin, back, truth, binop, cmpop, idxop, slop, inD, bifun, bmeth, bmTy, seqAt, lstAt, tyName, isi, isNd, lenOk, putN, augop, Res.bind_ok] at h
  simp [i_are_bytes, h, bools_true, evalE, evalT, evalEs, evalO, evalC, evalI, evalSs, evalS, evP, evPs, evO, evC, evI, pE, consL, pick, and2, or2, andT2, orT2, callM, callvM, makeM, madeBy, methM, biM, bmM, attrM, idxM, slM, soM, tupM, lstM, boxed, binM, cmpM, isNM, chainM, CN.notM, notT, negM, iteM, varM, asgM, subM, fldM, parM, augM, augfM, CN.forM, thruM, truly, assignTg, setAll, startE, fin, back, truth, binop, cmpop, idxop, slop, inD, bifun, bmeth, bmTy, seqAt, lstAt, tyName, isi, isNd, lenOk, putN, augop]
end K69
set_option Elab.async false
set_option linter.all false
set_option maxRecDepth 100000
set_option maxHeartbeats 4000000
/-! P1: the machine's functions on its heap. -/
namespace K69
open CN
variable {wf k : Nat}
/-- the machine's heap -/
def mh (mem boxes : List Int) (at_ top : Int) (told : List D) (l : Hs) : Hs :=
  .ins 0 [(0, .ref 1), (3, .ref 3), (4, .int at_), (5, .int top), (6, .ref 4)] :: .ins 1 [(1, .ref 2), (2, .int mem.length)] :: .lst (mem.map .int) :: .lst (boxes.map .int) :: .ins 2 [(7, .tup []), (8, .int 0), (9, .ref 5)] :: .lst told :: l
/-- a place on the ring -/
def wrap (mem : List Int) (a : Int) : Int := a % (mem.length : Int)
def cell (mem : List Int) (a : Int) : Int := mem.getD (wrap mem a).toNat 0
theorem wrap_nn {mem : List Int} {a : Int} (hm : 0 < mem.length) : 0 ≤ wrap mem a := Int.emod_nonneg _ (by omega)
theorem wrap_lt {mem : List Int} {a : Int} (hm : 0 < mem.length) : wrap mem a < mem.length := Int.emod_lt_of_pos _ (by omega)
theorem fmod_wrap (mem : List Int) (a : Int) : a.fmod (mem.length : Int) = wrap mem a := Int.fmod_eq_emod_of_nonneg a (by omega)
theorem ixN_nat {n j : Nat} (hj : j < n) : L2.ixN n (j : Int) = some j := by
  unfold L2.ixN
  have h1 : (0 : Int) ≤ (j : Int) := by omega
  have h2 : (j : Int) < (n : Int) := by omega
  rw [if_pos h1, if_pos h2]
  simp
theorem atI_nat {α : Type} (xs : List α) (j : Nat) (h : j < xs.length) : L2.atI xs (j : Int) = xs[j]? := by
  unfold L2.atI
  rw [ixN_nat h]
  rfl
theorem atI_cell {mem : List Int} {a : Int} (hm : 0 < mem.length) : L2.atI (mem.map D.int) (wrap mem a) = some (.int (cell mem a)) := by
  have h1 := wrap_nn (a := a) hm
  have h2 := wrap_lt (a := a) hm
  obtain ⟨j, hj⟩ : ∃ j : Nat, wrap mem a = (j : Int) := ⟨(wrap mem a).toNat, by omega⟩
  unfold cell
  rw [hj] at h2 ⊢
  have hl : j < mem.length := by omega
  rw [atI_nat _ _ (by simpa using hl), List.getElem?_map, List.getElem?_eq_getElem hl]
  simp [List.getD, hl]
theorem r45 {mem boxes : List Int} {at_ top a : Int} {told : List D} {l : Hs} (hm : 0 < mem.length) : runFn T wf (k + 1) 45 [.ref 1, .int a] (mh mem boxes at_ top told l) = .ok (.int (wrap mem a)) (mh mem boxes at_ top told l) := by
  rw [rf (f := i_RawMemory_place_of_address) rfl rfl]
  have h0 : ¬ (mem.length : Int) = 0 := by omega
  have h0' : ¬ mem = [] := by rintro rfl; simp at hm
  simp [i_RawMemory_place_of_address, mh, h0, h0', fmod_wrap, List.lookup, evalE, evalT, evalEs, evalO, evalC, evalI, evalSs, evalS, evP, evPs, evO, evC, evI, pE, consL, pick, and2, or2, andT2, orT2, callM, callvM, makeM, madeBy, methM, biM, bmM, attrM, idxM, slM, soM, tupM, lstM, boxed, binM, cmpM, isNM, chainM, CN.notM, notT, negM, iteM, varM, asgM, subM, fldM, parM, augM, augfM, CN.forM, thruM, truly, assignTg, setAll, startE, fin, back, truth, binop, cmpop, idxop, slop, inD, bifun, bmeth, bmTy, seqAt, lstAt, tyName, isi, isNd, lenOk, putN, augop]
theorem r46 {mem boxes : List Int} {at_ top a : Int} {told : List D} {l : Hs} (hm : 0 < mem.length) : runFn T wf (k + 2) 46 [.ref 1, .int a] (mh mem boxes at_ top told l) = .ok (.int (cell mem a)) (mh mem boxes at_ top told l) := by
  rw [rf (f := i_RawMemory_byte_at) rfl rfl]
  have h := r45 (wf := wf) (k := k) (boxes := boxes) (at_ := at_) (top := top) (a := a) (told := told) (l := l) hm
  have e : T.clss[1]? = some [(0, 45), (1, 46), (2, 47), (3, 48), (4, 49), (5, 50), (6, 51), (7, 52)] := rfl
  unfold mh at h ⊢
  simp [i_RawMemory_byte_at, h, e, atI_cell hm, List.lookup, evalE, evalT, evalEs, evalO, evalC, evalI, evalSs, evalS, evP, evPs, evO, evC, evI, pE, consL, pick, and2, or2, andT2, orT2, callM, callvM, makeM, madeBy, methM, biM, bmM, attrM, idxM, slM, soM, tupM, lstM, boxed, binM, cmpM, isNM, chainM, CN.notM, notT, negM, iteM, varM, asgM, subM, fldM, parM, augM, augfM, CN.forM, thruM, truly, assignTg, setAll, startE, fin, back, truth, binop, cmpop, idxop, slop, inD, bifun, bmeth, bmTy, seqAt, lstAt, tyName, isi, isNd, lenOk, putN, augop]
theorem T1 : T.clss[1]? = some [(0, 45), (1, 46), (2, 47), (3, 48), (4, 49), (5, 50), (6, 51), (7, 52)] := rfl
theorem T2 : T.clss[2]? = some [(8, 54), (9, 55), (10, 56), (11, 57)] := rfl
theorem T0 : T.clss[0]? = some [(12, 58), (13, 59), (14, 60), (15, 61), (16, 62), (17, 63), (18, 64)] := rfl
theorem ixN_wrap {mem : List Int} {a : Int} (hm : 0 < mem.length) : L2.ixN mem.length (wrap mem a) = some (wrap mem a).toNat := by
  have h1 := wrap_nn (a := a) hm
  have h2 := wrap_lt (a := a) hm
  obtain ⟨j, hj⟩ : ∃ j : Nat, wrap mem a = (j : Int) := ⟨(wrap mem a).toNat, by omega⟩
  rw [hj] at h2 ⊢
  exact ixN_nat (by omega)
def put (mem : List Int) (a b : Int) : List Int := mem.set (wrap mem a).toNat b
@[simp] theorem put_len (mem : List Int) (a b : Int) : (put mem a b).length = mem.length := by simp [put]
@[simp] theorem wrap_put (mem : List Int) (a b c : Int) : wrap (put mem a b) c = wrap mem c := by simp [wrap]
theorem map_set (mem : List Int) (j : Nat) (b : Int) : (mem.map D.int).set j (.int b) = (mem.set j b).map D.int := by rw [List.map_set]
theorem r47 {mem boxes : List Int} {at_ top a b : Int} {told : List D} {l : Hs} (hm : 0 < mem.length) : runFn T wf (k + 2) 47 [.ref 1, .int a, .int b] (mh mem boxes at_ top told l) = .ok .non (mh (put mem a b) boxes at_ top told l) := by
  rw [rf (f := i_RawMemory_set_byte) rfl rfl]
  have h := r45 (wf := wf) (k := k) (boxes := boxes) (at_ := at_) (top := top) (a := a) (told := told) (l := l) hm
  unfold mh at h ⊢
  simp [i_RawMemory_set_byte, h, T1, ixN_wrap hm, List.lookup, put, evalE, evalT, evalEs, evalO, evalC, evalI, evalSs, evalS, evP, evPs, evO, evC, evI, pE, consL, pick, and2, or2, andT2, orT2, callM, callvM, makeM, madeBy, methM, biM, bmM, attrM, idxM, slM, soM, tupM, lstM, boxed, binM, cmpM, isNM, chainM, CN.notM, notT, negM, iteM, varM, asgM, subM, fldM, parM, augM, augfM, CN.forM, thruM, truly, assignTg, setAll, startE, fin, back, truth, binop, cmpop, idxop, slop, inD, bifun, bmeth, bmTy, seqAt, lstAt, tyName, isi, isNd, lenOk, putN, augop]
theorem r18 (x y : Int) (s : Hs) (hx : 0 ≤ x ∧ x < 256) : runFn T wf (k + 1) 18 [.int x, .int y] s = .ok (.int (x * 256 + y)) s := by
  rw [rf (f := i_joined_bytes) rfl rfl]
  have e : T.consts[2]? = some (.int 256) := rfl
  simp [i_joined_bytes, e, inRng, evalE, evalT, evalEs, evalO, evalC, evalI, evalSs, evalS, evP, evPs, evO, evC, evI, pE, consL, pick, and2, or2, andT2, orT2, callM, callvM, makeM, madeBy, methM, biM, bmM, attrM, idxM, slM, soM, tupM, lstM, boxed, binM, cmpM, isNM, chainM, CN.notM, notT, negM, iteM, varM, asgM, subM, fldM, parM, augM, augfM, CN.forM, thruM, truly, assignTg, setAll, startE, fin, back, truth, binop, cmpop, idxop, slop, inD, bifun, bmeth, bmTy, seqAt, lstAt, tyName, isi, isNd, lenOk, putN, augop]
theorem r48 {mem boxes : List Int} {at_ top a : Int} {told : List D} {l : Hs} (hm : 0 < mem.length) (hb : ∀ x ∈ mem, 0 ≤ x ∧ x < 256) : runFn T wf (k + 3) 48 [.ref 1, .int a] (mh mem boxes at_ top told l) = .ok (.int (cell mem a * 256 + cell mem (a + 1))) (mh mem boxes at_ top told l) := by
  rw [rf (f := i_RawMemory_pair_at) rfl rfl]
  have h := r46 (wf := wf) (k := k) (boxes := boxes) (at_ := at_) (top := top) (a := a) (told := told) (l := l) hm
  have h2 := r46 (wf := wf) (k := k) (boxes := boxes) (at_ := at_) (top := top) (a := a + 1) (told := told) (l := l) hm
  have hc : 0 ≤ cell mem a ∧ cell mem a < 256 := by
    have h1 := wrap_nn (a := a) hm
    have h2 := wrap_lt (a := a) hm
    have hl : (wrap mem a).toNat < mem.length := by omega
    unfold cell
    rw [List.getD_eq_getElem?_getD, List.getElem?_eq_getElem hl]
    exact hb _ (List.getElem_mem hl)
  unfold mh at h h2 ⊢
  simp [i_RawMemory_pair_at, h, h2, T1, r18 _ _ _ hc, List.lookup, evalE, evalT, evalEs, evalO, evalC, evalI, evalSs, evalS, evP, evPs, evO, evC, evI, pE, consL, pick, and2, or2, andT2, orT2, callM, callvM, makeM, madeBy, methM, biM, bmM, attrM, idxM, slM, soM, tupM, lstM, boxed, binM, cmpM, isNM, chainM, CN.notM, notT, negM, iteM, varM, asgM, subM, fldM, parM, augM, augfM, CN.forM, thruM, truly, assignTg, setAll, startE, fin, back, truth, binop, cmpop, idxop, slop, inD, bifun, bmeth, bmTy, seqAt, lstAt, tyName, isi, isNd, lenOk, putN, augop]
theorem r19 (x : Int) (s : Hs) : runFn T wf (k + 1) 19 [.int x] s = .ok (.tup [.int (x / 256), .int (x % 256)]) s := by
  rw [rf (f := i_high_and_low) rfl rfl]
  have e : T.consts[2]? = some (.int 256) := rfl
  have e1 : x.fdiv 256 = x / 256 := Int.fdiv_eq_ediv_of_nonneg x (by decide)
  have e2 : x.fmod 256 = x % 256 := Int.fmod_eq_emod_of_nonneg x (by decide)
  have e3 : 2 ≤ PySem.sizeLine := by decide
  simp [i_high_and_low, e, e1, e2, e3, evalE, evalT, evalEs, evalO, evalC, evalI, evalSs, evalS, evP, evPs, evO, evC, evI, pE, consL, pick, and2, or2, andT2, orT2, callM, callvM, makeM, madeBy, methM, biM, bmM, attrM, idxM, slM, soM, tupM, lstM, boxed, binM, cmpM, isNM, chainM, CN.notM, notT, negM, iteM, varM, asgM, subM, fldM, parM, augM, augfM, CN.forM, thruM, truly, assignTg, setAll, startE, fin, back, truth, binop, cmpop, idxop, slop, inD, bifun, bmeth, bmTy, seqAt, lstAt, tyName, isi, isNd, lenOk, putN, augop]
theorem r49 {mem boxes : List Int} {at_ top a x : Int} {told : List D} {l : Hs} (hm : 0 < mem.length) : runFn T wf (k + 3) 49 [.ref 1, .int a, .int x] (mh mem boxes at_ top told l) = .ok .non (mh (put (put mem a (x / 256)) (a + 1) (x % 256)) boxes at_ top told l) := by
  rw [rf (f := i_RawMemory_set_pair) rfl rfl]
  have h := r47 (wf := wf) (k := k) (boxes := boxes) (at_ := at_) (top := top) (a := a) (b := x / 256) (told := told) (l := l) hm
  have h2 := r47 (wf := wf) (k := k) (mem := put mem a (x / 256)) (boxes := boxes) (at_ := at_) (top := top) (a := a + 1) (b := x % 256) (told := told) (l := l) (by simpa using hm)
  unfold mh at h h2 ⊢
  simp only [put_len] at h h2
  simp [i_RawMemory_set_pair, h, h2, T1, r19, List.lookup, evalE, evalT, evalEs, evalO, evalC, evalI, evalSs, evalS, evP, evPs, evO, evC, evI, pE, consL, pick, and2, or2, andT2, orT2, callM, callvM, makeM, madeBy, methM, biM, bmM, attrM, idxM, slM, soM, tupM, lstM, boxed, binM, cmpM, isNM, chainM, CN.notM, notT, negM, iteM, varM, asgM, subM, fldM, parM, augM, augfM, CN.forM, thruM, truly, assignTg, setAll, startE, fin, back, truth, binop, cmpop, idxop, slop, inD, bifun, bmeth, bmTy, seqAt, lstAt, tyName, isi, isNd, lenOk, putN, augop]
end K69
set_option Elab.async false
set_option linter.all false
set_option maxRecDepth 100000
set_option maxHeartbeats 4000000
/-! P2: instructions read and done. -/
namespace K69
open CN
variable {wf k : Nat}
@[simp] theorem idx_ref (tabs : List (List (PySem.Str × D))) (s : Hs) (n : Nat) (i : Int) (ds : List D) (h : s[n]? = some (.lst ds)) : idxop tabs s (.ref n) (.int i) = L2.atI ds i := by
  show (match s[n]?, D.int i with | some (.lst ds), .int i => L2.atI ds i | _, _ => none) = _
  rw [h]
@[simp] theorem idx_tup (tabs : List (List (PySem.Str × D))) (s : Hs) (i : Int) (ds : List D) : idxop tabs s (.tup ds) (.int i) = L2.atI ds i := rfl
@[simp] theorem idx_tl (tabs : List (List (PySem.Str × D))) (s : Hs) (i : Int) (ds : List D) : idxop tabs s (.tl ds) (.int i) = L2.atI ds i := rfl
@[simp] theorem at0 {α : Type} (x : α) (xs : List α) : L2.atI (x :: xs) 0 = some x := atI_nat (x :: xs) 0 (by simp)
@[simp] theorem at1 {α : Type} (x y : α) (xs : List α) : L2.atI (x :: y :: xs) 1 = some y := atI_nat (x :: y :: xs) 1 (by simp)
@[simp] theorem at2 {α : Type} (x y z : α) (xs : List α) : L2.atI (x :: y :: z :: xs) 2 = some z := atI_nat (x :: y :: z :: xs) 2 (by simp)
@[simp] theorem at3 {α : Type} (x y z u : α) (xs : List α) : L2.atI (x :: y :: z :: u :: xs) 3 = some u := atI_nat (x :: y :: z :: u :: xs) 3 (by simp)
@[simp] theorem ce_ii (tabs : List (List (PySem.Str × D))) (s : Hs) (i j : Int) : cmpop tabs s .eq (.int i) (.int j) = some (decide (i = j)) := eqD_int s i j
@[simp] theorem cl_ii (tabs : List (List (PySem.Str × D))) (s : Hs) (i j : Int) : cmpop tabs s .lt (.int i) (.int j) = some (decide (i < j)) := rfl
@[simp] theorem cle_ii (tabs : List (List (PySem.Str × D))) (s : Hs) (i j : Int) : cmpop tabs s .le (.int i) (.int j) = some (decide (i ≤ j)) := rfl
@[simp] theorem cge_ii (tabs : List (List (PySem.Str × D))) (s : Hs) (i j : Int) : cmpop tabs s .ge (.int i) (.int j) = some (decide (j ≤ i)) := rfl
@[simp] theorem cgt_ii (tabs : List (List (PySem.Str × D))) (s : Hs) (i j : Int) : cmpop tabs s .gt (.int i) (.int j) = some (decide (j < i)) := rfl
@[simp] theorem es_box_address (tabs : List (List (PySem.Str × D))) (s : Hs) : cmpop tabs s .eq (.str "box") (.str "address") = some false := (eqD_str s _ _ (by decide +kernel) (by decide +kernel)).trans (congrArg some (by decide +kernel))
@[simp] theorem es_box_box (tabs : List (List (PySem.Str × D))) (s : Hs) : cmpop tabs s .eq (.str "box") (.str "box") = some true := (eqD_str s _ _ (by decide +kernel) (by decide +kernel)).trans (congrArg some (by decide +kernel))
@[simp] theorem es_byte_address (tabs : List (List (PySem.Str × D))) (s : Hs) : cmpop tabs s .eq (.str "byte") (.str "address") = some false := (eqD_str s _ _ (by decide +kernel) (by decide +kernel)).trans (congrArg some (by decide +kernel))
@[simp] theorem es_byte_box (tabs : List (List (PySem.Str × D))) (s : Hs) : cmpop tabs s .eq (.str "byte") (.str "box") = some false := (eqD_str s _ _ (by decide +kernel) (by decide +kernel)).trans (congrArg some (by decide +kernel))
@[simp] theorem es_address_address (tabs : List (List (PySem.Str × D))) (s : Hs) : cmpop tabs s .eq (.str "address") (.str "address") = some true := (eqD_str s _ _ (by decide +kernel) (by decide +kernel)).trans (congrArg some (by decide +kernel))
@[simp] theorem es_address_box (tabs : List (List (PySem.Str × D))) (s : Hs) : cmpop tabs s .eq (.str "address") (.str "box") = some false := (eqD_str s _ _ (by decide +kernel) (by decide +kernel)).trans (congrArg some (by decide +kernel))
@[simp] theorem es_set_stop (tabs : List (List (PySem.Str × D))) (s : Hs) : cmpop tabs s .eq (.str "set") (.str "stop") = some false := (eqD_str s _ _ (by decide +kernel) (by decide +kernel)).trans (congrArg some (by decide +kernel))
@[simp] theorem es_set_add (tabs : List (List (PySem.Str × D))) (s : Hs) : cmpop tabs s .eq (.str "set") (.str "add") = some false := (eqD_str s _ _ (by decide +kernel) (by decide +kernel)).trans (congrArg some (by decide +kernel))
@[simp] theorem es_set_sub (tabs : List (List (PySem.Str × D))) (s : Hs) : cmpop tabs s .eq (.str "set") (.str "sub") = some false := (eqD_str s _ _ (by decide +kernel) (by decide +kernel)).trans (congrArg some (by decide +kernel))
@[simp] theorem es_set_less (tabs : List (List (PySem.Str × D))) (s : Hs) : cmpop tabs s .eq (.str "set") (.str "less") = some false := (eqD_str s _ _ (by decide +kernel) (by decide +kernel)).trans (congrArg some (by decide +kernel))
@[simp] theorem es_call_stop (tabs : List (List (PySem.Str × D))) (s : Hs) : cmpop tabs s .eq (.str "call") (.str "stop") = some false := (eqD_str s _ _ (by decide +kernel) (by decide +kernel)).trans (congrArg some (by decide +kernel))
@[simp] theorem es_call_add (tabs : List (List (PySem.Str × D))) (s : Hs) : cmpop tabs s .eq (.str "call") (.str "add") = some false := (eqD_str s _ _ (by decide +kernel) (by decide +kernel)).trans (congrArg some (by decide +kernel))
@[simp] theorem es_call_sub (tabs : List (List (PySem.Str × D))) (s : Hs) : cmpop tabs s .eq (.str "call") (.str "sub") = some false := (eqD_str s _ _ (by decide +kernel) (by decide +kernel)).trans (congrArg some (by decide +kernel))
@[simp] theorem es_call_less (tabs : List (List (PySem.Str × D))) (s : Hs) : cmpop tabs s .eq (.str "call") (.str "less") = some false := (eqD_str s _ _ (by decide +kernel) (by decide +kernel)).trans (congrArg some (by decide +kernel))
@[simp] theorem es_sub_stop (tabs : List (List (PySem.Str × D))) (s : Hs) : cmpop tabs s .eq (.str "sub") (.str "stop") = some false := (eqD_str s _ _ (by decide +kernel) (by decide +kernel)).trans (congrArg some (by decide +kernel))
@[simp] theorem es_sub_add (tabs : List (List (PySem.Str × D))) (s : Hs) : cmpop tabs s .eq (.str "sub") (.str "add") = some false := (eqD_str s _ _ (by decide +kernel) (by decide +kernel)).trans (congrArg some (by decide +kernel))
@[simp] theorem es_sub_sub (tabs : List (List (PySem.Str × D))) (s : Hs) : cmpop tabs s .eq (.str "sub") (.str "sub") = some true := (eqD_str s _ _ (by decide +kernel) (by decide +kernel)).trans (congrArg some (by decide +kernel))
@[simp] theorem es_sub_less (tabs : List (List (PySem.Str × D))) (s : Hs) : cmpop tabs s .eq (.str "sub") (.str "less") = some false := (eqD_str s _ _ (by decide +kernel) (by decide +kernel)).trans (congrArg some (by decide +kernel))
@[simp] theorem es_less_stop (tabs : List (List (PySem.Str × D))) (s : Hs) : cmpop tabs s .eq (.str "less") (.str "stop") = some false := (eqD_str s _ _ (by decide +kernel) (by decide +kernel)).trans (congrArg some (by decide +kernel))
@[simp] theorem es_less_add (tabs : List (List (PySem.Str × D))) (s : Hs) : cmpop tabs s .eq (.str "less") (.str "add") = some false := (eqD_str s _ _ (by decide +kernel) (by decide +kernel)).trans (congrArg some (by decide +kernel))
@[simp] theorem es_less_sub (tabs : List (List (PySem.Str × D))) (s : Hs) : cmpop tabs s .eq (.str "less") (.str "sub") = some false := (eqD_str s _ _ (by decide +kernel) (by decide +kernel)).trans (congrArg some (by decide +kernel))
@[simp] theorem es_less_less (tabs : List (List (PySem.Str × D))) (s : Hs) : cmpop tabs s .eq (.str "less") (.str "less") = some true := (eqD_str s _ _ (by decide +kernel) (by decide +kernel)).trans (congrArg some (by decide +kernel))
@[simp] theorem es_tell_stop (tabs : List (List (PySem.Str × D))) (s : Hs) : cmpop tabs s .eq (.str "tell") (.str "stop") = some false := (eqD_str s _ _ (by decide +kernel) (by decide +kernel)).trans (congrArg some (by decide +kernel))
@[simp] theorem es_tell_add (tabs : List (List (PySem.Str × D))) (s : Hs) : cmpop tabs s .eq (.str "tell") (.str "add") = some false := (eqD_str s _ _ (by decide +kernel) (by decide +kernel)).trans (congrArg some (by decide +kernel))
@[simp] theorem es_tell_sub (tabs : List (List (PySem.Str × D))) (s : Hs) : cmpop tabs s .eq (.str "tell") (.str "sub") = some false := (eqD_str s _ _ (by decide +kernel) (by decide +kernel)).trans (congrArg some (by decide +kernel))
@[simp] theorem es_tell_less (tabs : List (List (PySem.Str × D))) (s : Hs) : cmpop tabs s .eq (.str "tell") (.str "less") = some false := (eqD_str s _ _ (by decide +kernel) (by decide +kernel)).trans (congrArg some (by decide +kernel))
@[simp] theorem es_stop_stop (tabs : List (List (PySem.Str × D))) (s : Hs) : cmpop tabs s .eq (.str "stop") (.str "stop") = some true := (eqD_str s _ _ (by decide +kernel) (by decide +kernel)).trans (congrArg some (by decide +kernel))
@[simp] theorem es_stop_add (tabs : List (List (PySem.Str × D))) (s : Hs) : cmpop tabs s .eq (.str "stop") (.str "add") = some false := (eqD_str s _ _ (by decide +kernel) (by decide +kernel)).trans (congrArg some (by decide +kernel))
@[simp] theorem es_stop_sub (tabs : List (List (PySem.Str × D))) (s : Hs) : cmpop tabs s .eq (.str "stop") (.str "sub") = some false := (eqD_str s _ _ (by decide +kernel) (by decide +kernel)).trans (congrArg some (by decide +kernel))
@[simp] theorem es_stop_less (tabs : List (List (PySem.Str × D))) (s : Hs) : cmpop tabs s .eq (.str "stop") (.str "less") = some false := (eqD_str s _ _ (by decide +kernel) (by decide +kernel)).trans (congrArg some (by decide +kernel))
@[simp] theorem es_push_stop (tabs : List (List (PySem.Str × D))) (s : Hs) : cmpop tabs s .eq (.str "push") (.str "stop") = some false := (eqD_str s _ _ (by decide +kernel) (by decide +kernel)).trans (congrArg some (by decide +kernel))
@[simp] theorem es_push_add (tabs : List (List (PySem.Str × D))) (s : Hs) : cmpop tabs s .eq (.str "push") (.str "add") = some false := (eqD_str s _ _ (by decide +kernel) (by decide +kernel)).trans (congrArg some (by decide +kernel))
@[simp] theorem es_push_sub (tabs : List (List (PySem.Str × D))) (s : Hs) : cmpop tabs s .eq (.str "push") (.str "sub") = some false := (eqD_str s _ _ (by decide +kernel) (by decide +kernel)).trans (congrArg some (by decide +kernel))
@[simp] theorem es_push_less (tabs : List (List (PySem.Str × D))) (s : Hs) : cmpop tabs s .eq (.str "push") (.str "less") = some false := (eqD_str s _ _ (by decide +kernel) (by decide +kernel)).trans (congrArg some (by decide +kernel))
@[simp] theorem es_add_stop (tabs : List (List (PySem.Str × D))) (s : Hs) : cmpop tabs s .eq (.str "add") (.str "stop") = some false := (eqD_str s _ _ (by decide +kernel) (by decide +kernel)).trans (congrArg some (by decide +kernel))
@[simp] theorem es_add_add (tabs : List (List (PySem.Str × D))) (s : Hs) : cmpop tabs s .eq (.str "add") (.str "add") = some true := (eqD_str s _ _ (by decide +kernel) (by decide +kernel)).trans (congrArg some (by decide +kernel))
@[simp] theorem es_add_sub (tabs : List (List (PySem.Str × D))) (s : Hs) : cmpop tabs s .eq (.str "add") (.str "sub") = some false := (eqD_str s _ _ (by decide +kernel) (by decide +kernel)).trans (congrArg some (by decide +kernel))
@[simp] theorem es_add_less (tabs : List (List (PySem.Str × D))) (s : Hs) : cmpop tabs s .eq (.str "add") (.str "less") = some false := (eqD_str s _ _ (by decide +kernel) (by decide +kernel)).trans (congrArg some (by decide +kernel))
@[simp] theorem es_mul_stop (tabs : List (List (PySem.Str × D))) (s : Hs) : cmpop tabs s .eq (.str "mul") (.str "stop") = some false := (eqD_str s _ _ (by decide +kernel) (by decide +kernel)).trans (congrArg some (by decide +kernel))
@[simp] theorem es_mul_add (tabs : List (List (PySem.Str × D))) (s : Hs) : cmpop tabs s .eq (.str "mul") (.str "add") = some false := (eqD_str s _ _ (by decide +kernel) (by decide +kernel)).trans (congrArg some (by decide +kernel))
@[simp] theorem es_mul_sub (tabs : List (List (PySem.Str × D))) (s : Hs) : cmpop tabs s .eq (.str "mul") (.str "sub") = some false := (eqD_str s _ _ (by decide +kernel) (by decide +kernel)).trans (congrArg some (by decide +kernel))
@[simp] theorem es_mul_less (tabs : List (List (PySem.Str × D))) (s : Hs) : cmpop tabs s .eq (.str "mul") (.str "less") = some false := (eqD_str s _ _ (by decide +kernel) (by decide +kernel)).trans (congrArg some (by decide +kernel))
@[simp] theorem es_pop_stop (tabs : List (List (PySem.Str × D))) (s : Hs) : cmpop tabs s .eq (.str "pop") (.str "stop") = some false := (eqD_str s _ _ (by decide +kernel) (by decide +kernel)).trans (congrArg some (by decide +kernel))
@[simp] theorem es_pop_add (tabs : List (List (PySem.Str × D))) (s : Hs) : cmpop tabs s .eq (.str "pop") (.str "add") = some false := (eqD_str s _ _ (by decide +kernel) (by decide +kernel)).trans (congrArg some (by decide +kernel))
@[simp] theorem es_pop_sub (tabs : List (List (PySem.Str × D))) (s : Hs) : cmpop tabs s .eq (.str "pop") (.str "sub") = some false := (eqD_str s _ _ (by decide +kernel) (by decide +kernel)).trans (congrArg some (by decide +kernel))
@[simp] theorem es_pop_less (tabs : List (List (PySem.Str × D))) (s : Hs) : cmpop tabs s .eq (.str "pop") (.str "less") = some false := (eqD_str s _ _ (by decide +kernel) (by decide +kernel)).trans (congrArg some (by decide +kernel))
@[simp] theorem es_back_stop (tabs : List (List (PySem.Str × D))) (s : Hs) : cmpop tabs s .eq (.str "back") (.str "stop") = some false := (eqD_str s _ _ (by decide +kernel) (by decide +kernel)).trans (congrArg some (by decide +kernel))
@[simp] theorem es_back_add (tabs : List (List (PySem.Str × D))) (s : Hs) : cmpop tabs s .eq (.str "back") (.str "add") = some false := (eqD_str s _ _ (by decide +kernel) (by decide +kernel)).trans (congrArg some (by decide +kernel))
@[simp] theorem es_back_sub (tabs : List (List (PySem.Str × D))) (s : Hs) : cmpop tabs s .eq (.str "back") (.str "sub") = some false := (eqD_str s _ _ (by decide +kernel) (by decide +kernel)).trans (congrArg some (by decide +kernel))
@[simp] theorem es_back_less (tabs : List (List (PySem.Str × D))) (s : Hs) : cmpop tabs s .eq (.str "back") (.str "less") = some false := (eqD_str s _ _ (by decide +kernel) (by decide +kernel)).trans (congrArg some (by decide +kernel))
@[simp] theorem io_set (s : Hs) : idxop T.tabs s (.tab 0) (.str "set") = some (.tup [.str "box", .str "byte"]) := rfl
@[simp] theorem id_set (s : Hs) : idxop T.tabs s (.tab 2) (.str "set") = some (.fn 23) := rfl
@[simp] theorem in1_set (tabs : List (List (PySem.Str × D))) (s : Hs) : cmpop tabs s .isin (.str "set") (.tup [.str "get"]) = some false := rfl
@[simp] theorem in2_set (tabs : List (List (PySem.Str × D))) (s : Hs) : cmpop tabs s .isin (.str "set") (.tup [.str "ask", .str "out"]) = some false := rfl
@[simp] theorem io_call (s : Hs) : idxop T.tabs s (.tab 0) (.str "call") = some (.tup [.str "address"]) := rfl
@[simp] theorem id_call (s : Hs) : idxop T.tabs s (.tab 2) (.str "call") = some (.fn 36) := rfl
@[simp] theorem in1_call (tabs : List (List (PySem.Str × D))) (s : Hs) : cmpop tabs s .isin (.str "call") (.tup [.str "get"]) = some false := rfl
@[simp] theorem in2_call (tabs : List (List (PySem.Str × D))) (s : Hs) : cmpop tabs s .isin (.str "call") (.tup [.str "ask", .str "out"]) = some false := rfl
@[simp] theorem io_sub (s : Hs) : idxop T.tabs s (.tab 0) (.str "sub") = some (.tup [.str "box", .str "box", .str "box"]) := rfl
@[simp] theorem id_sub (s : Hs) : idxop T.tabs s (.tab 2) (.str "sub") = some (.fn 25) := rfl
@[simp] theorem in1_sub (tabs : List (List (PySem.Str × D))) (s : Hs) : cmpop tabs s .isin (.str "sub") (.tup [.str "get"]) = some false := rfl
@[simp] theorem in2_sub (tabs : List (List (PySem.Str × D))) (s : Hs) : cmpop tabs s .isin (.str "sub") (.tup [.str "ask", .str "out"]) = some false := rfl
@[simp] theorem io_less (s : Hs) : idxop T.tabs s (.tab 0) (.str "less") = some (.tup [.str "box", .str "box", .str "address"]) := rfl
@[simp] theorem id_less (s : Hs) : idxop T.tabs s (.tab 2) (.str "less") = some (.fn 33) := rfl
@[simp] theorem in1_less (tabs : List (List (PySem.Str × D))) (s : Hs) : cmpop tabs s .isin (.str "less") (.tup [.str "get"]) = some false := rfl
@[simp] theorem in2_less (tabs : List (List (PySem.Str × D))) (s : Hs) : cmpop tabs s .isin (.str "less") (.tup [.str "ask", .str "out"]) = some false := rfl
@[simp] theorem io_tell (s : Hs) : idxop T.tabs s (.tab 0) (.str "tell") = some (.tup [.str "box"]) := rfl
@[simp] theorem id_tell (s : Hs) : idxop T.tabs s (.tab 2) (.str "tell") = some (.fn 30) := rfl
@[simp] theorem in1_tell (tabs : List (List (PySem.Str × D))) (s : Hs) : cmpop tabs s .isin (.str "tell") (.tup [.str "get"]) = some false := rfl
@[simp] theorem in2_tell (tabs : List (List (PySem.Str × D))) (s : Hs) : cmpop tabs s .isin (.str "tell") (.tup [.str "ask", .str "out"]) = some false := rfl
@[simp] theorem io_stop (s : Hs) : idxop T.tabs s (.tab 0) (.str "stop") = some (.tup []) := rfl
@[simp] theorem in1_stop (tabs : List (List (PySem.Str × D))) (s : Hs) : cmpop tabs s .isin (.str "stop") (.tup [.str "get"]) = some false := rfl
@[simp] theorem in2_stop (tabs : List (List (PySem.Str × D))) (s : Hs) : cmpop tabs s .isin (.str "stop") (.tup [.str "ask", .str "out"]) = some false := rfl
@[simp] theorem io_push (s : Hs) : idxop T.tabs s (.tab 0) (.str "push") = some (.tup [.str "box"]) := rfl
@[simp] theorem id_push (s : Hs) : idxop T.tabs s (.tab 2) (.str "push") = some (.fn 38) := rfl
@[simp] theorem in1_push (tabs : List (List (PySem.Str × D))) (s : Hs) : cmpop tabs s .isin (.str "push") (.tup [.str "get"]) = some false := rfl
@[simp] theorem in2_push (tabs : List (List (PySem.Str × D))) (s : Hs) : cmpop tabs s .isin (.str "push") (.tup [.str "ask", .str "out"]) = some false := rfl
@[simp] theorem io_add (s : Hs) : idxop T.tabs s (.tab 0) (.str "add") = some (.tup [.str "box", .str "box", .str "box"]) := rfl
@[simp] theorem id_add (s : Hs) : idxop T.tabs s (.tab 2) (.str "add") = some (.fn 25) := rfl
@[simp] theorem in1_add (tabs : List (List (PySem.Str × D))) (s : Hs) : cmpop tabs s .isin (.str "add") (.tup [.str "get"]) = some false := rfl
@[simp] theorem in2_add (tabs : List (List (PySem.Str × D))) (s : Hs) : cmpop tabs s .isin (.str "add") (.tup [.str "ask", .str "out"]) = some false := rfl
@[simp] theorem io_mul (s : Hs) : idxop T.tabs s (.tab 0) (.str "mul") = some (.tup [.str "box", .str "box", .str "box"]) := rfl
@[simp] theorem id_mul (s : Hs) : idxop T.tabs s (.tab 2) (.str "mul") = some (.fn 25) := rfl
@[simp] theorem in1_mul (tabs : List (List (PySem.Str × D))) (s : Hs) : cmpop tabs s .isin (.str "mul") (.tup [.str "get"]) = some false := rfl
@[simp] theorem in2_mul (tabs : List (List (PySem.Str × D))) (s : Hs) : cmpop tabs s .isin (.str "mul") (.tup [.str "ask", .str "out"]) = some false := rfl
@[simp] theorem io_pop (s : Hs) : idxop T.tabs s (.tab 0) (.str "pop") = some (.tup [.str "box"]) := rfl
@[simp] theorem id_pop (s : Hs) : idxop T.tabs s (.tab 2) (.str "pop") = some (.fn 39) := rfl
@[simp] theorem in1_pop (tabs : List (List (PySem.Str × D))) (s : Hs) : cmpop tabs s .isin (.str "pop") (.tup [.str "get"]) = some false := rfl
@[simp] theorem in2_pop (tabs : List (List (PySem.Str × D))) (s : Hs) : cmpop tabs s .isin (.str "pop") (.tup [.str "ask", .str "out"]) = some false := rfl
@[simp] theorem io_back (s : Hs) : idxop T.tabs s (.tab 0) (.str "back") = some (.tup []) := rfl
@[simp] theorem id_back (s : Hs) : idxop T.tabs s (.tab 2) (.str "back") = some (.fn 37) := rfl
@[simp] theorem in1_back (tabs : List (List (PySem.Str × D))) (s : Hs) : cmpop tabs s .isin (.str "back") (.tup [.str "get"]) = some false := rfl
@[simp] theorem in2_back (tabs : List (List (PySem.Str × D))) (s : Hs) : cmpop tabs s .isin (.str "back") (.tup [.str "ask", .str "out"]) = some false := rfl
@[simp] theorem is_box (s : Hs) : idxop T.tabs s (.tab 1) (.str "box") = some (.int 1) := rfl
@[simp] theorem is_byte (s : Hs) : idxop T.tabs s (.tab 1) (.str "byte") = some (.int 1) := rfl
@[simp] theorem is_address (s : Hs) : idxop T.tabs s (.tab 1) (.str "address") = some (.int 2) := rfl
theorem cn (i : Nat) (x : D) (h : T.consts[i]? = some x) : T.consts[i]? = some x := h
theorem C1 : T.consts[1]? = some (.int 8) := rfl
theorem C2 : T.consts[2]? = some (.int 256) := rfl
theorem C3 : T.consts[3]? = some (.tup [.str "set", .str "copy", .str "add", .str "sub", .str "mul", .str "low", .str "ask", .str "tell", .str "get", .str "put", .str "less", .str "same", .str "jump", .str "call", .str "back", .str "push", .str "pop", .str "out", .str "stop"]) := rfl
theorem C4 : T.consts[4]? = some (.tab 0) := rfl
theorem C5 : T.consts[5]? = some (.tab 1) := rfl
theorem C6 : T.consts[6]? = some (.tup [.str "get"]) := rfl
theorem C7 : T.consts[7]? = some (.tup [.str "ask", .str "out"]) := rfl
theorem C8 : T.consts[8]? = some (.tab 2) := rfl
theorem r20 (i : Int) (s : Hs) : runFn T wf (k + 1) 20 [.int i] s = .ok (.bl (decide (1 ≤ i) && decide (i ≤ 19))) s := by
  rw [rf (f := i_is_opcode) rfl rfl]
  by_cases h : 1 ≤ i
  · simp [i_is_opcode, C3, h, evalE, evalT, evalEs, evalO, evalC, evalI, evalSs, evalS, evP, evPs, evO, evC, evI, pE, consL, pick, and2, or2, andT2, orT2, callM, callvM, makeM, madeBy, methM, biM, bmM, attrM, idxM, slM, soM, tupM, lstM, boxed, binM, cmpM, isNM, chainM, CN.notM, notT, negM, iteM, varM, asgM, subM, fldM, parM, augM, augfM, CN.forM, thruM, truly, assignTg, setAll, startE, fin, back, truth, binop, slop, bifun, bmeth, bmTy, seqAt, lstAt, tyName, isi, isNd, lenOk, putN, augop]
  · simp [i_is_opcode, C3, h, evalE, evalT, evalEs, evalO, evalC, evalI, evalSs, evalS, evP, evPs, evO, evC, evI, pE, consL, pick, and2, or2, andT2, orT2, callM, callvM, makeM, madeBy, methM, biM, bmM, attrM, idxM, slM, soM, tupM, lstM, boxed, binM, cmpM, isNM, chainM, CN.notM, notT, negM, iteM, varM, asgM, subM, fldM, parM, augM, augfM, CN.forM, thruM, truly, assignTg, setAll, startE, fin, back, truth, binop, slop, bifun, bmeth, bmTy, seqAt, lstAt, tyName, isi, isNd, lenOk, putN, augop]
theorem r21_set (s : Hs) : runFn T wf (k + 1) 21 [.int 1] s = .ok (.str "set") s := by
  rw [rf (f := i_word_of) rfl rfl]
  have q : L2.atI ([.str "set", .str "copy", .str "add", .str "sub", .str "mul", .str "low", .str "ask", .str "tell", .str "get", .str "put", .str "less", .str "same", .str "jump", .str "call", .str "back", .str "push", .str "pop", .str "out", .str "stop"] : List D) 0 = some (.str "set") := rfl
  simp [i_word_of, C3, q, evalE, evalT, evalEs, evalO, evalC, evalI, evalSs, evalS, evP, evPs, evO, evC, evI, pE, consL, pick, and2, or2, andT2, orT2, callM, callvM, makeM, madeBy, methM, biM, bmM, attrM, idxM, slM, soM, tupM, lstM, boxed, binM, cmpM, isNM, chainM, CN.notM, notT, negM, iteM, varM, asgM, subM, fldM, parM, augM, augfM, CN.forM, thruM, truly, assignTg, setAll, startE, fin, back, truth, binop, slop, bifun, bmeth, bmTy, seqAt, lstAt, tyName, isi, isNd, lenOk, putN, augop]
theorem r21_call (s : Hs) : runFn T wf (k + 1) 21 [.int 14] s = .ok (.str "call") s := by
  rw [rf (f := i_word_of) rfl rfl]
  have q : L2.atI ([.str "set", .str "copy", .str "add", .str "sub", .str "mul", .str "low", .str "ask", .str "tell", .str "get", .str "put", .str "less", .str "same", .str "jump", .str "call", .str "back", .str "push", .str "pop", .str "out", .str "stop"] : List D) 13 = some (.str "call") := rfl
  simp [i_word_of, C3, q, evalE, evalT, evalEs, evalO, evalC, evalI, evalSs, evalS, evP, evPs, evO, evC, evI, pE, consL, pick, and2, or2, andT2, orT2, callM, callvM, makeM, madeBy, methM, biM, bmM, attrM, idxM, slM, soM, tupM, lstM, boxed, binM, cmpM, isNM, chainM, CN.notM, notT, negM, iteM, varM, asgM, subM, fldM, parM, augM, augfM, CN.forM, thruM, truly, assignTg, setAll, startE, fin, back, truth, binop, slop, bifun, bmeth, bmTy, seqAt, lstAt, tyName, isi, isNd, lenOk, putN, augop]
theorem r21_sub (s : Hs) : runFn T wf (k + 1) 21 [.int 4] s = .ok (.str "sub") s := by
  rw [rf (f := i_word_of) rfl rfl]
  have q : L2.atI ([.str "set", .str "copy", .str "add", .str "sub", .str "mul", .str "low", .str "ask", .str "tell", .str "get", .str "put", .str "less", .str "same", .str "jump", .str "call", .str "back", .str "push", .str "pop", .str "out", .str "stop"] : List D) 3 = some (.str "sub") := rfl
  simp [i_word_of, C3, q, evalE, evalT, evalEs, evalO, evalC, evalI, evalSs, evalS, evP, evPs, evO, evC, evI, pE, consL, pick, and2, or2, andT2, orT2, callM, callvM, makeM, madeBy, methM, biM, bmM, attrM, idxM, slM, soM, tupM, lstM, boxed, binM, cmpM, isNM, chainM, CN.notM, notT, negM, iteM, varM, asgM, subM, fldM, parM, augM, augfM, CN.forM, thruM, truly, assignTg, setAll, startE, fin, back, truth, binop, slop, bifun, bmeth, bmTy, seqAt, lstAt, tyName, isi, isNd, lenOk, putN, augop]
theorem r21_less (s : Hs) : runFn T wf (k + 1) 21 [.int 11] s = .ok (.str "less") s := by
  rw [rf (f := i_word_of) rfl rfl]
  have q : L2.atI ([.str "set", .str "copy", .str "add", .str "sub", .str "mul", .str "low", .str "ask", .str "tell", .str "get", .str "put", .str "less", .str "same", .str "jump", .str "call", .str "back", .str "push", .str "pop", .str "out", .str "stop"] : List D) 10 = some (.str "less") := rfl
  simp [i_word_of, C3, q, evalE, evalT, evalEs, evalO, evalC, evalI, evalSs, evalS, evP, evPs, evO, evC, evI, pE, consL, pick, and2, or2, andT2, orT2, callM, callvM, makeM, madeBy, methM, biM, bmM, attrM, idxM, slM, soM, tupM, lstM, boxed, binM, cmpM, isNM, chainM, CN.notM, notT, negM, iteM, varM, asgM, subM, fldM, parM, augM, augfM, CN.forM, thruM, truly, assignTg, setAll, startE, fin, back, truth, binop, slop, bifun, bmeth, bmTy, seqAt, lstAt, tyName, isi, isNd, lenOk, putN, augop]
theorem r21_tell (s : Hs) : runFn T wf (k + 1) 21 [.int 8] s = .ok (.str "tell") s := by
  rw [rf (f := i_word_of) rfl rfl]
  have q : L2.atI ([.str "set", .str "copy", .str "add", .str "sub", .str "mul", .str "low", .str "ask", .str "tell", .str "get", .str "put", .str "less", .str "same", .str "jump", .str "call", .str "back", .str "push", .str "pop", .str "out", .str "stop"] : List D) 7 = some (.str "tell") := rfl
  simp [i_word_of, C3, q, evalE, evalT, evalEs, evalO, evalC, evalI, evalSs, evalS, evP, evPs, evO, evC, evI, pE, consL, pick, and2, or2, andT2, orT2, callM, callvM, makeM, madeBy, methM, biM, bmM, attrM, idxM, slM, soM, tupM, lstM, boxed, binM, cmpM, isNM, chainM, CN.notM, notT, negM, iteM, varM, asgM, subM, fldM, parM, augM, augfM, CN.forM, thruM, truly, assignTg, setAll, startE, fin, back, truth, binop, slop, bifun, bmeth, bmTy, seqAt, lstAt, tyName, isi, isNd, lenOk, putN, augop]
theorem r21_stop (s : Hs) : runFn T wf (k + 1) 21 [.int 19] s = .ok (.str "stop") s := by
  rw [rf (f := i_word_of) rfl rfl]
  have q : L2.atI ([.str "set", .str "copy", .str "add", .str "sub", .str "mul", .str "low", .str "ask", .str "tell", .str "get", .str "put", .str "less", .str "same", .str "jump", .str "call", .str "back", .str "push", .str "pop", .str "out", .str "stop"] : List D) 18 = some (.str "stop") := rfl
  simp [i_word_of, C3, q, evalE, evalT, evalEs, evalO, evalC, evalI, evalSs, evalS, evP, evPs, evO, evC, evI, pE, consL, pick, and2, or2, andT2, orT2, callM, callvM, makeM, madeBy, methM, biM, bmM, attrM, idxM, slM, soM, tupM, lstM, boxed, binM, cmpM, isNM, chainM, CN.notM, notT, negM, iteM, varM, asgM, subM, fldM, parM, augM, augfM, CN.forM, thruM, truly, assignTg, setAll, startE, fin, back, truth, binop, slop, bifun, bmeth, bmTy, seqAt, lstAt, tyName, isi, isNd, lenOk, putN, augop]
theorem r21_push (s : Hs) : runFn T wf (k + 1) 21 [.int 16] s = .ok (.str "push") s := by
  rw [rf (f := i_word_of) rfl rfl]
  have q : L2.atI ([.str "set", .str "copy", .str "add", .str "sub", .str "mul", .str "low", .str "ask", .str "tell", .str "get", .str "put", .str "less", .str "same", .str "jump", .str "call", .str "back", .str "push", .str "pop", .str "out", .str "stop"] : List D) 15 = some (.str "push") := rfl
  simp [i_word_of, C3, q, evalE, evalT, evalEs, evalO, evalC, evalI, evalSs, evalS, evP, evPs, evO, evC, evI, pE, consL, pick, and2, or2, andT2, orT2, callM, callvM, makeM, madeBy, methM, biM, bmM, attrM, idxM, slM, soM, tupM, lstM, boxed, binM, cmpM, isNM, chainM, CN.notM, notT, negM, iteM, varM, asgM, subM, fldM, parM, augM, augfM, CN.forM, thruM, truly, assignTg, setAll, startE, fin, back, truth, binop, slop, bifun, bmeth, bmTy, seqAt, lstAt, tyName, isi, isNd, lenOk, putN, augop]
theorem r21_add (s : Hs) : runFn T wf (k + 1) 21 [.int 3] s = .ok (.str "add") s := by
  rw [rf (f := i_word_of) rfl rfl]
  have q : L2.atI ([.str "set", .str "copy", .str "add", .str "sub", .str "mul", .str "low", .str "ask", .str "tell", .str "get", .str "put", .str "less", .str "same", .str "jump", .str "call", .str "back", .str "push", .str "pop", .str "out", .str "stop"] : List D) 2 = some (.str "add") := rfl
  simp [i_word_of, C3, q, evalE, evalT, evalEs, evalO, evalC, evalI, evalSs, evalS, evP, evPs, evO, evC, evI, pE, consL, pick, and2, or2, andT2, orT2, callM, callvM, makeM, madeBy, methM, biM, bmM, attrM, idxM, slM, soM, tupM, lstM, boxed, binM, cmpM, isNM, chainM, CN.notM, notT, negM, iteM, varM, asgM, subM, fldM, parM, augM, augfM, CN.forM, thruM, truly, assignTg, setAll, startE, fin, back, truth, binop, slop, bifun, bmeth, bmTy, seqAt, lstAt, tyName, isi, isNd, lenOk, putN, augop]
theorem r21_mul (s : Hs) : runFn T wf (k + 1) 21 [.int 5] s = .ok (.str "mul") s := by
  rw [rf (f := i_word_of) rfl rfl]
  have q : L2.atI ([.str "set", .str "copy", .str "add", .str "sub", .str "mul", .str "low", .str "ask", .str "tell", .str "get", .str "put", .str "less", .str "same", .str "jump", .str "call", .str "back", .str "push", .str "pop", .str "out", .str "stop"] : List D) 4 = some (.str "mul") := rfl
  simp [i_word_of, C3, q, evalE, evalT, evalEs, evalO, evalC, evalI, evalSs, evalS, evP, evPs, evO, evC, evI, pE, consL, pick, and2, or2, andT2, orT2, callM, callvM, makeM, madeBy, methM, biM, bmM, attrM, idxM, slM, soM, tupM, lstM, boxed, binM, cmpM, isNM, chainM, CN.notM, notT, negM, iteM, varM, asgM, subM, fldM, parM, augM, augfM, CN.forM, thruM, truly, assignTg, setAll, startE, fin, back, truth, binop, slop, bifun, bmeth, bmTy, seqAt, lstAt, tyName, isi, isNd, lenOk, putN, augop]
theorem r21_pop (s : Hs) : runFn T wf (k + 1) 21 [.int 17] s = .ok (.str "pop") s := by
  rw [rf (f := i_word_of) rfl rfl]
  have q : L2.atI ([.str "set", .str "copy", .str "add", .str "sub", .str "mul", .str "low", .str "ask", .str "tell", .str "get", .str "put", .str "less", .str "same", .str "jump", .str "call", .str "back", .str "push", .str "pop", .str "out", .str "stop"] : List D) 16 = some (.str "pop") := rfl
  simp [i_word_of, C3, q, evalE, evalT, evalEs, evalO, evalC, evalI, evalSs, evalS, evP, evPs, evO, evC, evI, pE, consL, pick, and2, or2, andT2, orT2, callM, callvM, makeM, madeBy, methM, biM, bmM, attrM, idxM, slM, soM, tupM, lstM, boxed, binM, cmpM, isNM, chainM, CN.notM, notT, negM, iteM, varM, asgM, subM, fldM, parM, augM, augfM, CN.forM, thruM, truly, assignTg, setAll, startE, fin, back, truth, binop, slop, bifun, bmeth, bmTy, seqAt, lstAt, tyName, isi, isNd, lenOk, putN, augop]
theorem r21_back (s : Hs) : runFn T wf (k + 1) 21 [.int 15] s = .ok (.str "back") s := by
  rw [rf (f := i_word_of) rfl rfl]
  have q : L2.atI ([.str "set", .str "copy", .str "add", .str "sub", .str "mul", .str "low", .str "ask", .str "tell", .str "get", .str "put", .str "less", .str "same", .str "jump", .str "call", .str "back", .str "push", .str "pop", .str "out", .str "stop"] : List D) 14 = some (.str "back") := rfl
  simp [i_word_of, C3, q, evalE, evalT, evalEs, evalO, evalC, evalI, evalSs, evalS, evP, evPs, evO, evC, evI, pE, consL, pick, and2, or2, andT2, orT2, callM, callvM, makeM, madeBy, methM, biM, bmM, attrM, idxM, slM, soM, tupM, lstM, boxed, binM, cmpM, isNM, chainM, CN.notM, notT, negM, iteM, varM, asgM, subM, fldM, parM, augM, augfM, CN.forM, thruM, truly, assignTg, setAll, startE, fin, back, truth, binop, slop, bifun, bmeth, bmTy, seqAt, lstAt, tyName, isi, isNd, lenOk, putN, augop]
@[simp] theorem eqHs_r (s : Hs) : eqHs s s = true := eqHs_refl s
theorem r50_box {mem boxes : List Int} {at_ top a : Int} {told : List D} {l : Hs} (hm : 0 < mem.length) : runFn T wf (k + 4) 50 [.ref 1, .str "box", .int a] (mh mem boxes at_ top told l) = .ok (.int (cell mem a % 8)) (mh mem boxes at_ top told l) := by
  rw [rf (f := i_RawMemory_operand) rfl rfl]
  have h := r46 (wf := wf) (k := k + 1) (boxes := boxes) (at_ := at_) (top := top) (a := a) (told := told) (l := l) hm
  have e2 : (cell mem a).fmod 8 = cell mem a % 8 := Int.fmod_eq_emod_of_nonneg _ (by decide)
  unfold mh at h ⊢
  simp [i_RawMemory_operand, h, T1, C1, e2, List.lookup, evalE, evalT, evalEs, evalO, evalC, evalI, evalSs, evalS, evP, evPs, evO, evC, evI, pE, consL, pick, and2, or2, andT2, orT2, callM, callvM, makeM, madeBy, methM, biM, bmM, attrM, idxM, slM, soM, tupM, lstM, boxed, binM, cmpM, isNM, chainM, CN.notM, notT, negM, iteM, varM, asgM, subM, fldM, parM, augM, augfM, CN.forM, thruM, truly, assignTg, setAll, startE, fin, back, truth, binop, slop, bifun, bmeth, bmTy, seqAt, lstAt, tyName, isi, isNd, lenOk, putN, augop]
theorem r50_byte {mem boxes : List Int} {at_ top a : Int} {told : List D} {l : Hs} (hm : 0 < mem.length) : runFn T wf (k + 4) 50 [.ref 1, .str "byte", .int a] (mh mem boxes at_ top told l) = .ok (.int (cell mem a)) (mh mem boxes at_ top told l) := by
  rw [rf (f := i_RawMemory_operand) rfl rfl]
  have h := r46 (wf := wf) (k := k + 1) (boxes := boxes) (at_ := at_) (top := top) (a := a) (told := told) (l := l) hm
  unfold mh at h ⊢
  simp [i_RawMemory_operand, h, T1, C1, List.lookup, evalE, evalT, evalEs, evalO, evalC, evalI, evalSs, evalS, evP, evPs, evO, evC, evI, pE, consL, pick, and2, or2, andT2, orT2, callM, callvM, makeM, madeBy, methM, biM, bmM, attrM, idxM, slM, soM, tupM, lstM, boxed, binM, cmpM, isNM, chainM, CN.notM, notT, negM, iteM, varM, asgM, subM, fldM, parM, augM, augfM, CN.forM, thruM, truly, assignTg, setAll, startE, fin, back, truth, binop, slop, bifun, bmeth, bmTy, seqAt, lstAt, tyName, isi, isNd, lenOk, putN, augop]
theorem r50_address {mem boxes : List Int} {at_ top a : Int} {told : List D} {l : Hs} (hm : 0 < mem.length) (hb : ∀ x ∈ mem, 0 ≤ x ∧ x < 256) : runFn T wf (k + 4) 50 [.ref 1, .str "address", .int a] (mh mem boxes at_ top told l) = .ok (.int (cell mem a * 256 + cell mem (a + 1))) (mh mem boxes at_ top told l) := by
  rw [rf (f := i_RawMemory_operand) rfl rfl]
  have h := r48 (wf := wf) (k := k) (boxes := boxes) (at_ := at_) (top := top) (a := a) (told := told) (l := l) hm hb
  unfold mh at h ⊢
  simp [i_RawMemory_operand, h, T1, C1, List.lookup, evalE, evalT, evalEs, evalO, evalC, evalI, evalSs, evalS, evP, evPs, evO, evC, evI, pE, consL, pick, and2, or2, andT2, orT2, callM, callvM, makeM, madeBy, methM, biM, bmM, attrM, idxM, slM, soM, tupM, lstM, boxed, binM, cmpM, isNM, chainM, CN.notM, notT, negM, iteM, varM, asgM, subM, fldM, parM, augM, augfM, CN.forM, thruM, truly, assignTg, setAll, startE, fin, back, truth, binop, slop, bifun, bmeth, bmTy, seqAt, lstAt, tyName, isi, isNd, lenOk, putN, augop]
end K69
set_option Elab.async false
set_option linter.all false
set_option maxRecDepth 100000
set_option maxHeartbeats 4000000
/-! P3: instructions read. -/
namespace K69
open CN
variable {wf k : Nat}
theorem ad (a : Int) : a + 1 + 1 = a + 2 ∧ a + 2 + 1 = a + 3 ∧ a + 3 + 1 = a + 4 ∧ a + 3 + 2 = a + 5 ∧ a + 1 + 2 = a + 3 := by omega

theorem r51_set {mem boxes : List Int} {at_ top a : Int} {told : List D} (hm : 0 < mem.length) (hb : ∀ x ∈ mem, 0 ≤ x ∧ x < 256) (ho : cell mem a = 1) : runFn T wf (k + 5) 51 [.ref 1, .int a] (mh mem boxes at_ top told []) = .ok (.tup [.str "set", .int (cell mem (a + 1) % 8), .int (cell mem (a + 2))]) (mh mem boxes at_ top told []) := by
  rw [rf (f := i_RawMemory_instruction_at) rfl rfl]
  have h := r46 (wf := wf) (k := k + 2) (boxes := boxes) (at_ := at_) (top := top) (a := a) (told := told) (l := []) hm
  have h1 := fun l => r50_box (wf := wf) (k := k) (boxes := boxes) (at_ := at_) (top := top) (a := a + 1) (told := told) (l := l) hm
  have h2 := fun l => r50_byte (wf := wf) (k := k) (boxes := boxes) (at_ := at_) (top := top) (a := a + 2) (told := told) (l := l) hm
  have z1 : 1 ≤ PySem.sizeLine := by decide
  have z2 : 1 < PySem.sizeLine := by decide
  have z3 : 2 < PySem.sizeLine := by decide
  have z4 : 3 < PySem.sizeLine := by decide
  obtain ⟨a1, a2, a3, a4, a5⟩ := ad a
  rw [ho] at h
  unfold mh at h h1 h2 ⊢
  simp [i_RawMemory_instruction_at, h, h1, h2, a1, a2, a3, a4, a5, z1, z2, z3, z4, T1, C1, C4, C5, r20, r21_set, forStep, loopFor, seqI, stays, watchOf, noRef, noRefs, List.lookup, CN.forM, evalE, evalT, evalEs, evalO, evalC, evalI, evalSs, evalS, evP, evPs, evO, evC, evI, pE, consL, pick, and2, or2, andT2, orT2, callM, callvM, makeM, madeBy, methM, biM, bmM, attrM, idxM, slM, soM, tupM, lstM, boxed, binM, cmpM, isNM, chainM, CN.notM, notT, negM, iteM, varM, asgM, subM, fldM, parM, augM, augfM, CN.forM, thruM, truly, assignTg, setAll, startE, fin, back, truth, binop, slop, bifun, bmeth, bmTy, seqAt, lstAt, tyName, isi, isNd, lenOk, putN, augop]

theorem r51_add {mem boxes : List Int} {at_ top a : Int} {told : List D} (hm : 0 < mem.length) (hb : ∀ x ∈ mem, 0 ≤ x ∧ x < 256) (ho : cell mem a = 3) : runFn T wf (k + 5) 51 [.ref 1, .int a] (mh mem boxes at_ top told []) = .ok (.tup [.str "add", .int (cell mem (a + 1) % 8), .int (cell mem (a + 2) % 8), .int (cell mem (a + 3) % 8)]) (mh mem boxes at_ top told []) := by
  rw [rf (f := i_RawMemory_instruction_at) rfl rfl]
  have h := r46 (wf := wf) (k := k + 2) (boxes := boxes) (at_ := at_) (top := top) (a := a) (told := told) (l := []) hm
  have h1 := fun l => r50_box (wf := wf) (k := k) (boxes := boxes) (at_ := at_) (top := top) (a := a + 1) (told := told) (l := l) hm
  have h2 := fun l => r50_box (wf := wf) (k := k) (boxes := boxes) (at_ := at_) (top := top) (a := a + 2) (told := told) (l := l) hm
  have h3 := fun l => r50_box (wf := wf) (k := k) (boxes := boxes) (at_ := at_) (top := top) (a := a + 3) (told := told) (l := l) hm
  have z1 : 1 ≤ PySem.sizeLine := by decide
  have z2 : 1 < PySem.sizeLine := by decide
  have z3 : 2 < PySem.sizeLine := by decide
  have z4 : 3 < PySem.sizeLine := by decide
  obtain ⟨a1, a2, a3, a4, a5⟩ := ad a
  rw [ho] at h
  unfold mh at h h1 h2 h3 ⊢
  simp [i_RawMemory_instruction_at, h, h1, h2, h3, a1, a2, a3, a4, a5, z1, z2, z3, z4, T1, C1, C4, C5, r20, r21_add, forStep, loopFor, seqI, stays, watchOf, noRef, noRefs, List.lookup, CN.forM, evalE, evalT, evalEs, evalO, evalC, evalI, evalSs, evalS, evP, evPs, evO, evC, evI, pE, consL, pick, and2, or2, andT2, orT2, callM, callvM, makeM, madeBy, methM, biM, bmM, attrM, idxM, slM, soM, tupM, lstM, boxed, binM, cmpM, isNM, chainM, CN.notM, notT, negM, iteM, varM, asgM, subM, fldM, parM, augM, augfM, CN.forM, thruM, truly, assignTg, setAll, startE, fin, back, truth, binop, slop, bifun, bmeth, bmTy, seqAt, lstAt, tyName, isi, isNd, lenOk, putN, augop]

theorem r51_sub {mem boxes : List Int} {at_ top a : Int} {told : List D} (hm : 0 < mem.length) (hb : ∀ x ∈ mem, 0 ≤ x ∧ x < 256) (ho : cell mem a = 4) : runFn T wf (k + 5) 51 [.ref 1, .int a] (mh mem boxes at_ top told []) = .ok (.tup [.str "sub", .int (cell mem (a + 1) % 8), .int (cell mem (a + 2) % 8), .int (cell mem (a + 3) % 8)]) (mh mem boxes at_ top told []) := by
  rw [rf (f := i_RawMemory_instruction_at) rfl rfl]
  have h := r46 (wf := wf) (k := k + 2) (boxes := boxes) (at_ := at_) (top := top) (a := a) (told := told) (l := []) hm
  have h1 := fun l => r50_box (wf := wf) (k := k) (boxes := boxes) (at_ := at_) (top := top) (a := a + 1) (told := told) (l := l) hm
  have h2 := fun l => r50_box (wf := wf) (k := k) (boxes := boxes) (at_ := at_) (top := top) (a := a + 2) (told := told) (l := l) hm
  have h3 := fun l => r50_box (wf := wf) (k := k) (boxes := boxes) (at_ := at_) (top := top) (a := a + 3) (told := told) (l := l) hm
  have z1 : 1 ≤ PySem.sizeLine := by decide
  have z2 : 1 < PySem.sizeLine := by decide
  have z3 : 2 < PySem.sizeLine := by decide
  have z4 : 3 < PySem.sizeLine := by decide
  obtain ⟨a1, a2, a3, a4, a5⟩ := ad a
  rw [ho] at h
  unfold mh at h h1 h2 h3 ⊢
  simp [i_RawMemory_instruction_at, h, h1, h2, h3, a1, a2, a3, a4, a5, z1, z2, z3, z4, T1, C1, C4, C5, r20, r21_sub, forStep, loopFor, seqI, stays, watchOf, noRef, noRefs, List.lookup, CN.forM, evalE, evalT, evalEs, evalO, evalC, evalI, evalSs, evalS, evP, evPs, evO, evC, evI, pE, consL, pick, and2, or2, andT2, orT2, callM, callvM, makeM, madeBy, methM, biM, bmM, attrM, idxM, slM, soM, tupM, lstM, boxed, binM, cmpM, isNM, chainM, CN.notM, notT, negM, iteM, varM, asgM, subM, fldM, parM, augM, augfM, CN.forM, thruM, truly, assignTg, setAll, startE, fin, back, truth, binop, slop, bifun, bmeth, bmTy, seqAt, lstAt, tyName, isi, isNd, lenOk, putN, augop]

theorem r51_mul {mem boxes : List Int} {at_ top a : Int} {told : List D} (hm : 0 < mem.length) (hb : ∀ x ∈ mem, 0 ≤ x ∧ x < 256) (ho : cell mem a = 5) : runFn T wf (k + 5) 51 [.ref 1, .int a] (mh mem boxes at_ top told []) = .ok (.tup [.str "mul", .int (cell mem (a + 1) % 8), .int (cell mem (a + 2) % 8), .int (cell mem (a + 3) % 8)]) (mh mem boxes at_ top told []) := by
  rw [rf (f := i_RawMemory_instruction_at) rfl rfl]
  have h := r46 (wf := wf) (k := k + 2) (boxes := boxes) (at_ := at_) (top := top) (a := a) (told := told) (l := []) hm
  have h1 := fun l => r50_box (wf := wf) (k := k) (boxes := boxes) (at_ := at_) (top := top) (a := a + 1) (told := told) (l := l) hm
  have h2 := fun l => r50_box (wf := wf) (k := k) (boxes := boxes) (at_ := at_) (top := top) (a := a + 2) (told := told) (l := l) hm
  have h3 := fun l => r50_box (wf := wf) (k := k) (boxes := boxes) (at_ := at_) (top := top) (a := a + 3) (told := told) (l := l) hm
  have z1 : 1 ≤ PySem.sizeLine := by decide
  have z2 : 1 < PySem.sizeLine := by decide
  have z3 : 2 < PySem.sizeLine := by decide
  have z4 : 3 < PySem.sizeLine := by decide
  obtain ⟨a1, a2, a3, a4, a5⟩ := ad a
  rw [ho] at h
  unfold mh at h h1 h2 h3 ⊢
  simp [i_RawMemory_instruction_at, h, h1, h2, h3, a1, a2, a3, a4, a5, z1, z2, z3, z4, T1, C1, C4, C5, r20, r21_mul, forStep, loopFor, seqI, stays, watchOf, noRef, noRefs, List.lookup, CN.forM, evalE, evalT, evalEs, evalO, evalC, evalI, evalSs, evalS, evP, evPs, evO, evC, evI, pE, consL, pick, and2, or2, andT2, orT2, callM, callvM, makeM, madeBy, methM, biM, bmM, attrM, idxM, slM, soM, tupM, lstM, boxed, binM, cmpM, isNM, chainM, CN.notM, notT, negM, iteM, varM, asgM, subM, fldM, parM, augM, augfM, CN.forM, thruM, truly, assignTg, setAll, startE, fin, back, truth, binop, slop, bifun, bmeth, bmTy, seqAt, lstAt, tyName, isi, isNd, lenOk, putN, augop]

theorem r51_tell {mem boxes : List Int} {at_ top a : Int} {told : List D} (hm : 0 < mem.length) (hb : ∀ x ∈ mem, 0 ≤ x ∧ x < 256) (ho : cell mem a = 8) : runFn T wf (k + 5) 51 [.ref 1, .int a] (mh mem boxes at_ top told []) = .ok (.tup [.str "tell", .int (cell mem (a + 1) % 8)]) (mh mem boxes at_ top told []) := by
  rw [rf (f := i_RawMemory_instruction_at) rfl rfl]
  have h := r46 (wf := wf) (k := k + 2) (boxes := boxes) (at_ := at_) (top := top) (a := a) (told := told) (l := []) hm
  have h1 := fun l => r50_box (wf := wf) (k := k) (boxes := boxes) (at_ := at_) (top := top) (a := a + 1) (told := told) (l := l) hm
  have z1 : 1 ≤ PySem.sizeLine := by decide
  have z2 : 1 < PySem.sizeLine := by decide
  have z3 : 2 < PySem.sizeLine := by decide
  have z4 : 3 < PySem.sizeLine := by decide
  obtain ⟨a1, a2, a3, a4, a5⟩ := ad a
  rw [ho] at h
  unfold mh at h h1 ⊢
  simp [i_RawMemory_instruction_at, h, h1, a1, a2, a3, a4, a5, z1, z2, z3, z4, T1, C1, C4, C5, r20, r21_tell, forStep, loopFor, seqI, stays, watchOf, noRef, noRefs, List.lookup, CN.forM, evalE, evalT, evalEs, evalO, evalC, evalI, evalSs, evalS, evP, evPs, evO, evC, evI, pE, consL, pick, and2, or2, andT2, orT2, callM, callvM, makeM, madeBy, methM, biM, bmM, attrM, idxM, slM, soM, tupM, lstM, boxed, binM, cmpM, isNM, chainM, CN.notM, notT, negM, iteM, varM, asgM, subM, fldM, parM, augM, augfM, CN.forM, thruM, truly, assignTg, setAll, startE, fin, back, truth, binop, slop, bifun, bmeth, bmTy, seqAt, lstAt, tyName, isi, isNd, lenOk, putN, augop]

theorem r51_less {mem boxes : List Int} {at_ top a : Int} {told : List D} (hm : 0 < mem.length) (hb : ∀ x ∈ mem, 0 ≤ x ∧ x < 256) (ho : cell mem a = 11) : runFn T wf (k + 5) 51 [.ref 1, .int a] (mh mem boxes at_ top told []) = .ok (.tup [.str "less", .int (cell mem (a + 1) % 8), .int (cell mem (a + 2) % 8), .int (cell mem (a + 3) * 256 + cell mem (a + 4))]) (mh mem boxes at_ top told []) := by
  rw [rf (f := i_RawMemory_instruction_at) rfl rfl]
  have h := r46 (wf := wf) (k := k + 2) (boxes := boxes) (at_ := at_) (top := top) (a := a) (told := told) (l := []) hm
  have h1 := fun l => r50_box (wf := wf) (k := k) (boxes := boxes) (at_ := at_) (top := top) (a := a + 1) (told := told) (l := l) hm
  have h2 := fun l => r50_box (wf := wf) (k := k) (boxes := boxes) (at_ := at_) (top := top) (a := a + 2) (told := told) (l := l) hm
  have h3 := fun l => r50_address (wf := wf) (k := k) (boxes := boxes) (at_ := at_) (top := top) (a := a + 3) (told := told) (l := l) hm hb
  have z1 : 1 ≤ PySem.sizeLine := by decide
  have z2 : 1 < PySem.sizeLine := by decide
  have z3 : 2 < PySem.sizeLine := by decide
  have z4 : 3 < PySem.sizeLine := by decide
  obtain ⟨a1, a2, a3, a4, a5⟩ := ad a
  rw [ho] at h
  unfold mh at h h1 h2 h3 ⊢
  simp [i_RawMemory_instruction_at, h, h1, h2, h3, a1, a2, a3, a4, a5, z1, z2, z3, z4, T1, C1, C4, C5, r20, r21_less, forStep, loopFor, seqI, stays, watchOf, noRef, noRefs, List.lookup, CN.forM, evalE, evalT, evalEs, evalO, evalC, evalI, evalSs, evalS, evP, evPs, evO, evC, evI, pE, consL, pick, and2, or2, andT2, orT2, callM, callvM, makeM, madeBy, methM, biM, bmM, attrM, idxM, slM, soM, tupM, lstM, boxed, binM, cmpM, isNM, chainM, CN.notM, notT, negM, iteM, varM, asgM, subM, fldM, parM, augM, augfM, CN.forM, thruM, truly, assignTg, setAll, startE, fin, back, truth, binop, slop, bifun, bmeth, bmTy, seqAt, lstAt, tyName, isi, isNd, lenOk, putN, augop]

theorem r51_call {mem boxes : List Int} {at_ top a : Int} {told : List D} (hm : 0 < mem.length) (hb : ∀ x ∈ mem, 0 ≤ x ∧ x < 256) (ho : cell mem a = 14) : runFn T wf (k + 5) 51 [.ref 1, .int a] (mh mem boxes at_ top told []) = .ok (.tup [.str "call", .int (cell mem (a + 1) * 256 + cell mem (a + 2))]) (mh mem boxes at_ top told []) := by
  rw [rf (f := i_RawMemory_instruction_at) rfl rfl]
  have h := r46 (wf := wf) (k := k + 2) (boxes := boxes) (at_ := at_) (top := top) (a := a) (told := told) (l := []) hm
  have h1 := fun l => r50_address (wf := wf) (k := k) (boxes := boxes) (at_ := at_) (top := top) (a := a + 1) (told := told) (l := l) hm hb
  have z1 : 1 ≤ PySem.sizeLine := by decide
  have z2 : 1 < PySem.sizeLine := by decide
  have z3 : 2 < PySem.sizeLine := by decide
  have z4 : 3 < PySem.sizeLine := by decide
  obtain ⟨a1, a2, a3, a4, a5⟩ := ad a
  rw [ho] at h
  unfold mh at h h1 ⊢
  simp [i_RawMemory_instruction_at, h, h1, a1, a2, a3, a4, a5, z1, z2, z3, z4, T1, C1, C4, C5, r20, r21_call, forStep, loopFor, seqI, stays, watchOf, noRef, noRefs, List.lookup, CN.forM, evalE, evalT, evalEs, evalO, evalC, evalI, evalSs, evalS, evP, evPs, evO, evC, evI, pE, consL, pick, and2, or2, andT2, orT2, callM, callvM, makeM, madeBy, methM, biM, bmM, attrM, idxM, slM, soM, tupM, lstM, boxed, binM, cmpM, isNM, chainM, CN.notM, notT, negM, iteM, varM, asgM, subM, fldM, parM, augM, augfM, CN.forM, thruM, truly, assignTg, setAll, startE, fin, back, truth, binop, slop, bifun, bmeth, bmTy, seqAt, lstAt, tyName, isi, isNd, lenOk, putN, augop]

theorem r51_back {mem boxes : List Int} {at_ top a : Int} {told : List D} (hm : 0 < mem.length) (hb : ∀ x ∈ mem, 0 ≤ x ∧ x < 256) (ho : cell mem a = 15) : runFn T wf (k + 5) 51 [.ref 1, .int a] (mh mem boxes at_ top told []) = .ok (.tup [.str "back"]) (mh mem boxes at_ top told []) := by
  rw [rf (f := i_RawMemory_instruction_at) rfl rfl]
  have h := r46 (wf := wf) (k := k + 2) (boxes := boxes) (at_ := at_) (top := top) (a := a) (told := told) (l := []) hm
  have z1 : 1 ≤ PySem.sizeLine := by decide
  have z2 : 1 < PySem.sizeLine := by decide
  have z3 : 2 < PySem.sizeLine := by decide
  have z4 : 3 < PySem.sizeLine := by decide
  obtain ⟨a1, a2, a3, a4, a5⟩ := ad a
  rw [ho] at h
  unfold mh at h ⊢
  simp [i_RawMemory_instruction_at, h, a1, a2, a3, a4, a5, z1, z2, z3, z4, T1, C1, C4, C5, r20, r21_back, forStep, loopFor, seqI, stays, watchOf, noRef, noRefs, List.lookup, CN.forM, evalE, evalT, evalEs, evalO, evalC, evalI, evalSs, evalS, evP, evPs, evO, evC, evI, pE, consL, pick, and2, or2, andT2, orT2, callM, callvM, makeM, madeBy, methM, biM, bmM, attrM, idxM, slM, soM, tupM, lstM, boxed, binM, cmpM, isNM, chainM, CN.notM, notT, negM, iteM, varM, asgM, subM, fldM, parM, augM, augfM, CN.forM, thruM, truly, assignTg, setAll, startE, fin, back, truth, binop, slop, bifun, bmeth, bmTy, seqAt, lstAt, tyName, isi, isNd, lenOk, putN, augop]

theorem r51_push {mem boxes : List Int} {at_ top a : Int} {told : List D} (hm : 0 < mem.length) (hb : ∀ x ∈ mem, 0 ≤ x ∧ x < 256) (ho : cell mem a = 16) : runFn T wf (k + 5) 51 [.ref 1, .int a] (mh mem boxes at_ top told []) = .ok (.tup [.str "push", .int (cell mem (a + 1) % 8)]) (mh mem boxes at_ top told []) := by
  rw [rf (f := i_RawMemory_instruction_at) rfl rfl]
  have h := r46 (wf := wf) (k := k + 2) (boxes := boxes) (at_ := at_) (top := top) (a := a) (told := told) (l := []) hm
  have h1 := fun l => r50_box (wf := wf) (k := k) (boxes := boxes) (at_ := at_) (top := top) (a := a + 1) (told := told) (l := l) hm
  have z1 : 1 ≤ PySem.sizeLine := by decide
  have z2 : 1 < PySem.sizeLine := by decide
  have z3 : 2 < PySem.sizeLine := by decide
  have z4 : 3 < PySem.sizeLine := by decide
  obtain ⟨a1, a2, a3, a4, a5⟩ := ad a
  rw [ho] at h
  unfold mh at h h1 ⊢
  simp [i_RawMemory_instruction_at, h, h1, a1, a2, a3, a4, a5, z1, z2, z3, z4, T1, C1, C4, C5, r20, r21_push, forStep, loopFor, seqI, stays, watchOf, noRef, noRefs, List.lookup, CN.forM, evalE, evalT, evalEs, evalO, evalC, evalI, evalSs, evalS, evP, evPs, evO, evC, evI, pE, consL, pick, and2, or2, andT2, orT2, callM, callvM, makeM, madeBy, methM, biM, bmM, attrM, idxM, slM, soM, tupM, lstM, boxed, binM, cmpM, isNM, chainM, CN.notM, notT, negM, iteM, varM, asgM, subM, fldM, parM, augM, augfM, CN.forM, thruM, truly, assignTg, setAll, startE, fin, back, truth, binop, slop, bifun, bmeth, bmTy, seqAt, lstAt, tyName, isi, isNd, lenOk, putN, augop]

theorem r51_pop {mem boxes : List Int} {at_ top a : Int} {told : List D} (hm : 0 < mem.length) (hb : ∀ x ∈ mem, 0 ≤ x ∧ x < 256) (ho : cell mem a = 17) : runFn T wf (k + 5) 51 [.ref 1, .int a] (mh mem boxes at_ top told []) = .ok (.tup [.str "pop", .int (cell mem (a + 1) % 8)]) (mh mem boxes at_ top told []) := by
  rw [rf (f := i_RawMemory_instruction_at) rfl rfl]
  have h := r46 (wf := wf) (k := k + 2) (boxes := boxes) (at_ := at_) (top := top) (a := a) (told := told) (l := []) hm
  have h1 := fun l => r50_box (wf := wf) (k := k) (boxes := boxes) (at_ := at_) (top := top) (a := a + 1) (told := told) (l := l) hm
  have z1 : 1 ≤ PySem.sizeLine := by decide
  have z2 : 1 < PySem.sizeLine := by decide
  have z3 : 2 < PySem.sizeLine := by decide
  have z4 : 3 < PySem.sizeLine := by decide
  obtain ⟨a1, a2, a3, a4, a5⟩ := ad a
  rw [ho] at h
  unfold mh at h h1 ⊢
  simp [i_RawMemory_instruction_at, h, h1, a1, a2, a3, a4, a5, z1, z2, z3, z4, T1, C1, C4, C5, r20, r21_pop, forStep, loopFor, seqI, stays, watchOf, noRef, noRefs, List.lookup, CN.forM, evalE, evalT, evalEs, evalO, evalC, evalI, evalSs, evalS, evP, evPs, evO, evC, evI, pE, consL, pick, and2, or2, andT2, orT2, callM, callvM, makeM, madeBy, methM, biM, bmM, attrM, idxM, slM, soM, tupM, lstM, boxed, binM, cmpM, isNM, chainM, CN.notM, notT, negM, iteM, varM, asgM, subM, fldM, parM, augM, augfM, CN.forM, thruM, truly, assignTg, setAll, startE, fin, back, truth, binop, slop, bifun, bmeth, bmTy, seqAt, lstAt, tyName, isi, isNd, lenOk, putN, augop]

theorem r51_stop {mem boxes : List Int} {at_ top a : Int} {told : List D} (hm : 0 < mem.length) (hb : ∀ x ∈ mem, 0 ≤ x ∧ x < 256) (ho : cell mem a = 19) : runFn T wf (k + 5) 51 [.ref 1, .int a] (mh mem boxes at_ top told []) = .ok (.tup [.str "stop"]) (mh mem boxes at_ top told []) := by
  rw [rf (f := i_RawMemory_instruction_at) rfl rfl]
  have h := r46 (wf := wf) (k := k + 2) (boxes := boxes) (at_ := at_) (top := top) (a := a) (told := told) (l := []) hm
  have z1 : 1 ≤ PySem.sizeLine := by decide
  have z2 : 1 < PySem.sizeLine := by decide
  have z3 : 2 < PySem.sizeLine := by decide
  have z4 : 3 < PySem.sizeLine := by decide
  obtain ⟨a1, a2, a3, a4, a5⟩ := ad a
  rw [ho] at h
  unfold mh at h ⊢
  simp [i_RawMemory_instruction_at, h, a1, a2, a3, a4, a5, z1, z2, z3, z4, T1, C1, C4, C5, r20, r21_stop, forStep, loopFor, seqI, stays, watchOf, noRef, noRefs, List.lookup, CN.forM, evalE, evalT, evalEs, evalO, evalC, evalI, evalSs, evalS, evP, evPs, evO, evC, evI, pE, consL, pick, and2, or2, andT2, orT2, callM, callvM, makeM, madeBy, methM, biM, bmM, attrM, idxM, slM, soM, tupM, lstM, boxed, binM, cmpM, isNM, chainM, CN.notM, notT, negM, iteM, varM, asgM, subM, fldM, parM, augM, augfM, CN.forM, thruM, truly, assignTg, setAll, startE, fin, back, truth, binop, slop, bifun, bmeth, bmTy, seqAt, lstAt, tyName, isi, isNd, lenOk, putN, augop]

end K69
set_option Elab.async false
set_option linter.all false
set_option maxRecDepth 100000
set_option maxHeartbeats 4000000
/-! P4: the deeds. -/
namespace K69
open CN
variable {wf k : Nat}
def bx (boxes : List Int) (r : Int) : Int := boxes.getD r.toNat 0
theorem atI_bx {boxes : List Int} {r : Int} (h0 : 0 ≤ r) (h1 : r < boxes.length) : L2.atI (boxes.map D.int) r = some (.int (bx boxes r)) := by
  obtain ⟨j, rfl⟩ : ∃ j : Nat, r = (j : Int) := ⟨r.toNat, by omega⟩
  have hl : j < boxes.length := by omega
  rw [atI_nat _ _ (by simpa using hl), List.getElem?_map, List.getElem?_eq_getElem hl]
  simp [bx, List.getD, hl]
theorem ixN_bx {boxes : List Int} {r : Int} (h0 : 0 ≤ r) (h1 : r < boxes.length) : L2.ixN boxes.length r = some r.toNat := by
  obtain ⟨j, rfl⟩ : ∃ j : Nat, r = (j : Int) := ⟨r.toNat, by omega⟩
  exact ixN_nat (by omega)
theorem r59 {mem boxes : List Int} {at_ top a : Int} {told : List D} {l : Hs} (hm : 0 < mem.length) : runFn T wf (k + 2) 59 [.ref 0, .int a] (mh mem boxes at_ top told l) = .ok .non (mh mem boxes (wrap mem a) top told l) := by
  rw [rf (f := i_RawMachine_go_to) rfl rfl]
  have h := r45 (wf := wf) (k := k) (boxes := boxes) (at_ := at_) (top := top) (a := a) (told := told) (l := l) hm
  unfold mh at h ⊢
  simp [i_RawMachine_go_to, h, T1, List.lookup, evalE, evalT, evalEs, evalO, evalC, evalI, evalSs, evalS, evP, evPs, evO, evC, evI, pE, consL, pick, and2, or2, andT2, orT2, callM, callvM, makeM, madeBy, methM, biM, bmM, attrM, idxM, slM, soM, tupM, lstM, boxed, binM, cmpM, isNM, chainM, CN.notM, notT, negM, iteM, varM, asgM, subM, fldM, parM, augM, augfM, CN.forM, thruM, truly, assignTg, setAll, startE, fin, back, truth, binop, slop, bifun, bmeth, bmTy, seqAt, lstAt, tyName, isi, isNd, lenOk, putN, augop]
theorem r60 {mem boxes : List Int} {at_ top d : Int} {told : List D} {l : Hs} (hm : 0 < mem.length) : runFn T wf (k + 2) 60 [.ref 0, .int d] (mh mem boxes at_ top told l) = .ok .non (mh mem boxes at_ (wrap mem (top + d)) told l) := by
  rw [rf (f := i_RawMachine_move_top) rfl rfl]
  have h := r45 (wf := wf) (k := k) (boxes := boxes) (at_ := at_) (top := top) (a := top + d) (told := told) (l := l) hm
  unfold mh at h ⊢
  simp [i_RawMachine_move_top, h, T1, List.lookup, evalE, evalT, evalEs, evalO, evalC, evalI, evalSs, evalS, evP, evPs, evO, evC, evI, pE, consL, pick, and2, or2, andT2, orT2, callM, callvM, makeM, madeBy, methM, biM, bmM, attrM, idxM, slM, soM, tupM, lstM, boxed, binM, cmpM, isNM, chainM, CN.notM, notT, negM, iteM, varM, asgM, subM, fldM, parM, augM, augfM, CN.forM, thruM, truly, assignTg, setAll, startE, fin, back, truth, binop, slop, bifun, bmeth, bmTy, seqAt, lstAt, tyName, isi, isNd, lenOk, putN, augop]
theorem r23 {mem boxes : List Int} {at_ top r n : Int} {told : List D} {l : Hs} {w : PySem.Str} (h0 : 0 ≤ r) (h1 : r < boxes.length) : runFn T wf (k + 1) 23 [.ref 0, .tup [.str w, .int r, .int n]] (mh mem boxes at_ top told l) = .ok .non (mh mem (boxes.set r.toNat n) at_ top told l) := by
  rw [rf (f := i_raw_set) rfl rfl]
  unfold mh
  simp [i_raw_set, ixN_bx h0 h1, List.lookup, evalE, evalT, evalEs, evalO, evalC, evalI, evalSs, evalS, evP, evPs, evO, evC, evI, pE, consL, pick, and2, or2, andT2, orT2, callM, callvM, makeM, madeBy, methM, biM, bmM, attrM, idxM, slM, soM, tupM, lstM, boxed, binM, cmpM, isNM, chainM, CN.notM, notT, negM, iteM, varM, asgM, subM, fldM, parM, augM, augfM, CN.forM, thruM, truly, assignTg, setAll, startE, fin, back, truth, binop, slop, bifun, bmeth, bmTy, seqAt, lstAt, tyName, isi, isNd, lenOk, putN, augop]
theorem r26_add (a b : Int) (s : Hs) : runFn T wf (k + 1) 26 [.str "add", .int a, .int b] s = .ok (.int ((a + b) % 256)) s := by
  rw [rf (f := i_sum_of) rfl rfl]
  have e2 : (a + b).fmod 256 = (a + b) % 256 := Int.fmod_eq_emod_of_nonneg _ (by decide)
  simp [i_sum_of, C2, e2, evalE, evalT, evalEs, evalO, evalC, evalI, evalSs, evalS, evP, evPs, evO, evC, evI, pE, consL, pick, and2, or2, andT2, orT2, callM, callvM, makeM, madeBy, methM, biM, bmM, attrM, idxM, slM, soM, tupM, lstM, boxed, binM, cmpM, isNM, chainM, CN.notM, notT, negM, iteM, varM, asgM, subM, fldM, parM, augM, augfM, CN.forM, thruM, truly, assignTg, setAll, startE, fin, back, truth, binop, slop, bifun, bmeth, bmTy, seqAt, lstAt, tyName, isi, isNd, lenOk, putN, augop]
theorem r26_sub (a b : Int) (s : Hs) : runFn T wf (k + 1) 26 [.str "sub", .int a, .int b] s = .ok (.int ((a - b) % 256)) s := by
  rw [rf (f := i_sum_of) rfl rfl]
  have e2 : (a - b).fmod 256 = (a - b) % 256 := Int.fmod_eq_emod_of_nonneg _ (by decide)
  simp [i_sum_of, C2, e2, evalE, evalT, evalEs, evalO, evalC, evalI, evalSs, evalS, evP, evPs, evO, evC, evI, pE, consL, pick, and2, or2, andT2, orT2, callM, callvM, makeM, madeBy, methM, biM, bmM, attrM, idxM, slM, soM, tupM, lstM, boxed, binM, cmpM, isNM, chainM, CN.notM, notT, negM, iteM, varM, asgM, subM, fldM, parM, augM, augfM, CN.forM, thruM, truly, assignTg, setAll, startE, fin, back, truth, binop, slop, bifun, bmeth, bmTy, seqAt, lstAt, tyName, isi, isNd, lenOk, putN, augop]
theorem r26_mul (a b : Int) (s : Hs) (h : inRng a = true) : runFn T wf (k + 1) 26 [.str "mul", .int a, .int b] s = .ok (.int ((a * b) % 256)) s := by
  rw [rf (f := i_sum_of) rfl rfl]
  have e2 : (a * b).fmod 256 = (a * b) % 256 := Int.fmod_eq_emod_of_nonneg _ (by decide)
  simp [i_sum_of, C2, e2, h, evalE, evalT, evalEs, evalO, evalC, evalI, evalSs, evalS, evP, evPs, evO, evC, evI, pE, consL, pick, and2, or2, andT2, orT2, callM, callvM, makeM, madeBy, methM, biM, bmM, attrM, idxM, slM, soM, tupM, lstM, boxed, binM, cmpM, isNM, chainM, CN.notM, notT, negM, iteM, varM, asgM, subM, fldM, parM, augM, augfM, CN.forM, thruM, truly, assignTg, setAll, startE, fin, back, truth, binop, slop, bifun, bmeth, bmTy, seqAt, lstAt, tyName, isi, isNd, lenOk, putN, augop]
theorem r25 {mem boxes : List Int} {at_ top r s t v : Int} {told : List D} {l : Hs} {w : PySem.Str} (h0 : 0 ≤ r) (h1 : r < boxes.length) (h2 : 0 ≤ s) (h3 : s < boxes.length) (h4 : 0 ≤ t) (h5 : t < boxes.length)
    (hs : ∀ S, runFn T wf (k + 1) 26 [.str w, .int (bx boxes s), .int (bx boxes t)] S = .ok (.int v) S) : runFn T wf (k + 2) 25 [.ref 0, .tup [.str w, .int r, .int s, .int t]] (mh mem boxes at_ top told l) = .ok .non (mh mem (boxes.set r.toNat v) at_ top told l) := by
  rw [rf (f := i_raw_sum) rfl rfl]
  unfold mh
  simp [i_raw_sum, hs, ixN_bx h0 h1, atI_bx h2 h3, atI_bx h4 h5, List.lookup, evalE, evalT, evalEs, evalO, evalC, evalI, evalSs, evalS, evP, evPs, evO, evC, evI, pE, consL, pick, and2, or2, andT2, orT2, callM, callvM, makeM, madeBy, methM, biM, bmM, attrM, idxM, slM, soM, tupM, lstM, boxed, binM, cmpM, isNM, chainM, CN.notM, notT, negM, iteM, varM, asgM, subM, fldM, parM, augM, augfM, CN.forM, thruM, truly, assignTg, setAll, startE, fin, back, truth, binop, slop, bifun, bmeth, bmTy, seqAt, lstAt, tyName, isi, isNd, lenOk, putN, augop]
theorem r56 {mem boxes : List Int} {at_ top : Int} {told : List D} {l : Hs} {d : D} (h : told.length < 10) : runFn T wf (k + 1) 56 [.ref 4, d] (mh mem boxes at_ top told l) = .ok .non (mh mem boxes at_ top (told ++ [d]) l) := by
  rw [rf (f := i_Outside_tell) rfl rfl]
  have hz : told.length < PySem.sizeLine := Nat.lt_trans h (by decide)
  unfold mh
  simp [i_Outside_tell, hz, List.lookup, evalE, evalT, evalEs, evalO, evalC, evalI, evalSs, evalS, evP, evPs, evO, evC, evI, pE, consL, pick, and2, or2, andT2, orT2, callM, callvM, makeM, madeBy, methM, biM, bmM, attrM, idxM, slM, soM, tupM, lstM, boxed, binM, cmpM, isNM, chainM, CN.notM, notT, negM, iteM, varM, asgM, subM, fldM, parM, augM, augfM, CN.forM, thruM, truly, assignTg, setAll, startE, fin, back, truth, binop, slop, bifun, bmeth, bmTy, seqAt, lstAt, tyName, isi, isNd, lenOk, putN, augop]
theorem r30 {mem boxes : List Int} {at_ top r : Int} {told : List D} {l : Hs} {w : PySem.Str} (h : told.length < 10) (h0 : 0 ≤ r) (h1 : r < boxes.length) : runFn T wf (k + 2) 30 [.ref 0, .tup [.str w, .int r]] (mh mem boxes at_ top told l) = .ok .non (mh mem boxes at_ top (told ++ [.tup [.str "tell", .int (bx boxes r)]]) l) := by
  rw [rf (f := i_raw_tell) rfl rfl]
  have q := r56 (wf := wf) (k := k) (mem := mem) (boxes := boxes) (at_ := at_) (top := top) (told := told) (l := l) (d := .tup [.str "tell", .int (bx boxes r)]) h
  have z : 2 ≤ PySem.sizeLine := by decide
  unfold mh at q ⊢
  simp [i_raw_tell, q, z, T2, atI_bx h0 h1, List.lookup, evalE, evalT, evalEs, evalO, evalC, evalI, evalSs, evalS, evP, evPs, evO, evC, evI, pE, consL, pick, and2, or2, andT2, orT2, callM, callvM, makeM, madeBy, methM, biM, bmM, attrM, idxM, slM, soM, tupM, lstM, boxed, binM, cmpM, isNM, chainM, CN.notM, notT, negM, iteM, varM, asgM, subM, fldM, parM, augM, augfM, CN.forM, thruM, truly, assignTg, setAll, startE, fin, back, truth, binop, slop, bifun, bmeth, bmTy, seqAt, lstAt, tyName, isi, isNd, lenOk, putN, augop]
theorem r34_less (a b : Int) (s : Hs) : runFn T wf (k + 1) 34 [.str "less", .int a, .int b] s = .ok (.bl (decide (a < b))) s := by
  rw [rf (f := i_test_holds) rfl rfl]
  simp [i_test_holds, evalE, evalT, evalEs, evalO, evalC, evalI, evalSs, evalS, evP, evPs, evO, evC, evI, pE, consL, pick, and2, or2, andT2, orT2, callM, callvM, makeM, madeBy, methM, biM, bmM, attrM, idxM, slM, soM, tupM, lstM, boxed, binM, cmpM, isNM, chainM, CN.notM, notT, negM, iteM, varM, asgM, subM, fldM, parM, augM, augfM, CN.forM, thruM, truly, assignTg, setAll, startE, fin, back, truth, binop, slop, bifun, bmeth, bmTy, seqAt, lstAt, tyName, isi, isNd, lenOk, putN, augop]
theorem r33 {mem boxes : List Int} {at_ top s t a : Int} {told : List D} {l : Hs} (hm : 0 < mem.length) (h2 : 0 ≤ s) (h3 : s < boxes.length) (h4 : 0 ≤ t) (h5 : t < boxes.length) : runFn T wf (k + 3) 33 [.ref 0, .tup [.str "less", .int s, .int t, .int a]] (mh mem boxes at_ top told l) = .ok .non (mh mem boxes (if bx boxes s < bx boxes t then wrap mem a else at_) top told l) := by
  rw [rf (f := i_raw_test) rfl rfl]
  have q := r59 (wf := wf) (k := k) (boxes := boxes) (at_ := at_) (top := top) (a := a) (told := told) (l := l) hm
  by_cases hc : bx boxes s < bx boxes t
  · unfold mh at q ⊢
    simp [i_raw_test, r34_less, q, hc, T0, atI_bx h2 h3, atI_bx h4 h5, List.lookup, evalE, evalT, evalEs, evalO, evalC, evalI, evalSs, evalS, evP, evPs, evO, evC, evI, pE, consL, pick, and2, or2, andT2, orT2, callM, callvM, makeM, madeBy, methM, biM, bmM, attrM, idxM, slM, soM, tupM, lstM, boxed, binM, cmpM, isNM, chainM, CN.notM, notT, negM, iteM, varM, asgM, subM, fldM, parM, augM, augfM, CN.forM, thruM, truly, assignTg, setAll, startE, fin, back, truth, binop, slop, bifun, bmeth, bmTy, seqAt, lstAt, tyName, isi, isNd, lenOk, putN, augop]
  · unfold mh at q ⊢
    simp [i_raw_test, r34_less, q, hc, T0, atI_bx h2 h3, atI_bx h4 h5, List.lookup, evalE, evalT, evalEs, evalO, evalC, evalI, evalSs, evalS, evP, evPs, evO, evC, evI, pE, consL, pick, and2, or2, andT2, orT2, callM, callvM, makeM, madeBy, methM, biM, bmM, attrM, idxM, slM, soM, tupM, lstM, boxed, binM, cmpM, isNM, chainM, CN.notM, notT, negM, iteM, varM, asgM, subM, fldM, parM, augM, augfM, CN.forM, thruM, truly, assignTg, setAll, startE, fin, back, truth, binop, slop, bifun, bmeth, bmTy, seqAt, lstAt, tyName, isi, isNd, lenOk, putN, augop]
theorem r36 {mem boxes : List Int} {at_ top a : Int} {told : List D} {l : Hs} (hm : 0 < mem.length) : runFn T wf (k + 4) 36 [.ref 0, .tup [.str "call", .int a]] (mh mem boxes at_ top told l) = .ok .non (mh (put (put mem (wrap mem (top - 2)) (at_ / 256)) (wrap mem (top - 2) + 1) (at_ % 256)) boxes (wrap mem a) (wrap mem (top - 2)) told l) := by
  rw [rf (f := i_raw_call) rfl rfl]
  have e : top + -2 = top - 2 := by omega
  have q1 := r60 (wf := wf) (k := k + 1) (boxes := boxes) (at_ := at_) (top := top) (d := -2) (told := told) (l := l) hm
  have q2 := r49 (wf := wf) (k := k) (boxes := boxes) (at_ := at_) (top := wrap mem (top - 2)) (a := wrap mem (top - 2)) (x := at_) (told := told) (l := l) hm
  have q3 := r59 (wf := wf) (k := k + 1) (mem := put (put mem (wrap mem (top - 2)) (at_ / 256)) (wrap mem (top - 2) + 1) (at_ % 256)) (boxes := boxes) (at_ := at_) (top := wrap mem (top - 2)) (a := a) (told := told) (l := l) (by simpa using hm)
  rw [e] at q1
  simp only [wrap_put] at q3
  unfold mh at q1 q2 q3 ⊢
  simp only [put_len] at q2 q3 ⊢
  simp [i_raw_call, q1, q2, q3, T0, T1, List.lookup, evalE, evalT, evalEs, evalO, evalC, evalI, evalSs, evalS, evP, evPs, evO, evC, evI, pE, consL, pick, and2, or2, andT2, orT2, callM, callvM, makeM, madeBy, methM, biM, bmM, attrM, idxM, slM, soM, tupM, lstM, boxed, binM, cmpM, isNM, chainM, CN.notM, notT, negM, iteM, varM, asgM, subM, fldM, parM, augM, augfM, CN.forM, thruM, truly, assignTg, setAll, startE, fin, back, truth, binop, slop, bifun, bmeth, bmTy, seqAt, lstAt, tyName, isi, isNd, lenOk, putN, augop]
theorem r38 {mem boxes : List Int} {at_ top r : Int} {told : List D} {l : Hs} (hm : 0 < mem.length) (h0 : 0 ≤ r) (h1 : r < boxes.length) : runFn T wf (k + 4) 38 [.ref 0, .tup [.str "push", .int r]] (mh mem boxes at_ top told l) = .ok .non (mh (put mem (wrap mem (top - 1)) (bx boxes r)) boxes at_ (wrap mem (top - 1)) told l) := by
  rw [rf (f := i_raw_push) rfl rfl]
  have e : top + -1 = top - 1 := by omega
  have q1 := r60 (wf := wf) (k := k + 1) (boxes := boxes) (at_ := at_) (top := top) (d := -1) (told := told) (l := l) hm
  have q2 := r47 (wf := wf) (k := k + 1) (boxes := boxes) (at_ := at_) (top := wrap mem (top - 1)) (a := wrap mem (top - 1)) (b := bx boxes r) (told := told) (l := l) hm
  rw [e] at q1
  unfold mh at q1 q2 ⊢
  simp only [put_len] at q2 ⊢
  simp [i_raw_push, q1, q2, T0, T1, atI_bx h0 h1, List.lookup, evalE, evalT, evalEs, evalO, evalC, evalI, evalSs, evalS, evP, evPs, evO, evC, evI, pE, consL, pick, and2, or2, andT2, orT2, callM, callvM, makeM, madeBy, methM, biM, bmM, attrM, idxM, slM, soM, tupM, lstM, boxed, binM, cmpM, isNM, chainM, CN.notM, notT, negM, iteM, varM, asgM, subM, fldM, parM, augM, augfM, CN.forM, thruM, truly, assignTg, setAll, startE, fin, back, truth, binop, slop, bifun, bmeth, bmTy, seqAt, lstAt, tyName, isi, isNd, lenOk, putN, augop]
theorem r39 {mem boxes : List Int} {at_ top r : Int} {told : List D} {l : Hs} (hm : 0 < mem.length) (h0 : 0 ≤ r) (h1 : r < boxes.length) : runFn T wf (k + 4) 39 [.ref 0, .tup [.str "pop", .int r]] (mh mem boxes at_ top told l) = .ok .non (mh mem (boxes.set r.toNat (cell mem top)) at_ (wrap mem (top + 1)) told l) := by
  rw [rf (f := i_raw_pop) rfl rfl]
  have q1 := r46 (wf := wf) (k := k + 1) (boxes := boxes) (at_ := at_) (top := top) (a := top) (told := told) (l := l) hm
  have q2 := r60 (wf := wf) (k := k + 1) (boxes := boxes.set r.toNat (cell mem top)) (at_ := at_) (top := top) (d := 1) (told := told) (l := l) hm
  unfold mh at q1 q2 ⊢
  simp only [List.map_set] at q2 ⊢
  simp [i_raw_pop, q1, q2, T0, T1, ixN_bx h0 h1, List.lookup, evalE, evalT, evalEs, evalO, evalC, evalI, evalSs, evalS, evP, evPs, evO, evC, evI, pE, consL, pick, and2, or2, andT2, orT2, callM, callvM, makeM, madeBy, methM, biM, bmM, attrM, idxM, slM, soM, tupM, lstM, boxed, binM, cmpM, isNM, chainM, CN.notM, notT, negM, iteM, varM, asgM, subM, fldM, parM, augM, augfM, CN.forM, thruM, truly, assignTg, setAll, startE, fin, back, truth, binop, slop, bifun, bmeth, bmTy, seqAt, lstAt, tyName, isi, isNd, lenOk, putN, augop]
theorem r37 {mem boxes : List Int} {at_ top : Int} {told : List D} {l : Hs} (hm : 0 < mem.length) (hb : ∀ x ∈ mem, 0 ≤ x ∧ x < 256) : runFn T wf (k + 4) 37 [.ref 0, .tup [.str "back"]] (mh mem boxes at_ top told l) = .ok .non (mh mem boxes (wrap mem (cell mem top * 256 + cell mem (top + 1))) (wrap mem (top + 2)) told l) := by
  rw [rf (f := i_raw_back) rfl rfl]
  have q1 := r48 (wf := wf) (k := k) (boxes := boxes) (at_ := at_) (top := top) (a := top) (told := told) (l := l) hm hb
  have q2 := r59 (wf := wf) (k := k + 1) (boxes := boxes) (at_ := at_) (top := top) (a := cell mem top * 256 + cell mem (top + 1)) (told := told) (l := l) hm
  have q3 := r60 (wf := wf) (k := k + 1) (boxes := boxes) (at_ := wrap mem (cell mem top * 256 + cell mem (top + 1))) (top := top) (d := 2) (told := told) (l := l) hm
  unfold mh at q1 q2 q3 ⊢
  simp [i_raw_back, q1, q2, q3, T0, T1, List.lookup, evalE, evalT, evalEs, evalO, evalC, evalI, evalSs, evalS, evP, evPs, evO, evC, evI, pE, consL, pick, and2, or2, andT2, orT2, callM, callvM, makeM, madeBy, methM, biM, bmM, attrM, idxM, slM, soM, tupM, lstM, boxed, binM, cmpM, isNM, chainM, CN.notM, notT, negM, iteM, varM, asgM, subM, fldM, parM, augM, augfM, CN.forM, thruM, truly, assignTg, setAll, startE, fin, back, truth, binop, slop, bifun, bmeth, bmTy, seqAt, lstAt, tyName, isi, isNd, lenOk, putN, augop]
theorem r22_set (s : Hs) : runFn T wf (k + 1) 22 [.str "set"] s = .ok (.int 3) s := by
  rw [rf (f := i_length_of) rfl rfl]
  rfl
theorem r22_call (s : Hs) : runFn T wf (k + 1) 22 [.str "call"] s = .ok (.int 3) s := by
  rw [rf (f := i_length_of) rfl rfl]
  rfl
theorem r22_sub (s : Hs) : runFn T wf (k + 1) 22 [.str "sub"] s = .ok (.int 4) s := by
  rw [rf (f := i_length_of) rfl rfl]
  rfl
theorem r22_less (s : Hs) : runFn T wf (k + 1) 22 [.str "less"] s = .ok (.int 5) s := by
  rw [rf (f := i_length_of) rfl rfl]
  rfl
theorem r22_tell (s : Hs) : runFn T wf (k + 1) 22 [.str "tell"] s = .ok (.int 2) s := by
  rw [rf (f := i_length_of) rfl rfl]
  rfl
theorem r22_stop (s : Hs) : runFn T wf (k + 1) 22 [.str "stop"] s = .ok (.int 1) s := by
  rw [rf (f := i_length_of) rfl rfl]
  rfl
theorem r22_push (s : Hs) : runFn T wf (k + 1) 22 [.str "push"] s = .ok (.int 2) s := by
  rw [rf (f := i_length_of) rfl rfl]
  rfl
theorem r22_add (s : Hs) : runFn T wf (k + 1) 22 [.str "add"] s = .ok (.int 4) s := by
  rw [rf (f := i_length_of) rfl rfl]
  rfl
theorem r22_mul (s : Hs) : runFn T wf (k + 1) 22 [.str "mul"] s = .ok (.int 4) s := by
  rw [rf (f := i_length_of) rfl rfl]
  rfl
theorem r22_pop (s : Hs) : runFn T wf (k + 1) 22 [.str "pop"] s = .ok (.int 2) s := by
  rw [rf (f := i_length_of) rfl rfl]
  rfl
theorem r22_back (s : Hs) : runFn T wf (k + 1) 22 [.str "back"] s = .ok (.int 1) s := by
  rw [rf (f := i_length_of) rfl rfl]
  rfl
end K69
set_option Elab.async false
set_option linter.all false
set_option maxRecDepth 100000
set_option maxHeartbeats 4000000
/-! P5: one turn of the machine. -/
namespace K69
open CN
variable {wf k : Nat}
theorem r63_set {mem boxes : List Int} {at_ top : Int} {x0 x1 : Int} {told : List D} {S : Hs} (hm : 0 < mem.length) (h : runFn T wf (k + 4) 23 [.ref 0, .tup [.str "set", .int x0, .int x1]] (mh mem boxes (wrap mem (at_ + 3)) top told []) = .ok .non S) : runFn T wf (k + 5) 63 [.ref 0, .tup [.str "set", .int x0, .int x1]] (mh mem boxes at_ top told []) = .ok .non S := by
  rw [rf (f := i_RawMachine_do) rfl rfl]
  have q := r59 (wf := wf) (k := k + 2) (boxes := boxes) (at_ := at_) (top := top) (a := at_ + 3) (told := told) (l := []) hm
  unfold mh at q h ⊢
  simp [i_RawMachine_do, q, h, r22_set, C8, T0, List.lookup, evalE, evalT, evalEs, evalO, evalC, evalI, evalSs, evalS, evP, evPs, evO, evC, evI, pE, consL, pick, and2, or2, andT2, orT2, callM, callvM, makeM, madeBy, methM, biM, bmM, attrM, idxM, slM, soM, tupM, lstM, boxed, binM, cmpM, isNM, chainM, CN.notM, notT, negM, iteM, varM, asgM, subM, fldM, parM, augM, augfM, CN.forM, thruM, truly, assignTg, setAll, startE, fin, back, truth, binop, slop, bifun, bmeth, bmTy, seqAt, lstAt, tyName, isi, isNd, lenOk, putN, augop]
theorem r63_call {mem boxes : List Int} {at_ top : Int} {x0 : Int} {told : List D} {S : Hs} (hm : 0 < mem.length) (h : runFn T wf (k + 4) 36 [.ref 0, .tup [.str "call", .int x0]] (mh mem boxes (wrap mem (at_ + 3)) top told []) = .ok .non S) : runFn T wf (k + 5) 63 [.ref 0, .tup [.str "call", .int x0]] (mh mem boxes at_ top told []) = .ok .non S := by
  rw [rf (f := i_RawMachine_do) rfl rfl]
  have q := r59 (wf := wf) (k := k + 2) (boxes := boxes) (at_ := at_) (top := top) (a := at_ + 3) (told := told) (l := []) hm
  unfold mh at q h ⊢
  simp [i_RawMachine_do, q, h, r22_call, C8, T0, List.lookup, evalE, evalT, evalEs, evalO, evalC, evalI, evalSs, evalS, evP, evPs, evO, evC, evI, pE, consL, pick, and2, or2, andT2, orT2, callM, callvM, makeM, madeBy, methM, biM, bmM, attrM, idxM, slM, soM, tupM, lstM, boxed, binM, cmpM, isNM, chainM, CN.notM, notT, negM, iteM, varM, asgM, subM, fldM, parM, augM, augfM, CN.forM, thruM, truly, assignTg, setAll, startE, fin, back, truth, binop, slop, bifun, bmeth, bmTy, seqAt, lstAt, tyName, isi, isNd, lenOk, putN, augop]
theorem r63_sub {mem boxes : List Int} {at_ top : Int} {x0 x1 x2 : Int} {told : List D} {S : Hs} (hm : 0 < mem.length) (h : runFn T wf (k + 4) 25 [.ref 0, .tup [.str "sub", .int x0, .int x1, .int x2]] (mh mem boxes (wrap mem (at_ + 4)) top told []) = .ok .non S) : runFn T wf (k + 5) 63 [.ref 0, .tup [.str "sub", .int x0, .int x1, .int x2]] (mh mem boxes at_ top told []) = .ok .non S := by
  rw [rf (f := i_RawMachine_do) rfl rfl]
  have q := r59 (wf := wf) (k := k + 2) (boxes := boxes) (at_ := at_) (top := top) (a := at_ + 4) (told := told) (l := []) hm
  unfold mh at q h ⊢
  simp [i_RawMachine_do, q, h, r22_sub, C8, T0, List.lookup, evalE, evalT, evalEs, evalO, evalC, evalI, evalSs, evalS, evP, evPs, evO, evC, evI, pE, consL, pick, and2, or2, andT2, orT2, callM, callvM, makeM, madeBy, methM, biM, bmM, attrM, idxM, slM, soM, tupM, lstM, boxed, binM, cmpM, isNM, chainM, CN.notM, notT, negM, iteM, varM, asgM, subM, fldM, parM, augM, augfM, CN.forM, thruM, truly, assignTg, setAll, startE, fin, back, truth, binop, slop, bifun, bmeth, bmTy, seqAt, lstAt, tyName, isi, isNd, lenOk, putN, augop]
theorem r63_less {mem boxes : List Int} {at_ top : Int} {x0 x1 x2 : Int} {told : List D} {S : Hs} (hm : 0 < mem.length) (h : runFn T wf (k + 4) 33 [.ref 0, .tup [.str "less", .int x0, .int x1, .int x2]] (mh mem boxes (wrap mem (at_ + 5)) top told []) = .ok .non S) : runFn T wf (k + 5) 63 [.ref 0, .tup [.str "less", .int x0, .int x1, .int x2]] (mh mem boxes at_ top told []) = .ok .non S := by
  rw [rf (f := i_RawMachine_do) rfl rfl]
  have q := r59 (wf := wf) (k := k + 2) (boxes := boxes) (at_ := at_) (top := top) (a := at_ + 5) (told := told) (l := []) hm
  unfold mh at q h ⊢
  simp [i_RawMachine_do, q, h, r22_less, C8, T0, List.lookup, evalE, evalT, evalEs, evalO, evalC, evalI, evalSs, evalS, evP, evPs, evO, evC, evI, pE, consL, pick, and2, or2, andT2, orT2, callM, callvM, makeM, madeBy, methM, biM, bmM, attrM, idxM, slM, soM, tupM, lstM, boxed, binM, cmpM, isNM, chainM, CN.notM, notT, negM, iteM, varM, asgM, subM, fldM, parM, augM, augfM, CN.forM, thruM, truly, assignTg, setAll, startE, fin, back, truth, binop, slop, bifun, bmeth, bmTy, seqAt, lstAt, tyName, isi, isNd, lenOk, putN, augop]
theorem r63_tell {mem boxes : List Int} {at_ top : Int} {x0 : Int} {told : List D} {S : Hs} (hm : 0 < mem.length) (h : runFn T wf (k + 4) 30 [.ref 0, .tup [.str "tell", .int x0]] (mh mem boxes (wrap mem (at_ + 2)) top told []) = .ok .non S) : runFn T wf (k + 5) 63 [.ref 0, .tup [.str "tell", .int x0]] (mh mem boxes at_ top told []) = .ok .non S := by
  rw [rf (f := i_RawMachine_do) rfl rfl]
  have q := r59 (wf := wf) (k := k + 2) (boxes := boxes) (at_ := at_) (top := top) (a := at_ + 2) (told := told) (l := []) hm
  unfold mh at q h ⊢
  simp [i_RawMachine_do, q, h, r22_tell, C8, T0, List.lookup, evalE, evalT, evalEs, evalO, evalC, evalI, evalSs, evalS, evP, evPs, evO, evC, evI, pE, consL, pick, and2, or2, andT2, orT2, callM, callvM, makeM, madeBy, methM, biM, bmM, attrM, idxM, slM, soM, tupM, lstM, boxed, binM, cmpM, isNM, chainM, CN.notM, notT, negM, iteM, varM, asgM, subM, fldM, parM, augM, augfM, CN.forM, thruM, truly, assignTg, setAll, startE, fin, back, truth, binop, slop, bifun, bmeth, bmTy, seqAt, lstAt, tyName, isi, isNd, lenOk, putN, augop]
theorem r63_push {mem boxes : List Int} {at_ top : Int} {x0 : Int} {told : List D} {S : Hs} (hm : 0 < mem.length) (h : runFn T wf (k + 4) 38 [.ref 0, .tup [.str "push", .int x0]] (mh mem boxes (wrap mem (at_ + 2)) top told []) = .ok .non S) : runFn T wf (k + 5) 63 [.ref 0, .tup [.str "push", .int x0]] (mh mem boxes at_ top told []) = .ok .non S := by
  rw [rf (f := i_RawMachine_do) rfl rfl]
  have q := r59 (wf := wf) (k := k + 2) (boxes := boxes) (at_ := at_) (top := top) (a := at_ + 2) (told := told) (l := []) hm
  unfold mh at q h ⊢
  simp [i_RawMachine_do, q, h, r22_push, C8, T0, List.lookup, evalE, evalT, evalEs, evalO, evalC, evalI, evalSs, evalS, evP, evPs, evO, evC, evI, pE, consL, pick, and2, or2, andT2, orT2, callM, callvM, makeM, madeBy, methM, biM, bmM, attrM, idxM, slM, soM, tupM, lstM, boxed, binM, cmpM, isNM, chainM, CN.notM, notT, negM, iteM, varM, asgM, subM, fldM, parM, augM, augfM, CN.forM, thruM, truly, assignTg, setAll, startE, fin, back, truth, binop, slop, bifun, bmeth, bmTy, seqAt, lstAt, tyName, isi, isNd, lenOk, putN, augop]
theorem r63_add {mem boxes : List Int} {at_ top : Int} {x0 x1 x2 : Int} {told : List D} {S : Hs} (hm : 0 < mem.length) (h : runFn T wf (k + 4) 25 [.ref 0, .tup [.str "add", .int x0, .int x1, .int x2]] (mh mem boxes (wrap mem (at_ + 4)) top told []) = .ok .non S) : runFn T wf (k + 5) 63 [.ref 0, .tup [.str "add", .int x0, .int x1, .int x2]] (mh mem boxes at_ top told []) = .ok .non S := by
  rw [rf (f := i_RawMachine_do) rfl rfl]
  have q := r59 (wf := wf) (k := k + 2) (boxes := boxes) (at_ := at_) (top := top) (a := at_ + 4) (told := told) (l := []) hm
  unfold mh at q h ⊢
  simp [i_RawMachine_do, q, h, r22_add, C8, T0, List.lookup, evalE, evalT, evalEs, evalO, evalC, evalI, evalSs, evalS, evP, evPs, evO, evC, evI, pE, consL, pick, and2, or2, andT2, orT2, callM, callvM, makeM, madeBy, methM, biM, bmM, attrM, idxM, slM, soM, tupM, lstM, boxed, binM, cmpM, isNM, chainM, CN.notM, notT, negM, iteM, varM, asgM, subM, fldM, parM, augM, augfM, CN.forM, thruM, truly, assignTg, setAll, startE, fin, back, truth, binop, slop, bifun, bmeth, bmTy, seqAt, lstAt, tyName, isi, isNd, lenOk, putN, augop]
theorem r63_mul {mem boxes : List Int} {at_ top : Int} {x0 x1 x2 : Int} {told : List D} {S : Hs} (hm : 0 < mem.length) (h : runFn T wf (k + 4) 25 [.ref 0, .tup [.str "mul", .int x0, .int x1, .int x2]] (mh mem boxes (wrap mem (at_ + 4)) top told []) = .ok .non S) : runFn T wf (k + 5) 63 [.ref 0, .tup [.str "mul", .int x0, .int x1, .int x2]] (mh mem boxes at_ top told []) = .ok .non S := by
  rw [rf (f := i_RawMachine_do) rfl rfl]
  have q := r59 (wf := wf) (k := k + 2) (boxes := boxes) (at_ := at_) (top := top) (a := at_ + 4) (told := told) (l := []) hm
  unfold mh at q h ⊢
  simp [i_RawMachine_do, q, h, r22_mul, C8, T0, List.lookup, evalE, evalT, evalEs, evalO, evalC, evalI, evalSs, evalS, evP, evPs, evO, evC, evI, pE, consL, pick, and2, or2, andT2, orT2, callM, callvM, makeM, madeBy, methM, biM, bmM, attrM, idxM, slM, soM, tupM, lstM, boxed, binM, cmpM, isNM, chainM, CN.notM, notT, negM, iteM, varM, asgM, subM, fldM, parM, augM, augfM, CN.forM, thruM, truly, assignTg, setAll, startE, fin, back, truth, binop, slop, bifun, bmeth, bmTy, seqAt, lstAt, tyName, isi, isNd, lenOk, putN, augop]
theorem r63_pop {mem boxes : List Int} {at_ top : Int} {x0 : Int} {told : List D} {S : Hs} (hm : 0 < mem.length) (h : runFn T wf (k + 4) 39 [.ref 0, .tup [.str "pop", .int x0]] (mh mem boxes (wrap mem (at_ + 2)) top told []) = .ok .non S) : runFn T wf (k + 5) 63 [.ref 0, .tup [.str "pop", .int x0]] (mh mem boxes at_ top told []) = .ok .non S := by
  rw [rf (f := i_RawMachine_do) rfl rfl]
  have q := r59 (wf := wf) (k := k + 2) (boxes := boxes) (at_ := at_) (top := top) (a := at_ + 2) (told := told) (l := []) hm
  unfold mh at q h ⊢
  simp [i_RawMachine_do, q, h, r22_pop, C8, T0, List.lookup, evalE, evalT, evalEs, evalO, evalC, evalI, evalSs, evalS, evP, evPs, evO, evC, evI, pE, consL, pick, and2, or2, andT2, orT2, callM, callvM, makeM, madeBy, methM, biM, bmM, attrM, idxM, slM, soM, tupM, lstM, boxed, binM, cmpM, isNM, chainM, CN.notM, notT, negM, iteM, varM, asgM, subM, fldM, parM, augM, augfM, CN.forM, thruM, truly, assignTg, setAll, startE, fin, back, truth, binop, slop, bifun, bmeth, bmTy, seqAt, lstAt, tyName, isi, isNd, lenOk, putN, augop]
theorem r63_back {mem boxes : List Int} {at_ top : Int} {told : List D} {S : Hs} (hm : 0 < mem.length) (h : runFn T wf (k + 4) 37 [.ref 0, .tup [.str "back"]] (mh mem boxes (wrap mem (at_ + 1)) top told []) = .ok .non S) : runFn T wf (k + 5) 63 [.ref 0, .tup [.str "back"]] (mh mem boxes at_ top told []) = .ok .non S := by
  rw [rf (f := i_RawMachine_do) rfl rfl]
  have q := r59 (wf := wf) (k := k + 2) (boxes := boxes) (at_ := at_) (top := top) (a := at_ + 1) (told := told) (l := []) hm
  unfold mh at q h ⊢
  simp [i_RawMachine_do, q, h, r22_back, C8, T0, List.lookup, evalE, evalT, evalEs, evalO, evalC, evalI, evalSs, evalS, evP, evPs, evO, evC, evI, pE, consL, pick, and2, or2, andT2, orT2, callM, callvM, makeM, madeBy, methM, biM, bmM, attrM, idxM, slM, soM, tupM, lstM, boxed, binM, cmpM, isNM, chainM, CN.notM, notT, negM, iteM, varM, asgM, subM, fldM, parM, augM, augfM, CN.forM, thruM, truly, assignTg, setAll, startE, fin, back, truth, binop, slop, bifun, bmeth, bmTy, seqAt, lstAt, tyName, isi, isNd, lenOk, putN, augop]
theorem r62_set (s : Hs) (n : Nat) : runFn T wf (k + 2) 62 [.ref n, .str "set"] s = .ok (.bl false) s := by
  rw [rf (f := i_RawMachine_waits_at) rfl rfl]
  simp [i_RawMachine_waits_at, C6, C7, evalE, evalT, evalEs, evalO, evalC, evalI, evalSs, evalS, evP, evPs, evO, evC, evI, pE, consL, pick, and2, or2, andT2, orT2, callM, callvM, makeM, madeBy, methM, biM, bmM, attrM, idxM, slM, soM, tupM, lstM, boxed, binM, cmpM, isNM, chainM, CN.notM, notT, negM, iteM, varM, asgM, subM, fldM, parM, augM, augfM, CN.forM, thruM, truly, assignTg, setAll, startE, fin, back, truth, binop, slop, bifun, bmeth, bmTy, seqAt, lstAt, tyName, isi, isNd, lenOk, putN, augop]
theorem r62_call (s : Hs) (n : Nat) : runFn T wf (k + 2) 62 [.ref n, .str "call"] s = .ok (.bl false) s := by
  rw [rf (f := i_RawMachine_waits_at) rfl rfl]
  simp [i_RawMachine_waits_at, C6, C7, evalE, evalT, evalEs, evalO, evalC, evalI, evalSs, evalS, evP, evPs, evO, evC, evI, pE, consL, pick, and2, or2, andT2, orT2, callM, callvM, makeM, madeBy, methM, biM, bmM, attrM, idxM, slM, soM, tupM, lstM, boxed, binM, cmpM, isNM, chainM, CN.notM, notT, negM, iteM, varM, asgM, subM, fldM, parM, augM, augfM, CN.forM, thruM, truly, assignTg, setAll, startE, fin, back, truth, binop, slop, bifun, bmeth, bmTy, seqAt, lstAt, tyName, isi, isNd, lenOk, putN, augop]
theorem r62_sub (s : Hs) (n : Nat) : runFn T wf (k + 2) 62 [.ref n, .str "sub"] s = .ok (.bl false) s := by
  rw [rf (f := i_RawMachine_waits_at) rfl rfl]
  simp [i_RawMachine_waits_at, C6, C7, evalE, evalT, evalEs, evalO, evalC, evalI, evalSs, evalS, evP, evPs, evO, evC, evI, pE, consL, pick, and2, or2, andT2, orT2, callM, callvM, makeM, madeBy, methM, biM, bmM, attrM, idxM, slM, soM, tupM, lstM, boxed, binM, cmpM, isNM, chainM, CN.notM, notT, negM, iteM, varM, asgM, subM, fldM, parM, augM, augfM, CN.forM, thruM, truly, assignTg, setAll, startE, fin, back, truth, binop, slop, bifun, bmeth, bmTy, seqAt, lstAt, tyName, isi, isNd, lenOk, putN, augop]
theorem r62_less (s : Hs) (n : Nat) : runFn T wf (k + 2) 62 [.ref n, .str "less"] s = .ok (.bl false) s := by
  rw [rf (f := i_RawMachine_waits_at) rfl rfl]
  simp [i_RawMachine_waits_at, C6, C7, evalE, evalT, evalEs, evalO, evalC, evalI, evalSs, evalS, evP, evPs, evO, evC, evI, pE, consL, pick, and2, or2, andT2, orT2, callM, callvM, makeM, madeBy, methM, biM, bmM, attrM, idxM, slM, soM, tupM, lstM, boxed, binM, cmpM, isNM, chainM, CN.notM, notT, negM, iteM, varM, asgM, subM, fldM, parM, augM, augfM, CN.forM, thruM, truly, assignTg, setAll, startE, fin, back, truth, binop, slop, bifun, bmeth, bmTy, seqAt, lstAt, tyName, isi, isNd, lenOk, putN, augop]
theorem r62_tell (s : Hs) (n : Nat) : runFn T wf (k + 2) 62 [.ref n, .str "tell"] s = .ok (.bl false) s := by
  rw [rf (f := i_RawMachine_waits_at) rfl rfl]
  simp [i_RawMachine_waits_at, C6, C7, evalE, evalT, evalEs, evalO, evalC, evalI, evalSs, evalS, evP, evPs, evO, evC, evI, pE, consL, pick, and2, or2, andT2, orT2, callM, callvM, makeM, madeBy, methM, biM, bmM, attrM, idxM, slM, soM, tupM, lstM, boxed, binM, cmpM, isNM, chainM, CN.notM, notT, negM, iteM, varM, asgM, subM, fldM, parM, augM, augfM, CN.forM, thruM, truly, assignTg, setAll, startE, fin, back, truth, binop, slop, bifun, bmeth, bmTy, seqAt, lstAt, tyName, isi, isNd, lenOk, putN, augop]
theorem r62_push (s : Hs) (n : Nat) : runFn T wf (k + 2) 62 [.ref n, .str "push"] s = .ok (.bl false) s := by
  rw [rf (f := i_RawMachine_waits_at) rfl rfl]
  simp [i_RawMachine_waits_at, C6, C7, evalE, evalT, evalEs, evalO, evalC, evalI, evalSs, evalS, evP, evPs, evO, evC, evI, pE, consL, pick, and2, or2, andT2, orT2, callM, callvM, makeM, madeBy, methM, biM, bmM, attrM, idxM, slM, soM, tupM, lstM, boxed, binM, cmpM, isNM, chainM, CN.notM, notT, negM, iteM, varM, asgM, subM, fldM, parM, augM, augfM, CN.forM, thruM, truly, assignTg, setAll, startE, fin, back, truth, binop, slop, bifun, bmeth, bmTy, seqAt, lstAt, tyName, isi, isNd, lenOk, putN, augop]
theorem r62_add (s : Hs) (n : Nat) : runFn T wf (k + 2) 62 [.ref n, .str "add"] s = .ok (.bl false) s := by
  rw [rf (f := i_RawMachine_waits_at) rfl rfl]
  simp [i_RawMachine_waits_at, C6, C7, evalE, evalT, evalEs, evalO, evalC, evalI, evalSs, evalS, evP, evPs, evO, evC, evI, pE, consL, pick, and2, or2, andT2, orT2, callM, callvM, makeM, madeBy, methM, biM, bmM, attrM, idxM, slM, soM, tupM, lstM, boxed, binM, cmpM, isNM, chainM, CN.notM, notT, negM, iteM, varM, asgM, subM, fldM, parM, augM, augfM, CN.forM, thruM, truly, assignTg, setAll, startE, fin, back, truth, binop, slop, bifun, bmeth, bmTy, seqAt, lstAt, tyName, isi, isNd, lenOk, putN, augop]
theorem r62_mul (s : Hs) (n : Nat) : runFn T wf (k + 2) 62 [.ref n, .str "mul"] s = .ok (.bl false) s := by
  rw [rf (f := i_RawMachine_waits_at) rfl rfl]
  simp [i_RawMachine_waits_at, C6, C7, evalE, evalT, evalEs, evalO, evalC, evalI, evalSs, evalS, evP, evPs, evO, evC, evI, pE, consL, pick, and2, or2, andT2, orT2, callM, callvM, makeM, madeBy, methM, biM, bmM, attrM, idxM, slM, soM, tupM, lstM, boxed, binM, cmpM, isNM, chainM, CN.notM, notT, negM, iteM, varM, asgM, subM, fldM, parM, augM, augfM, CN.forM, thruM, truly, assignTg, setAll, startE, fin, back, truth, binop, slop, bifun, bmeth, bmTy, seqAt, lstAt, tyName, isi, isNd, lenOk, putN, augop]
theorem r62_pop (s : Hs) (n : Nat) : runFn T wf (k + 2) 62 [.ref n, .str "pop"] s = .ok (.bl false) s := by
  rw [rf (f := i_RawMachine_waits_at) rfl rfl]
  simp [i_RawMachine_waits_at, C6, C7, evalE, evalT, evalEs, evalO, evalC, evalI, evalSs, evalS, evP, evPs, evO, evC, evI, pE, consL, pick, and2, or2, andT2, orT2, callM, callvM, makeM, madeBy, methM, biM, bmM, attrM, idxM, slM, soM, tupM, lstM, boxed, binM, cmpM, isNM, chainM, CN.notM, notT, negM, iteM, varM, asgM, subM, fldM, parM, augM, augfM, CN.forM, thruM, truly, assignTg, setAll, startE, fin, back, truth, binop, slop, bifun, bmeth, bmTy, seqAt, lstAt, tyName, isi, isNd, lenOk, putN, augop]
theorem r62_back (s : Hs) (n : Nat) : runFn T wf (k + 2) 62 [.ref n, .str "back"] s = .ok (.bl false) s := by
  rw [rf (f := i_RawMachine_waits_at) rfl rfl]
  simp [i_RawMachine_waits_at, C6, C7, evalE, evalT, evalEs, evalO, evalC, evalI, evalSs, evalS, evP, evPs, evO, evC, evI, pE, consL, pick, and2, or2, andT2, orT2, callM, callvM, makeM, madeBy, methM, biM, bmM, attrM, idxM, slM, soM, tupM, lstM, boxed, binM, cmpM, isNM, chainM, CN.notM, notT, negM, iteM, varM, asgM, subM, fldM, parM, augM, augfM, CN.forM, thruM, truly, assignTg, setAll, startE, fin, back, truth, binop, slop, bifun, bmeth, bmTy, seqAt, lstAt, tyName, isi, isNd, lenOk, putN, augop]
theorem r62_stop (s : Hs) (n : Nat) : runFn T wf (k + 2) 62 [.ref n, .str "stop"] s = .ok (.bl false) s := by
  rw [rf (f := i_RawMachine_waits_at) rfl rfl]
  simp [i_RawMachine_waits_at, C6, C7, evalE, evalT, evalEs, evalO, evalC, evalI, evalSs, evalS, evP, evPs, evO, evC, evI, pE, consL, pick, and2, or2, andT2, orT2, callM, callvM, makeM, madeBy, methM, biM, bmM, attrM, idxM, slM, soM, tupM, lstM, boxed, binM, cmpM, isNM, chainM, CN.notM, notT, negM, iteM, varM, asgM, subM, fldM, parM, augM, augfM, CN.forM, thruM, truly, assignTg, setAll, startE, fin, back, truth, binop, slop, bifun, bmeth, bmTy, seqAt, lstAt, tyName, isi, isNd, lenOk, putN, augop]
end K69
set_option Elab.async false
set_option linter.all false
set_option maxRecDepth 100000
set_option maxHeartbeats 4000000
/-! P6: the machine's loop. -/
namespace K69
open CN
variable {wf k : Nat}
def whlOf : Sts → Sts
  | .cons _ (.cons (.whl _ b) _) => b
  | _ => .nil
def runBody : Sts := whlOf i_RawMachine_run_on.body
/-- the loop, with f turns left of the clock -/
def rl (wf k f : Nat) (env : CN.Env) (s : Hs) : Res Flow := loopWhl (evalT T (runFn T wf k) (.cst (.bl true))) (evalSs T wf (runFn T wf k) runBody) f env s
theorem rl_tired {mem boxes : List Int} {at_ top n : Int} {told : List D} {w : PySem.Str} {xs : List D} {f : Nat} {x : Option D}
    (hi : runFn T wf k 51 [.ref 1, .int at_] (mh mem boxes at_ top told []) = .ok (.tup (.str w :: xs)) (mh mem boxes at_ top told [])) (hw : runFn T wf k 62 [.ref 0, .str w] (mh mem boxes at_ top told []) = .ok (.bl false) (mh mem boxes at_ top told [])) :
    rl wf k (f + 1) [some (.ref 0), some (.int n), some (.int n), x] (mh mem boxes at_ top told []) = .ok (.ret (.tup [.str "tired"])) (mh mem boxes at_ top told []) := by
  have z : 1 ≤ PySem.sizeLine := by decide
  unfold rl loopWhl
  unfold mh at hi hw ⊢
  simp [runBody, whlOf, i_RawMachine_run_on, hi, hw, z, T0, T1, List.lookup, evalE, evalT, evalEs, evalO, evalC, evalI, evalSs, evalS, evP, evPs, evO, evC, evI, pE, consL, pick, and2, or2, andT2, orT2, callM, callvM, makeM, madeBy, methM, biM, bmM, attrM, idxM, slM, soM, tupM, lstM, boxed, binM, cmpM, isNM, chainM, CN.notM, notT, negM, iteM, varM, asgM, subM, fldM, parM, augM, augfM, CN.forM, thruM, truly, assignTg, setAll, startE, fin, back, truth, binop, slop, bifun, bmeth, bmTy, seqAt, lstAt, tyName, isi, isNd, lenOk, putN, augop]
theorem rl_turn {mem boxes : List Int} {at_ top n m : Int} {told : List D} {w : PySem.Str} {xs : List D} {f : Nat} {x : Option D} {S : Hs} (hn : ¬ m = n)
    (hi : runFn T wf k 51 [.ref 1, .int at_] (mh mem boxes at_ top told []) = .ok (.tup (.str w :: xs)) (mh mem boxes at_ top told [])) (hw : runFn T wf k 62 [.ref 0, .str w] (mh mem boxes at_ top told []) = .ok (.bl false) (mh mem boxes at_ top told []))
    (hs : ∀ s, cmpop T.tabs s .eq (.str w) (.str "stop") = some false) (hd : runFn T wf k 63 [.ref 0, .tup (.str w :: xs)] (mh mem boxes at_ top told []) = .ok .non S) :
    rl wf k (f + 1) [some (.ref 0), some (.int n), some (.int m), x] (mh mem boxes at_ top told []) = rl wf k f [some (.ref 0), some (.int n), some (.int (m + 1)), some (.tup (.str w :: xs))] S := by
  unfold rl
  rw [loopWhl]
  unfold mh at hi hw hd ⊢
  simp [runBody, whlOf, i_RawMachine_run_on, hi, hw, hs, hd, hn, T0, T1, List.lookup, evalE, evalT, evalEs, evalO, evalC, evalI, evalSs, evalS, evP, evPs, evO, evC, evI, pE, consL, pick, and2, or2, andT2, orT2, callM, callvM, makeM, madeBy, methM, biM, bmM, attrM, idxM, slM, soM, tupM, lstM, boxed, binM, cmpM, isNM, chainM, CN.notM, notT, negM, iteM, varM, asgM, subM, fldM, parM, augM, augfM, CN.forM, thruM, truly, assignTg, setAll, startE, fin, back, truth, binop, slop, bifun, bmeth, bmTy, seqAt, lstAt, tyName, isi, isNd, lenOk, putN, augop]
theorem rl_stop {mem boxes : List Int} {at_ top n m : Int} {told : List D} {f : Nat} {x : Option D} (hn : ¬ m = n)
    (hi : runFn T wf k 51 [.ref 1, .int at_] (mh mem boxes at_ top told []) = .ok (.tup [.str "stop"]) (mh mem boxes at_ top told [])) (hw : runFn T wf k 62 [.ref 0, .str "stop"] (mh mem boxes at_ top told []) = .ok (.bl false) (mh mem boxes at_ top told [])) :
    rl wf k (f + 1) [some (.ref 0), some (.int n), some (.int m), x] (mh mem boxes at_ top told []) = .ok (.ret (.tup [.str "stopped"])) (mh mem boxes at_ top told []) := by
  have z : 1 ≤ PySem.sizeLine := by decide
  have hs : ∀ s, cmpop T.tabs s .eq (.str "stop") (.str "stop") = some true := fun s => es_stop_stop T.tabs s
  unfold rl loopWhl
  unfold mh at hi hw ⊢
  simp [runBody, whlOf, i_RawMachine_run_on, hi, hw, hs, hn, z, T0, T1, List.lookup, evalE, evalT, evalEs, evalO, evalC, evalI, evalSs, evalS, evP, evPs, evO, evC, evI, pE, consL, pick, and2, or2, andT2, orT2, callM, callvM, makeM, madeBy, methM, biM, bmM, attrM, idxM, slM, soM, tupM, lstM, boxed, binM, cmpM, isNM, chainM, CN.notM, notT, negM, iteM, varM, asgM, subM, fldM, parM, augM, augfM, CN.forM, thruM, truly, assignTg, setAll, startE, fin, back, truth, binop, slop, bifun, bmeth, bmTy, seqAt, lstAt, tyName, isi, isNd, lenOk, putN, augop]
theorem run_on_eq {n : Int} {s : Hs} : runFn T wf (k + 1) 64 [.ref 0, .int n] s = fin 0 s (match rl wf k wf [some (.ref 0), some (.int n), some (.int 0), none] s with | .ok (.next env') s1 => .ok (.next env') s1 | r => r) := by
  rw [rf (f := i_RawMachine_run_on) rfl rfl]
  have e : evalSs T wf (runFn T wf k) i_RawMachine_run_on.body (startE i_RawMachine_run_on.slots [.ref 0, .int n]) s = (rl wf k wf [some (.ref 0), some (.int n), some (.int 0), none] s).bind fun f s1 => match f with
    | .next env' => .ok (.next env') s1
    | f => .ok f s1 := rfl
  rw [e]
  cases rl wf k wf [some (.ref 0), some (.int n), some (.int 0), none] s with
  | stuck => rfl
  | err => rfl
  | ok fl s1 => cases fl <;> rfl
end K69
set_option Elab.async false
set_option linter.all false
set_option maxRecDepth 100000
set_option maxHeartbeats 4000000
/-! P7: the machine's turns, one after another. -/
namespace K69
open CN
variable {wf k : Nat} {n : Int}
/-- d turns from S to S', the count from m -/
def Go (wf k : Nat) (n : Int) (d : Nat) (m : Int) (S S' : Hs) : Prop := ∀ f x, ∃ x', rl wf k (f + d) [some (.ref 0), some (.int n), some (.int m), x] S = rl wf k f [some (.ref 0), some (.int n), some (.int (m + d)), x'] S'
theorem Go.zero {m : Int} {S : Hs} : Go wf k n 0 m S S := fun f x => ⟨x, by simp⟩
theorem Go.trans {d e : Nat} {m : Int} {S S1 S2 : Hs} (g : Go wf k n d m S S1) (h : Go wf k n e (m + d) S1 S2) : Go wf k n (d + e) m S S2 := fun f x => by
  obtain ⟨x1, h1⟩ := g (f + e) x
  obtain ⟨x2, h2⟩ := h f x1
  refine ⟨x2, ?_⟩
  rw [show f + (d + e) = f + e + d by omega, h1, h2]
  have e3 : m + (d : Int) + (e : Int) = m + ((d + e : Nat) : Int) := by omega
  rw [e3]
theorem Go.one {mem boxes : List Int} {at_ top m : Int} {told : List D} {w : PySem.Str} {xs : List D} {S : Hs} (hn : ¬ m = n)
    (hi : runFn T wf k 51 [.ref 1, .int at_] (mh mem boxes at_ top told []) = .ok (.tup (.str w :: xs)) (mh mem boxes at_ top told [])) (hw : runFn T wf k 62 [.ref 0, .str w] (mh mem boxes at_ top told []) = .ok (.bl false) (mh mem boxes at_ top told []))
    (hs : ∀ s, cmpop T.tabs s .eq (.str w) (.str "stop") = some false) (hd : runFn T wf k 63 [.ref 0, .tup (.str w :: xs)] (mh mem boxes at_ top told []) = .ok .non S) : Go wf k n 1 m (mh mem boxes at_ top told []) S := fun f x => ⟨_, rl_turn hn hi hw hs hd⟩
/-- a machine that stands well -/
structure Ok (mem boxes : List Int) : Prop where
  pos : 0 < mem.length
  by_ : ∀ x ∈ mem, 0 ≤ x ∧ x < 256
  bl : boxes.length = 8
variable {mem boxes : List Int} {at_ top m : Int} {told : List D}
theorem go_set {r v : Int} (o : Ok mem boxes) (hn : ¬ m = n) (h0 : cell mem at_ = 1) (h1 : cell mem (at_ + 1) = r) (h2 : cell mem (at_ + 2) = v) (hr : 0 ≤ r ∧ r < 8) :
    Go wf (k + 9) n 1 m (mh mem boxes at_ top told []) (mh mem (boxes.set r.toNat v) (wrap mem (at_ + 3)) top told []) := by
  have hi := r51_set (wf := wf) (k := k + 4) (boxes := boxes) (at_ := at_) (top := top) (told := told) o.pos o.by_ h0
  rw [h1, h2, Int.emod_eq_of_lt hr.1 hr.2] at hi
  exact Go.one hn hi (r62_set (k := k + 7) _ 0) (es_set_stop T.tabs) (r63_set (k := k + 4) o.pos (r23 (k := k + 7) hr.1 (by rw [o.bl]; exact hr.2)))
theorem go_call {x y : Int} (o : Ok mem boxes) (hn : ¬ m = n) (h0 : cell mem at_ = 14) (h1 : cell mem (at_ + 1) = x) (h2 : cell mem (at_ + 2) = y) :
    Go wf (k + 9) n 1 m (mh mem boxes at_ top told []) (mh (put (put mem (wrap mem (top - 2)) (wrap mem (at_ + 3) / 256)) (wrap mem (top - 2) + 1) (wrap mem (at_ + 3) % 256)) boxes (wrap mem (x * 256 + y)) (wrap mem (top - 2)) told []) := by
  have hi := r51_call (wf := wf) (k := k + 4) (boxes := boxes) (at_ := at_) (top := top) (told := told) o.pos o.by_ h0
  rw [h1, h2] at hi
  exact Go.one hn hi (r62_call (k := k + 7) _ 0) (es_call_stop T.tabs) (r63_call (k := k + 4) o.pos (r36 (k := k + 4) o.pos))
theorem go_push {r : Int} (o : Ok mem boxes) (hn : ¬ m = n) (h0 : cell mem at_ = 16) (h1 : cell mem (at_ + 1) = r) (hr : 0 ≤ r ∧ r < 8) :
    Go wf (k + 9) n 1 m (mh mem boxes at_ top told []) (mh (put mem (wrap mem (top - 1)) (bx boxes r)) boxes (wrap mem (at_ + 2)) (wrap mem (top - 1)) told []) := by
  have hi := r51_push (wf := wf) (k := k + 4) (boxes := boxes) (at_ := at_) (top := top) (told := told) o.pos o.by_ h0
  rw [h1, Int.emod_eq_of_lt hr.1 hr.2] at hi
  exact Go.one hn hi (r62_push (k := k + 7) _ 0) (es_push_stop T.tabs) (r63_push (k := k + 4) o.pos (r38 (k := k + 4) o.pos hr.1 (by rw [o.bl]; exact hr.2)))
theorem go_pop {r : Int} (o : Ok mem boxes) (hn : ¬ m = n) (h0 : cell mem at_ = 17) (h1 : cell mem (at_ + 1) = r) (hr : 0 ≤ r ∧ r < 8) :
    Go wf (k + 9) n 1 m (mh mem boxes at_ top told []) (mh mem (boxes.set r.toNat (cell mem top)) (wrap mem (at_ + 2)) (wrap mem (top + 1)) told []) := by
  have hi := r51_pop (wf := wf) (k := k + 4) (boxes := boxes) (at_ := at_) (top := top) (told := told) o.pos o.by_ h0
  rw [h1, Int.emod_eq_of_lt hr.1 hr.2] at hi
  exact Go.one hn hi (r62_pop (k := k + 7) _ 0) (es_pop_stop T.tabs) (r63_pop (k := k + 4) o.pos (r39 (k := k + 4) o.pos hr.1 (by rw [o.bl]; exact hr.2)))
theorem go_back (o : Ok mem boxes) (hn : ¬ m = n) (h0 : cell mem at_ = 15) :
    Go wf (k + 9) n 1 m (mh mem boxes at_ top told []) (mh mem boxes (wrap mem (cell mem top * 256 + cell mem (top + 1))) (wrap mem (top + 2)) told []) := by
  have hi := r51_back (wf := wf) (k := k + 4) (boxes := boxes) (at_ := at_) (top := top) (told := told) o.pos o.by_ h0
  exact Go.one hn hi (r62_back (k := k + 7) _ 0) (es_back_stop T.tabs) (r63_back (k := k + 4) o.pos (r37 (k := k + 4) o.pos o.by_))
theorem go_less {s t x y : Int} (o : Ok mem boxes) (hn : ¬ m = n) (h0 : cell mem at_ = 11) (h1 : cell mem (at_ + 1) = s) (h2 : cell mem (at_ + 2) = t) (h3 : cell mem (at_ + 3) = x) (h4 : cell mem (at_ + 4) = y) (hs : 0 ≤ s ∧ s < 8) (ht : 0 ≤ t ∧ t < 8) :
    Go wf (k + 9) n 1 m (mh mem boxes at_ top told []) (mh mem boxes (if bx boxes s < bx boxes t then wrap mem (x * 256 + y) else wrap mem (at_ + 5)) top told []) := by
  have hi := r51_less (wf := wf) (k := k + 4) (boxes := boxes) (at_ := at_) (top := top) (told := told) o.pos o.by_ h0
  rw [h1, h2, h3, h4, Int.emod_eq_of_lt hs.1 hs.2, Int.emod_eq_of_lt ht.1 ht.2] at hi
  exact Go.one hn hi (r62_less (k := k + 7) _ 0) (es_less_stop T.tabs) (r63_less (k := k + 4) o.pos (r33 (k := k + 5) o.pos hs.1 (by rw [o.bl]; exact hs.2) ht.1 (by rw [o.bl]; exact ht.2)))
theorem go_tell {r : Int} (o : Ok mem boxes) (hn : ¬ m = n) (hz : told.length < 10) (h0 : cell mem at_ = 8) (h1 : cell mem (at_ + 1) = r) (hr : 0 ≤ r ∧ r < 8) :
    Go wf (k + 9) n 1 m (mh mem boxes at_ top told []) (mh mem boxes (wrap mem (at_ + 2)) top (told ++ [.tup [.str "tell", .int (bx boxes r)]]) []) := by
  have hi := r51_tell (wf := wf) (k := k + 4) (boxes := boxes) (at_ := at_) (top := top) (told := told) o.pos o.by_ h0
  rw [h1, Int.emod_eq_of_lt hr.1 hr.2] at hi
  exact Go.one hn hi (r62_tell (k := k + 7) _ 0) (es_tell_stop T.tabs) (r63_tell (k := k + 4) o.pos (r30 (k := k + 6) hz hr.1 (by rw [o.bl]; exact hr.2)))
theorem go_add {r s t : Int} (o : Ok mem boxes) (hn : ¬ m = n) (h0 : cell mem at_ = 3) (h1 : cell mem (at_ + 1) = r) (h2 : cell mem (at_ + 2) = s) (h3 : cell mem (at_ + 3) = t) (hr : 0 ≤ r ∧ r < 8) (hs : 0 ≤ s ∧ s < 8) (ht : 0 ≤ t ∧ t < 8) :
    Go wf (k + 9) n 1 m (mh mem boxes at_ top told []) (mh mem (boxes.set r.toNat ((bx boxes s + bx boxes t) % 256)) (wrap mem (at_ + 4)) top told []) := by
  have hi := r51_add (wf := wf) (k := k + 4) (boxes := boxes) (at_ := at_) (top := top) (told := told) o.pos o.by_ h0
  rw [h1, h2, h3, Int.emod_eq_of_lt hr.1 hr.2, Int.emod_eq_of_lt hs.1 hs.2, Int.emod_eq_of_lt ht.1 ht.2] at hi
  exact Go.one hn hi (r62_add (k := k + 7) _ 0) (es_add_stop T.tabs) (r63_add (k := k + 4) o.pos (r25 (k := k + 6) hr.1 (by rw [o.bl]; exact hr.2) hs.1 (by rw [o.bl]; exact hs.2) ht.1 (by rw [o.bl]; exact ht.2) (fun S => r26_add (k := k + 6) _ _ S)))
theorem go_sub {r s t : Int} (o : Ok mem boxes) (hn : ¬ m = n) (h0 : cell mem at_ = 4) (h1 : cell mem (at_ + 1) = r) (h2 : cell mem (at_ + 2) = s) (h3 : cell mem (at_ + 3) = t) (hr : 0 ≤ r ∧ r < 8) (hs : 0 ≤ s ∧ s < 8) (ht : 0 ≤ t ∧ t < 8) :
    Go wf (k + 9) n 1 m (mh mem boxes at_ top told []) (mh mem (boxes.set r.toNat ((bx boxes s - bx boxes t) % 256)) (wrap mem (at_ + 4)) top told []) := by
  have hi := r51_sub (wf := wf) (k := k + 4) (boxes := boxes) (at_ := at_) (top := top) (told := told) o.pos o.by_ h0
  rw [h1, h2, h3, Int.emod_eq_of_lt hr.1 hr.2, Int.emod_eq_of_lt hs.1 hs.2, Int.emod_eq_of_lt ht.1 ht.2] at hi
  exact Go.one hn hi (r62_sub (k := k + 7) _ 0) (es_sub_stop T.tabs) (r63_sub (k := k + 4) o.pos (r25 (k := k + 6) hr.1 (by rw [o.bl]; exact hr.2) hs.1 (by rw [o.bl]; exact hs.2) ht.1 (by rw [o.bl]; exact ht.2) (fun S => r26_sub (k := k + 6) _ _ S)))
theorem go_mul {r s t : Int} (o : Ok mem boxes) (hn : ¬ m = n) (h0 : cell mem at_ = 5) (h1 : cell mem (at_ + 1) = r) (h2 : cell mem (at_ + 2) = s) (h3 : cell mem (at_ + 3) = t) (hr : 0 ≤ r ∧ r < 8) (hs : 0 ≤ s ∧ s < 8) (ht : 0 ≤ t ∧ t < 8) (hb : inRng (bx boxes s) = true) :
    Go wf (k + 9) n 1 m (mh mem boxes at_ top told []) (mh mem (boxes.set r.toNat ((bx boxes s * bx boxes t) % 256)) (wrap mem (at_ + 4)) top told []) := by
  have hi := r51_mul (wf := wf) (k := k + 4) (boxes := boxes) (at_ := at_) (top := top) (told := told) o.pos o.by_ h0
  rw [h1, h2, h3, Int.emod_eq_of_lt hr.1 hr.2, Int.emod_eq_of_lt hs.1 hs.2, Int.emod_eq_of_lt ht.1 ht.2] at hi
  exact Go.one hn hi (r62_mul (k := k + 7) _ 0) (es_mul_stop T.tabs) (r63_mul (k := k + 4) o.pos (r25 (k := k + 6) hr.1 (by rw [o.bl]; exact hr.2) hs.1 (by rw [o.bl]; exact hs.2) ht.1 (by rw [o.bl]; exact ht.2) (fun S => r26_mul (k := k + 6) _ _ S hb)))
end K69
set_option Elab.async false
set_option linter.all false
set_option maxRecDepth 100000
set_option maxHeartbeats 4000000
/-! P8: the code on the ring. -/
namespace K69
open CN
variable {wf k : Nat} {n : Int} {mem boxes : List Int}
@[simp] theorem wrap_wrap (mem : List Int) (x i : Int) : wrap mem (wrap mem x + i) = wrap mem (x + i) := Int.emod_add_emod x _ i
@[simp] theorem wrap_wrap0 (mem : List Int) (x : Int) : wrap mem (wrap mem x) = wrap mem x := Int.emod_emod_of_dvd x (Int.dvd_refl _)
@[simp] theorem wrap_wrap_sub (mem : List Int) (x i : Int) : wrap mem (wrap mem x - i) = wrap mem (x - i) := by
  have := wrap_wrap mem x (-i)
  rw [← Int.sub_eq_add_neg, ← Int.sub_eq_add_neg] at this
  exact this
@[simp] theorem cell_wrap (mem : List Int) (x i : Int) : cell mem (wrap mem x + i) = cell mem (x + i) := by unfold cell; rw [wrap_wrap]
@[simp] theorem cell_wrap0 (mem : List Int) (x : Int) : cell mem (wrap mem x) = cell mem x := by unfold cell; rw [wrap_wrap0]
theorem wrap_ne {mem : List Int} {x y : Int} (h0 : x < y) (h1 : y - x < mem.length) : wrap mem x ≠ wrap mem y := by
  intro h
  unfold wrap at h
  have e : (y - x) % (mem.length : Int) = 0 := Int.emod_eq_emod_iff_emod_sub_eq_zero.mp h.symm
  rw [Int.emod_eq_of_lt (by omega) h1] at e
  omega
theorem cell_put {mem : List Int} {a v c : Int} (hm : 0 < mem.length) : cell (put mem a v) c = if wrap mem a = wrap mem c then v else cell mem c := by
  unfold cell
  rw [wrap_put]
  unfold put
  have h1 := wrap_nn (a := a) hm
  have h2 := wrap_lt (a := a) hm
  have h3 := wrap_nn (a := c) hm
  have h4 := wrap_lt (a := c) hm
  rw [List.getD_eq_getElem?_getD, List.getD_eq_getElem?_getD]
  by_cases e : wrap mem a = wrap mem c
  · rw [if_pos e, e, List.getElem?_set_self (by omega)]
    rfl
  · rw [if_neg e, List.getElem?_set_ne (by omega)]
theorem put_by {mem : List Int} {a v : Int} (h : ∀ x ∈ mem, 0 ≤ x ∧ x < 256) (hv : 0 ≤ v ∧ v < 256) : ∀ x ∈ put mem a v, 0 ≤ x ∧ x < 256 := by
  intro x hx
  rcases List.mem_or_eq_of_mem_set hx with q | q
  · exact h x q
  · rw [q]; exact hv
theorem Ok.put {mem boxes : List Int} (o : Ok mem boxes) {a v : Int} (hv : 0 ≤ v ∧ v < 256) : Ok (put mem a v) boxes := ⟨by rw [put_len]; exact o.pos, put_by o.by_ hv, o.bl⟩
/-- the code's bytes -/
def codeB (form a b L P : Int) : List Int := [1, 0, a, 1, 1, b, 1, 2, if form = 2 then 1 else 0, 1, 3, 1, 1, 7, 0, 14, P / 256, P % 256, 4, 1, 1, 3, 11, 7, 1, L / 256, L % 256, 8, 2, 19, 16, 0, 3 + form, 2, 2, 0, 17, 4, 15]
def CodeAt (mem : List Int) (base : Int) (cs : List Int) : Prop := ∀ j : Nat, j < cs.length → cell mem (base + j) = cs.getD j 0
theorem CodeAt.put {mem : List Int} {base : Int} {cs : List Int} (c : CodeAt mem base cs) (hm : 0 < mem.length) {u v : Int} (h0 : 0 < u) (h1 : u + cs.length ≤ mem.length) : CodeAt (put mem (base - u) v) base cs := by
  intro j hj
  rw [cell_put hm, if_neg (wrap_ne (by omega) (by omega))]
  exact c j hj
end K69
set_option Elab.async false
set_option linter.all false
set_option maxRecDepth 100000
set_option maxHeartbeats 4000000
/-! P9: one round of the loop. -/
namespace K69
open CN
variable {wf k : Nat} {n : Int} {mem boxes : List Int}
@[simp] theorem put_wrap0 (mem : List Int) (x v : Int) : put mem (wrap mem x) v = put mem x v := by unfold put; rw [wrap_wrap0]
@[simp] theorem put_wrap (mem : List Int) (x i v : Int) : put mem (wrap mem x + i) v = put mem (x + i) v := by unfold put; rw [wrap_wrap]
@[simp] theorem put_wrap0' (mem : List Int) (x v y w : Int) : put (put mem y w) (wrap mem x) v = put (put mem y w) x v := by rw [← wrap_put mem y w x, put_wrap0]
@[simp] theorem put_wrap' (mem : List Int) (x i v y w : Int) : put (put mem y w) (wrap mem x + i) v = put (put mem y w) (x + i) v := by rw [← wrap_put mem y w x, put_wrap]
theorem CodeAt.at2 {base : Int} {cs : List Int} (c : CodeAt mem base cs) (o i : Nat) (h : o + i < cs.length) : cell mem (wrap mem (base + (o : Int)) + (i : Int)) = cs.getD (o + i) 0 := by
  rw [cell_wrap, ← c (o + i) h]
  congr 1
  omega
theorem CodeAt.at0 {base : Int} {cs : List Int} (c : CodeAt mem base cs) (o : Nat) (h : o < cs.length) : cell mem (wrap mem (base + (o : Int))) = cs.getD o 0 := by
  rw [cell_wrap0]
  exact c o h
/-- where the round's numbers stand -/
structure Rd0 (mem : List Int) (base form a b L P t : Int) : Prop where
  code : CodeAt mem base (codeB form a b L P)
  lo : 64 ≤ mem.length
  hi : mem.length ≤ 4096
  wP : wrap mem P = wrap mem (base + 30)
  wL : wrap mem L = wrap mem (base + 15)
  t0 : 0 ≤ t
  t1 : t ≤ 8
  fm : form = 0 ∨ form = 1 ∨ form = 2
theorem Rd0.at2 {base form a b L P t : Int} (r : Rd0 mem base form a b L P t) (o i : Nat) (h : o + i < 39 := by decide) : cell mem (wrap mem (base + (o : Int)) + (i : Int)) = (codeB form a b L P).getD (o + i) 0 := r.code.at2 o i h
theorem Rd0.at0 {base form a b L P t : Int} (r : Rd0 mem base form a b L P t) (o : Nat) (h : o < 39 := by decide) : cell mem (wrap mem (base + (o : Int))) = (codeB form a b L P).getD o 0 := r.code.at0 o h
theorem Rd0.put {base form a b L P t : Int} (r : Rd0 mem base form a b L P t) {u v : Int} (h0 : 0 < u) (h1 : u ≤ 11) : Rd0 (put mem (base - u) v) base form a b L P t :=
  ⟨r.code.put (by have := r.lo; omega) h0 (by have e : (codeB form a b L P).length = 39 := rfl; rw [e]; have := r.lo; omega), by simpa using r.lo, by simpa using r.hi, by simpa using r.wP, by simpa using r.wL, r.t0, r.t1, r.fm⟩
theorem r_call {base form a b L P t m : Int} {told : List D} (r : Rd0 mem base form a b L P t) (o : Ok mem boxes) (hn : ¬ m = n) :
    Go wf (k + 9) n 1 m (mh mem boxes (wrap mem (base + 15)) (wrap mem (base - t)) told []) (mh (put (put mem (base - (t + 2)) (wrap mem (base + 18) / 256)) (base - (t + 1)) (wrap mem (base + 18) % 256)) boxes (wrap mem (base + 30)) (wrap mem (base - (t + 2))) told []) := by
  have g := go_call (wf := wf) (k := k) (n := n) (m := m) (boxes := boxes) (at_ := wrap mem (base + 15)) (top := wrap mem (base - t)) (told := told) o hn (r.at0 15) (r.at2 15 1) (r.at2 15 2)
  have e1 : (codeB form a b L P).getD (15 + 1) 0 * 256 + (codeB form a b L P).getD (15 + 2) 0 = P := by show P / 256 * 256 + P % 256 = P; omega
  rw [e1, r.wP] at g
  have e2 : base + 15 + 3 = base + 18 := by omega
  have e3 : base - t - 2 = base - (t + 2) := by omega
  have e4 : base - (t + 2) + 1 = base - (t + 1) := by omega
  simpa [e2, e3, e4] using g
theorem r_push {base form a b L P t u m : Int} {told : List D} (r : Rd0 mem base form a b L P t) (o : Ok mem boxes) (hn : ¬ m = n) (hb : boxes.getD 0 0 = a) :
    Go wf (k + 9) n 1 m (mh mem boxes (wrap mem (base + 30)) (wrap mem (base - u)) told []) (mh (put mem (base - (u + 1)) a) boxes (wrap mem (base + 32)) (wrap mem (base - (u + 1))) told []) := by
  have g := go_push (wf := wf) (k := k) (n := n) (m := m) (boxes := boxes) (at_ := wrap mem (base + 30)) (top := wrap mem (base - u)) (told := told) (r := 0) o hn (r.at0 30) (r.at2 30 1) (by decide)
  have e2 : base + 30 + 2 = base + 32 := by omega
  have e3 : base - u - 1 = base - (u + 1) := by omega
  have e4 : bx boxes 0 = a := hb
  rw [e4] at g
  simpa [e2, e3] using g
theorem r_pop {base form a b L P t u m : Int} {told : List D} (r : Rd0 mem base form a b L P t) (o : Ok mem boxes) (hn : ¬ m = n) :
    Go wf (k + 9) n 1 m (mh mem boxes (wrap mem (base + 36)) (wrap mem (base - u)) told []) (mh mem (boxes.set 4 (cell mem (base - u))) (wrap mem (base + 38)) (wrap mem (base - (u - 1))) told []) := by
  have g := go_pop (wf := wf) (k := k) (n := n) (m := m) (boxes := boxes) (at_ := wrap mem (base + 36)) (top := wrap mem (base - u)) (told := told) (r := 4) o hn (r.at0 36) (r.at2 36 1) (by decide)
  have e2 : base + 36 + 2 = base + 38 := by omega
  have e3 : base - u + 1 = base - (u - 1) := by omega
  simpa [e2, e3] using g
theorem r_back {base form a b L P t u m : Int} {told : List D} (r : Rd0 mem base form a b L P t) (o : Ok mem boxes) (hn : ¬ m = n) :
    Go wf (k + 9) n 1 m (mh mem boxes (wrap mem (base + 38)) (wrap mem (base - u)) told []) (mh mem boxes (wrap mem (cell mem (base - u) * 256 + cell mem (base - (u - 1)))) (wrap mem (base - (u - 2))) told []) := by
  have g := go_back (wf := wf) (k := k) (n := n) (m := m) (boxes := boxes) (at_ := wrap mem (base + 38)) (top := wrap mem (base - u)) (told := told) o hn (r.at0 38)
  have e2 : base - u + 2 = base - (u - 2) := by omega
  have e3 : base - u + 1 = base - (u - 1) := by omega
  simpa [e2, e3] using g
theorem r_sub {base form a b L P t m top : Int} {told : List D} (r : Rd0 mem base form a b L P t) (o : Ok mem boxes) (hn : ¬ m = n) :
    Go wf (k + 9) n 1 m (mh mem boxes (wrap mem (base + 18)) top told []) (mh mem (boxes.set 1 ((boxes.getD 1 0 - boxes.getD 3 0) % 256)) (wrap mem (base + 22)) top told []) := by
  have g := go_sub (wf := wf) (k := k) (n := n) (m := m) (boxes := boxes) (at_ := wrap mem (base + 18)) (top := top) (told := told) (r := 1) (s := 1) (t := 3) o hn (r.at0 18) (r.at2 18 1) (r.at2 18 2) (r.at2 18 3) (by decide) (by decide) (by decide)
  have e2 : base + 18 + 4 = base + 22 := by omega
  simpa [e2, bx] using g
theorem r_less {base form a b L P t m top : Int} {told : List D} (r : Rd0 mem base form a b L P t) (o : Ok mem boxes) (hn : ¬ m = n) :
    Go wf (k + 9) n 1 m (mh mem boxes (wrap mem (base + 22)) top told []) (mh mem boxes (if boxes.getD 7 0 < boxes.getD 1 0 then wrap mem (base + 15) else wrap mem (base + 27)) top told []) := by
  have g := go_less (wf := wf) (k := k) (n := n) (m := m) (boxes := boxes) (at_ := wrap mem (base + 22)) (top := top) (told := told) (s := 7) (t := 1) o hn (r.at0 22) (r.at2 22 1) (r.at2 22 2) (r.at2 22 3) (r.at2 22 4) (by decide) (by decide)
  have e1 : (codeB form a b L P).getD (22 + 3) 0 * 256 + (codeB form a b L P).getD (22 + 4) 0 = L := by show L / 256 * 256 + L % 256 = L; omega
  rw [e1, r.wL] at g
  have e2 : base + 22 + 5 = base + 27 := by omega
  simpa [e2, bx] using g
/-- the form's word -/
def opF (form x y : Int) : Int := if form = 0 then (x + y) % 256 else if form = 1 then (x - y) % 256 else x * y % 256
theorem r_op {base form a b L P t m top : Int} {told : List D} (r : Rd0 mem base form a b L P t) (o : Ok mem boxes) (hn : ¬ m = n) (hx : inRng (boxes.getD 2 0) = true) :
    Go wf (k + 9) n 1 m (mh mem boxes (wrap mem (base + 32)) top told []) (mh mem (boxes.set 2 (opF form (boxes.getD 2 0) (boxes.getD 0 0))) (wrap mem (base + 36)) top told []) := by
  have e2 : base + 32 + 4 = base + 36 := by omega
  rcases r.fm with rfl | rfl | rfl
  · have g := go_add (wf := wf) (k := k) (n := n) (m := m) (boxes := boxes) (at_ := wrap mem (base + 32)) (top := top) (told := told) (r := 2) (s := 2) (t := 0) o hn (r.at0 32) (r.at2 32 1) (r.at2 32 2) (r.at2 32 3) (by decide) (by decide) (by decide)
    simpa [e2, bx, opF] using g
  · have g := go_sub (wf := wf) (k := k) (n := n) (m := m) (boxes := boxes) (at_ := wrap mem (base + 32)) (top := top) (told := told) (r := 2) (s := 2) (t := 0) o hn (r.at0 32) (r.at2 32 1) (r.at2 32 2) (r.at2 32 3) (by decide) (by decide) (by decide)
    simpa [e2, bx, opF] using g
  · have g := go_mul (wf := wf) (k := k) (n := n) (m := m) (boxes := boxes) (at_ := wrap mem (base + 32)) (top := top) (told := told) (r := 2) (s := 2) (t := 0) o hn (r.at0 32) (r.at2 32 1) (r.at2 32 2) (r.at2 32 3) (by decide) (by decide) (by decide) hx
    simpa [e2, bx, opF] using g
end K69
set_option Elab.async false
set_option linter.all false
set_option maxRecDepth 100000
set_option maxHeartbeats 4000000
/-! P10: the rounds. -/
namespace K69
open CN
variable {wf k : Nat} {n : Int} {mem boxes : List Int}
theorem Go.cons {d : Nat} {m : Int} {S S1 S2 : Hs} (g : Go wf k n 1 m S S1) (h : Go wf k n d (m + 1) S1 S2) : Go wf k n (d + 1) m S S2 := by
  have q := g.trans (e := d) (by simpa using h)
  rwa [Nat.add_comm] at q
/-- the ring behind a round -/
def after (mem : List Int) (base t a : Int) : List Int := put (put (put mem (base - (t + 2)) (wrap mem (base + 18) / 256)) (base - (t + 1)) (wrap mem (base + 18) % 256)) (base - (t + 3)) a
@[simp] theorem after_len (mem : List Int) (base t a : Int) : (after mem base t a).length = mem.length := by simp [after]
@[simp] theorem wrap_after (mem : List Int) (base t a c : Int) : wrap (after mem base t a) c = wrap mem c := by simp [after]
theorem Rd0.after {base form a b L P t : Int} (r : Rd0 mem base form a b L P t) : Rd0 (after mem base t a) base form a b L P t := by
  have h0 := r.t0
  have h1 := r.t1
  exact ((r.put (by omega) (by omega)).put (by omega) (by omega)).put (by omega) (by omega)
theorem Ok.after {base form a b L P t : Int} (r : Rd0 mem base form a b L P t) (o : Ok mem boxes) (ha : 0 ≤ a ∧ a < 256) : Ok (after mem base t a) boxes := by
  have h1 := wrap_nn (a := base + 18) o.pos
  have h2 := wrap_lt (a := base + 18) o.pos
  have h3 := r.hi
  exact ((o.put (by omega)).put (by omega)).put ha
theorem inRng_byte {x : Int} (h : 0 ≤ x ∧ x < 256) : inRng x = true := by
  unfold inRng
  simp only [Bool.and_eq_true, decide_eq_true_eq]
  omega
theorem round {base form a b L P t m : Int} {told : List D} {b1 r1 x4 c5 c6 : Int} (r : Rd0 mem base form a b L P t) (o : Ok mem boxes) (ha : 0 ≤ a ∧ a < 256) (hr : 0 ≤ r1 ∧ r1 < 256) (hb : 1 ≤ b1 ∧ b1 < 256) (hbx : boxes = [a, b1, r1, 1, x4, c5, c6, 0]) (hn : ∀ i : Int, 0 ≤ i → i < 7 → ¬ m + i = n) :
    Go wf (k + 9) n 7 m (mh mem boxes (wrap mem (base + 15)) (wrap mem (base - t)) told []) (mh (after mem base t a) [a, b1 - 1, opF form r1 a, 1, a, c5, c6, 0] (if 1 < b1 then wrap mem (base + 15) else wrap mem (base + 27)) (wrap mem (base - t)) told []) := by
  subst hbx
  have h0 := r.t0
  have h1 := r.t1
  have hlo := r.lo
  have hhi := r.hi
  have w1 := wrap_nn (a := base + 18) o.pos
  have w2 := wrap_lt (a := base + 18) o.pos
  have rm1 := (r.put (u := t + 2) (v := wrap mem (base + 18) / 256) (by omega) (by omega)).put (u := t + 1) (v := wrap mem (base + 18) % 256) (by omega) (by omega)
  have om1 : Ok (put (put mem (base - (t + 2)) (wrap mem (base + 18) / 256)) (base - (t + 1)) (wrap mem (base + 18) % 256)) [a, b1, r1, 1, x4, c5, c6, 0] := (o.put (by omega)).put (by omega)
  have ra := r.after
  have oa : ∀ bs : List Int, bs.length = 8 → Ok (after mem base t a) bs := fun bs hl => ⟨by simpa using o.pos, (o.after r ha).by_, hl⟩
  have pm : 0 < mem.length := o.pos
  have ca1 : cell (after mem base t a) (base - (t + 3)) = a := by
    unfold after
    rw [cell_put (by simpa using pm), if_pos rfl]
  have ca2 : cell (after mem base t a) (base - (t + 2)) = wrap mem (base + 18) / 256 := by
    unfold after
    rw [cell_put (by simpa using pm), wrap_put, wrap_put, if_neg (by simpa using wrap_ne (by omega) (by omega)), cell_put (by simpa using pm), wrap_put, if_neg (by simpa using (wrap_ne (mem := mem) (x := base - (t + 2)) (y := base - (t + 1)) (by omega) (by omega)).symm), cell_put pm, if_pos rfl]
  have ca3 : cell (after mem base t a) (base - (t + 1)) = wrap mem (base + 18) % 256 := by
    unfold after
    rw [cell_put (by simpa using pm), wrap_put, wrap_put, if_neg (by simpa using wrap_ne (by omega) (by omega)), cell_put (by simpa using pm), if_pos rfl]
  have g1 := r_call (wf := wf) (k := k) (n := n) (m := m) (boxes := [a, b1, r1, 1, x4, c5, c6, 0]) (told := told) r o (by simpa using hn 0 (by decide) (by decide))
  have g2 := r_push (wf := wf) (k := k) (n := n) (m := m + 1) (u := t + 2) (told := told) rm1 om1 (hn 1 (by decide) (by decide)) rfl
  have g3 := r_op (wf := wf) (k := k) (n := n) (m := m + 1 + 1) (boxes := [a, b1, r1, 1, x4, c5, c6, 0]) (top := wrap mem (base - (t + 2 + 1))) (told := told) ra (oa _ rfl) (by have := hn 2 (by decide) (by decide); omega) (inRng_byte hr)
  have g4 := r_pop (wf := wf) (k := k) (n := n) (m := m + 1 + 1 + 1) (u := t + 3) (boxes := [a, b1, opF form r1 a, 1, x4, c5, c6, 0]) (told := told) ra (oa _ rfl) (by have := hn 3 (by decide) (by decide); omega)
  have g5 := r_back (wf := wf) (k := k) (n := n) (m := m + 1 + 1 + 1 + 1) (u := t + 2) (boxes := [a, b1, opF form r1 a, 1, a, c5, c6, 0]) (told := told) ra (oa _ rfl) (by have := hn 4 (by decide) (by decide); omega)
  have g6 := r_sub (wf := wf) (k := k) (n := n) (m := m + 1 + 1 + 1 + 1 + 1) (boxes := [a, b1, opF form r1 a, 1, a, c5, c6, 0]) (top := wrap mem (base - t)) (told := told) ra (oa _ rfl) (by have := hn 5 (by decide) (by decide); omega)
  have g7 := r_less (wf := wf) (k := k) (n := n) (m := m + 1 + 1 + 1 + 1 + 1 + 1) (boxes := [a, b1 - 1, opF form r1 a, 1, a, c5, c6, 0]) (top := wrap mem (base - t)) (told := told) ra (oa _ rfl) (by have := hn 6 (by decide) (by decide); omega)
  have e1 : t + 2 + 1 = t + 3 := by omega
  have e2 : t + 3 - 1 = t + 2 := by omega
  have e3 : t + 2 - 2 = t := by omega
  have e4 : t + 2 - 1 = t + 1 := by omega
  have e5 : wrap mem (base + 18) / 256 * 256 + wrap mem (base + 18) % 256 = wrap mem (base + 18) := by omega
  have e6 : (b1 - 1) % 256 = b1 - 1 := Int.emod_eq_of_lt (by omega) (by omega)
  have e7 : (0 < b1 - 1) = (1 < b1) := by apply propext; constructor <;> intro <;> omega
  rw [e4, ca2, ca3, e5, e3] at g5
  rw [ca1, e2] at g4
  rw [e1] at g2
  rw [e1] at g3
  simp only [wrap_put, wrap_after, wrap_wrap0, List.set, List.getD_cons_zero, List.getD_cons_succ, e6, e7] at g1 g2 g3 g4 g5 g6 g7
  exact g1.cons (g2.cons (g3.cons (g4.cons (g5.cons (g6.cons (g7.cons Go.zero))))))
end K69
set_option Elab.async false
set_option linter.all false
set_option maxRecDepth 100000
set_option maxHeartbeats 4000000
/-! P11: all the rounds, the start, the end. -/
namespace K69
open CN
variable {wf k : Nat} {n : Int} {mem boxes : List Int}
theorem put_same {mem : List Int} {a v : Int} (hm : 0 < mem.length) (h : cell mem a = v) : put mem a v = mem := by
  subst h
  have h1 := wrap_nn (a := a) hm
  have h2 := wrap_lt (a := a) hm
  have hl : (wrap mem a).toNat < mem.length := by omega
  unfold put cell
  rw [List.getD_eq_getElem?_getD, List.getElem?_eq_getElem hl]
  exact List.set_getElem_self hl
theorem after_cells {base form a b L P t : Int} (r : Rd0 mem base form a b L P t) : cell (after mem base t a) (base - (t + 3)) = a ∧ cell (after mem base t a) (base - (t + 2)) = wrap mem (base + 18) / 256 ∧ cell (after mem base t a) (base - (t + 1)) = wrap mem (base + 18) % 256 := by
  have h0 := r.t0
  have h1 := r.t1
  have hlo := r.lo
  have pm : 0 < mem.length := by omega
  refine ⟨?_, ?_, ?_⟩
  · unfold after
    rw [cell_put (by simpa using pm), if_pos rfl]
  · unfold after
    rw [cell_put (by simpa using pm), wrap_put, wrap_put, if_neg (by simpa using wrap_ne (by omega) (by omega)), cell_put (by simpa using pm), wrap_put, if_neg (by simpa using (wrap_ne (mem := mem) (x := base - (t + 2)) (y := base - (t + 1)) (by omega) (by omega)).symm), cell_put pm, if_pos rfl]
  · unfold after
    rw [cell_put (by simpa using pm), wrap_put, wrap_put, if_neg (by simpa using wrap_ne (by omega) (by omega)), cell_put (by simpa using pm), if_pos rfl]
theorem after_after {base form a b L P t : Int} (r : Rd0 mem base form a b L P t) : after (after mem base t a) base t a = after mem base t a := by
  obtain ⟨c1, c2, c3⟩ := after_cells r
  have pm : 0 < (after mem base t a).length := by have := r.lo; simp; omega
  show put (put (put (after mem base t a) (base - (t + 2)) (wrap (after mem base t a) (base + 18) / 256)) (base - (t + 1)) (wrap (after mem base t a) (base + 18) % 256)) (base - (t + 3)) a = _
  rw [wrap_after, put_same pm c2, put_same pm c3, put_same pm c1]
def itF (form a : Int) : Nat → Int → Int
  | 0, r => r
  | j + 1, r => itF form a j (opF form r a)
theorem opF_by {form x y : Int} : 0 ≤ opF form x y ∧ opF form x y < 256 := by
  unfold opF
  split
  · omega
  · split <;> omega
theorem rounds {base form a b L P t c5 c6 : Int} {told : List D} (ha : 0 ≤ a ∧ a < 256) : ∀ (j : Nat) (mem : List Int) (m r1 x4 : Int), Rd0 mem base form a b L P t → Ok mem [] ∨ True → (0 < mem.length ∧ ∀ x ∈ mem, 0 ≤ x ∧ x < 256) → 0 ≤ r1 ∧ r1 < 256 → 1 ≤ j → j < 256 → (∀ i : Int, 0 ≤ i → i < 7 * j → ¬ m + i = n) →
    Go wf (k + 9) n (7 * j) m (mh mem [a, (j : Int), r1, 1, x4, c5, c6, 0] (wrap mem (base + 15)) (wrap mem (base - t)) told []) (mh (after mem base t a) [a, 0, itF form a j r1, 1, a, c5, c6, 0] (wrap mem (base + 27)) (wrap mem (base - t)) told [])
  | 0, _, _, _, _, _, _, _, _, h, _, _ => by omega
  | 1, mem, m, r1, x4, r, _, o, hr, _, _, hn => by
    have g := round (wf := wf) (k := k) (n := n) (m := m) (b1 := 1) (x4 := x4) (c5 := c5) (c6 := c6) (told := told) r ⟨o.1, o.2, rfl⟩ ha hr (by decide) rfl (fun i h1 h2 => hn i h1 (by omega))
    simpa [itF] using g
  | j + 2, mem, m, r1, x4, r, _, o, hr, _, hj, hn => by
    have g := round (wf := wf) (k := k) (n := n) (m := m) (b1 := ((j + 2 : Nat) : Int)) (x4 := x4) (c5 := c5) (c6 := c6) (told := told) r ⟨o.1, o.2, rfl⟩ ha hr (by omega) rfl (fun i h1 h2 => hn i h1 (by omega))
    have o2 : Ok mem [a, 0, 0, 0, 0, 0, 0, 0] := ⟨o.1, o.2, rfl⟩
    have q := rounds (c5 := c5) (c6 := c6) (told := told) ha (j + 1) (after mem base t a) (m + 7) (opF form r1 a) a r.after (.inr trivial) ⟨by simpa using o.1, (o2.after r ha).by_⟩ opF_by (by omega) (by omega) (fun i h1 h2 => by have := hn (i + 7) (by omega) (by omega); omega)
    have e1 : ((j + 2 : Nat) : Int) - 1 = ((j + 1 : Nat) : Int) := by omega
    have e2 : (1 : Int) < ((j + 2 : Nat) : Int) := by omega
    rw [if_pos e2, e1] at g
    rw [after_after r, wrap_after, wrap_after, wrap_after] at q
    have z := Go.trans (e := 7 * (j + 1)) g q
    have e3 : 7 + 7 * (j + 1) = 7 * (j + 2) := by omega
    rw [e3] at z
    exact z
theorem r_set {base form a b L P t m top : Int} {told : List D} (r : Rd0 mem base form a b L P t) (o : Ok mem boxes) (hn : ¬ m = n) (i : Nat) (hi : i < 5) (x v : Int) (h0 : (codeB form a b L P).getD (3 * i) 0 = 1) (h1 : (codeB form a b L P).getD (3 * i + 1) 0 = x) (h2 : (codeB form a b L P).getD (3 * i + 2) 0 = v) (hx : 0 ≤ x ∧ x < 8) :
    Go wf (k + 9) n 1 m (mh mem boxes (wrap mem (base + ((3 * i : Nat) : Int))) top told []) (mh mem (boxes.set x.toNat v) (wrap mem (base + ((3 * i + 3 : Nat) : Int))) top told []) := by
  have g := go_set (wf := wf) (k := k) (n := n) (m := m) (boxes := boxes) (at_ := wrap mem (base + ((3 * i : Nat) : Int))) (top := top) (told := told) (r := x) (v := v) o hn ((r.at0 (3 * i) (by omega)).trans h0) ((r.at2 (3 * i) 1 (by omega)).trans h1) ((r.at2 (3 * i) 2 (by omega)).trans h2) hx
  have e : base + ((3 * i : Nat) : Int) + 3 = base + ((3 * i + 3 : Nat) : Int) := by omega
  rw [wrap_wrap, e] at g
  exact g
theorem start5 {base form a b L P t m c0 c1 c2 c3 c4 c5 c6 c7 top : Int} {told : List D} (r : Rd0 mem base form a b L P t) (o : Ok mem [c0, c1, c2, c3, c4, c5, c6, c7]) (hn : ∀ i : Int, 0 ≤ i → i < 5 → ¬ m + i = n) :
    Go wf (k + 9) n 5 m (mh mem [c0, c1, c2, c3, c4, c5, c6, c7] (wrap mem base) top told []) (mh mem [a, b, if form = 2 then 1 else 0, 1, c4, c5, c6, 0] (wrap mem (base + 15)) top told []) := by
  have ok : ∀ bs : List Int, bs.length = 8 → Ok mem bs := fun bs h => ⟨o.pos, o.by_, h⟩
  have g1 := r_set (wf := wf) (k := k) (n := n) (m := m) (top := top) (told := told) (boxes := [c0, c1, c2, c3, c4, c5, c6, c7]) r o (by simpa using hn 0 (by decide) (by decide)) 0 (by decide) 0 a rfl rfl rfl (by decide)
  have g2 := r_set (wf := wf) (k := k) (n := n) (m := m + 1) (top := top) (told := told) (boxes := [a, c1, c2, c3, c4, c5, c6, c7]) r (ok _ rfl) (hn 1 (by decide) (by decide)) 1 (by decide) 1 b rfl rfl rfl (by decide)
  have g3 := r_set (wf := wf) (k := k) (n := n) (m := m + 1 + 1) (top := top) (told := told) (boxes := [a, b, c2, c3, c4, c5, c6, c7]) r (ok _ rfl) (by have := hn 2 (by decide) (by decide); omega) 2 (by decide) 2 _ rfl rfl rfl (by decide)
  have g4 := r_set (wf := wf) (k := k) (n := n) (m := m + 1 + 1 + 1) (top := top) (told := told) (boxes := [a, b, if form = 2 then 1 else 0, c3, c4, c5, c6, c7]) r (ok _ rfl) (by have := hn 3 (by decide) (by decide); omega) 3 (by decide) 3 1 rfl rfl rfl (by decide)
  have g5 := r_set (wf := wf) (k := k) (n := n) (m := m + 1 + 1 + 1 + 1) (top := top) (told := told) (boxes := [a, b, if form = 2 then 1 else 0, 1, c4, c5, c6, c7]) r (ok _ rfl) (by have := hn 4 (by decide) (by decide); omega) 4 (by decide) 7 0 rfl rfl rfl (by decide)
  have z := g1.cons (g2.cons (g3.cons (g4.cons (g5.cons Go.zero))))
  simpa using z
end K69
set_option Elab.async false
set_option linter.all false
set_option maxRecDepth 100000
set_option maxHeartbeats 4000000
/-! P12: run_on. -/
namespace K69
open CN
variable {k : Nat} {n : Int} {mem : List Int}
/-- the boxes at the end -/
def endB (form a c5 c6 : Int) (j : Nat) : List Int := [a, 0, itF form a j (if form = 2 then 1 else 0), 1, a, c5, c6, 0]
theorem to_tell {wf : Nat} {base form a L P t c0 c1 c2 c3 c4 c5 c6 c7 : Int} {j : Nat} (hj : 1 ≤ j ∧ j < 256) (r : Rd0 mem base form a (j : Int) L P t) (o : Ok mem [c0, c1, c2, c3, c4, c5, c6, c7]) (ha : 0 ≤ a ∧ a < 256) (hn : 5 + 7 * (j : Int) ≤ n) :
    Go wf (k + 9) n (5 + 7 * j) 0 (mh mem [c0, c1, c2, c3, c4, c5, c6, c7] (wrap mem base) (wrap mem (base - t)) [] []) (mh (after mem base t a) (endB form a c5 c6 j) (wrap mem (base + 27)) (wrap mem (base - t)) [] []) := by
  have g := start5 (wf := wf) (k := k) (n := n) (m := 0) (top := wrap mem (base - t)) (told := []) r o (fun i h1 h2 => by omega)
  have q := rounds (wf := wf) (k := k) (n := n) (c5 := c5) (c6 := c6) (told := []) ha j mem (0 + 5) (if form = 2 then 1 else 0) c4 r (.inr trivial) ⟨o.pos, o.by_⟩ (by split <;> decide) hj.1 hj.2 (fun i h1 h2 => by omega)
  exact g.trans q
theorem run_end {base form a L P t c0 c1 c2 c3 c4 c5 c6 c7 : Int} {j : Nat} (hj : 1 ≤ j ∧ j ≤ 100) (r : Rd0 mem base form a (j : Int) L P t) (o : Ok mem [c0, c1, c2, c3, c4, c5, c6, c7]) (ha : 0 ≤ a ∧ a < 256) (hn : 5 + 7 * (j : Int) ≤ n) :
    runFn T 1000 (k + 10) 64 [.ref 0, .int n] (mh mem [c0, c1, c2, c3, c4, c5, c6, c7] (wrap mem base) (wrap mem (base - t)) [] []) =
      .ok (.tup [.str (if 7 + 7 * (j : Int) ≤ n then "stopped" else "tired")]) (mh (after mem base t a) (endB form a c5 c6 j) (wrap mem (base + if n = 5 + 7 * (j : Int) then 27 else 29)) (wrap mem (base - t)) (if n = 5 + 7 * (j : Int) then [] else [.tup [.str "tell", .int (itF form a j (if form = 2 then 1 else 0))]]) []) := by
  have g := to_tell (wf := 1000) (k := k) (n := n) ⟨hj.1, by omega⟩ r o ha hn
  have ra := r.after
  have oe : Ok (after mem base t a) (endB form a c5 c6 j) := by
    have o2 : Ok mem [a, 0, 0, 0, 0, 0, 0, 0] := ⟨o.pos, o.by_, rfl⟩
    exact ⟨by simpa using o.pos, (o2.after r ha).by_, rfl⟩
  rw [run_on_eq]
  obtain ⟨x1, h1⟩ := g (995 - 7 * j) none
  have f1 : 995 - 7 * j + (5 + 7 * j) = 1000 := by omega
  rw [f1] at h1
  rw [h1]
  have c27 : cell (after mem base t a) (wrap mem (base + 27)) = 8 := by
    rw [← wrap_after mem base t a]
    exact ra.at0 27
  have c28 : cell (after mem base t a) (wrap mem (base + 27) + 1) = 2 := by
    rw [← wrap_after mem base t a]
    exact ra.at2 27 1
  have c29 : cell (after mem base t a) (wrap mem (base + 29)) = 19 := by
    rw [← wrap_after mem base t a]
    exact ra.at0 29
  have i27 := r51_tell (wf := 1000) (k := k + 4) (boxes := endB form a c5 c6 j) (at_ := wrap mem (base + 27)) (top := wrap mem (base - t)) (told := []) oe.pos oe.by_ c27
  by_cases c1 : n = 5 + 7 * (j : Int)
  · subst c1
    obtain ⟨f2, hf2⟩ : ∃ f2, 995 - 7 * j = f2 + 1 := ⟨994 - 7 * j, by omega⟩
    have e0 : (0 : Int) + ((5 + 7 * j : Nat) : Int) = 5 + 7 * (j : Int) := by omega
    rw [hf2, e0, rl_tired (f := f2) (x := x1) i27 (r62_tell (k := k + 7) _ 0)]
    have e1 : ¬ (7 + 7 * (j : Int) ≤ 5 + 7 * (j : Int)) := by omega
    simp [fin, back, e1]
  · have gt := go_tell (wf := 1000) (k := k) (n := n) (m := 0 + ((5 + 7 * j : Nat) : Int)) (boxes := endB form a c5 c6 j) (at_ := wrap mem (base + 27)) (top := wrap mem (base - t)) (told := []) (r := 2) oe (by omega) (by decide) c27 c28 (by decide)
    obtain ⟨x2, h2⟩ := gt (994 - 7 * j) x1
    have f2 : 994 - 7 * j + 1 = 995 - 7 * j := by omega
    rw [f2] at h2
    rw [h2]
    have e3 : wrap (after mem base t a) (wrap mem (base + 27) + 2) = wrap mem (base + 29) := by
      rw [wrap_after, wrap_wrap]
      congr 1
      omega
    have e4 : (0 : Int) + ((5 + 7 * j : Nat) : Int) + ((1 : Nat) : Int) = 6 + 7 * (j : Int) := by omega
    have e5 : bx (endB form a c5 c6 j) 2 = itF form a j (if form = 2 then 1 else 0) := rfl
    rw [e3, e4, e5]
    have i29 := r51_stop (wf := 1000) (k := k + 4) (boxes := endB form a c5 c6 j) (at_ := wrap mem (base + 29)) (top := wrap mem (base - t)) (told := [.tup [.str "tell", .int (itF form a j (if form = 2 then 1 else 0))]]) oe.pos oe.by_ c29
    obtain ⟨f3, hf3⟩ : ∃ f3, 994 - 7 * j = f3 + 1 := ⟨993 - 7 * j, by omega⟩
    by_cases c2 : n = 6 + 7 * (j : Int)
    · subst c2
      rw [hf3]
      have q := rl_tired (f := f3) (x := x2) (n := 6 + 7 * (j : Int)) i29 (r62_stop (k := k + 7) _ 0)
      rw [List.nil_append, q]
      have e1 : ¬ (7 + 7 * (j : Int) ≤ 6 + 7 * (j : Int)) := by omega
      have e6 : ¬ (6 + 7 * (j : Int) = 5 + 7 * (j : Int)) := by omega
      simp [fin, back, e1, e6]
    · rw [hf3]
      have q := rl_stop (f := f3) (x := x2) (n := n) (m := 6 + 7 * (j : Int)) (by omega) i29 (r62_stop (k := k + 7) _ 0)
      rw [List.nil_append, q]
      have e1 : 7 + 7 * (j : Int) ≤ n := by omega
      simp [fin, back, e1, c1]
end K69
set_option Elab.async false
set_option linter.all false
set_option maxRecDepth 100000
set_option maxHeartbeats 4000000
/-! P13: machine_run. -/
namespace K69
open CN
variable {wf k : Nat}
theorem r44 {xs : List Int} {S0 : GO} {s : Hs} : runFn T wf (k + 1) 44 [.ref 1, .tup (xs.map .int)] [.ins 0 [], .ins 1 []] = .ok .non [.ins 0 [], .ins 1 [(1, .ref 2), (2, .int xs.length)], .lst (xs.map .int)] := by
  rw [rf (f := i_RawMemory___init__) rfl rfl]
  simp [i_RawMemory___init__, evalE, evalT, evalEs, evalO, evalC, evalI, evalSs, evalS, evP, evPs, evO, evC, evI, pE, consL, pick, and2, or2, andT2, orT2, callM, callvM, makeM, madeBy, methM, biM, bmM, attrM, idxM, slM, soM, tupM, lstM, boxed, binM, cmpM, isNM, chainM, CN.notM, notT, negM, iteM, varM, asgM, subM, fldM, parM, augM, augfM, CN.forM, thruM, truly, assignTg, setAll, startE, fin, back, truth, binop, slop, bifun, bmeth, bmTy, seqAt, lstAt, tyName, isi, isNd, lenOk, putN, augop]
theorem r53 {x y z u : GO} : runFn T wf (k + 1) 53 [.ref 4, .tup []] [x, y, z, u, .ins 2 []] = .ok .non [x, y, z, u, .ins 2 [(7, .tup []), (8, .int 0), (9, .ref 5)], .lst []] := by
  rw [rf (f := i_Outside___init__) rfl rfl]
  simp [i_Outside___init__, evalE, evalT, evalEs, evalO, evalC, evalI, evalSs, evalS, evP, evPs, evO, evC, evI, pE, consL, pick, and2, or2, andT2, orT2, callM, callvM, makeM, madeBy, methM, biM, bmM, attrM, idxM, slM, soM, tupM, lstM, boxed, binM, cmpM, isNM, chainM, CN.notM, notT, negM, iteM, varM, asgM, subM, fldM, parM, augM, augfM, CN.forM, thruM, truly, assignTg, setAll, startE, fin, back, truth, binop, slop, bifun, bmeth, bmTy, seqAt, lstAt, tyName, isi, isNd, lenOk, putN, augop]
theorem I1 : T.inits[1]? = some 44 := rfl
theorem I2 : T.inits[2]? = some 53 := rfl
theorem I0 : T.inits[0]? = some 43 := rfl
theorem r43 {xs bs : List Int} {at_ top : Int} : runFn T wf (k + 2) 43 [.ref 0, .tup [.tup (xs.map .int), .tup (bs.map .int), .int at_, .int top], .tup []] [.ins 0 []] = .ok .non (mh xs bs at_ top [] []) := by
  rw [rf (f := i_RawMachine___init__) rfl rfl]
  have h := r44 (wf := wf) (k := k) (xs := xs) (S0 := .lst []) (s := [])
  simp [i_RawMachine___init__, h, r53, I1, I2, mh, evalE, evalT, evalEs, evalO, evalC, evalI, evalSs, evalS, evP, evPs, evO, evC, evI, pE, consL, pick, and2, or2, andT2, orT2, callM, callvM, makeM, madeBy, methM, biM, bmM, attrM, idxM, slM, soM, tupM, lstM, boxed, binM, cmpM, isNM, chainM, CN.notM, notT, negM, iteM, varM, asgM, subM, fldM, parM, augM, augfM, CN.forM, thruM, truly, assignTg, setAll, startE, fin, back, truth, binop, slop, bifun, bmeth, bmTy, seqAt, lstAt, tyName, isi, isNd, lenOk, putN, augop]
theorem r52 {mem boxes : List Int} {at_ top : Int} {told : List D} {l : Hs} : runFn T wf (k + 1) 52 [.ref 1] (mh mem boxes at_ top told l) = .ok (.tup (mem.map .int)) (mh mem boxes at_ top told l) := by
  rw [rf (f := i_RawMemory_whole) rfl rfl]
  simp [i_RawMemory_whole, mh, List.lookup, evalE, evalT, evalEs, evalO, evalC, evalI, evalSs, evalS, evP, evPs, evO, evC, evI, pE, consL, pick, and2, or2, andT2, orT2, callM, callvM, makeM, madeBy, methM, biM, bmM, attrM, idxM, slM, soM, tupM, lstM, boxed, binM, cmpM, isNM, chainM, CN.notM, notT, negM, iteM, varM, asgM, subM, fldM, parM, augM, augfM, CN.forM, thruM, truly, assignTg, setAll, startE, fin, back, truth, binop, slop, bifun, bmeth, bmTy, seqAt, lstAt, tyName, isi, isNd, lenOk, putN, augop]
theorem r57 {mem boxes : List Int} {at_ top : Int} {told : List D} {l : Hs} : runFn T wf (k + 1) 57 [.ref 4] (mh mem boxes at_ top told l) = .ok (.tup told) (mh mem boxes at_ top told l) := by
  rw [rf (f := i_Outside_events) rfl rfl]
  simp [i_Outside_events, mh, List.lookup, evalE, evalT, evalEs, evalO, evalC, evalI, evalSs, evalS, evP, evPs, evO, evC, evI, pE, consL, pick, and2, or2, andT2, orT2, callM, callvM, makeM, madeBy, methM, biM, bmM, attrM, idxM, slM, soM, tupM, lstM, boxed, binM, cmpM, isNM, chainM, CN.notM, notT, negM, iteM, varM, asgM, subM, fldM, parM, augM, augfM, CN.forM, thruM, truly, assignTg, setAll, startE, fin, back, truth, binop, slop, bifun, bmeth, bmTy, seqAt, lstAt, tyName, isi, isNd, lenOk, putN, augop]
theorem r58 {mem boxes : List Int} {at_ top : Int} {told : List D} {l : Hs} : runFn T wf (k + 2) 58 [.ref 0] (mh mem boxes at_ top told l) = .ok (.tup [.tup (mem.map .int), .tup (boxes.map .int), .int at_, .int top]) (mh mem boxes at_ top told l) := by
  rw [rf (f := i_RawMachine_whole_state) rfl rfl]
  have h := r52 (wf := wf) (k := k) (mem := mem) (boxes := boxes) (at_ := at_) (top := top) (told := told) (l := l)
  have z : 4 ≤ PySem.sizeLine := by decide
  unfold mh at h ⊢
  simp [i_RawMachine_whole_state, h, z, T1, List.lookup, evalE, evalT, evalEs, evalO, evalC, evalI, evalSs, evalS, evP, evPs, evO, evC, evI, pE, consL, pick, and2, or2, andT2, orT2, callM, callvM, makeM, madeBy, methM, biM, bmM, attrM, idxM, slM, soM, tupM, lstM, boxed, binM, cmpM, isNM, chainM, CN.notM, notT, negM, iteM, varM, asgM, subM, fldM, parM, augM, augfM, CN.forM, thruM, truly, assignTg, setAll, startE, fin, back, truth, binop, slop, bifun, bmeth, bmTy, seqAt, lstAt, tyName, isi, isNd, lenOk, putN, augop]
theorem r17 {mem boxes mem' boxes' : List Int} {at_ top n at' top' : Int} {told' : List D} {e : D} (h : runFn T wf (k + 2) 64 [.ref 0, .int n] (mh mem boxes at_ top [] []) = .ok e (mh mem' boxes' at' top' told' [])) :
    runFn T wf (k + 3) 17 [.tup [.tup (mem.map .int), .tup (boxes.map .int), .int at_, .int top], .tup [], .int n] [] = .ok (.tup [.tup told', e, .tup [.tup (mem'.map .int), .tup (boxes'.map .int), .int at', .int top']]) (mh mem' boxes' at' top' told' []) := by
  rw [rf (f := i_ran) rfl rfl]
  have h1 := r43 (wf := wf) (k := k) (xs := mem) (bs := boxes) (at_ := at_) (top := top)
  have h2 := r57 (wf := wf) (k := k + 1) (mem := mem') (boxes := boxes') (at_ := at') (top := top') (told := told') (l := [])
  have h3 := r58 (wf := wf) (k := k) (mem := mem') (boxes := boxes') (at_ := at') (top := top') (told := told') (l := [])
  have z : 3 ≤ PySem.sizeLine := by decide
  unfold mh at h h1 h2 h3 ⊢
  simp [i_ran, h, h1, h2, h3, z, I0, T0, T2, List.lookup, evalE, evalT, evalEs, evalO, evalC, evalI, evalSs, evalS, evP, evPs, evO, evC, evI, pE, consL, pick, and2, or2, andT2, orT2, callM, callvM, makeM, madeBy, methM, biM, bmM, attrM, idxM, slM, soM, tupM, lstM, boxed, binM, cmpM, isNM, chainM, CN.notM, notT, negM, iteM, varM, asgM, subM, fldM, parM, augM, augfM, CN.forM, thruM, truly, assignTg, setAll, startE, fin, back, truth, binop, slop, bifun, bmeth, bmTy, seqAt, lstAt, tyName, isi, isNd, lenOk, putN, augop]
end K69
set_option Elab.async false
set_option linter.all false
set_option maxRecDepth 100000
set_option maxHeartbeats 4000000
/-! P14: machine_run judged and run. -/
namespace K69
open CN
variable {wf k : Nat}
theorem r14 (xs : List Int) (lim : Int) (s : Hs) (hx : ∀ x ∈ xs, 0 ≤ x ∧ x < lim) (hl : xs.length ≤ 5000) : runFn T wf (k + 3) 14 [.tup (xs.map .int), .int lim] s = .ok (.bl true) s := by
  rw [rf (f := i_are_below) rfl rfl]
  have h := compM_map (own := [2]) (tg := .nm 2) (mi := evI T (runFn T wf (k + 2)) (.seq (.var 0))) (mc := evC T (runFn T wf (k + 2)) .no) (me := (evP T (runFn T wf (k + 2)) (.call 11 (.cons (.var 2) (.cons (.var 1) .nil)))).e) (env := [some (.tup (xs.map .int)), some (.int lim), none]) (s := s) (s1 := s) (ds := xs.map .int) (w := none) (fun _ => .bl true) rfl rfl (by
    intro d hd
    obtain ⟨x, hx', rfl⟩ := List.mem_map.mp hd
    obtain ⟨h1, h2⟩ := hx x hx'
    simp [stepC, wipeE, r11, h1, h2, evalE, evalT, evalEs, evalO, evalC, evalI, evalSs, evalS, evP, evPs, evO, evC, evI, pE, consL, pick, and2, or2, andT2, orT2, callM, callvM, makeM, madeBy, methM, biM, bmM, attrM, idxM, slM, soM, tupM, lstM, boxed, binM, cmpM, isNM, chainM, CN.notM, notT, negM, iteM, varM, asgM, subM, fldM, parM, augM, augfM, CN.forM, thruM, truly, assignTg, setAll, startE, fin, back, truth, binop, cmpop, idxop, slop, inD, bifun, bmeth, bmTy, seqAt, lstAt, tyName, isi, isNd, lenOk, putN, augop]) (by rw [List.length_map]; exact small5 hl)
  have e : (xs.map D.int).map (fun _ => D.bl true) = List.replicate xs.length (D.bl true) := by
    rw [List.map_map]
    exact List.map_const' ..
  rw [e] at h
  simp only [evalE, evalT, evalEs, evalO, evalC, evalI, evalSs, evalS, evP, evPs, evO, evC, evI, pE, consL, pick, and2, or2, andT2, orT2, callM, callvM, makeM, madeBy, methM, biM, bmM, attrM, idxM, slM, soM, tupM, lstM, boxed, binM, cmpM, isNM, chainM, CN.notM, notT, negM, iteM, varM, asgM, subM, fldM, parM, augM, augfM, CN.forM, thruM, truly, assignTg, setAll, startE, fin, back, truth, binop, cmpop, idxop, slop, inD, bifun, bmeth, bmTy, seqAt, lstAt, tyName, isi, isNd, lenOk, putN, augop, Res.bind_ok] at h
  simp [i_are_below, h, bools_true, evalE, evalT, evalEs, evalO, evalC, evalI, evalSs, evalS, evP, evPs, evO, evC, evI, pE, consL, pick, and2, or2, andT2, orT2, callM, callvM, makeM, madeBy, methM, biM, bmM, attrM, idxM, slM, soM, tupM, lstM, boxed, binM, cmpM, isNM, chainM, CN.notM, notT, negM, iteM, varM, asgM, subM, fldM, parM, augM, augfM, CN.forM, thruM, truly, assignTg, setAll, startE, fin, back, truth, binop, cmpop, idxop, slop, inD, bifun, bmeth, bmTy, seqAt, lstAt, tyName, isi, isNd, lenOk, putN, augop]
theorem r13 (xs : List Int) (lim : Int) (s : Hs) (hx : ∀ x ∈ xs, 0 ≤ x ∧ x < lim) (hl : xs.length ≤ 5000) : runFn T wf (k + 4) 13 [.tup (xs.map .int), .int xs.length, .int lim] s = .ok (.bl true) s := by
  rw [rf (f := i_are_numbers_below) rfl rfl]
  have h := r8 (wf := wf) (k := k + 2) (xs.map .int) (xs.length : Int) s
  have h2 := r14 (wf := wf) (k := k) xs lim s hx hl
  rw [List.length_map] at h
  simp at h
  simp [i_are_numbers_below, h, h2, evalE, evalT, evalEs, evalO, evalC, evalI, evalSs, evalS, evP, evPs, evO, evC, evI, pE, consL, pick, and2, or2, andT2, orT2, callM, callvM, makeM, madeBy, methM, biM, bmM, attrM, idxM, slM, soM, tupM, lstM, boxed, binM, cmpM, isNM, chainM, CN.notM, notT, negM, iteM, varM, asgM, subM, fldM, parM, augM, augfM, CN.forM, thruM, truly, assignTg, setAll, startE, fin, back, truth, binop, slop, bifun, bmeth, bmTy, seqAt, lstAt, tyName, isi, isNd, lenOk, putN, augop]
theorem C0 : T.consts[0]? = some (.int 65536) := rfl
theorem r7 {mem boxes : List Int} {at_ top : Int} (s : Hs) (o : Ok mem boxes) (hb : ∀ x ∈ boxes, 0 ≤ x ∧ x < 256) (hl : mem.length ≤ 4096) (h0 : 0 ≤ at_ ∧ at_ < mem.length) (h1 : 0 ≤ top ∧ top < mem.length) :
    runFn T wf (k + 5) 7 [.tup [.tup (mem.map .int), .tup (boxes.map .int), .int at_, .int top]] s = .ok (.bl true) s := by
  rw [rf (f := i_is_machine_state) rfl rfl]
  have q1 := r8 (wf := wf) (k := k + 3) [.tup (mem.map .int), .tup (boxes.map .int), .int at_, .int top] 4 s
  have q2 := r9 (wf := wf) (k := k) mem s o.by_ (by omega)
  have q3 := r13 (wf := wf) (k := k) boxes 256 s hb (by rw [o.bl]; decide)
  have q4 := r11 (wf := wf) (k := k + 2) at_ (mem.length : Int) s
  have q5 := r11 (wf := wf) (k := k + 2) top (mem.length : Int) s
  have e1 : (1 : Int) ≤ (mem.length : Int) := by have := o.pos; omega
  have e2 : (mem.length : Int) ≤ 65536 := by omega
  rw [o.bl] at q3
  simp [h0.1, h0.2] at q4
  simp [h1.1, h1.2] at q5
  simp at q1 q3
  simp [i_is_machine_state, q1, q2, q3, q4, q5, e1, e2, C0, C1, C2, evalE, evalT, evalEs, evalO, evalC, evalI, evalSs, evalS, evP, evPs, evO, evC, evI, pE, consL, pick, and2, or2, andT2, orT2, callM, callvM, makeM, madeBy, methM, biM, bmM, attrM, idxM, slM, soM, tupM, lstM, boxed, binM, cmpM, isNM, chainM, CN.notM, notT, negM, iteM, varM, asgM, subM, fldM, parM, augM, augfM, CN.forM, thruM, truly, assignTg, setAll, startE, fin, back, truth, binop, slop, bifun, bmeth, bmTy, seqAt, lstAt, tyName, isi, isNd, lenOk, putN, augop]
theorem r15 (s : Hs) : runFn T wf (k + 5) 15 [.tup []] s = .ok (.bl true) s := by
  rw [rf (f := i_are_machine_answers) rfl rfl]
  have q2 := r9 (wf := wf) (k := k) [] s (fun x h => by cases h) (by decide)
  simp at q2
  simp [i_are_machine_answers, q2, compM, loopComp, seqI, evalE, evalT, evalEs, evalO, evalC, evalI, evalSs, evalS, evP, evPs, evO, evC, evI, pE, consL, pick, and2, or2, andT2, orT2, callM, callvM, makeM, madeBy, methM, biM, bmM, attrM, idxM, slM, soM, tupM, lstM, boxed, binM, cmpM, isNM, chainM, CN.notM, notT, negM, iteM, varM, asgM, subM, fldM, parM, augM, augfM, CN.forM, thruM, truly, assignTg, setAll, startE, fin, back, truth, binop, slop, bifun, bmeth, bmTy, seqAt, lstAt, tyName, isi, isNd, lenOk, putN, augop]
theorem noRefs_ints : ∀ xs : List Int, noRefs (xs.map D.int) = true
  | [] => rfl
  | x :: xs => by
    show (noRef (.int x) && noRefs (xs.map D.int)) = true
    rw [noRefs_ints xs]
    rfl
theorem r6 {mem boxes mem' boxes' : List Int} {at_ top n at' top' : Int} {told' : List D} {e : D} {s : Hs} (o : Ok mem boxes) (hb : ∀ x ∈ boxes, 0 ≤ x ∧ x < 256) (hl : mem.length ≤ 4096) (h0 : 0 ≤ at_ ∧ at_ < mem.length) (h1 : 0 ≤ top ∧ top < mem.length) (hn : 0 ≤ n)
    (h : runFn T wf (k + 4) 64 [.ref 0, .int n] (mh mem boxes at_ top [] []) = .ok e (mh mem' boxes' at' top' told' [])) (hr : noRef (.tup [.tup told', e, .tup [.tup (mem'.map .int), .tup (boxes'.map .int), .int at', .int top']]) = true) :
    runFn T wf (k + 6) 6 [.tup [.tup (mem.map .int), .tup (boxes.map .int), .int at_, .int top], .tup [], .int n] s = .ok (.tup [.tup told', e, .tup [.tup (mem'.map .int), .tup (boxes'.map .int), .int at', .int top']]) s := by
  rw [rf4 (f := i_machine_run) rfl rfl (by simp [noRefs, noRef, noRefs_ints])]
  have q1 := r7 (wf := wf) (k := k) [] o hb hl h0 h1
  have q2 := r15 (wf := wf) (k := k) []
  have q3 := r16 (wf := wf) (k := k + 3) n []
  have q4 := r17 (wf := wf) (k := k + 2) h
  simp [hn] at q3
  simp [i_machine_run, q1, q2, q3, q4, backF, hr, evalE, evalT, evalEs, evalO, evalC, evalI, evalSs, evalS, evP, evPs, evO, evC, evI, pE, consL, pick, and2, or2, andT2, orT2, callM, callvM, makeM, madeBy, methM, biM, bmM, attrM, idxM, slM, soM, tupM, lstM, boxed, binM, cmpM, isNM, chainM, CN.notM, notT, negM, iteM, varM, asgM, subM, fldM, parM, augM, augfM, CN.forM, thruM, truly, assignTg, setAll, startE, fin, back, truth, binop, slop, bifun, bmeth, bmTy, seqAt, lstAt, tyName, isi, isNd, lenOk, putN, augop]
end K69
set_option Elab.async false
set_option linter.all false
set_option maxRecDepth 100000
set_option maxHeartbeats 4000000
/-! P15: the jar. -/
namespace K69
open CN
variable {wf k : Nat}
def jl (cells : List Int) (i l d : Int) : GO := .lst [.tl (cells.map .int), .int i, .int l, .int d]
@[simp] theorem ix0 {α : Type} (x : α) (xs : List α) : L2.ixN (x :: xs).length 0 = some 0 := ixN_nat (j := 0) (by simp)
theorem ix4 (j : Nat) (hj : j < 4) : L2.ixN 4 (j : Int) = some j := ixN_nat hj
theorem ix41 : L2.ixN 4 1 = some 1 := rfl
theorem ix42 : L2.ixN 4 2 = some 2 := rfl
theorem ix43 : L2.ixN 4 3 = some 3 := rfl
theorem atI_in {cells : List Int} {i : Int} (h0 : 0 ≤ i) (h1 : i < cells.length) : ∃ x, L2.atI (cells.map D.int) i = some (.int x) := by
  obtain ⟨j, rfl⟩ : ∃ j : Nat, i = (j : Int) := ⟨i.toNat, by omega⟩
  have hl : j < cells.length := by omega
  exact ⟨cells[j], by rw [atI_nat _ _ (by simpa using hl), List.getElem?_map, List.getElem?_eq_getElem hl]; rfl⟩
theorem fm {x m : Int} (h : 0 ≤ m) : x.fmod m = x % m := Int.fmod_eq_emod_of_nonneg x h
theorem fd {x m : Int} (h : 0 ≤ m) : x.fdiv m = x / m := Int.fdiv_eq_ediv_of_nonneg x h
def mixV (y d lim : Int) : Int := (((y * 69069 + (d + 1) * 40503 + 11) % 1000000007) * ((y * 69069 + (d + 1) * 40503 + 11) % 1000000007) + (d + 1) * 7919 + y) % 998244353 / 16 % lim
theorem e1 (x : Int) : x.fmod 1000000007 = x % 1000000007 := fm (by decide)
theorem e2 (x : Int) : x.fmod 998244353 = x % 998244353 := fm (by decide)
theorem e3 (x : Int) : x.fdiv 16 = x / 16 := fd (by decide)
theorem mixR (x : Int) : (-18446744073709551616 : Int) < x % 1000000007 ∧ x % 1000000007 < 18446744073709551616 := by omega
theorem draw {cells : List Int} {i l d lim : Int} {rest : Hs} (hc : 0 < cells.length) (hi : 0 ≤ i) (hl : 0 ≤ l) (hd : 0 ≤ d) (h0 : 0 < lim) (h1 : lim < 1073741824) :
    ∃ v i' l', 0 ≤ v ∧ v < lim ∧ 0 ≤ i' ∧ 0 ≤ l' ∧ runFn T wf (k + 1) 3 [.ref 0, .int lim] (jl cells i l d :: rest) = .ok (.int v) (jl cells i' l' (d + 1) :: rest) := by
  have hl0 : ¬ lim = 0 := by omega
  have hla : lim.natAbs < 1073741824 := by omega
  have hcl : ¬ (cells.length : Int) = 0 := by omega
  have hce : ¬ cells = [] := by rintro rfl; simp at hc
  have w0 : 0 ≤ (d + 1) % (cells.length : Int) := Int.emod_nonneg _ hcl
  have w1 : (d + 1) % (cells.length : Int) < cells.length := Int.emod_lt_of_pos _ (by omega)
  obtain ⟨y, hy⟩ := atI_in w0 w1
  have p12 : ((10 : Int) ^ 12) = 1000000000000 := by decide
  -- the mixed end
  by_cases c1 : l = 0 ∧ i < cells.length
  · obtain ⟨rfl, c1⟩ := c1
    obtain ⟨x, hx⟩ := atI_in hi c1
    by_cases c2 : 1000000000000 ≤ x
    · refine ⟨x % lim, i + 1, x / lim, Int.emod_nonneg _ hl0, Int.emod_lt_of_pos _ h0, by omega, Int.ediv_nonneg (by omega) (by omega), ?_⟩
      rw [rf (f := i__law_draw) rfl rfl]
      have c3 : 0 < x := by omega
      simp [i__law_draw, jl, c1, hx, c2, c3, hl0, hla, fm (Int.le_of_lt h0), fd (Int.le_of_lt h0), ix41, ix42, ix43, inRng, p12, mixR, evalE, evalT, evalEs, evalO, evalC, evalI, evalSs, evalS, evP, evPs, evO, evC, evI, pE, consL, pick, and2, or2, andT2, orT2, callM, callvM, makeM, madeBy, methM, biM, bmM, attrM, idxM, slM, soM, tupM, lstM, boxed, binM, cmpM, isNM, chainM, CN.notM, notT, negM, iteM, varM, asgM, subM, fldM, parM, augM, augfM, CN.forM, thruM, truly, assignTg, setAll, startE, fin, back, truth, binop, slop, bifun, bmeth, bmTy, seqAt, lstAt, tyName, isi, isNd, lenOk, putN, augop]
    · refine ⟨mixV y d lim, i + 1, 0, Int.emod_nonneg _ hl0, Int.emod_lt_of_pos _ h0, by omega, by omega, ?_⟩
      rw [rf (f := i__law_draw) rfl rfl]
      simp [i__law_draw, jl, c1, hx, c2, hl0, hla, hcl, hce, hy, fm (Int.le_of_lt h0), fm (show (0 : Int) ≤ (cells.length : Int) by omega), e1, e2, e3, mixV, ix41, ix42, ix43, inRng, p12, mixR, evalE, evalT, evalEs, evalO, evalC, evalI, evalSs, evalS, evP, evPs, evO, evC, evI, pE, consL, pick, and2, or2, andT2, orT2, callM, callvM, makeM, madeBy, methM, biM, bmM, attrM, idxM, slM, soM, tupM, lstM, boxed, binM, cmpM, isNM, chainM, CN.notM, notT, negM, iteM, varM, asgM, subM, fldM, parM, augM, augfM, CN.forM, thruM, truly, assignTg, setAll, startE, fin, back, truth, binop, slop, bifun, bmeth, bmTy, seqAt, lstAt, tyName, isi, isNd, lenOk, putN, augop]
  · by_cases c2 : 0 < l
    · refine ⟨l % lim, i, l / lim, Int.emod_nonneg _ hl0, Int.emod_lt_of_pos _ h0, by omega, Int.ediv_nonneg (by omega) (by omega), ?_⟩
      rw [rf (f := i__law_draw) rfl rfl]
      have c3 : ¬ l = 0 := by omega
      simp [i__law_draw, jl, c2, c3, hl0, hla, fm (Int.le_of_lt h0), fd (Int.le_of_lt h0), ix41, ix42, ix43, inRng, p12, mixR, evalE, evalT, evalEs, evalO, evalC, evalI, evalSs, evalS, evP, evPs, evO, evC, evI, pE, consL, pick, and2, or2, andT2, orT2, callM, callvM, makeM, madeBy, methM, biM, bmM, attrM, idxM, slM, soM, tupM, lstM, boxed, binM, cmpM, isNM, chainM, CN.notM, notT, negM, iteM, varM, asgM, subM, fldM, parM, augM, augfM, CN.forM, thruM, truly, assignTg, setAll, startE, fin, back, truth, binop, slop, bifun, bmeth, bmTy, seqAt, lstAt, tyName, isi, isNd, lenOk, putN, augop]
    · have c3 : l = 0 := by omega
      subst c3
      have c4 : ¬ i < (cells.length : Int) := fun q => c1 ⟨rfl, q⟩
      refine ⟨mixV y d lim, i, 0, Int.emod_nonneg _ hl0, Int.emod_lt_of_pos _ h0, by omega, by omega, ?_⟩
      rw [rf (f := i__law_draw) rfl rfl]
      simp [i__law_draw, jl, c4, hl0, hla, hcl, hce, hy, fm (Int.le_of_lt h0), fm (show (0 : Int) ≤ (cells.length : Int) by omega), e1, e2, e3, mixV, ix41, ix42, ix43, inRng, p12, mixR, evalE, evalT, evalEs, evalO, evalC, evalI, evalSs, evalS, evP, evPs, evO, evC, evI, pE, consL, pick, and2, or2, andT2, orT2, callM, callvM, makeM, madeBy, methM, biM, bmM, attrM, idxM, slM, soM, tupM, lstM, boxed, binM, cmpM, isNM, chainM, CN.notM, notT, negM, iteM, varM, asgM, subM, fldM, parM, augM, augfM, CN.forM, thruM, truly, assignTg, setAll, startE, fin, back, truth, binop, slop, bifun, bmeth, bmTy, seqAt, lstAt, tyName, isi, isNd, lenOk, putN, augop]
end K69
set_option Elab.async false
set_option linter.all false
set_option maxRecDepth 100000
set_option maxHeartbeats 4000000
/-! P16: the jar's start. -/
namespace K69
open CN
variable {wf k : Nat}
theorem cut63 {ds : List D} (h : ds.length ≤ 63) : cut ds none (some 63) = ds := by
  have e : HT.sIx ds.length ds.length (some 63) = ds.length := by
    show (if (63 : Int) < 0 then ((63 : Int) + (ds.length : Int)).toNat else min (63 : Int).toNat ds.length) = _
    rw [if_neg (by decide)]
    show min 63 ds.length = _
    omega
  unfold cut
  rw [e]
  show (ds.drop 0).take (ds.length - 0) = ds
  simp
theorem r2 (ns : List Int) (hl : ns.length ≤ 63) (d : D) (hd : d = D.tl (ns.map D.int) ∨ d = D.kl (ns.map D.int)) : ∃ cells : List Int, 0 < cells.length ∧ runFn T wf (k + 1) 2 [d] [] = .ok (.ref 0) [jl cells 0 0 0] := by
  refine ⟨ns ++ List.replicate (if ns.length = 0 then 1 else 0) 5, ?_, ?_⟩
  · rw [List.length_append, List.length_replicate]
    split <;> omega
  · rw [rf (f := i__law_jar) rfl rfl]
    have z1 : 1 ≤ PySem.sizeLine := by decide
    have z4 : 4 ≤ PySem.sizeLine := by decide
    have z2 : ns.length + (if ns.length = 0 then 1 else 0) ≤ PySem.sizeLine := Nat.le_trans (show _ ≤ 64 by split <;> omega) (by decide)
    have hs : ∀ dd, (dd = D.tl (ns.map D.int) ∨ dd = D.kl (ns.map D.int)) → seqI dd [] = .ok (ns.map D.int, none) [] := by
      rintro dd (rfl | rfl) <;> rfl
    have h := compM_map (own := [1]) (tg := .nm 1) (mi := evI T (runFn T wf k) (.seq (.var 0))) (mc := evC T (runFn T wf k) .no) (me := (evP T (runFn T wf k) (.bi .int (.cons (.var 1) .nil))).e) (env := [some d, none]) (s := []) (s1 := []) (ds := ns.map .int) (w := none) id (hs d hd) rfl (by
      intro x hx
      obtain ⟨y, hy, rfl⟩ := List.mem_map.mp hx
      simp [stepC, wipeE, evalE, evalT, evalEs, evalO, evalC, evalI, evalSs, evalS, evP, evPs, evO, evC, evI, pE, consL, pick, and2, or2, andT2, orT2, callM, callvM, makeM, madeBy, methM, biM, bmM, attrM, idxM, slM, soM, tupM, lstM, boxed, binM, cmpM, isNM, chainM, CN.notM, notT, negM, iteM, varM, asgM, subM, fldM, parM, augM, augfM, CN.forM, thruM, truly, assignTg, setAll, startE, fin, back, truth, binop, cmpop, idxop, slop, inD, bifun, bmeth, bmTy, seqAt, lstAt, tyName, isi, isNd, lenOk, putN, augop]) (by rw [List.length_map]; exact small5 (by omega))
    rw [List.map_id] at h
    have hc := cut63 (ds := ns.map D.int) (by simpa using hl)
    have hz : (ns.map D.int).length + (if ns.length = 0 then 1 else 0) ≤ PySem.sizeLine := by rw [List.length_map]; exact z2
    rcases hd with rfl | rfl
    · simp only [evalE, evalT, evalEs, evalO, evalC, evalI, evalSs, evalS, evP, evPs, evO, evC, evI, pE, consL, pick, and2, or2, andT2, orT2, callM, callvM, makeM, madeBy, methM, biM, bmM, attrM, idxM, slM, soM, tupM, lstM, boxed, binM, cmpM, isNM, chainM, CN.notM, notT, negM, iteM, varM, asgM, subM, fldM, parM, augM, augfM, CN.forM, thruM, truly, assignTg, setAll, startE, fin, back, truth, binop, cmpop, idxop, slop, inD, bifun, bmeth, bmTy, seqAt, lstAt, tyName, isi, isNd, lenOk, putN, augop, Res.bind_ok] at h
      by_cases c : ns.length = 0
      · have c' : ns = [] := List.eq_nil_of_length_eq_zero c
        subst c'
        simp at h hc
        simp [i__law_jar, h, hc, jl, z1, z4, evalE, evalT, evalEs, evalO, evalC, evalI, evalSs, evalS, evP, evPs, evO, evC, evI, pE, consL, pick, and2, or2, andT2, orT2, callM, callvM, makeM, madeBy, methM, biM, bmM, attrM, idxM, slM, soM, tupM, lstM, boxed, binM, cmpM, isNM, chainM, CN.notM, notT, negM, iteM, varM, asgM, subM, fldM, parM, augM, augfM, CN.forM, thruM, truly, assignTg, setAll, startE, fin, back, truth, binop, cmpop, idxop, slop, inD, bifun, bmeth, bmTy, seqAt, lstAt, tyName, isi, isNd, lenOk, putN, augop]
      · have c' : ¬ ns = [] := by rintro rfl; simp at c
        simp [c] at z2
        simp [i__law_jar, h, hc, c, c', jl, z1, z2, z4, evalE, evalT, evalEs, evalO, evalC, evalI, evalSs, evalS, evP, evPs, evO, evC, evI, pE, consL, pick, and2, or2, andT2, orT2, callM, callvM, makeM, madeBy, methM, biM, bmM, attrM, idxM, slM, soM, tupM, lstM, boxed, binM, cmpM, isNM, chainM, CN.notM, notT, negM, iteM, varM, asgM, subM, fldM, parM, augM, augfM, CN.forM, thruM, truly, assignTg, setAll, startE, fin, back, truth, binop, cmpop, idxop, slop, inD, bifun, bmeth, bmTy, seqAt, lstAt, tyName, isi, isNd, lenOk, putN, augop]
    · simp only [evalE, evalT, evalEs, evalO, evalC, evalI, evalSs, evalS, evP, evPs, evO, evC, evI, pE, consL, pick, and2, or2, andT2, orT2, callM, callvM, makeM, madeBy, methM, biM, bmM, attrM, idxM, slM, soM, tupM, lstM, boxed, binM, cmpM, isNM, chainM, CN.notM, notT, negM, iteM, varM, asgM, subM, fldM, parM, augM, augfM, CN.forM, thruM, truly, assignTg, setAll, startE, fin, back, truth, binop, cmpop, idxop, slop, inD, bifun, bmeth, bmTy, seqAt, lstAt, tyName, isi, isNd, lenOk, putN, augop, Res.bind_ok] at h
      by_cases c : ns.length = 0
      · have c' : ns = [] := List.eq_nil_of_length_eq_zero c
        subst c'
        simp at h hc
        simp [i__law_jar, h, hc, jl, z1, z4, evalE, evalT, evalEs, evalO, evalC, evalI, evalSs, evalS, evP, evPs, evO, evC, evI, pE, consL, pick, and2, or2, andT2, orT2, callM, callvM, makeM, madeBy, methM, biM, bmM, attrM, idxM, slM, soM, tupM, lstM, boxed, binM, cmpM, isNM, chainM, CN.notM, notT, negM, iteM, varM, asgM, subM, fldM, parM, augM, augfM, CN.forM, thruM, truly, assignTg, setAll, startE, fin, back, truth, binop, cmpop, idxop, slop, inD, bifun, bmeth, bmTy, seqAt, lstAt, tyName, isi, isNd, lenOk, putN, augop]
      · have c' : ¬ ns = [] := by rintro rfl; simp at c
        simp [c] at z2
        simp [i__law_jar, h, hc, c, c', jl, z1, z2, z4, evalE, evalT, evalEs, evalO, evalC, evalI, evalSs, evalS, evP, evPs, evO, evC, evI, pE, consL, pick, and2, or2, andT2, orT2, callM, callvM, makeM, madeBy, methM, biM, bmM, attrM, idxM, slM, soM, tupM, lstM, boxed, binM, cmpM, isNM, chainM, CN.notM, notT, negM, iteM, varM, asgM, subM, fldM, parM, augM, augfM, CN.forM, thruM, truly, assignTg, setAll, startE, fin, back, truth, binop, cmpop, idxop, slop, inD, bifun, bmeth, bmTy, seqAt, lstAt, tyName, isi, isNd, lenOk, putN, augop]
end K69
set_option Elab.async false
set_option linter.all false
set_option maxRecDepth 100000
set_option maxHeartbeats 4000000
/-! P17: the law's rows as bytes. -/
namespace K69
open CN PySem.W PySem.Calls PyProof.Rows
variable {wf k : Nat}
theorem r5_set (x0 x1 : Int) (s : Hs) : runFn T wf (k + 1) 5 [.tup [.str "set", .int x0, .int x1]] s = .ok (.tl [.int 1, .int (x0.fmod 256), .int (x1.fmod 256)]) s := by kernel_rfl
theorem r5_call (x0 : Int) (s : Hs) : runFn T wf (k + 1) 5 [.tup [.str "call", .int x0]] s = .ok (.tl [.int 14, .int (x0.fdiv 256), .int (x0.fmod 256)]) s := by kernel_rfl
theorem r5_sub (x0 x1 x2 : Int) (s : Hs) : runFn T wf (k + 1) 5 [.tup [.str "sub", .int x0, .int x1, .int x2]] s = .ok (.tl [.int 4, .int (x0.fmod 256), .int (x1.fmod 256), .int (x2.fmod 256)]) s := by kernel_rfl
theorem r5_less (x0 x1 x2 : Int) (s : Hs) : runFn T wf (k + 1) 5 [.tup [.str "less", .int x0, .int x1, .int x2]] s = .ok (.tl [.int 11, .int (x0.fmod 256), .int (x1.fmod 256), .int (x2.fdiv 256), .int (x2.fmod 256)]) s := by kernel_rfl
theorem r5_tell (x0 : Int) (s : Hs) : runFn T wf (k + 1) 5 [.tup [.str "tell", .int x0]] s = .ok (.tl [.int 8, .int (x0.fmod 256)]) s := by kernel_rfl
theorem r5_stop (s : Hs) : runFn T wf (k + 1) 5 [.tup [.str "stop"]] s = .ok (.tl [.int 19]) s := by kernel_rfl
theorem r5_push (x0 : Int) (s : Hs) : runFn T wf (k + 1) 5 [.tup [.str "push", .int x0]] s = .ok (.tl [.int 16, .int (x0.fmod 256)]) s := by kernel_rfl
theorem r5_add (x0 x1 x2 : Int) (s : Hs) : runFn T wf (k + 1) 5 [.tup [.str "add", .int x0, .int x1, .int x2]] s = .ok (.tl [.int 3, .int (x0.fmod 256), .int (x1.fmod 256), .int (x2.fmod 256)]) s := by kernel_rfl
theorem r5_mul (x0 x1 x2 : Int) (s : Hs) : runFn T wf (k + 1) 5 [.tup [.str "mul", .int x0, .int x1, .int x2]] s = .ok (.tl [.int 5, .int (x0.fmod 256), .int (x1.fmod 256), .int (x2.fmod 256)]) s := by kernel_rfl
theorem r5_pop (x0 : Int) (s : Hs) : runFn T wf (k + 1) 5 [.tup [.str "pop", .int x0]] s = .ok (.tl [.int 17, .int (x0.fmod 256)]) s := by kernel_rfl
theorem r5_back (s : Hs) : runFn T wf (k + 1) 5 [.tup [.str "back"]] s = .ok (.tl [.int 15]) s := by kernel_rfl
theorem r4_0 (a b loop part : Int) (s : Hs) : runFn T wf (k + 1) 4 [.int 0, .int a, .int b, .int loop, .int part] s = .ok (.tl [.tup [.str "set", .int 0, .int a], .tup [.str "set", .int 1, .int b], .tup [.str "set", .int 2, .int 0], .tup [.str "set", .int 3, .int 1], .tup [.str "set", .int 7, .int 0], .tup [.str "call", .int part], .tup [.str "sub", .int 1, .int 1, .int 3], .tup [.str "less", .int 7, .int 1, .int loop], .tup [.str "tell", .int 2], .tup [.str "stop"], .tup [.str "push", .int 0], .tup [.str "add", .int 2, .int 2, .int 0], .tup [.str "pop", .int 4], .tup [.str "back"]]) s := by kernel_rfl
theorem r4_1 (a b loop part : Int) (s : Hs) : runFn T wf (k + 1) 4 [.int 1, .int a, .int b, .int loop, .int part] s = .ok (.tl [.tup [.str "set", .int 0, .int a], .tup [.str "set", .int 1, .int b], .tup [.str "set", .int 2, .int 0], .tup [.str "set", .int 3, .int 1], .tup [.str "set", .int 7, .int 0], .tup [.str "call", .int part], .tup [.str "sub", .int 1, .int 1, .int 3], .tup [.str "less", .int 7, .int 1, .int loop], .tup [.str "tell", .int 2], .tup [.str "stop"], .tup [.str "push", .int 0], .tup [.str "sub", .int 2, .int 2, .int 0], .tup [.str "pop", .int 4], .tup [.str "back"]]) s := by kernel_rfl
theorem r4_2 (a b loop part : Int) (s : Hs) : runFn T wf (k + 1) 4 [.int 2, .int a, .int b, .int loop, .int part] s = .ok (.tl [.tup [.str "set", .int 0, .int a], .tup [.str "set", .int 1, .int b], .tup [.str "set", .int 2, .int 1], .tup [.str "set", .int 3, .int 1], .tup [.str "set", .int 7, .int 0], .tup [.str "call", .int part], .tup [.str "sub", .int 1, .int 1, .int 3], .tup [.str "less", .int 7, .int 1, .int loop], .tup [.str "tell", .int 2], .tup [.str "stop"], .tup [.str "push", .int 0], .tup [.str "mul", .int 2, .int 2, .int 0], .tup [.str "pop", .int 4], .tup [.str "back"]]) s := by kernel_rfl
end K69
set_option Elab.async false
set_option linter.all false
set_option maxRecDepth 100000
set_option maxHeartbeats 4000000
/-! P18: alike. -/
namespace K69
open CN
variable {wf k : Nat}
theorem r41_int (x : Int) (s : Hs) : runFn T wf (k + 1) 41 [.int x, .int x] s = .ok (.bl true) s := by
  rw [rf (f := i__law_same) rfl rfl]
  have e : ∀ b : Bool, cmpop T.tabs s .ne (.bl b) (.bl b) = some false := by intro b; cases b <;> rfl
  have e' : ∀ b : Bool, cmpop T.tabs s .eq (.bl b) (.bl b) = some true := by intro b; cases b <;> rfl
  simp [i__law_same, e, e', evalE, evalT, evalEs, evalO, evalC, evalI, evalSs, evalS, evP, evPs, evO, evC, evI, pE, consL, pick, and2, or2, andT2, orT2, callM, callvM, makeM, madeBy, methM, biM, bmM, attrM, idxM, slM, soM, tupM, lstM, boxed, binM, cmpM, isNM, chainM, CN.notM, notT, negM, iteM, varM, asgM, subM, fldM, parM, augM, augfM, CN.forM, thruM, truly, assignTg, setAll, startE, fin, back, truth, binop, slop, bifun, bmeth, bmTy, seqAt, lstAt, tyName, isi, isNd, lenOk, putN, augop]
theorem r41_tell (s : Hs) : runFn T wf (k + 1) 41 [.str "tell", .str "tell"] s = .ok (.bl true) s := by
  rw [rf (f := i__law_same) rfl rfl]
  have e : ∀ b : Bool, cmpop T.tabs s .ne (.bl b) (.bl b) = some false := by intro b; cases b <;> rfl
  have e' : ∀ b : Bool, cmpop T.tabs s .eq (.bl b) (.bl b) = some true := by intro b; cases b <;> rfl
  have e2 : cmpop T.tabs s .eq (.str "tell") (.str "tell") = some true := (eqD_str s _ _ (by decide +kernel) (by decide +kernel)).trans (congrArg some (by decide +kernel))
  simp [i__law_same, e, e', e2, evalE, evalT, evalEs, evalO, evalC, evalI, evalSs, evalS, evP, evPs, evO, evC, evI, pE, consL, pick, and2, or2, andT2, orT2, callM, callvM, makeM, madeBy, methM, biM, bmM, attrM, idxM, slM, soM, tupM, lstM, boxed, binM, cmpM, isNM, chainM, CN.notM, notT, negM, iteM, varM, asgM, subM, fldM, parM, augM, augfM, CN.forM, thruM, truly, assignTg, setAll, startE, fin, back, truth, binop, slop, bifun, bmeth, bmTy, seqAt, lstAt, tyName, isi, isNd, lenOk, putN, augop]
end K69
set_option Elab.async false
set_option linter.all false
set_option maxRecDepth 100000
set_option maxHeartbeats 4000000
/-! P19: whatever is alike to itself. -/
namespace K69
open CN
variable {wf k : Nat}
theorem notin_true (n : Nat) (s : Hs) : cmpop T.tabs s .notin (.bl false) (.tl (List.replicate n (.bl true))) = some true := by
  show (inD T.tabs s (.bl false) (.tl (List.replicate n (.bl true)))).map (!·) = some true
  have e : inD T.tabs s (.bl false) (.tl (List.replicate n (.bl true))) = some false := by
    show (if flatD (.bl false) && (List.replicate n (D.bl true)).all flatD then some ((List.replicate n (D.bl true)).any fun d => eqF d (.bl false)) else none) = some false
    have h1 : (List.replicate n (D.bl true)).all flatD = true := by
      rw [List.all_eq_true]
      intro x hx
      rw [(List.mem_replicate.mp hx).2]
      rfl
    have h2 : ((List.replicate n (D.bl true)).any fun d => eqF d (.bl false)) = false := by
      rw [List.any_eq_false]
      intro x hx
      rw [(List.mem_replicate.mp hx).2]
      decide
    rw [h1, h2]
    rfl
  rw [e]
  rfl
theorem range1_len {n : Nat} (hl : n ≤ 5000) (s : Hs) : range1I (.int (n : Int)) s = .ok (rangeD 0 n, none) s := by
  unfold range1I
  dsimp only
  have z1 : (-(4611686018427387904) : Int) ≤ (n : Int) := by omega
  have z2 : (n : Int) < 4611686018427387904 := by omega
  have e : ((2 : Int) ^ 62) = 4611686018427387904 := by decide
  rw [e, decide_eq_true z1, decide_eq_true z2, Bool.and_self, if_pos rfl, Int.toNat_natCast]
theorem evI_range1 {c : Nat → List D → Hs → Res D} {a : Ex} {env : CN.Env} {s s' : Hs} {n : Nat} (h : (evP T c a).e env s = .ok (.int (n : Int)) s') (hn : n ≤ 5000) : evI T c (.range1 a) env s = .ok (rangeD 0 n, none) s' := by
  rw [evI]
  dsimp only
  rw [h, Res.bind_ok, range1_len hn]
def sRest : Sts := .cons (.ite (.or (.cons (.isN false (.var 1)) (.cons (.isN false (.var 0)) (.nil)))) (.cons (.ret (.and (.cons (.isN false (.var 1)) (.cons (.isN false (.var 0)) (.nil))))) (.nil)) (.nil)) (.cons (.ite (.or (.cons (.cmp .ne (.bi (.isinst "bool") (.cons (.var 0) (.nil))) (.bi (.isinst "bool") (.cons (.var 1) (.nil)))) (.cons (.cmp .ne (.bi (.isinst "int") (.cons (.var 0) (.nil))) (.bi (.isinst "int") (.cons (.var 1) (.nil)))) (.nil)))) (.cons (.ret (.cst (.bl false))) (.nil)) (.nil)) (.cons (.ret (.and (.cons (.cmp .eq (.bi (.isinst "str") (.cons (.var 0) (.nil))) (.bi (.isinst "str") (.cons (.var 1) (.nil)))) (.cons (.cmp .eq (.var 0) (.var 1)) (.nil))))) (.nil)))
def sEnv (ds : List D) : CN.Env := [some (.tup ds), some (.tup ds), some (.bl true), none]
def sIt : It := .range1 (.bi .len (.cons (.var 1) .nil))
def sEx : Ex := .call 41 (.cons (.idx (.var 0) (.var 3)) (.cons (.idx (.var 1) (.var 3)) .nil))
theorem sIt_ok (ds : List D) (s : Hs) (hl : ds.length ≤ 5000) : evI T (runFn T wf k) sIt (sEnv ds) s = .ok (rangeD 0 ds.length, none) s := evI_range1 rfl hl
theorem sStep (ds : List D) (s : Hs) (h : ∀ d ∈ ds, runFn T wf k 41 [d, d] s = .ok (.bl true) s) (j : Nat) (hj : j < ds.length) : stepC [3] (.nm 3) (evC T (runFn T wf k) .no) (evP T (runFn T wf k) sEx).e (sEnv ds) (.int (0 + (j : Int))) s = .ok (some (.bl true)) s := by
  have e : L2.atI ds (0 + (j : Int)) = some ds[j] := by
    rw [Int.zero_add, atI_nat ds j hj, List.getElem?_eq_getElem hj]
  have e2 := h _ (List.getElem_mem hj)
  have e3 : stepC [3] (.nm 3) (evC T (runFn T wf k) .no) (evP T (runFn T wf k) sEx).e (sEnv ds) (.int (0 + (j : Int))) s = ((((Res.of (L2.atI ds (0 + (j : Int))) s).bind fun x s1 => ((Res.of (L2.atI ds (0 + (j : Int))) s1).bind fun y s2 => .ok [y] s2).bind fun ys s3 => .ok (x :: ys) s3).bind fun as s4 => runFn T wf k 41 as s4).bind fun v s5 => .ok (some v) s5) := rfl
  rw [e3, e]
  simp [e2]
theorem sComp (ds : List D) (s : Hs) (h : ∀ d ∈ ds, runFn T wf k 41 [d, d] s = .ok (.bl true) s) (hl : ds.length ≤ 5000) : (evP T (runFn T wf k) (.comp sEx (.nm 3) [3] sIt .no)).e (sEnv ds) s = .ok (.tl (List.replicate ds.length (.bl true))) s := by
  have q := compM_map (own := [3]) (tg := .nm 3) (mi := evI T (runFn T wf k) sIt) (mc := evC T (runFn T wf k) .no) (me := (evP T (runFn T wf k) sEx).e) (env := sEnv ds) (s := s) (s1 := s) (ds := rangeD 0 ds.length) (w := none) (fun _ => .bl true) (sIt_ok ds s hl) rfl (by
    intro d hd
    unfold rangeD at hd
    obtain ⟨j, hj, rfl⟩ := List.mem_map.mp hd
    exact sStep ds s h j (List.mem_range.mp hj)) (by simp [rangeD]; exact small5 hl)
  have e : (rangeD 0 ds.length).map (fun _ => D.bl true) = List.replicate ds.length (D.bl true) := by
    refine List.eq_replicate_iff.mpr ⟨by simp [rangeD], fun b hb => ?_⟩
    obtain ⟨_, _, rfl⟩ := List.mem_map.mp hb
    rfl
  rw [e] at q
  rw [evP]
  dsimp only [pE]
  exact q
theorem sRet (x : Ex) (env : CN.Env) (n : Nat) (s : Hs) (h2 : env[2]? = some (some (.bl true))) (h : (evP T (runFn T wf k) x).e env s = .ok (.tl (List.replicate n (.bl true))) s) : (evP T (runFn T wf k) (.and (.cons (.var 2) (.cons (.cmp .notin (.cst (.bl false)) x) .nil)))).e env s = .ok (.bl true) s := by
  have e : (evP T (runFn T wf k) (.and (.cons (.var 2) (.cons (.cmp .notin (.cst (.bl false)) x) .nil)))).e env s = (varM 2 env s).bind fun y s1 => (match y with
    | .bl true => ((evP T (runFn T wf k) x).e env s1).bind fun y s2 => Res.of ((cmpop T.tabs s2 .notin (.bl false) y).map .bl) s2
    | .bl false => .ok (.bl false) s1
    | _ => .stuck : Res D) := rfl
  have e1 : varM 2 env s = .ok (.bl true) s := by
    unfold varM
    rw [h2]
  rw [e, e1, Res.bind_ok]
  dsimp only
  rw [h, Res.bind_ok, notin_true]
  rfl
theorem sGood (ds : List D) (s : Hs) (x : Option D) : evalS T wf (runFn T wf k) (.asg (.nm 2) (.and (.cons (.bi (.isinst "tuple") (.cons (.var 0) .nil)) (.cons (.cmp .eq (.bi .len (.cons (.var 0) .nil)) (.bi .len (.cons (.var 1) .nil))) .nil)))) [some (.tup ds), some (.tup ds), x, none] s = .ok (.next (sEnv ds)) s := by
  simp [sEnv, evalE, evalT, evalEs, evalO, evalC, evalI, evalSs, evalS, evP, evPs, evO, evC, evI, pE, consL, pick, and2, or2, andT2, orT2, callM, callvM, makeM, madeBy, methM, biM, bmM, attrM, idxM, slM, soM, tupM, lstM, boxed, binM, cmpM, isNM, chainM, CN.notM, notT, negM, iteM, varM, asgM, subM, fldM, parM, augM, augfM, CN.forM, thruM, truly, assignTg, setAll, startE, fin, back, truth, binop, slop, bifun, bmeth, bmTy, seqAt, lstAt, tyName, isi, isNd, lenOk, putN, augop]
theorem sTup (st : CN.St) (x : Ex) (ds : List D) (s : Hs) (g : evalS T wf (runFn T wf k) st [some (.tup ds), some (.tup ds), none, none] s = .ok (.next (sEnv ds)) s) (q : (evP T (runFn T wf k) x).e (sEnv ds) s = .ok (.bl true) s) : fin 0 s (evalSs T wf (runFn T wf k) (.cons (.ite (.bi (.isinst "tuple") (.cons (.var 1) .nil)) (.cons st (.cons (.ret x) .nil)) .nil) sRest) (startE 4 [.tup ds, .tup ds]) s) = .ok (.bl true) s := by
  simp [evalE, evalT, evalEs, evalO, evalC, evalI, evalSs, evalS, evP, evPs, evO, evC, evI, pE, consL, pick, and2, or2, andT2, orT2, callM, callvM, makeM, madeBy, methM, biM, bmM, attrM, idxM, slM, soM, tupM, lstM, boxed, binM, cmpM, isNM, chainM, CN.notM, notT, negM, iteM, varM, asgM, subM, fldM, parM, augM, augfM, CN.forM, thruM, truly, assignTg, setAll, startE, fin, back, truth, binop, slop, bifun, bmeth, bmTy, seqAt, lstAt, tyName, isi, isNd, lenOk, putN, augop, g, q]
theorem r41_tup (ds : List D) (s : Hs) (h : ∀ d ∈ ds, runFn T wf k 41 [d, d] s = .ok (.bl true) s) (hl : ds.length ≤ 5000) : runFn T wf (k + 1) 41 [.tup ds, .tup ds] s = .ok (.bl true) s := by
  rw [rf (f := i__law_same) rfl rfl]
  have g := sGood (wf := wf) (k := k) ds s none
  have q := sRet _ (sEnv ds) _ s rfl (sComp ds s h hl)
  have e0 : i__law_same.body = .cons (.ite (.bi (.isinst "tuple") (.cons (.var 1) .nil)) (.cons (.asg (.nm 2) (.and (.cons (.bi (.isinst "tuple") (.cons (.var 0) .nil)) (.cons (.cmp .eq (.bi .len (.cons (.var 0) .nil)) (.bi .len (.cons (.var 1) .nil))) .nil)))) (.cons (.ret (.and (.cons (.var 2) (.cons (.cmp .notin (.cst (.bl false)) (.comp sEx (.nm 3) [3] sIt .no)) .nil)))) .nil)) .nil) sRest := rfl
  rw [e0]
  exact sTup _ _ ds s g q
theorem r41_bl (x : Bool) (s : Hs) : runFn T wf (k + 1) 41 [.bl x, .bl x] s = .ok (.bl true) s := by
  rw [rf (f := i__law_same) rfl rfl]
  have e : ∀ b : Bool, cmpop T.tabs s .ne (.bl b) (.bl b) = some false := by intro b; cases b <;> rfl
  have e' : ∀ b : Bool, cmpop T.tabs s .eq (.bl b) (.bl b) = some true := by intro b; cases b <;> rfl
  simp [i__law_same, e, e', evalE, evalT, evalEs, evalO, evalC, evalI, evalSs, evalS, evP, evPs, evO, evC, evI, pE, consL, pick, and2, or2, andT2, orT2, callM, callvM, makeM, madeBy, methM, biM, bmM, attrM, idxM, slM, soM, tupM, lstM, boxed, binM, cmpM, isNM, chainM, CN.notM, notT, negM, iteM, varM, asgM, subM, fldM, parM, augM, augfM, CN.forM, thruM, truly, assignTg, setAll, startE, fin, back, truth, binop, slop, bifun, bmeth, bmTy, seqAt, lstAt, tyName, isi, isNd, lenOk, putN, augop]
theorem r41_non (s : Hs) : runFn T wf (k + 1) 41 [.non, .non] s = .ok (.bl true) s := by
  rw [rf (f := i__law_same) rfl rfl]
  rfl
theorem r41_str (x : PySem.Str) (hx : PySem.PyData.strOk x = true) (s : Hs) : runFn T wf (k + 1) 41 [.str x, .str x] s = .ok (.bl true) s := by
  rw [rf (f := i__law_same) rfl rfl]
  have e : ∀ b : Bool, cmpop T.tabs s .ne (.bl b) (.bl b) = some false := by intro b; cases b <;> rfl
  have e' : ∀ b : Bool, cmpop T.tabs s .eq (.bl b) (.bl b) = some true := by intro b; cases b <;> rfl
  have e2 : cmpop T.tabs s .eq (.str x) (.str x) = some true := (eqD_str s _ _ hx hx).trans (congrArg some (by simp))
  simp [i__law_same, e, e', e2, evalE, evalT, evalEs, evalO, evalC, evalI, evalSs, evalS, evP, evPs, evO, evC, evI, pE, consL, pick, and2, or2, andT2, orT2, callM, callvM, makeM, madeBy, methM, biM, bmM, attrM, idxM, slM, soM, tupM, lstM, boxed, binM, cmpM, isNM, chainM, CN.notM, notT, negM, iteM, varM, asgM, subM, fldM, parM, augM, augfM, CN.forM, thruM, truly, assignTg, setAll, startE, fin, back, truth, binop, slop, bifun, bmeth, bmTy, seqAt, lstAt, tyName, isi, isNd, lenOk, putN, augop]
mutual
def sameOk : D → Bool
  | .non => true
  | .bl _ => true
  | .int _ => true
  | .str x => PySem.PyData.strOk x
  | .tup ds => decide (ds.length ≤ 5000) && sameOks ds
  | _ => false
def sameOks : List D → Bool
  | [] => true
  | d :: ds => sameOk d && sameOks ds
end
mutual
def dep : D → Nat
  | .tup ds => deps ds + 1
  | _ => 0
def deps : List D → Nat
  | [] => 0
  | d :: ds => max (dep d) (deps ds)
end
theorem sameOks_mem : ∀ {ds : List D}, sameOks ds = true → ∀ d ∈ ds, sameOk d = true
  | x :: xs, h, d, hd => by
    have h' : (sameOk x && sameOks xs) = true := h
    rw [Bool.and_eq_true] at h'
    rcases List.mem_cons.mp hd with rfl | hd
    · exact h'.1
    · exact sameOks_mem h'.2 d hd
theorem deps_mem : ∀ {ds : List D} {n : Nat}, deps ds ≤ n → ∀ d ∈ ds, dep d ≤ n
  | x :: xs, n, h, d, hd => by
    have h' : max (dep x) (deps xs) ≤ n := h
    rcases List.mem_cons.mp hd with rfl | hd
    · omega
    · exact deps_mem (by omega) d hd
theorem same_ok : ∀ (n : Nat) (d : D) (s : Hs), dep d ≤ n → sameOk d = true → runFn T wf (k + n + 1) 41 [d, d] s = .ok (.bl true) s
  | n, .non, s, _, _ => r41_non s
  | n, .bl b, s, _, _ => r41_bl b s
  | n, .int i, s, _, _ => r41_int i s
  | n, .str x, s, _, h => r41_str x h s
  | 0, .tup ds, s, h, _ => by
    have h' : deps ds + 1 ≤ 0 := h
    omega
  | n + 1, .tup ds, s, h, hs => by
    have h' : deps ds + 1 ≤ n + 1 := h
    have hs' : (decide (ds.length ≤ 5000) && sameOks ds) = true := hs
    rw [Bool.and_eq_true, decide_eq_true_eq] at hs'
    exact r41_tup (k := k + n + 1) ds s (fun d hd => same_ok n d s (deps_mem (by omega) d hd) (sameOks_mem hs'.2 d hd)) hs'.1
  | _, .tl _, _, _, h => by cases h
  | _, .kl _, _, _, h => by cases h
  | _, .ref _, _, _, h => by cases h
  | _, .fn _, _, _, h => by cases h
  | _, .cls _, _, _, h => by cases h
  | _, .ty _, _, _, h => by cases h
  | _, .tab _, _, _, h => by cases h
end K69
set_option Elab.async false
set_option linter.all false
set_option maxRecDepth 100000
set_option maxHeartbeats 4000000
/-! P20: rules of the evaluator; the same bytes. -/
namespace CN
variable {T : Tb} {wf : Nat} {c : Nat → List D → Hs → Res D} {env env' : Env} {s s' s1 : Hs} {d : D} {e : Ex} {st : CN.St} {sts : Sts}
theorem nx (h : evalS T wf c st env s = .ok (.next env') s') : evalSs T wf c (.cons st sts) env s = evalSs T wf c sts env' s' := by
  rw [evalSs]
  dsimp only
  rw [h, Res.bind_ok]
theorem rt (h : evalS T wf c st env s = .ok (.ret d) s') : evalSs T wf c (.cons st sts) env s = .ok (.ret d) s' := by
  rw [evalSs]
  dsimp only
  rw [h, Res.bind_ok]
theorem asg_ok {i : Nat} (h : (evP T c e).e env s = .ok d s') : evalS T wf c (.asg (.nm i) e) env s = .ok (.next (env.set i (some d))) s' := by
  rw [evalS]
  unfold asgM
  rw [show evalE T c e env s = _ from h, Res.bs_ok]
  rfl
theorem expr_ok (h : (evP T c e).e env s = .ok d s') : evalS T wf c (.expr e) env s = .ok (.next env) s' := by
  rw [evalS]
  dsimp only
  rw [show evalE T c e env s = _ from h, Res.bs_ok]
theorem ret_ok (h : (evP T c e).e env s = .ok d s') : evalS T wf c (.ret e) env s = .ok (.ret d) s' := by
  rw [evalS]
  dsimp only
  rw [show evalE T c e env s = _ from h, Res.bs_ok]
theorem ite_f {t : Ex} {a : Sts} (h : (evP T c t).t env s = .ok false s') : evalS T wf c (.ite t a .nil) env s = .ok (.next env) s' := by
  rw [evalS]
  dsimp only
  rw [show evalT T c t env s = _ from h, Res.bs_ok, if_neg (by decide), evalSs]
theorem for_ok {tg : Tg} {it : It} {b : Sts} {p : List D × Option (Nat × List D)} {r : Res Flow} (h : evI T c it env s = .ok p s1) (hl : loopFor (forStep tg (evalSs T wf c b)) p.2 p.1 env s1 = r) : evalS T wf c (.for_ tg it b) env s = r := by
  rw [evalS]
  unfold forM
  rw [show evalI T c it env s = _ from h, Res.bs_ok]
  exact hl
theorem loopFor_nx {body : D → Env → Hs → Res Flow} {x : D} {xs : List D} {w : Option (Nat × List D)} (h : body x env s = .ok (.next env') s') (hw : stays w s' = true) : loopFor body w (x :: xs) env s = loopFor body w xs env' s' := by
  rw [loopFor, h, Res.bind_ok]
  dsimp only
  rw [if_pos hw]
theorem loopFor_nil {body : D → Env → Hs → Res Flow} {w : Option (Nat × List D)} : loopFor body w [] env s = .ok (.next env) s := rfl
theorem forStep_nm {i : Nat} {b : MS} {x : D} : forStep (.nm i) b x env s = b (env.set i (some x)) s := rfl
end CN
namespace K69
open CN
variable {wf k : Nat}
theorem pures_ints : ∀ xs : List Int, pures? (xs.map D.int) = some (xs.map PySem.PyData.int)
  | [] => rfl
  | x :: xs => by
    show (match pure? (D.int x), pures? (xs.map D.int) with | some a, some b => some (a :: b) | _, _ => none) = _
    rw [pures_ints xs]
    rfl
theorem lay_ints : ∀ xs : List Int, PySem.PyData.canLayAll0 (xs.map PySem.PyData.int) = true ∧ PySem.PyData.depthAll (xs.map PySem.PyData.int) = 0 ∧ PySem.PyData.eqvAll (xs.map PySem.PyData.int) (xs.map PySem.PyData.int) = true
  | [] => ⟨rfl, rfl, rfl⟩
  | x :: xs => by
    obtain ⟨h1, h2, h3⟩ := lay_ints xs
    simp [PySem.PyData.canLayAll0, PySem.PyData.canLay0, PySem.PyData.depthAll, PySem.PyData.depth, PySem.PyData.eqvAll, PySem.PyData.eqv, h1, h2, h3]
theorem eq_ints (xs : List Int) (s : Hs) : eqD s (.tup (xs.map D.int)) (.tup (xs.map D.int)) = some true := by
  have e : data? s (.tup (xs.map D.int)) = some (.tuple (xs.map PySem.PyData.int)) := by
    show (match pures? (xs.map D.int) with | some xs => some (PySem.PyData.tuple xs) | none => none) = _
    rw [pures_ints]
  obtain ⟨h1, h2, h3⟩ := lay_ints xs
  have sh : PySem.SeqAt.shaped (.tuple (xs.map PySem.PyData.int)) = true := by
    unfold PySem.SeqAt.shaped
    rw [PySem.PyData.canLay0, PySem.PyData.depth, h1, h2]
    rfl
  unfold eqD
  rw [e]
  dsimp only
  rw [sh, if_pos (by rfl), PySem.PyData.eqv, h3]
theorem isin_true (n : Nat) (s : Hs) : cmpop T.tabs s .isin (.bl false) (.tl (List.replicate n (.bl true))) = some false := by
  have h := notin_true n s
  have h' : (inD T.tabs s (.bl false) (.tl (List.replicate n (.bl true)))).map (!·) = some true := h
  show inD T.tabs s (.bl false) (.tl (List.replicate n (.bl true))) = some false
  cases e : inD T.tabs s (.bl false) (.tl (List.replicate n (.bl true))) with
  | none => rw [e] at h'; cases h'
  | some b => rw [e] at h'; cases b <;> simp_all
def yEx : Ex := .comp (.and (.cons (.bi (.isinst "int") (.cons (.var 2) (.nil))) (.cons (.not (.bi (.isinst "bool") (.cons (.var 2) (.nil)))) (.nil)))) (.nm 2) [2] (.seq (.var 0)) .no
theorem yComp (xs : List Int) (d : D) (s : Hs) (hl : xs.length ≤ 5000) : (evP T (runFn T wf k) yEx).e [some (.tup (xs.map D.int)), some d, none] s = .ok (.tl (List.replicate xs.length (.bl true))) s := by
  have q := compM_map (own := [2]) (tg := .nm 2) (mi := evI T (runFn T wf k) (.seq (.var 0))) (mc := evC T (runFn T wf k) .no) (me := (evP T (runFn T wf k) (.and (.cons (.bi (.isinst "int") (.cons (.var 2) (.nil))) (.cons (.not (.bi (.isinst "bool") (.cons (.var 2) (.nil)))) (.nil))))).e) (env := [some (.tup (xs.map D.int)), some d, none]) (s := s) (s1 := s) (ds := xs.map D.int) (w := none) (fun _ => .bl true) rfl rfl (by
    intro d hd
    obtain ⟨x, _, rfl⟩ := List.mem_map.mp hd
    rfl) (by rw [List.length_map]; exact small5 hl)
  have e : (xs.map D.int).map (fun _ => D.bl true) = List.replicate xs.length (D.bl true) := by
    refine List.eq_replicate_iff.mpr ⟨by simp, fun b hb => ?_⟩
    obtain ⟨_, _, rfl⟩ := List.mem_map.mp hb
    rfl
  rw [e] at q
  unfold yEx
  rw [evP]
  dsimp only [pE]
  exact q
theorem yTest (x : Ex) (env : CN.Env) (xs : List Int) (n : Nat) (s : Hs) (h0 : env[0]? = some (some (.tup (xs.map D.int)))) (h : (evP T (runFn T wf k) x).e env s = .ok (.tl (List.replicate n (.bl true))) s) : (evP T (runFn T wf k) (.or (.cons (.not (.bi (.isinst "tuple") (.cons (.var 0) (.nil)))) (.cons (.cmp .isin (.cst (.bl false)) x) (.nil))))).t env s = .ok false s := by
  have e := isin_true n s
  simp [evalE, evalT, evalEs, evalO, evalC, evalI, evalSs, evalS, evP, evPs, evO, evC, evI, pE, consL, pick, and2, or2, andT2, orT2, callM, callvM, makeM, madeBy, methM, biM, bmM, attrM, idxM, slM, soM, tupM, lstM, boxed, binM, cmpM, isNM, chainM, CN.notM, notT, negM, iteM, varM, asgM, subM, fldM, parM, augM, augfM, CN.forM, thruM, truly, assignTg, setAll, startE, fin, back, truth, binop, slop, bifun, bmeth, bmTy, seqAt, lstAt, tyName, isi, isNd, lenOk, putN, augop, h0, h, e]
theorem r42 (xs : List Int) (n : Nat) (s : Hs) (hs : s[n]? = some (.lst (xs.map D.int))) (hl : xs.length ≤ 5000) : runFn T wf (k + 1) 42 [.tup (xs.map D.int), .ref n] s = .ok (.bl true) s := by
  rw [rf (f := i__law_bytes) rfl rfl]
  have e0 : i__law_bytes.body = .cons (.ite (.or (.cons (.not (.bi (.isinst "tuple") (.cons (.var 0) (.nil)))) (.cons (.cmp .isin (.cst (.bl false)) yEx) (.nil)))) (.cons (.ret (.cst (.bl false))) (.nil)) (.nil)) (.cons (.ret (.cmp .eq (.var 0) (.bi .tuple (.cons (.var 1) (.nil))))) (.nil)) := rfl
  have e1 : startE i__law_bytes.slots [.tup (xs.map D.int), .ref n] = [some (.tup (xs.map D.int)), some (.ref n), none] := rfl
  rw [e0, e1, nx (ite_f (yTest yEx _ xs _ s rfl (yComp xs _ s hl))), rt (ret_ok (d := .bl true) (s' := s) ?_)]
  · rfl
  · have e2 : lstAt s (.ref n) = some (xs.map D.int) := by
      show (match s[n]? with | some (.lst ds) => some ds | _ => none) = _
      rw [hs]
    have e3 : bifun s .tuple [.ref n] = some (.tup (xs.map D.int)) := by
      show (lstAt s (.ref n)).map D.tup = _
      rw [e2]
      rfl
    have e4 : cmpop T.tabs s .eq (.tup (xs.map D.int)) (.tup (xs.map D.int)) = some true := eq_ints xs s
    have e5 : (evP T (runFn T wf k) (.cmp .eq (.var 0) (.bi .tuple (.cons (.var 1) (.nil))))).e [some (.tup (xs.map D.int)), some (.ref n), none] s = (Res.of (bifun s .tuple [.ref n]) s).bind fun y s2 => Res.of ((cmpop T.tabs s2 .eq (.tup (xs.map D.int)) y).map .bl) s2 := rfl
    rw [e5, e3, Res.of_some, Res.bind_ok, e4]
    rfl
end K69
set_option Elab.async false
set_option linter.all false
set_option maxRecDepth 100000
set_option maxHeartbeats 4000000
/-! P21: the law's statements, one by one: what is drawn. -/
namespace K69
open CN
variable {wf k : Nat}
def la0 : CN.St := .asg (.nm 1) (.call 2 (.cons (.var 0) (.nil)))
def la1 : CN.St := .par [20, 21, 22] (.cons (.call 3 (.cons (.var 1) (.cons (.cst (.int 3)) (.nil)))) (.cons (.idx (.lst (.cons (.cst (.int 0)) (.cons (.cst (.int 1)) (.cons (.cst (.int 3)) (.cons (.cst (.int 255)) (.cons (.call 3 (.cons (.var 1) (.cons (.cst (.int 256)) (.nil)))) (.nil))))))) (.call 3 (.cons (.var 1) (.cons (.cst (.int 5)) (.nil))))) (.cons (.bin .add (.cst (.int 1)) (.call 3 (.cons (.var 1) (.cons (.idx (.lst (.cons (.cst (.int 5)) (.cons (.cst (.int 30)) (.cons (.cst (.int 100)) (.nil))))) (.call 3 (.cons (.var 1) (.cons (.cst (.int 3)) (.nil))))) (.nil))))) (.nil))))
def la2 : CN.St := .asg (.nm 2) (.idx (.lst (.cons (.cst (.int 64)) (.cons (.cst (.int 65)) (.cons (.cst (.int 128)) (.cons (.bin .add (.cst (.int 300)) (.call 3 (.cons (.var 1) (.cons (.cst (.int 300)) (.nil))))) (.cons (.cst (.int 4096)) (.nil))))))) (.idx (.lst (.cons (.cst (.int 0)) (.cons (.cst (.int 0)) (.cons (.cst (.int 1)) (.cons (.cst (.int 2)) (.cons (.cst (.int 3)) (.cons (.cst (.int 3)) (.cons (.cst (.int 0)) (.cons (.cst (.int 4)) (.nil)))))))))) (.call 3 (.cons (.var 1) (.cons (.cst (.int 8)) (.nil))))))
def la3 : CN.St := .asg (.nm 3) (.idx (.lst (.cons (.call 3 (.cons (.var 1) (.cons (.var 2) (.nil)))) (.cons (.bin .sub (.bin .sub (.var 2) (.cst (.int 1))) (.call 3 (.cons (.var 1) (.cons (.cst (.int 14)) (.nil))))) (.cons (.cst (.int 0)) (.nil))))) (.call 3 (.cons (.var 1) (.cons (.cst (.int 3)) (.nil)))))
def la4 : CN.St := .asg (.nm 4) (.bin .mul (.var 2) (.call 3 (.cons (.var 1) (.cons (.cst (.int 3)) (.nil)))))
def la5 : CN.St := .asg (.nm 5) (.box (.lst (.cons (.cst (.int 0)) (.nil))))
def la6 : CN.St := .for_ (.nm 6) (.seq (.call 4 (.cons (.var 20) (.cons (.var 21) (.cons (.var 22) (.cons (.cst (.int 0)) (.cons (.cst (.int 0)) (.nil)))))))) (.cons (.expr (.bm .append (.var 5) (.cons (.bin .add (.idx (.var 5) (.bin .sub (.bi .len (.cons (.var 5) (.nil))) (.cst (.int 1)))) (.bi .len (.cons (.call 5 (.cons (.var 6) (.nil))) (.nil)))) (.nil)))) (.nil))
def la7 : CN.St := .par [23, 24] (.cons (.bin .add (.bin .mod (.bi .int (.cons (.bin .add (.var 3) (.idx (.var 5) (.cst (.int 5)))) (.nil))) (.var 2)) (.var 4)) (.cons (.bin .add (.bin .mod (.bi .int (.cons (.bin .add (.var 3) (.idx (.var 5) (.cst (.int 10)))) (.nil))) (.var 2)) (.var 4)) (.nil)))
def la8 : CN.St := .asg (.nm 7) (.box (.lst (.nil)))
def la9 : CN.St := .for_ (.nm 6) (.seq (.call 4 (.cons (.var 20) (.cons (.var 21) (.cons (.var 22) (.cons (.var 23) (.cons (.var 24) (.nil)))))))) (.cons (.expr (.bm .extend (.var 7) (.cons (.call 5 (.cons (.var 6) (.nil))) (.nil)))) (.nil))
def la10 : CN.St := .asg (.tp [25, 26]) (.tup (.cons (.call 3 (.cons (.var 1) (.cons (.cst (.int 256)) (.nil)))) (.cons (.call 3 (.cons (.var 1) (.cons (.cst (.int 256)) (.nil)))) (.nil))))
def la11 : CN.St := .asg (.nm 8) (.compB (.bin .mod (.bi .int (.cons (.bin .add (.var 25) (.bin .mul (.var 26) (.var 9))) (.nil))) (.cst (.int 256))) (.nm 9) [9] (.range1 (.var 2)) .no)
def la12 : CN.St := .for_ (.nm 9) (.range1 (.bi .len (.cons (.var 7) (.nil)))) (.cons (.sub (.var 8) (.bin .mod (.bi .int (.cons (.bin .add (.var 3) (.var 9)) (.nil))) (.var 2)) (.idx (.var 7) (.var 9))) (.nil))
def la13 : CN.St := .asg (.nm 10) (.comp (.call 3 (.cons (.var 1) (.cons (.cst (.int 256)) (.nil)))) (.nm 9) [9] (.range1 (.cst (.int 8))) .no)
def la14 : CN.St := .asg (.nm 11) (.bin .mod (.bi .int (.cons (.bin .sub (.var 3) (.call 3 (.cons (.var 1) (.cons (.cst (.int 9)) (.nil))))) (.nil))) (.var 2))
def la15 : CN.St := .asg (.nm 12) (.tup (.cons (.bi .tuple (.cons (.var 8) (.nil))) (.cons (.bi .tuple (.cons (.var 10) (.nil))) (.cons (.var 3) (.cons (.var 11) (.nil))))))
def la16 : CN.St := .asg (.nm 13) (.cst (.int 1))
def la17 : CN.St := .for_ (.nm 9) (.range1 (.var 22)) (.cons (.asg (.nm 13) (.bin .mod (.bi .int (.cons (.bin .mul (.var 13) (.var 21)) (.nil))) (.cst (.int 256)))) (.nil))
def la18 : CN.St := .asg (.nm 13) (.idx (.lst (.cons (.bin .mod (.bi .int (.cons (.bin .mul (.var 21) (.var 22)) (.nil))) (.cst (.int 256))) (.cons (.bin .mod (.bi .int (.cons (.bin .sub (.cst (.int 0)) (.bin .mul (.var 21) (.var 22))) (.nil))) (.cst (.int 256))) (.cons (.var 13) (.nil))))) (.var 20))
def la19 : CN.St := .asg (.nm 14) (.bin .add (.cst (.int 7)) (.bin .mul (.cst (.int 7)) (.var 22)))
def la20 : CN.St := .asg (.nm 15) (.bin .sub (.var 14) (.idx (.lst (.cons (.cst (.int 0)) (.cons (.cst (.int 0)) (.cons (.cst (.int 1)) (.cons (.cst (.int 2)) (.cons (.bin .sub (.cst (.int 0)) (.cst (.int 5))) (.nil))))))) (.call 3 (.cons (.var 1) (.cons (.cst (.int 5)) (.nil))))))
def la21 : CN.St := .asg (.nm 16) (.call 6 (.cons (.var 12) (.cons (.tup (.nil)) (.cons (.var 15) (.nil)))))
def la22 : CN.St := .par [27, 28] (.cons (.bin .mul (.tup (.cons (.tup (.cons (.cst (.str "tell")) (.cons (.var 13) (.nil)))) (.nil))) (.bi .int (.cons (.cmp .gt (.var 15) (.bin .sub (.var 14) (.cst (.int 2)))) (.nil)))) (.cons (.ite (.cmp .ge (.var 15) (.var 14)) (.tup (.cons (.cst (.str "stopped")) (.nil))) (.tup (.cons (.cst (.str "tired")) (.nil)))) (.nil)))
def la23 : CN.St := .ite (.or (.cons (.not (.bi (.isinst "tuple") (.cons (.var 16) (.nil)))) (.cons (.cmp .ne (.bi .len (.cons (.var 16) (.nil))) (.cst (.int 3))) (.cons (.not (.call 41 (.cons (.sl (.var 16) .no (.so (.cst (.int 2)))) (.cons (.tup (.cons (.var 27) (.cons (.var 28) (.nil)))) (.nil))))) (.nil))))) (.cons (.ret (.cst (.bl false))) (.nil)) (.nil)
def la24 : CN.St := .asg (.nm 17) (.bin .mod (.bi .int (.cons (.bin .add (.var 3) (.idx (.var 5) (.cst (.int 6)))) (.nil))) (.var 2))
def la25 : CN.St := .for_ (.tp [9, 29]) (.seq (.tup (.cons (.tup (.cons (.cst (.int 3)) (.cons (.var 21) (.nil)))) (.cons (.tup (.cons (.cst (.int 2)) (.cons (.bin .fdiv (.var 17) (.cst (.int 256))) (.nil)))) (.cons (.tup (.cons (.cst (.int 1)) (.cons (.bin .mod (.bi .int (.cons (.var 17) (.nil))) (.cst (.int 256))) (.nil)))) (.nil)))))) (.cons (.sub (.var 8) (.bin .mod (.bi .int (.cons (.bin .sub (.var 11) (.var 9)) (.nil))) (.var 2)) (.var 29)) (.nil))
def la26 : CN.St := .asg (.nm 18) (.lst (.cons (.var 21) (.cons (.cst (.int 0)) (.cons (.var 13) (.cons (.cst (.int 1)) (.cons (.var 21) (.cons (.idx (.var 10) (.cst (.int 5))) (.cons (.idx (.var 10) (.cst (.int 6))) (.cons (.cst (.int 0)) (.nil))))))))))
def la27 : CN.St := .asg (.nm 19) (.bin .mod (.bi .int (.cons (.bin .add (.var 3) (.idx (.var 5) (.bin .add (.cst (.int 8)) (.bi .int (.cons (.cmp .gt (.var 15) (.bin .sub (.var 14) (.cst (.int 2)))) (.nil)))))) (.nil))) (.var 2))
def la28 : CN.St := .ite (.or (.cons (.not (.bi (.isinst "tuple") (.cons (.idx (.var 16) (.cst (.int 2))) (.nil)))) (.cons (.cmp .ne (.bi .len (.cons (.idx (.var 16) (.cst (.int 2))) (.nil))) (.cst (.int 4))) (.cons (.not (.call 42 (.cons (.idx (.idx (.var 16) (.cst (.int 2))) (.cst (.int 0))) (.cons (.var 8) (.nil))))) (.nil))))) (.cons (.ret (.cst (.bl false))) (.nil)) (.nil)
def la29 : CN.St := .ret (.call 41 (.cons (.sl (.idx (.var 16) (.cst (.int 2))) (.so (.cst (.int 1))) .no) (.cons (.tup (.cons (.bi .tuple (.cons (.var 18) (.nil))) (.cons (.var 19) (.cons (.var 11) (.nil))))) (.nil))))
theorem la_body : i__law_all.body = .cons la0 (.cons la1 (.cons la2 (.cons la3 (.cons la4 (.cons la5 (.cons la6 (.cons la7 (.cons la8 (.cons la9 (.cons la10 (.cons la11 (.cons la12 (.cons la13 (.cons la14 (.cons la15 (.cons la16 (.cons la17 (.cons la18 (.cons la19 (.cons la20 (.cons la21 (.cons la22 (.cons la23 (.cons la24 (.cons la25 (.cons la26 (.cons la27 (.cons la28 (.cons la29 (.nil)))))))))))))))))))))))))))))) := rfl
/-- the jar is the first object -/
def JarS (cells : List Int) (rest : Hs) (s : Hs) : Prop := ∃ i l d, 0 ≤ i ∧ 0 ≤ l ∧ 0 ≤ d ∧ s = jl cells i l d :: rest
theorem drawJ {cells : List Int} {rest s : Hs} {lim : Int} (hc : 0 < cells.length) (hj : JarS cells rest s) (h0 : 0 < lim) (h1 : lim < 1073741824) : ∃ v s', 0 ≤ v ∧ v < lim ∧ JarS cells rest s' ∧ runFn T wf (k + 1) 3 [.ref 0, .int lim] s = .ok (.int v) s' := by
  obtain ⟨i, l, d, hi, hl, hd, rfl⟩ := hj
  obtain ⟨v, i', l', a, b, c, e, h⟩ := draw (wf := wf) (k := k) (rest := rest) hc hi hl hd h0 h1
  exact ⟨v, _, a, b, ⟨i', l', d + 1, c, e, by omega, rfl⟩, h⟩
theorem pickL {xs : List D} {v : Int} (P : D → Prop) (h0 : 0 ≤ v) (h1 : v < xs.length) (h : ∀ x ∈ xs, P x) : ∃ x, L2.atI xs v = some x ∧ P x := by
  obtain ⟨j, rfl⟩ : ∃ j : Nat, v = (j : Int) := ⟨v.toNat, by omega⟩
  have hl : j < xs.length := by omega
  exact ⟨xs[j], by rw [atI_nat _ _ hl, List.getElem?_eq_getElem hl], h _ (List.getElem_mem hl)⟩
def inB (lo hi : Int) (d : D) : Prop := ∃ i : Int, d = .int i ∧ lo ≤ i ∧ i < hi
theorem inB_int {lo hi i : Int} (h0 : lo ≤ i) (h1 : i < hi) : inB lo hi (.int i) := ⟨i, rfl, h0, h1⟩
variable {env : CN.Env} {s : Hs} {cells : List Int} {rest : Hs}
theorem a1 (hc : 0 < cells.length) (hj : JarS cells rest s) (e1 : env[1]? = some (some (.ref 0))) : ∃ form a b s', (form = 0 ∨ form = 1 ∨ form = 2) ∧ (0 ≤ a ∧ a < 256) ∧ (1 ≤ b ∧ b ≤ 100) ∧ JarS cells rest s' ∧ evalS T wf (runFn T wf (k + 1)) la1 env s = .ok (.next (((env.set 20 (some (.int form))).set 21 (some (.int a))).set 22 (some (.int b)))) s' := by
  obtain ⟨form, s1, f0, f1, j1, h1⟩ := drawJ (wf := wf) (k := k) hc hj (show (0 : Int) < 3 by decide) (by decide)
  obtain ⟨v2, s2, v20, v21, j2, h2⟩ := drawJ (wf := wf) (k := k) hc j1 (show (0 : Int) < 256 by decide) (by decide)
  obtain ⟨v3, s3, v30, v31, j3, h3⟩ := drawJ (wf := wf) (k := k) hc j2 (show (0 : Int) < 5 by decide) (by decide)
  obtain ⟨v4, s4, v40, v41, j4, h4⟩ := drawJ (wf := wf) (k := k) hc j3 (show (0 : Int) < 3 by decide) (by decide)
  obtain ⟨_, p1, ⟨a, rfl, a0, a1⟩⟩ := pickL (xs := [D.int 0, .int 1, .int 3, .int 255, .int v2]) (inB 0 256) v30 v31 (by
    simp only [List.mem_cons, List.not_mem_nil, or_false, forall_eq_or_imp, forall_eq]
    exact ⟨inB_int (by decide) (by decide), inB_int (by decide) (by decide), inB_int (by decide) (by decide), inB_int (by decide) (by decide), inB_int v20 v21⟩)
  obtain ⟨_, p2, ⟨m, rfl, m0, m1⟩⟩ := pickL (xs := [D.int 5, .int 30, .int 100]) (inB 1 101) v40 v41 (by
    simp only [List.mem_cons, List.not_mem_nil, or_false, forall_eq_or_imp, forall_eq]
    exact ⟨inB_int (by decide) (by decide), inB_int (by decide) (by decide), inB_int (by decide) (by decide)⟩)
  obtain ⟨v5, s5, v50, v51, j5, h5⟩ := drawJ (wf := wf) (k := k) hc j4 (show (0 : Int) < m by omega) (by omega)
  have z5 : 5 ≤ PySem.sizeLine := by decide
  have z3 : 3 ≤ PySem.sizeLine := by decide
  refine ⟨form, a, 1 + v5, s5, by omega, ⟨a0, a1⟩, by omega, j5, ?_⟩
  simp [la1, e1, h1, h2, h3, h4, h5, p1, p2, z5, z3, evalE, evalT, evalEs, evalO, evalC, evalI, evalSs, evalS, evP, evPs, evO, evC, evI, pE, consL, pick, and2, or2, andT2, orT2, callM, callvM, makeM, madeBy, methM, biM, bmM, attrM, idxM, slM, soM, tupM, lstM, boxed, binM, cmpM, isNM, chainM, CN.notM, notT, negM, iteM, varM, asgM, subM, fldM, parM, augM, augfM, CN.forM, thruM, truly, assignTg, setAll, startE, fin, back, truth, binop, slop, bifun, bmeth, bmTy, seqAt, lstAt, tyName, isi, isNd, lenOk, putN, augop]
theorem a2 (hc : 0 < cells.length) (hj : JarS cells rest s) (e1 : env[1]? = some (some (.ref 0))) : ∃ size s', (64 ≤ size ∧ size ≤ 4096) ∧ JarS cells rest s' ∧ evalS T wf (runFn T wf (k + 1)) la2 env s = .ok (.next (env.set 2 (some (.int size)))) s' := by
  obtain ⟨v1, s1, f0, f1, j1, h1⟩ := drawJ (wf := wf) (k := k) hc hj (show (0 : Int) < 300 by decide) (by decide)
  obtain ⟨v2, s2, v20, v21, j2, h2⟩ := drawJ (wf := wf) (k := k) hc j1 (show (0 : Int) < 8 by decide) (by decide)
  obtain ⟨_, p1, ⟨m, rfl, m0, m1⟩⟩ := pickL (xs := [D.int 0, .int 0, .int 1, .int 2, .int 3, .int 3, .int 0, .int 4]) (inB 0 5) v20 v21 (by
    simp only [List.mem_cons, List.not_mem_nil, or_false, forall_eq_or_imp, forall_eq]
    refine ⟨?_, ?_, ?_, ?_, ?_, ?_, ?_, ?_⟩ <;> exact inB_int (by decide) (by decide))
  obtain ⟨_, p2, ⟨a, rfl, a0, a1⟩⟩ := pickL (xs := [D.int 64, .int 65, .int 128, .int (300 + v1), .int 4096]) (inB 64 4097) m0 m1 (by
    simp only [List.mem_cons, List.not_mem_nil, or_false, forall_eq_or_imp, forall_eq]
    refine ⟨?_, ?_, ?_, ?_, ?_⟩ <;> exact inB_int (by omega) (by omega))
  have z5 : 5 ≤ PySem.sizeLine := by decide
  have z8 : 8 ≤ PySem.sizeLine := by decide
  refine ⟨a, s2, by omega, j2, ?_⟩
  simp [la2, e1, h1, h2, p1, p2, z5, z8, evalE, evalT, evalEs, evalO, evalC, evalI, evalSs, evalS, evP, evPs, evO, evC, evI, pE, consL, pick, and2, or2, andT2, orT2, callM, callvM, makeM, madeBy, methM, biM, bmM, attrM, idxM, slM, soM, tupM, lstM, boxed, binM, cmpM, isNM, chainM, CN.notM, notT, negM, iteM, varM, asgM, subM, fldM, parM, augM, augfM, CN.forM, thruM, truly, assignTg, setAll, startE, fin, back, truth, binop, slop, bifun, bmeth, bmTy, seqAt, lstAt, tyName, isi, isNd, lenOk, putN, augop]
theorem a3 {size : Int} (hc : 0 < cells.length) (hj : JarS cells rest s) (e1 : env[1]? = some (some (.ref 0))) (e2 : env[2]? = some (some (.int size))) (hs : 64 ≤ size ∧ size ≤ 4096) : ∃ base s', (0 ≤ base ∧ base < size) ∧ JarS cells rest s' ∧ evalS T wf (runFn T wf (k + 1)) la3 env s = .ok (.next (env.set 3 (some (.int base)))) s' := by
  obtain ⟨v1, s1, f0, f1, j1, h1⟩ := drawJ (wf := wf) (k := k) hc hj (show (0 : Int) < size by omega) (by omega)
  obtain ⟨v2, s2, v20, v21, j2, h2⟩ := drawJ (wf := wf) (k := k) hc j1 (show (0 : Int) < 14 by decide) (by decide)
  obtain ⟨v3, s3, v30, v31, j3, h3⟩ := drawJ (wf := wf) (k := k) hc j2 (show (0 : Int) < 3 by decide) (by decide)
  obtain ⟨_, p1, ⟨m, rfl, m0, m1⟩⟩ := pickL (xs := [D.int v1, .int (size - 1 - v2), .int 0]) (inB 0 size) v30 v31 (by
    simp only [List.mem_cons, List.not_mem_nil, or_false, forall_eq_or_imp, forall_eq]
    refine ⟨?_, ?_, ?_⟩ <;> exact inB_int (by omega) (by omega))
  have z3 : 3 ≤ PySem.sizeLine := by decide
  refine ⟨m, s3, by omega, j3, ?_⟩
  simp [la3, e1, e2, h1, h2, h3, p1, z3, evalE, evalT, evalEs, evalO, evalC, evalI, evalSs, evalS, evP, evPs, evO, evC, evI, pE, consL, pick, and2, or2, andT2, orT2, callM, callvM, makeM, madeBy, methM, biM, bmM, attrM, idxM, slM, soM, tupM, lstM, boxed, binM, cmpM, isNM, chainM, CN.notM, notT, negM, iteM, varM, asgM, subM, fldM, parM, augM, augfM, CN.forM, thruM, truly, assignTg, setAll, startE, fin, back, truth, binop, slop, bifun, bmeth, bmTy, seqAt, lstAt, tyName, isi, isNd, lenOk, putN, augop]
theorem inRng_small {x : Int} (h0 : 0 ≤ x) (h1 : x < 1000000000) : inRng x = true := by
  unfold inRng
  simp only [Bool.and_eq_true, decide_eq_true_eq]
  omega
theorem a4 {size : Int} (hc : 0 < cells.length) (hj : JarS cells rest s) (e1 : env[1]? = some (some (.ref 0))) (e2 : env[2]? = some (some (.int size))) (hs : 64 ≤ size ∧ size ≤ 4096) : ∃ m s', (m = 0 ∨ m = 1 ∨ m = 2) ∧ JarS cells rest s' ∧ evalS T wf (runFn T wf (k + 1)) la4 env s = .ok (.next (env.set 4 (some (.int (size * m))))) s' := by
  obtain ⟨v1, s1, f0, f1, j1, h1⟩ := drawJ (wf := wf) (k := k) hc hj (show (0 : Int) < 3 by decide) (by decide)
  have q := inRng_small (x := size) (by omega) (by omega)
  refine ⟨v1, s1, by omega, j1, ?_⟩
  simp [la4, e1, e2, h1, q, evalE, evalT, evalEs, evalO, evalC, evalI, evalSs, evalS, evP, evPs, evO, evC, evI, pE, consL, pick, and2, or2, andT2, orT2, callM, callvM, makeM, madeBy, methM, biM, bmM, attrM, idxM, slM, soM, tupM, lstM, boxed, binM, cmpM, isNM, chainM, CN.notM, notT, negM, iteM, varM, asgM, subM, fldM, parM, augM, augfM, CN.forM, thruM, truly, assignTg, setAll, startE, fin, back, truth, binop, slop, bifun, bmeth, bmTy, seqAt, lstAt, tyName, isi, isNd, lenOk, putN, augop]
theorem a5 {call : Nat → List D → Hs → Res D} (hj : JarS cells [] s) : ∃ s', JarS cells [.lst [.int 0]] s' ∧ evalS T wf call la5 env s = .ok (.next (env.set 5 (some (.ref 1)))) s' := by
  obtain ⟨i, l, d, hi, hl, hd, rfl⟩ := hj
  have z1 : 1 ≤ PySem.sizeLine := by decide
  refine ⟨jl cells i l d :: [.lst [.int 0]], ⟨i, l, d, hi, hl, hd, rfl⟩, ?_⟩
  simp [la5, z1, evalE, evalT, evalEs, evalO, evalC, evalI, evalSs, evalS, evP, evPs, evO, evC, evI, pE, consL, pick, and2, or2, andT2, orT2, callM, callvM, makeM, madeBy, methM, biM, bmM, attrM, idxM, slM, soM, tupM, lstM, boxed, binM, cmpM, isNM, chainM, CN.notM, notT, negM, iteM, varM, asgM, subM, fldM, parM, augM, augfM, CN.forM, thruM, truly, assignTg, setAll, startE, fin, back, truth, binop, slop, bifun, bmeth, bmTy, seqAt, lstAt, tyName, isi, isNd, lenOk, putN, augop]
def plcs : List Int := [0, 3, 6, 9, 12, 15, 18, 22, 27, 29, 30, 32, 36, 38, 39]
theorem a7 {call : Nat → List D → Hs → Res D} {size base more : Int} {r2 : Hs} (hj : JarS cells (.lst (plcs.map .int) :: r2) s) (e5 : env[5]? = some (some (.ref 1))) (e2 : env[2]? = some (some (.int size))) (e3 : env[3]? = some (some (.int base))) (e4 : env[4]? = some (some (.int more))) (hs : 64 ≤ size ∧ size ≤ 4096) :
    evalS T wf call la7 env s = .ok (.next ((env.set 23 (some (.int ((base + 15) % size + more)))).set 24 (some (.int ((base + 30) % size + more))))) s := by
  obtain ⟨i, l, d, hi, hl, hd, rfl⟩ := hj
  have h0 : ¬ size = 0 := by omega
  have i5 : L2.atI (plcs.map D.int) 5 = some (.int 15) := rfl
  have i10 : L2.atI (plcs.map D.int) 10 = some (.int 30) := rfl
  simp [la7, e2, e3, e4, e5, h0, i5, i10, fm (show 0 ≤ size by omega), evalE, evalT, evalEs, evalO, evalC, evalI, evalSs, evalS, evP, evPs, evO, evC, evI, pE, consL, pick, and2, or2, andT2, orT2, callM, callvM, makeM, madeBy, methM, biM, bmM, attrM, idxM, slM, soM, tupM, lstM, boxed, binM, cmpM, isNM, chainM, CN.notM, notT, negM, iteM, varM, asgM, subM, fldM, parM, augM, augfM, CN.forM, thruM, truly, assignTg, setAll, startE, fin, back, truth, binop, slop, bifun, bmeth, bmTy, seqAt, lstAt, tyName, isi, isNd, lenOk, putN, augop]
theorem a8 {call : Nat → List D → Hs → Res D} {x : GO} (hj : JarS cells [x] s) : ∃ s', JarS cells [x, .lst []] s' ∧ evalS T wf call la8 env s = .ok (.next (env.set 7 (some (.ref 2)))) s' := by
  obtain ⟨i, l, d, hi, hl, hd, rfl⟩ := hj
  refine ⟨jl cells i l d :: [x, .lst []], ⟨i, l, d, hi, hl, hd, rfl⟩, ?_⟩
  simp [la8, evalE, evalT, evalEs, evalO, evalC, evalI, evalSs, evalS, evP, evPs, evO, evC, evI, pE, consL, pick, and2, or2, andT2, orT2, callM, callvM, makeM, madeBy, methM, biM, bmM, attrM, idxM, slM, soM, tupM, lstM, boxed, binM, cmpM, isNM, chainM, CN.notM, notT, negM, iteM, varM, asgM, subM, fldM, parM, augM, augfM, CN.forM, thruM, truly, assignTg, setAll, startE, fin, back, truth, binop, slop, bifun, bmeth, bmTy, seqAt, lstAt, tyName, isi, isNd, lenOk, putN, augop]
theorem a10 (hc : 0 < cells.length) (hj : JarS cells rest s) (e1 : env[1]? = some (some (.ref 0))) : ∃ start step s', (0 ≤ start ∧ start < 256) ∧ (0 ≤ step ∧ step < 256) ∧ JarS cells rest s' ∧ evalS T wf (runFn T wf (k + 1)) la10 env s = .ok (.next ((env.set 25 (some (.int start))).set 26 (some (.int step)))) s' := by
  obtain ⟨v1, s1, f0, f1, j1, h1⟩ := drawJ (wf := wf) (k := k) hc hj (show (0 : Int) < 256 by decide) (by decide)
  obtain ⟨v2, s2, v20, v21, j2, h2⟩ := drawJ (wf := wf) (k := k) hc j1 (show (0 : Int) < 256 by decide) (by decide)
  have z2 : 2 ≤ PySem.sizeLine := by decide
  refine ⟨v1, v2, s2, by omega, by omega, j2, ?_⟩
  simp [la10, e1, h1, h2, z2, evalE, evalT, evalEs, evalO, evalC, evalI, evalSs, evalS, evP, evPs, evO, evC, evI, pE, consL, pick, and2, or2, andT2, orT2, callM, callvM, makeM, madeBy, methM, biM, bmM, attrM, idxM, slM, soM, tupM, lstM, boxed, binM, cmpM, isNM, chainM, CN.notM, notT, negM, iteM, varM, asgM, subM, fldM, parM, augM, augfM, CN.forM, thruM, truly, assignTg, setAll, startE, fin, back, truth, binop, slop, bifun, bmeth, bmTy, seqAt, lstAt, tyName, isi, isNd, lenOk, putN, augop]
theorem a14 {size base : Int} (hc : 0 < cells.length) (hj : JarS cells rest s) (e1 : env[1]? = some (some (.ref 0))) (e2 : env[2]? = some (some (.int size))) (e3 : env[3]? = some (some (.int base))) (hs : 64 ≤ size ∧ size ≤ 4096) : ∃ t s', (0 ≤ t ∧ t ≤ 8) ∧ JarS cells rest s' ∧ evalS T wf (runFn T wf (k + 1)) la14 env s = .ok (.next (env.set 11 (some (.int ((base - t) % size))))) s' := by
  obtain ⟨v1, s1, f0, f1, j1, h1⟩ := drawJ (wf := wf) (k := k) hc hj (show (0 : Int) < 9 by decide) (by decide)
  have h0 : ¬ size = 0 := by omega
  refine ⟨v1, s1, by omega, j1, ?_⟩
  simp [la14, e1, e2, e3, h1, h0, fm (show 0 ≤ size by omega), evalE, evalT, evalEs, evalO, evalC, evalI, evalSs, evalS, evP, evPs, evO, evC, evI, pE, consL, pick, and2, or2, andT2, orT2, callM, callvM, makeM, madeBy, methM, biM, bmM, attrM, idxM, slM, soM, tupM, lstM, boxed, binM, cmpM, isNM, chainM, CN.notM, notT, negM, iteM, varM, asgM, subM, fldM, parM, augM, augfM, CN.forM, thruM, truly, assignTg, setAll, startE, fin, back, truth, binop, slop, bifun, bmeth, bmTy, seqAt, lstAt, tyName, isi, isNd, lenOk, putN, augop]
theorem a15 {call : Nat → List D → Hs → Res D} {base top : Int} {mem boxes : List Int} (e8 : env[8]? = some (some (.ref 3))) (e10 : env[10]? = some (some (.tl (boxes.map .int)))) (e3 : env[3]? = some (some (.int base))) (e11 : env[11]? = some (some (.int top))) (h3 : s[3]? = some (.lst (mem.map .int))) :
    evalS T wf call la15 env s = .ok (.next (env.set 12 (some (.tup [.tup (mem.map .int), .tup (boxes.map .int), .int base, .int top])))) s := by
  have z4 : 4 ≤ PySem.sizeLine := by decide
  simp [la15, e3, e8, e10, e11, h3, z4, evalE, evalT, evalEs, evalO, evalC, evalI, evalSs, evalS, evP, evPs, evO, evC, evI, pE, consL, pick, and2, or2, andT2, orT2, callM, callvM, makeM, madeBy, methM, biM, bmM, attrM, idxM, slM, soM, tupM, lstM, boxed, binM, cmpM, isNM, chainM, CN.notM, notT, negM, iteM, varM, asgM, subM, fldM, parM, augM, augfM, CN.forM, thruM, truly, assignTg, setAll, startE, fin, back, truth, binop, slop, bifun, bmeth, bmTy, seqAt, lstAt, tyName, isi, isNd, lenOk, putN, augop]
theorem a16 {call : Nat → List D → Hs → Res D} : evalS T wf call la16 env s = .ok (.next (env.set 13 (some (.int 1)))) s := rfl
theorem a19 {call : Nat → List D → Hs → Res D} {b : Int} (e22 : env[22]? = some (some (.int b))) (hb : 1 ≤ b ∧ b ≤ 100) : evalS T wf call la19 env s = .ok (.next (env.set 14 (some (.int (7 + 7 * b))))) s := by
  have q := inRng_small (x := b) (by omega) (by omega)
  have q7 := inRng_small (x := 7) (by omega) (by omega)
  simp [la19, e22, q, q7, evalE, evalT, evalEs, evalO, evalC, evalI, evalSs, evalS, evP, evPs, evO, evC, evI, pE, consL, pick, and2, or2, andT2, orT2, callM, callvM, makeM, madeBy, methM, biM, bmM, attrM, idxM, slM, soM, tupM, lstM, boxed, binM, cmpM, isNM, chainM, CN.notM, notT, negM, iteM, varM, asgM, subM, fldM, parM, augM, augfM, CN.forM, thruM, truly, assignTg, setAll, startE, fin, back, truth, binop, slop, bifun, bmeth, bmTy, seqAt, lstAt, tyName, isi, isNd, lenOk, putN, augop]
theorem a20 {b : Int} (hc : 0 < cells.length) (hj : JarS cells rest s) (e1 : env[1]? = some (some (.ref 0))) (e14 : env[14]? = some (some (.int (7 + 7 * b)))) : ∃ n s', (n = 7 + 7 * b ∨ n = 6 + 7 * b ∨ n = 5 + 7 * b ∨ n = 12 + 7 * b) ∧ JarS cells rest s' ∧ evalS T wf (runFn T wf (k + 1)) la20 env s = .ok (.next (env.set 15 (some (.int n)))) s' := by
  obtain ⟨v1, s1, f0, f1, j1, h1⟩ := drawJ (wf := wf) (k := k) hc hj (show (0 : Int) < 5 by decide) (by decide)
  obtain ⟨_, p1, ⟨m, rfl, hm⟩⟩ := pickL (xs := [D.int 0, .int 0, .int 1, .int 2, .int (-5)]) (fun d => ∃ i : Int, d = .int i ∧ (i = 0 ∨ i = 1 ∨ i = 2 ∨ i = -5)) f0 f1 (by
    simp only [List.mem_cons, List.not_mem_nil, or_false, forall_eq_or_imp, forall_eq]
    exact ⟨⟨_, rfl, .inl rfl⟩, ⟨_, rfl, .inl rfl⟩, ⟨_, rfl, .inr (.inl rfl)⟩, ⟨_, rfl, .inr (.inr (.inl rfl))⟩, ⟨_, rfl, .inr (.inr (.inr rfl))⟩⟩)
  have z5 : 5 ≤ PySem.sizeLine := by decide
  refine ⟨7 + 7 * b - m, s1, by omega, j1, ?_⟩
  simp [la20, e1, e14, h1, p1, z5, evalE, evalT, evalEs, evalO, evalC, evalI, evalSs, evalS, evP, evPs, evO, evC, evI, pE, consL, pick, and2, or2, andT2, orT2, callM, callvM, makeM, madeBy, methM, biM, bmM, attrM, idxM, slM, soM, tupM, lstM, boxed, binM, cmpM, isNM, chainM, CN.notM, notT, negM, iteM, varM, asgM, subM, fldM, parM, augM, augfM, CN.forM, thruM, truly, assignTg, setAll, startE, fin, back, truth, binop, slop, bifun, bmeth, bmTy, seqAt, lstAt, tyName, isi, isNd, lenOk, putN, augop]
end K69
set_option Elab.async false
set_option linter.all false
set_option maxRecDepth 100000
set_option maxHeartbeats 4000000
/-! P22: the law's loops. -/
namespace K69
open CN
variable {wf k : Nat}
section
open PySem.W PySem.Calls PyProof.Rows
/-- the slots ahead of the first loop -/
def E6 (d : D) (size base more : Int) (o : Option D) (form a b : Int) : CN.Env := [some d, some (.ref 0), some (.int size), some (.int base), some (.int more), some (.ref 1), o, none, none, none, none, none, none, none, none, none, none, none, none, none, some (.int form), some (.int a), some (.int b), none, none, none, none, none, none, none]
def lastRow : D := .tup [.str "back"]
theorem l6_0 (d : D) (size base more a b i l dd : Int) (cells : List Int) : evalS T wf (runFn T wf (k + 1)) la6 (E6 d size base more none 0 a b) [jl cells i l dd, .lst [.int 0]] = .ok (.next (E6 d size base more (some lastRow) 0 a b)) [jl cells i l dd, .lst (plcs.map .int)] := by kernel_rfl
theorem l6_1 (d : D) (size base more a b i l dd : Int) (cells : List Int) : evalS T wf (runFn T wf (k + 1)) la6 (E6 d size base more none 1 a b) [jl cells i l dd, .lst [.int 0]] = .ok (.next (E6 d size base more (some lastRow) 1 a b)) [jl cells i l dd, .lst (plcs.map .int)] := by kernel_rfl
theorem l6_2 (d : D) (size base more a b i l dd : Int) (cells : List Int) : evalS T wf (runFn T wf (k + 1)) la6 (E6 d size base more none 2 a b) [jl cells i l dd, .lst [.int 0]] = .ok (.next (E6 d size base more (some lastRow) 2 a b)) [jl cells i l dd, .lst (plcs.map .int)] := by kernel_rfl
def E9 (d : D) (size base more : Int) (o : Option D) (form a b loop part : Int) : CN.Env := [some d, some (.ref 0), some (.int size), some (.int base), some (.int more), some (.ref 1), o, some (.ref 2), none, none, none, none, none, none, none, none, none, none, none, none, some (.int form), some (.int a), some (.int b), some (.int loop), some (.int part), none, none, none, none, none]
def codeF (one a b L P op : Int) : List D := [.int 1, .int 0, .int (a.fmod 256), .int 1, .int 1, .int (b.fmod 256), .int 1, .int 2, .int one, .int 1, .int 3, .int 1, .int 1, .int 7, .int 0, .int 14, .int (P.fdiv 256), .int (P.fmod 256), .int 4, .int 1, .int 1, .int 3, .int 11, .int 7, .int 1, .int (L.fdiv 256), .int (L.fmod 256), .int 8, .int 2, .int 19, .int 16, .int 0, .int op, .int 2, .int 2, .int 0, .int 17, .int 4, .int 15]
theorem l9_0 (d : D) (size base more a b loop part i l dd : Int) (cells : List Int) (ps : List D) : evalS T wf (runFn T wf (k + 1)) la9 (E9 d size base more (some lastRow) 0 a b loop part) [jl cells i l dd, .lst ps, .lst []] = .ok (.next (E9 d size base more (some lastRow) 0 a b loop part)) [jl cells i l dd, .lst ps, .lst (codeF 0 a b loop part 3)] := by kernel_rfl
theorem l9_1 (d : D) (size base more a b loop part i l dd : Int) (cells : List Int) (ps : List D) : evalS T wf (runFn T wf (k + 1)) la9 (E9 d size base more (some lastRow) 1 a b loop part) [jl cells i l dd, .lst ps, .lst []] = .ok (.next (E9 d size base more (some lastRow) 1 a b loop part)) [jl cells i l dd, .lst ps, .lst (codeF 0 a b loop part 4)] := by kernel_rfl
theorem l9_2 (d : D) (size base more a b loop part i l dd : Int) (cells : List Int) (ps : List D) : evalS T wf (runFn T wf (k + 1)) la9 (E9 d size base more (some lastRow) 2 a b loop part) [jl cells i l dd, .lst ps, .lst []] = .ok (.next (E9 d size base more (some lastRow) 2 a b loop part)) [jl cells i l dd, .lst ps, .lst (codeF 1 a b loop part 5)] := by kernel_rfl
end
theorem codeF_codeB {form a b L P : Int} (hf : form = 0 ∨ form = 1 ∨ form = 2) (ha : 0 ≤ a ∧ a < 256) (hb : 1 ≤ b ∧ b ≤ 100) : codeF (if form = 2 then 1 else 0) a b L P (3 + form) = (codeB form a b L P).map D.int := by
  have h1 : a.fmod 256 = a := by rw [fm (by decide)]; omega
  have h2 : b.fmod 256 = b := by rw [fm (by decide)]; omega
  unfold codeF codeB
  rw [h1, h2, fm (show (0 : Int) ≤ 256 by decide), fm (show (0 : Int) ≤ 256 by decide), fd (show (0 : Int) ≤ 256 by decide), fd (show (0 : Int) ≤ 256 by decide)]
  rfl
theorem eqbs_self (ds : List D) : D.eqbs ds ds = true := D.eqbs_refl ds
/-- a comprehension with a place whose walk makes nothing -/
theorem compBM_map {own : List Nat} {tg : Tg} {mi : CN.Env → Hs → Res (List D × Option (Nat × List D))} {mc : MT} {me : ME} {env : CN.Env} {s s1 : Hs} {ds : List D} (f : D → D) (hi : mi env s = .ok (ds, none) s1) (h : ∀ d ∈ ds, ∀ s', stepC own tg mc me env d s' = .ok (some (f d)) s') (hl : ds.length ≤ PySem.sizeLine) :
    compBM own tg mi mc me env s = .ok (.ref s1.length) (s1 ++ [.lst (ds.map f)]) := by
  unfold compBM
  rw [hi, Res.bind_ok]
  have z : ∀ (xs acc : List D), (∀ d ∈ xs, d ∈ ds) → acc.length + xs.length ≤ PySem.sizeLine → loopCompB (stepC own tg mc me env) s1.length none xs acc (s1 ++ [.lst acc]) = .ok () (s1 ++ [.lst (acc ++ xs.map f)]) := by
    intro xs
    induction xs with
    | nil => intro acc _ _; simp [loopCompB]
    | cons x xs ih =>
      intro acc hx hl
      rw [List.length_cons] at hl
      unfold loopCompB
      rw [h x (hx x List.mem_cons_self)]
      have h2 : acc.length < PySem.sizeLine := by omega
      have h3 : stays (some (s1.length, acc)) (s1 ++ [.lst acc]) = true := by
        unfold stays
        dsimp only
        rw [List.getElem?_append_right (Nat.le_refl _), Nat.sub_self]
        exact eqbs_self acc
      have h4 : (s1 ++ [GO.lst acc]).set s1.length (.lst (acc ++ [f x])) = s1 ++ [.lst (acc ++ [f x])] := by
        rw [List.set_append_right _ _ (Nat.le_refl _), Nat.sub_self]
        rfl
      dsimp only
      rw [h3, show stays none (s1 ++ [GO.lst acc]) = true from rfl, Bool.and_self, if_pos rfl, if_pos h2, h4]
      rw [ih (acc ++ [f x]) (fun y hy => hx y (List.mem_cons_of_mem _ hy)) (by simp; omega)]
      simp
  have q := z ds [] (fun _ q => q) (by simpa using hl)
  rw [q]
  rfl
def mem0 (start step : Int) (size : Nat) : List Int := (List.range size).map fun (k : Nat) => (start + step * (k : Int)) % 256
theorem mem0_len (start step : Int) (size : Nat) : (mem0 start step size).length = size := by simp [mem0]
theorem mem0_by (start step : Int) (size : Nat) : ∀ x ∈ mem0 start step size, 0 ≤ x ∧ x < 256 := by
  intro x hx
  obtain ⟨j, _, rfl⟩ := List.mem_map.mp hx
  omega
def mEl : Ex := .bin .mod (.bi .int (.cons (.bin .add (.var 25) (.bin .mul (.var 26) (.var 9))) (.nil))) (.cst (.int 256))
theorem mStep {env : CN.Env} {start step x : Int} {s : Hs} {call : Nat → List D → Hs → Res D} (e9 : 9 < env.length) (e25 : env[25]? = some (some (.int start))) (e26 : env[26]? = some (some (.int step))) (hs : 0 ≤ step ∧ step < 256) :
    stepC [9] (.nm 9) (evC T call .no) (evP T call mEl).e env (.int x) s = .ok (some (.int ((start + step * x) % 256))) s := by
  have q := inRng_byte hs
  simp [stepC, wipeE, mEl, e9, e25, e26, q, fm (show (0 : Int) ≤ 256 by decide), evalE, evalT, evalEs, evalO, evalC, evalI, evalSs, evalS, evP, evPs, evO, evC, evI, pE, consL, pick, and2, or2, andT2, orT2, callM, callvM, makeM, madeBy, methM, biM, bmM, attrM, idxM, slM, soM, tupM, lstM, boxed, binM, cmpM, isNM, chainM, CN.notM, notT, negM, iteM, varM, asgM, subM, fldM, parM, augM, augfM, CN.forM, thruM, truly, assignTg, setAll, startE, fin, back, truth, binop, slop, bifun, bmeth, bmTy, seqAt, lstAt, tyName, isi, isNd, lenOk, putN, augop]
theorem a11 {env : CN.Env} {call : Nat → List D → Hs → Res D} {cells : List Int} {start step : Int} {size : Nat} {x y : GO} {s : Hs} (hj : JarS cells [x, y] s) (e9 : 9 < env.length) (e2 : env[2]? = some (some (.int (size : Int)))) (e25 : env[25]? = some (some (.int start))) (e26 : env[26]? = some (some (.int step))) (hs : 0 ≤ step ∧ step < 256) (hz : size ≤ 4096) :
    ∃ s', JarS cells [x, y, .lst ((mem0 start step size).map .int)] s' ∧ evalS T wf call la11 env s = .ok (.next (env.set 8 (some (.ref 3)))) s' := by
  obtain ⟨i, l, d, hi, hl, hd, rfl⟩ := hj
  refine ⟨jl cells i l d :: [x, y, .lst ((mem0 start step size).map .int)], ⟨i, l, d, hi, hl, hd, rfl⟩, ?_⟩
  refine asg_ok (e := .compB mEl (.nm 9) [9] (.range1 (.var 2)) .no) ?_
  rw [evP]
  dsimp only [pE]
  have q := compBM_map (own := [9]) (tg := .nm 9) (mi := evI T call (.range1 (.var 2))) (mc := evC T call .no) (me := (evP T call mEl).e) (env := env) (s := [jl cells i l d, x, y]) (s1 := [jl cells i l d, x, y]) (ds := rangeD 0 size) (fun z => match z with | .int x => .int ((start + step * x) % 256) | z => z) (evI_range1 (by
      have e : (evP T call (.var 2)).e env [jl cells i l d, x, y] = varM 2 env [jl cells i l d, x, y] := rfl
      rw [e]
      unfold varM
      rw [e2]) (by omega)) (by
    intro z hz s'
    unfold rangeD at hz
    obtain ⟨j, _, rfl⟩ := List.mem_map.mp hz
    exact mStep e9 e25 e26 hs) (by simp [rangeD]; exact small5 (by omega))
  rw [q]
  congr 1
  simp [rangeD, mem0]
/-- the code is written on the ring -/
def putAll (mem : List Int) (base : Int) : Nat → List Int → List Int
  | _, [] => mem
  | j, b :: bs => putAll (put mem (base + (j : Int)) b) base (j + 1) bs
theorem putAll_len (base : Int) : ∀ (bs : List Int) (mem : List Int) (j : Nat), (putAll mem base j bs).length = mem.length
  | [], mem, j => rfl
  | b :: bs, mem, j => by
    rw [putAll, putAll_len base bs]
    simp
theorem putAll_by (base : Int) : ∀ (bs : List Int) (mem : List Int) (j : Nat), (∀ x ∈ mem, 0 ≤ x ∧ x < 256) → (∀ x ∈ bs, 0 ≤ x ∧ x < 256) → ∀ x ∈ putAll mem base j bs, 0 ≤ x ∧ x < 256
  | [], mem, j, h, _ => h
  | b :: bs, mem, j, h, hb => by
    rw [putAll]
    exact putAll_by base bs _ (j + 1) (put_by h (hb b List.mem_cons_self)) fun x hx => hb x (List.mem_cons_of_mem _ hx)
theorem putAll_old (base : Int) : ∀ (bs : List Int) (mem : List Int) (j : Nat) (i : Nat), i < j → j + bs.length ≤ mem.length → cell (putAll mem base j bs) (base + (i : Int)) = cell mem (base + (i : Int))
  | [], mem, j, i, _, _ => rfl
  | b :: bs, mem, j, i, hi, hl => by
    rw [List.length_cons] at hl
    rw [putAll, putAll_old base bs _ (j + 1) i (by omega) (by rw [put_len]; omega), cell_put (by omega), if_neg]
    exact (wrap_ne (by omega) (by omega)).symm
theorem putAll_new (base : Int) : ∀ (bs : List Int) (mem : List Int) (j : Nat) (i : Nat), i < bs.length → j + bs.length ≤ mem.length → cell (putAll mem base j bs) (base + ((j + i : Nat) : Int)) = bs.getD i 0
  | [], mem, j, i, hi, _ => by simp at hi
  | b :: bs, mem, j, 0, hi, hl => by
    rw [List.length_cons] at hl
    show cell (putAll (put mem (base + (j : Int)) b) base (j + 1) bs) (base + (j : Int)) = b
    rw [putAll_old base bs _ (j + 1) j (by omega) (by rw [put_len]; omega), cell_put (by omega), if_pos rfl]
  | b :: bs, mem, j, i + 1, hi, hl => by
    rw [List.length_cons] at hl hi
    have q := putAll_new base bs (put mem (base + (j : Int)) b) (j + 1) i (by omega) (by rw [put_len]; omega)
    have e : j + 1 + i = j + (i + 1) := by omega
    rw [e] at q
    rw [putAll, q]
    simp
def wBody : Sts := .cons (.sub (.var 8) (.bin .mod (.bi .int (.cons (.bin .add (.var 3) (.var 9)) (.nil))) (.var 2)) (.idx (.var 7) (.var 9))) (.nil)
theorem wStep {env : CN.Env} {call : Nat → List D → Hs → Res D} {base : Int} {g0 g1 : GO} {cs mem : List Int} {j : Nat} (hl : 9 < env.length) (hm : 0 < mem.length) (hj : j < cs.length) (e2 : env[2]? = some (some (.int (mem.length : Int)))) (e3 : env[3]? = some (some (.int base))) (e7 : env[7]? = some (some (.ref 2))) (e8 : env[8]? = some (some (.ref 3))) :
    forStep (.nm 9) (evalSs T wf call wBody) (.int (j : Int)) env [g0, g1, .lst (cs.map .int), .lst (mem.map .int)] = .ok (.next (env.set 9 (some (.int (j : Int))))) [g0, g1, .lst (cs.map .int), .lst ((put mem (base + (j : Int)) (cs.getD j 0)).map .int)] := by
  have h0 : ¬ (mem.length : Int) = 0 := by omega
  have h0' : ¬ mem = [] := by rintro rfl; simp at hm
  have e1 : L2.atI (cs.map D.int) (j : Int) = some (.int (cs.getD j 0)) := by
    rw [atI_nat _ _ (by simpa using hj), List.getElem?_map, List.getElem?_eq_getElem hj]
    simp [List.getD, hj]
  have e4 := ixN_wrap (a := base + (j : Int)) hm
  simp [forStep_nm, wBody, hl, e2, e3, e7, e8, e1, e4, h0, h0', fmod_wrap, put, evalE, evalT, evalEs, evalO, evalC, evalI, evalSs, evalS, evP, evPs, evO, evC, evI, pE, consL, pick, and2, or2, andT2, orT2, callM, callvM, makeM, madeBy, methM, biM, bmM, attrM, idxM, slM, soM, tupM, lstM, boxed, binM, cmpM, isNM, chainM, CN.notM, notT, negM, iteM, varM, asgM, subM, fldM, parM, augM, augfM, CN.forM, thruM, truly, assignTg, setAll, startE, fin, back, truth, binop, slop, bifun, bmeth, bmTy, seqAt, lstAt, tyName, isi, isNd, lenOk, putN, augop]
theorem wLoop {call : Nat → List D → Hs → Res D} {base : Int} {g0 g1 : GO} {cs : List Int} : ∀ (m j : Nat) (env : CN.Env) (mem : List Int), j + m + 1 = cs.length → 9 < env.length → 0 < mem.length → env[2]? = some (some (.int (mem.length : Int))) → env[3]? = some (some (.int base)) → env[7]? = some (some (.ref 2)) → env[8]? = some (some (.ref 3)) →
    loopFor (forStep (.nm 9) (evalSs T wf call wBody)) none ((List.range' j (m + 1)).map fun (i : Nat) => D.int (i : Int)) env [g0, g1, .lst (cs.map .int), .lst (mem.map .int)] = .ok (.next (env.set 9 (some (.int ((j + m : Nat) : Int))))) [g0, g1, .lst (cs.map .int), .lst ((putAll mem base j (cs.drop j)).map .int)]
  | 0, j, env, mem, hj, hl, hm, e2, e3, e7, e8 => by
    have e : cs.drop j = [cs.getD j 0] := by
      rw [List.drop_eq_getElem_cons (by omega), List.drop_eq_nil_of_le (by omega)]
      simp [List.getD, show j < cs.length by omega]
    rw [e]
    have q := wStep (wf := wf) (call := call) (g0 := g0) (g1 := g1) hl hm (show j < cs.length by omega) e2 e3 e7 e8
    have z : (List.range' j (0 + 1)).map (fun (i : Nat) => D.int (i : Int)) = [D.int (j : Int)] := rfl
    rw [z, loopFor_nx q rfl]
    rfl
  | m + 1, j, env, mem, hj, hl, hm, e2, e3, e7, e8 => by
    have e : cs.drop j = cs.getD j 0 :: cs.drop (j + 1) := by
      rw [List.drop_eq_getElem_cons (by omega)]
      simp [List.getD, show j < cs.length by omega]
    rw [e]
    have q := wStep (wf := wf) (call := call) (g0 := g0) (g1 := g1) hl hm (show j < cs.length by omega) e2 e3 e7 e8
    have z : (List.range' j (m + 1 + 1)).map (fun (i : Nat) => D.int (i : Int)) = D.int (j : Int) :: (List.range' (j + 1) (m + 1)).map (fun (i : Nat) => D.int (i : Int)) := by
      rw [List.range'_succ]
      rfl
    rw [z, loopFor_nx q rfl, wLoop m (j + 1) _ (put mem (base + (j : Int)) (cs.getD j 0)) (by omega) (by simpa using hl) (by simpa using hm) (by simpa using e2) (by simpa using e3) (by simpa using e7) (by simpa using e8)]
    rw [List.set_set, show j + 1 + m = j + (m + 1) by omega]
    rfl
theorem rangeD_range' (n : Nat) : rangeD 0 n = (List.range' 0 n).map fun (i : Nat) => D.int (i : Int) := by
  unfold rangeD
  rw [List.range_eq_range']
  simp
theorem a12 {env : CN.Env} {call : Nat → List D → Hs → Res D} {cells : List Int} {base : Int} {g1 : GO} {cs mem : List Int} {s : Hs} (hj : JarS cells [g1, .lst (cs.map .int), .lst (mem.map .int)] s) (hc : cs.length = 39) (hl : 9 < env.length) (hm : 0 < mem.length) (e2 : env[2]? = some (some (.int (mem.length : Int)))) (e3 : env[3]? = some (some (.int base))) (e7 : env[7]? = some (some (.ref 2))) (e8 : env[8]? = some (some (.ref 3))) :
    ∃ s', JarS cells [g1, .lst (cs.map .int), .lst ((putAll mem base 0 cs).map .int)] s' ∧ evalS T wf call la12 env s = .ok (.next (env.set 9 (some (.int 38)))) s' := by
  obtain ⟨i, l, d, hi, hl2, hd, rfl⟩ := hj
  refine ⟨[jl cells i l d, g1, .lst (cs.map .int), .lst ((putAll mem base 0 cs).map .int)], ⟨i, l, d, hi, hl2, hd, rfl⟩, ?_⟩
  refine for_ok (p := (rangeD 0 39, none)) (s1 := [jl cells i l d, g1, .lst (cs.map .int), .lst (mem.map .int)]) (evI_range1 (n := 39) ?_ (by decide)) ?_
  · have e : (evP T call (.bi .len (.cons (.var 7) .nil))).e env [jl cells i l d, g1, .lst (cs.map .int), .lst (mem.map .int)] = ((varM 7 env [jl cells i l d, g1, .lst (cs.map .int), .lst (mem.map .int)]).bind fun x s1 => .ok [x] s1).bind fun ds s1 => Res.of (bifun s1 .len ds) s1 := rfl
    rw [e]
    unfold varM
    rw [e7]
    show Res.of (some (D.int ((cs.map D.int).length : Int))) _ = _
    rw [List.length_map, hc]
    rfl
  · have q := wLoop (wf := wf) (call := call) (base := base) (g0 := jl cells i l d) (g1 := g1) (cs := cs) 38 0 env mem (by omega) hl hm e2 e3 e7 e8
    rw [rangeD_range']
    exact q
end K69
set_option Elab.async false
set_option linter.all false
set_option maxRecDepth 100000
set_option maxHeartbeats 4000000
/-! P23: the law's boxes, its number. -/
namespace K69
open CN
variable {wf k : Nat} {env : CN.Env} {s : Hs} {cells : List Int} {rest : Hs}
def bEl : Ex := .call 3 (.cons (.var 1) (.cons (.cst (.int 256)) (.nil)))
theorem bStep (hc : 0 < cells.length) (hj : JarS cells rest s) (e9 : 9 < env.length) (e1 : env[1]? = some (some (.ref 0))) (x : D) : ∃ v s', (0 ≤ v ∧ v < 256) ∧ JarS cells rest s' ∧ stepC [9] (.nm 9) (evC T (runFn T wf (k + 1)) .no) (evP T (runFn T wf (k + 1)) bEl).e env x s = .ok (some (.int v)) s' := by
  obtain ⟨v1, s1, f0, f1, j1, h1⟩ := drawJ (wf := wf) (k := k) hc hj (show (0 : Int) < 256 by decide) (by decide)
  refine ⟨v1, s1, ⟨f0, f1⟩, j1, ?_⟩
  simp [stepC, wipeE, bEl, e9, e1, h1, evalE, evalT, evalEs, evalO, evalC, evalI, evalSs, evalS, evP, evPs, evO, evC, evI, pE, consL, pick, and2, or2, andT2, orT2, callM, callvM, makeM, madeBy, methM, biM, bmM, attrM, idxM, slM, soM, tupM, lstM, boxed, binM, cmpM, isNM, chainM, CN.notM, notT, negM, iteM, varM, asgM, subM, fldM, parM, augM, augfM, CN.forM, thruM, truly, assignTg, setAll, startE, fin, back, truth, binop, slop, bifun, bmeth, bmTy, seqAt, lstAt, tyName, isi, isNd, lenOk, putN, augop]
theorem bLoop (hc : 0 < cells.length) (e9 : 9 < env.length) (e1 : env[1]? = some (some (.ref 0))) : ∀ (xs acc : List D) (s : Hs), JarS cells rest s → acc.length + xs.length ≤ PySem.sizeLine → ∃ (vs : List Int) (s' : Hs), vs.length = xs.length ∧ (∀ v ∈ vs, 0 ≤ v ∧ v < 256) ∧ JarS cells rest s' ∧ loopComp (stepC [9] (.nm 9) (evC T (runFn T wf (k + 1)) .no) (evP T (runFn T wf (k + 1)) bEl).e env) none xs acc s = .ok (acc ++ vs.map .int) s'
  | [], acc, s, hj, _ => ⟨[], s, rfl, (fun v h => by cases h), hj, (by simp [loopComp])⟩
  | x :: xs, acc, s, hj, hl => by
    rw [List.length_cons] at hl
    obtain ⟨v, s1, hv, j1, h1⟩ := bStep (wf := wf) (k := k) hc hj e9 e1 x
    obtain ⟨vs, s2, q1, q2, q3, q4⟩ := bLoop hc e9 e1 xs (acc ++ [.int v]) s1 j1 (by simp; omega)
    refine ⟨v :: vs, s2, by simp [q1], ?_, q3, ?_⟩
    · intro y hy
      rcases List.mem_cons.mp hy with rfl | hy
      · exact hv
      · exact q2 y hy
    · rw [loopComp, h1]
      dsimp only
      rw [show stays none s1 = true from rfl, if_pos rfl, if_pos (by omega), q4]
      simp
theorem a13 (hc : 0 < cells.length) (hj : JarS cells rest s) (e9 : 9 < env.length) (e1 : env[1]? = some (some (.ref 0))) : ∃ (c0 c1 c2 c3 c4 c5 c6 c7 : Int) (s' : Hs), (∀ v ∈ [c0, c1, c2, c3, c4, c5, c6, c7], 0 ≤ v ∧ v < 256) ∧ JarS cells rest s' ∧ evalS T wf (runFn T wf (k + 1)) la13 env s = .ok (.next (env.set 10 (some (.tl ([c0, c1, c2, c3, c4, c5, c6, c7].map .int))))) s' := by
  obtain ⟨vs, s1, q1, q2, q3, q4⟩ := bLoop (wf := wf) (k := k) hc e9 e1 (rangeD 0 8) [] s hj (by decide)
  have h8 : vs.length = 8 := q1
  match vs, h8 with
  | [c0, c1, c2, c3, c4, c5, c6, c7], _ =>
    refine ⟨c0, c1, c2, c3, c4, c5, c6, c7, s1, q2, q3, ?_⟩
    refine asg_ok (e := .comp bEl (.nm 9) [9] (.range1 (.cst (.int 8))) .no) ?_
    rw [evP]
    dsimp only [pE]
    unfold compM
    rw [evI_range1 (n := 8) (s' := s) rfl (by decide), Res.bind_ok]
    dsimp only
    rw [q4]
    rfl
def nBody : Sts := .cons (.asg (.nm 13) (.bin .mod (.bi .int (.cons (.bin .mul (.var 13) (.var 21)) (.nil))) (.cst (.int 256)))) (.nil)
theorem nStep {call : Nat → List D → Hs → Res D} {a r x : Int} (ha : 0 ≤ a ∧ a < 256) (e13 : env[13]? = some (some (.int r))) (e21 : env[21]? = some (some (.int a))) : forStep (.nm 9) (evalSs T wf call nBody) (.int x) env s = .ok (.next ((env.set 9 (some (.int x))).set 13 (some (.int (opF 2 r a))))) s := by
  have q := inRng_byte ha
  simp [forStep_nm, nBody, e13, e21, q, opF, fm (show (0 : Int) ≤ 256 by decide), evalE, evalT, evalEs, evalO, evalC, evalI, evalSs, evalS, evP, evPs, evO, evC, evI, pE, consL, pick, and2, or2, andT2, orT2, callM, callvM, makeM, madeBy, methM, biM, bmM, attrM, idxM, slM, soM, tupM, lstM, boxed, binM, cmpM, isNM, chainM, CN.notM, notT, negM, iteM, varM, asgM, subM, fldM, parM, augM, augfM, CN.forM, thruM, truly, assignTg, setAll, startE, fin, back, truth, binop, slop, bifun, bmeth, bmTy, seqAt, lstAt, tyName, isi, isNd, lenOk, putN, augop]
theorem nLoop {call : Nat → List D → Hs → Res D} {a : Int} (ha : 0 ≤ a ∧ a < 256) : ∀ (m j : Nat) (env : CN.Env) (r : Int), 13 < env.length → env[13]? = some (some (.int r)) → env[21]? = some (some (.int a)) →
    loopFor (forStep (.nm 9) (evalSs T wf call nBody)) none ((List.range' j (m + 1)).map fun (i : Nat) => D.int (i : Int)) env s = .ok (.next ((env.set 9 (some (.int ((j + m : Nat) : Int)))).set 13 (some (.int (itF 2 a (m + 1) r))))) s
  | 0, j, env, r, hl, e13, e21 => by
    have z : (List.range' j (0 + 1)).map (fun (i : Nat) => D.int (i : Int)) = [D.int (j : Int)] := rfl
    rw [z, loopFor_nx (nStep ha e13 e21) rfl]
    rfl
  | m + 1, j, env, r, hl, e13, e21 => by
    have z : (List.range' j (m + 1 + 1)).map (fun (i : Nat) => D.int (i : Int)) = D.int (j : Int) :: (List.range' (j + 1) (m + 1)).map (fun (i : Nat) => D.int (i : Int)) := by
      rw [List.range'_succ]
      rfl
    rw [z, loopFor_nx (nStep ha e13 e21) rfl, nLoop ha m (j + 1) _ (opF 2 r a) (by simpa using hl) (by simp [hl]) (by simpa using e21)]
    rw [List.set_comm (some (D.int (opF 2 r a))) (some (D.int ((j + 1 + m : Nat) : Int))) (by decide), List.set_set, List.set_set, show j + 1 + m = j + (m + 1) by omega]
    rfl
theorem a17 {call : Nat → List D → Hs → Res D} {a : Int} {b : Nat} (ha : 0 ≤ a ∧ a < 256) (hb : 1 ≤ b ∧ b ≤ 100) (hl : 13 < env.length) (e22 : env[22]? = some (some (.int (b : Int)))) (e13 : env[13]? = some (some (.int 1))) (e21 : env[21]? = some (some (.int a))) :
    evalS T wf call la17 env s = .ok (.next ((env.set 9 (some (.int ((b - 1 : Nat) : Int)))).set 13 (some (.int (itF 2 a b 1))))) s := by
  refine for_ok (p := (rangeD 0 b, none)) (s1 := s) (evI_range1 (n := b) ?_ (by omega)) ?_
  · have e : (evP T call (.var 22)).e env s = varM 22 env s := rfl
    rw [e]
    unfold varM
    rw [e22]
  · obtain ⟨m, rfl⟩ : ∃ m, b = m + 1 := ⟨b - 1, by omega⟩
    have q := nLoop (wf := wf) (call := call) (s := s) ha m 0 env 1 hl e13 e21
    rw [rangeD_range', show m + 1 - 1 = 0 + m by omega]
    exact q
theorem itF_0 (a : Int) : ∀ (j : Nat) (r : Int), 0 ≤ r ∧ r < 256 → itF 0 a j r = (r + a * (j : Int)) % 256
  | 0, r, h => by
    show r = (r + a * 0) % 256
    omega
  | j + 1, r, h => by
    have e : opF 0 r a = (r + a) % 256 := rfl
    rw [itF, e, itF_0 a j _ (by omega), Int.emod_add_emod]
    congr 1
    rw [Int.natCast_add, Int.mul_add]
    omega
theorem itF_1 (a : Int) : ∀ (j : Nat) (r : Int), 0 ≤ r ∧ r < 256 → itF 1 a j r = (r - a * (j : Int)) % 256
  | 0, r, h => by
    show r = (r - a * 0) % 256
    omega
  | j + 1, r, h => by
    have e : opF 1 r a = (r - a) % 256 := rfl
    rw [itF, e, itF_1 a j _ (by omega), Int.emod_sub_emod]
    congr 1
    rw [Int.natCast_add, Int.mul_add]
    omega
theorem a18 {call : Nat → List D → Hs → Res D} {form a : Int} {b : Nat} (hf : form = 0 ∨ form = 1 ∨ form = 2) (ha : 0 ≤ a ∧ a < 256) (e20 : env[20]? = some (some (.int form))) (e21 : env[21]? = some (some (.int a))) (e22 : env[22]? = some (some (.int (b : Int)))) (e13 : env[13]? = some (some (.int (itF 2 a b 1)))) :
    evalS T wf call la18 env s = .ok (.next (env.set 13 (some (.int (itF form a b (if form = 2 then 1 else 0)))))) s := by
  have q := inRng_byte ha
  have z3 : 3 ≤ PySem.sizeLine := by decide
  have f2 : ∀ x : Int, x.fmod 256 = x % 256 := fun x => fm (by decide)
  rcases hf with rfl | rfl | rfl
  · have p : ∀ x y z : D, L2.atI [x, y, z] 0 = some x := fun _ _ _ => rfl
    simp [la18, e20, e21, e22, e13, q, z3, p, f2, itF_0, evalE, evalT, evalEs, evalO, evalC, evalI, evalSs, evalS, evP, evPs, evO, evC, evI, pE, consL, pick, and2, or2, andT2, orT2, callM, callvM, makeM, madeBy, methM, biM, bmM, attrM, idxM, slM, soM, tupM, lstM, boxed, binM, cmpM, isNM, chainM, CN.notM, notT, negM, iteM, varM, asgM, subM, fldM, parM, augM, augfM, CN.forM, thruM, truly, assignTg, setAll, startE, fin, back, truth, binop, slop, bifun, bmeth, bmTy, seqAt, lstAt, tyName, isi, isNd, lenOk, putN, augop]
  · have p : ∀ x y z : D, L2.atI [x, y, z] 1 = some y := fun _ _ _ => rfl
    simp [la18, e20, e21, e22, e13, q, z3, p, f2, itF_1, evalE, evalT, evalEs, evalO, evalC, evalI, evalSs, evalS, evP, evPs, evO, evC, evI, pE, consL, pick, and2, or2, andT2, orT2, callM, callvM, makeM, madeBy, methM, biM, bmM, attrM, idxM, slM, soM, tupM, lstM, boxed, binM, cmpM, isNM, chainM, CN.notM, notT, negM, iteM, varM, asgM, subM, fldM, parM, augM, augfM, CN.forM, thruM, truly, assignTg, setAll, startE, fin, back, truth, binop, slop, bifun, bmeth, bmTy, seqAt, lstAt, tyName, isi, isNd, lenOk, putN, augop]
  · have p : ∀ x y z : D, L2.atI [x, y, z] 2 = some z := fun _ _ _ => rfl
    simp [la18, e20, e21, e22, e13, q, z3, p, f2, evalE, evalT, evalEs, evalO, evalC, evalI, evalSs, evalS, evP, evPs, evO, evC, evI, pE, consL, pick, and2, or2, andT2, orT2, callM, callvM, makeM, madeBy, methM, biM, bmM, attrM, idxM, slM, soM, tupM, lstM, boxed, binM, cmpM, isNM, chainM, CN.notM, notT, negM, iteM, varM, asgM, subM, fldM, parM, augM, augfM, CN.forM, thruM, truly, assignTg, setAll, startE, fin, back, truth, binop, slop, bifun, bmeth, bmTy, seqAt, lstAt, tyName, isi, isNd, lenOk, putN, augop]
end K69
set_option Elab.async false
set_option linter.all false
set_option maxRecDepth 100000
set_option maxHeartbeats 4000000
/-! P24: what the law asks of the answer. -/
namespace K69
open CN
variable {wf k : Nat} {env : CN.Env} {s : Hs} {call : Nat → List D → Hs → Res D}
theorem a21 {x r : D} {n : Int} (e12 : env[12]? = some (some x)) (e15 : env[15]? = some (some (.int n))) (h : call 6 [x, .tup [], .int n] s = .ok r s) : evalS T wf call la21 env s = .ok (.next (env.set 16 (some r))) s := by
  simp [la21, e12, e15, h, evalE, evalT, evalEs, evalO, evalC, evalI, evalSs, evalS, evP, evPs, evO, evC, evI, pE, consL, pick, and2, or2, andT2, orT2, callM, callvM, makeM, madeBy, methM, biM, bmM, attrM, idxM, slM, soM, tupM, lstM, boxed, binM, cmpM, isNM, chainM, CN.notM, notT, negM, iteM, varM, asgM, subM, fldM, parM, augM, augfM, CN.forM, thruM, truly, assignTg, setAll, startE, fin, back, truth, binop, slop, bifun, bmeth, bmTy, seqAt, lstAt, tyName, isi, isNd, lenOk, putN, augop]
theorem ne_self (s : Hs) (i : Int) : cmpop T.tabs s .ne (.int i) (.int i) = some false := by
  show (eqD s (.int i) (.int i)).map (!·) = some false
  simp
def evsD (n b num : Int) : List D := if n = 5 + 7 * b then [] else [.tup [.str "tell", .int num]]
def endS (n b : Int) : PySem.Str := if 7 + 7 * b ≤ n then "stopped" else "tired"
theorem a22 {n b num : Int} (hn : n = 7 + 7 * b ∨ n = 6 + 7 * b ∨ n = 5 + 7 * b ∨ n = 12 + 7 * b) (e13 : env[13]? = some (some (.int num))) (e14 : env[14]? = some (some (.int (7 + 7 * b)))) (e15 : env[15]? = some (some (.int n))) :
    evalS T wf call la22 env s = .ok (.next ((env.set 27 (some (.tup (evsD n b num)))).set 28 (some (.tup [.str (endS n b)])))) s := by
  have z1 : 1 ≤ PySem.sizeLine := by decide
  have z2 : 2 ≤ PySem.sizeLine := by decide
  by_cases h1 : n = 5 + 7 * b
  · have h2 : ¬ (7 + 7 * b - 2 < n) := by omega
    have h3 : ¬ (7 + 7 * b ≤ n) := by omega
    subst h1
    simp [la22, e13, e14, e15, h2, h3, z1, z2, evsD, endS, evalE, evalT, evalEs, evalO, evalC, evalI, evalSs, evalS, evP, evPs, evO, evC, evI, pE, consL, pick, and2, or2, andT2, orT2, callM, callvM, makeM, madeBy, methM, biM, bmM, attrM, idxM, slM, soM, tupM, lstM, boxed, binM, cmpM, isNM, chainM, CN.notM, notT, negM, iteM, varM, asgM, subM, fldM, parM, augM, augfM, CN.forM, thruM, truly, assignTg, setAll, startE, fin, back, truth, binop, slop, bifun, bmeth, bmTy, seqAt, lstAt, tyName, isi, isNd, lenOk, putN, augop]
  · have h2 : 7 + 7 * b - 2 < n := by omega
    by_cases h3 : 7 + 7 * b ≤ n
    · simp [la22, e13, e14, e15, h1, h2, h3, z1, z2, evsD, endS, evalE, evalT, evalEs, evalO, evalC, evalI, evalSs, evalS, evP, evPs, evO, evC, evI, pE, consL, pick, and2, or2, andT2, orT2, callM, callvM, makeM, madeBy, methM, biM, bmM, attrM, idxM, slM, soM, tupM, lstM, boxed, binM, cmpM, isNM, chainM, CN.notM, notT, negM, iteM, varM, asgM, subM, fldM, parM, augM, augfM, CN.forM, thruM, truly, assignTg, setAll, startE, fin, back, truth, binop, slop, bifun, bmeth, bmTy, seqAt, lstAt, tyName, isi, isNd, lenOk, putN, augop]
    · simp [la22, e13, e14, e15, h1, h2, h3, z1, z2, evsD, endS, evalE, evalT, evalEs, evalO, evalC, evalI, evalSs, evalS, evP, evPs, evO, evC, evI, pE, consL, pick, and2, or2, andT2, orT2, callM, callvM, makeM, madeBy, methM, biM, bmM, attrM, idxM, slM, soM, tupM, lstM, boxed, binM, cmpM, isNM, chainM, CN.notM, notT, negM, iteM, varM, asgM, subM, fldM, parM, augM, augfM, CN.forM, thruM, truly, assignTg, setAll, startE, fin, back, truth, binop, slop, bifun, bmeth, bmTy, seqAt, lstAt, tyName, isi, isNd, lenOk, putN, augop]
theorem a23 {x y z : D} (e16 : env[16]? = some (some (.tup [x, y, z]))) (e27 : env[27]? = some (some x)) (e28 : env[28]? = some (some y)) (h : call 41 [.tup [x, y], .tup [x, y]] s = .ok (.bl true) s) : evalS T wf call la23 env s = .ok (.next env) s := by
  have z2 : 2 ≤ PySem.sizeLine := by decide
  have c : cut [x, y, z] none (some 2) = [x, y] := rfl
  simp [la23, ne_self, e16, e27, e28, h, z2, c, evalE, evalT, evalEs, evalO, evalC, evalI, evalSs, evalS, evP, evPs, evO, evC, evI, pE, consL, pick, and2, or2, andT2, orT2, callM, callvM, makeM, madeBy, methM, biM, bmM, attrM, idxM, slM, soM, tupM, lstM, boxed, binM, cmpM, isNM, chainM, CN.notM, notT, negM, iteM, varM, asgM, subM, fldM, parM, augM, augfM, CN.forM, thruM, truly, assignTg, setAll, startE, fin, back, truth, binop, slop, bifun, bmeth, bmTy, seqAt, lstAt, tyName, isi, isNd, lenOk, putN, augop]
theorem a24 {cells : List Int} {size base : Int} {r2 : Hs} (hj : JarS cells (.lst (plcs.map .int) :: r2) s) (e5 : env[5]? = some (some (.ref 1))) (e2 : env[2]? = some (some (.int size))) (e3 : env[3]? = some (some (.int base))) (hs : 64 ≤ size ∧ size ≤ 4096) :
    evalS T wf call la24 env s = .ok (.next (env.set 17 (some (.int ((base + 18) % size))))) s := by
  obtain ⟨i, l, d, hi, hl, hd, rfl⟩ := hj
  have h0 : ¬ size = 0 := by omega
  have i6 : L2.atI (plcs.map D.int) 6 = some (.int 18) := rfl
  simp [la24, e2, e3, e5, h0, i6, fm (show 0 ≤ size by omega), evalE, evalT, evalEs, evalO, evalC, evalI, evalSs, evalS, evP, evPs, evO, evC, evI, pE, consL, pick, and2, or2, andT2, orT2, callM, callvM, makeM, madeBy, methM, biM, bmM, attrM, idxM, slM, soM, tupM, lstM, boxed, binM, cmpM, isNM, chainM, CN.notM, notT, negM, iteM, varM, asgM, subM, fldM, parM, augM, augfM, CN.forM, thruM, truly, assignTg, setAll, startE, fin, back, truth, binop, slop, bifun, bmeth, bmTy, seqAt, lstAt, tyName, isi, isNd, lenOk, putN, augop]
def vBody : Sts := .cons (.sub (.var 8) (.bin .mod (.bi .int (.cons (.bin .sub (.var 11) (.var 9)) (.nil))) (.var 2)) (.var 29)) (.nil)
theorem vStep {g0 g1 g2 : GO} {mem : List Int} {top u v : Int} (hl : env.length = 30) (hm : 0 < mem.length) (e2 : env[2]? = some (some (.int (mem.length : Int)))) (e11 : env[11]? = some (some (.int top))) (e8 : env[8]? = some (some (.ref 3))) :
    forStep (.tp [9, 29]) (evalSs T wf call vBody) (.tup [.int u, .int v]) env [g0, g1, g2, .lst (mem.map .int)] = .ok (.next ((env.set 9 (some (.int u))).set 29 (some (.int v)))) [g0, g1, g2, .lst ((put mem (top - u) v).map .int)] := by
  have h0 : ¬ (mem.length : Int) = 0 := by omega
  have h0' : ¬ mem = [] := by rintro rfl; simp at hm
  have e4 := ixN_wrap (a := top - u) hm
  have h9 : 9 < env.length := by omega
  have h29 : 29 < env.length := by omega
  clear hl
  simp [forStep, vBody, h9, h29, e2, e11, e8, e4, h0, h0', fmod_wrap, put, evalE, evalT, evalEs, evalO, evalC, evalI, evalSs, evalS, evP, evPs, evO, evC, evI, pE, consL, pick, and2, or2, andT2, orT2, callM, callvM, makeM, madeBy, methM, biM, bmM, attrM, idxM, slM, soM, tupM, lstM, boxed, binM, cmpM, isNM, chainM, CN.notM, notT, negM, iteM, varM, asgM, subM, fldM, parM, augM, augfM, CN.forM, thruM, truly, assignTg, setAll, startE, fin, back, truth, binop, slop, bifun, bmeth, bmTy, seqAt, lstAt, tyName, isi, isNd, lenOk, putN, augop]
theorem a25 {cells : List Int} {g1 g2 : GO} {mem : List Int} {top a w : Int} (hj : JarS cells [g1, g2, .lst (mem.map .int)] s) (hl : env.length = 30) (hm : 0 < mem.length) (e2 : env[2]? = some (some (.int (mem.length : Int)))) (e11 : env[11]? = some (some (.int top))) (e8 : env[8]? = some (some (.ref 3))) (e21 : env[21]? = some (some (.int a))) (e17 : env[17]? = some (some (.int w))) :
    ∃ s', JarS cells [g1, g2, .lst ((put (put (put mem (top - 3) a) (top - 2) (w / 256)) (top - 1) (w % 256)).map .int)] s' ∧ evalS T wf call la25 env s = .ok (.next ((((((env.set 9 (some (.int 3))).set 29 (some (.int a))).set 9 (some (.int 2))).set 29 (some (.int (w / 256)))).set 9 (some (.int 1))).set 29 (some (.int (w % 256))))) s' := by
  obtain ⟨i, l, d, hi, hl2, hd, rfl⟩ := hj
  refine ⟨[jl cells i l d, g1, g2, .lst ((put (put (put mem (top - 3) a) (top - 2) (w / 256)) (top - 1) (w % 256)).map .int)], ⟨i, l, d, hi, hl2, hd, rfl⟩, ?_⟩
  have z2 : 2 ≤ PySem.sizeLine := by decide
  have z3 : 3 ≤ PySem.sizeLine := by decide
  have hi : evI T call (.seq (.tup (.cons (.tup (.cons (.cst (.int 3)) (.cons (.var 21) (.nil)))) (.cons (.tup (.cons (.cst (.int 2)) (.cons (.bin .fdiv (.var 17) (.cst (.int 256))) (.nil)))) (.cons (.tup (.cons (.cst (.int 1)) (.cons (.bin .mod (.bi .int (.cons (.var 17) (.nil))) (.cst (.int 256))) (.nil)))) (.nil)))))) env [jl cells i l d, g1, g2, .lst (mem.map .int)] = .ok ([.tup [.int 3, .int a], .tup [.int 2, .int (w / 256)], .tup [.int 1, .int (w % 256)]], none) [jl cells i l d, g1, g2, .lst (mem.map .int)] := by
    simp [e21, e17, z2, z3, seqI, fm (show (0 : Int) ≤ 256 by decide), fd (show (0 : Int) ≤ 256 by decide), evalE, evalT, evalEs, evalO, evalC, evalI, evalSs, evalS, evP, evPs, evO, evC, evI, pE, consL, pick, and2, or2, andT2, orT2, callM, callvM, makeM, madeBy, methM, biM, bmM, attrM, idxM, slM, soM, tupM, lstM, boxed, binM, cmpM, isNM, chainM, CN.notM, notT, negM, iteM, varM, asgM, subM, fldM, parM, augM, augfM, CN.forM, thruM, truly, assignTg, setAll, startE, fin, back, truth, binop, slop, bifun, bmeth, bmTy, seqAt, lstAt, tyName, isi, isNd, lenOk, putN, augop]
  refine for_ok hi ?_
  have q1 := vStep (wf := wf) (call := call) (g0 := jl cells i l d) (g1 := g1) (g2 := g2) (u := 3) (v := a) hl hm e2 e11 e8
  have q2 := vStep (wf := wf) (call := call) (env := (env.set 9 (some (.int 3))).set 29 (some (.int a))) (g0 := jl cells i l d) (g1 := g1) (g2 := g2) (mem := put mem (top - 3) a) (u := 2) (v := w / 256) (by simpa using hl) (by simpa using hm) (by simpa using e2) (by simpa using e11) (by simpa using e8)
  have q3 := vStep (wf := wf) (call := call) (env := (((env.set 9 (some (.int 3))).set 29 (some (.int a))).set 9 (some (.int 2))).set 29 (some (.int (w / 256)))) (g0 := jl cells i l d) (g1 := g1) (g2 := g2) (mem := put (put mem (top - 3) a) (top - 2) (w / 256)) (u := 1) (v := w % 256) (by simpa using hl) (by simpa using hm) (by simpa using e2) (by simpa using e11) (by simpa using e8)
  dsimp only
  change loopFor (forStep (.tp [9, 29]) (evalSs T wf call vBody)) none _ _ _ = _
  rw [loopFor_nx q1 rfl, loopFor_nx q2 rfl, loopFor_nx q3 rfl]
  rfl
theorem a26 {a num c0 c1 c2 c3 c4 c5 c6 c7 : Int} (e21 : env[21]? = some (some (.int a))) (e13 : env[13]? = some (some (.int num))) (e10 : env[10]? = some (some (.tl ([c0, c1, c2, c3, c4, c5, c6, c7].map .int)))) : evalS T wf call la26 env s = .ok (.next (env.set 18 (some (.tl ([a, 0, num, 1, a, c5, c6, 0].map .int))))) s := by
  have z8 : 8 ≤ PySem.sizeLine := by decide
  have i5 : L2.atI [D.int c0, .int c1, .int c2, .int c3, .int c4, .int c5, .int c6, .int c7] 5 = some (.int c5) := rfl
  have i6 : L2.atI [D.int c0, .int c1, .int c2, .int c3, .int c4, .int c5, .int c6, .int c7] 6 = some (.int c6) := rfl
  simp at e10
  simp [la26, e21, e13, e10, z8, i5, i6, evalE, evalT, evalEs, evalO, evalC, evalI, evalSs, evalS, evP, evPs, evO, evC, evI, pE, consL, pick, and2, or2, andT2, orT2, callM, callvM, makeM, madeBy, methM, biM, bmM, attrM, idxM, slM, soM, tupM, lstM, boxed, binM, cmpM, isNM, chainM, CN.notM, notT, negM, iteM, varM, asgM, subM, fldM, parM, augM, augfM, CN.forM, thruM, truly, assignTg, setAll, startE, fin, back, truth, binop, slop, bifun, bmeth, bmTy, seqAt, lstAt, tyName, isi, isNd, lenOk, putN, augop]
theorem a27 {cells : List Int} {size base n b : Int} {r2 : Hs} (hj : JarS cells (.lst (plcs.map .int) :: r2) s) (hn : n = 7 + 7 * b ∨ n = 6 + 7 * b ∨ n = 5 + 7 * b ∨ n = 12 + 7 * b) (e5 : env[5]? = some (some (.ref 1))) (e2 : env[2]? = some (some (.int size))) (e3 : env[3]? = some (some (.int base))) (e14 : env[14]? = some (some (.int (7 + 7 * b)))) (e15 : env[15]? = some (some (.int n))) (hs : 64 ≤ size ∧ size ≤ 4096) :
    evalS T wf call la27 env s = .ok (.next (env.set 19 (some (.int ((base + if n = 5 + 7 * b then 27 else 29) % size))))) s := by
  obtain ⟨i, l, d, hi, hl, hd, rfl⟩ := hj
  have h0 : ¬ size = 0 := by omega
  have i8 : L2.atI (plcs.map D.int) 8 = some (.int 27) := rfl
  have i9 : L2.atI (plcs.map D.int) 9 = some (.int 29) := rfl
  by_cases h1 : n = 5 + 7 * b
  · have h2 : ¬ (7 + 7 * b - 2 < n) := by omega
    subst h1
    simp [la27, e2, e3, e5, e14, e15, h0, h2, i8, fm (show 0 ≤ size by omega), evalE, evalT, evalEs, evalO, evalC, evalI, evalSs, evalS, evP, evPs, evO, evC, evI, pE, consL, pick, and2, or2, andT2, orT2, callM, callvM, makeM, madeBy, methM, biM, bmM, attrM, idxM, slM, soM, tupM, lstM, boxed, binM, cmpM, isNM, chainM, CN.notM, notT, negM, iteM, varM, asgM, subM, fldM, parM, augM, augfM, CN.forM, thruM, truly, assignTg, setAll, startE, fin, back, truth, binop, slop, bifun, bmeth, bmTy, seqAt, lstAt, tyName, isi, isNd, lenOk, putN, augop]
  · have h2 : 7 + 7 * b - 2 < n := by omega
    simp [la27, e2, e3, e5, e14, e15, h0, h1, h2, i9, fm (show 0 ≤ size by omega), evalE, evalT, evalEs, evalO, evalC, evalI, evalSs, evalS, evP, evPs, evO, evC, evI, pE, consL, pick, and2, or2, andT2, orT2, callM, callvM, makeM, madeBy, methM, biM, bmM, attrM, idxM, slM, soM, tupM, lstM, boxed, binM, cmpM, isNM, chainM, CN.notM, notT, negM, iteM, varM, asgM, subM, fldM, parM, augM, augfM, CN.forM, thruM, truly, assignTg, setAll, startE, fin, back, truth, binop, slop, bifun, bmeth, bmTy, seqAt, lstAt, tyName, isi, isNd, lenOk, putN, augop]
theorem a28 {x y p q r : D} {m : List D} (e16 : env[16]? = some (some (.tup [x, y, .tup [.tup m, p, q, r]]))) (e8 : env[8]? = some (some (.ref 3))) (h : call 42 [.tup m, .ref 3] s = .ok (.bl true) s) : evalS T wf call la28 env s = .ok (.next env) s := by
  have i2 : L2.atI [x, y, .tup [.tup m, p, q, r]] 2 = some (.tup [.tup m, p, q, r]) := rfl
  have i0 : L2.atI [.tup m, p, q, r] 0 = some (.tup m) := rfl
  simp [la28, ne_self, e16, e8, i2, i0, h, evalE, evalT, evalEs, evalO, evalC, evalI, evalSs, evalS, evP, evPs, evO, evC, evI, pE, consL, pick, and2, or2, andT2, orT2, callM, callvM, makeM, madeBy, methM, biM, bmM, attrM, idxM, slM, soM, tupM, lstM, boxed, binM, cmpM, isNM, chainM, CN.notM, notT, negM, iteM, varM, asgM, subM, fldM, parM, augM, augfM, CN.forM, thruM, truly, assignTg, setAll, startE, fin, back, truth, binop, slop, bifun, bmeth, bmTy, seqAt, lstAt, tyName, isi, isNd, lenOk, putN, augop]
theorem a29 {x y m q r : D} {due : List D} (e16 : env[16]? = some (some (.tup [x, y, .tup [m, .tup due, q, r]]))) (e18 : env[18]? = some (some (.tl due))) (e19 : env[19]? = some (some q)) (e11 : env[11]? = some (some r)) (h : call 41 [.tup [.tup due, q, r], .tup [.tup due, q, r]] s = .ok (.bl true) s) : evalS T wf call la29 env s = .ok (.ret (.bl true)) s := by
  have z3 : 3 ≤ PySem.sizeLine := by decide
  have i2 : L2.atI [x, y, .tup [m, .tup due, q, r]] 2 = some (.tup [m, .tup due, q, r]) := rfl
  have c : cut [m, .tup due, q, r] (some 1) none = [.tup due, q, r] := rfl
  simp [la29, e16, e18, e19, e11, i2, c, z3, h, evalE, evalT, evalEs, evalO, evalC, evalI, evalSs, evalS, evP, evPs, evO, evC, evI, pE, consL, pick, and2, or2, andT2, orT2, callM, callvM, makeM, madeBy, methM, biM, bmM, attrM, idxM, slM, soM, tupM, lstM, boxed, binM, cmpM, isNM, chainM, CN.notM, notT, negM, iteM, varM, asgM, subM, fldM, parM, augM, augfM, CN.forM, thruM, truly, assignTg, setAll, startE, fin, back, truth, binop, slop, bifun, bmeth, bmTy, seqAt, lstAt, tyName, isi, isNd, lenOk, putN, augop]
end K69
set_option Elab.async false
set_option linter.all false
set_option maxRecDepth 100000
set_option maxHeartbeats 4000000
/-! P25: the law. -/
namespace K69
open CN
variable {wf k : Nat}
theorem codeB_by {form a b L P : Int} (hf : form = 0 ∨ form = 1 ∨ form = 2) (ha : 0 ≤ a ∧ a < 256) (hb : 1 ≤ b ∧ b ≤ 100) (hL : 0 ≤ L ∧ L < 65536) (hP : 0 ≤ P ∧ P < 65536) : ∀ x ∈ codeB form a b L P, 0 ≤ x ∧ x < 256 := by
  unfold codeB
  have ho : 0 ≤ (if form = 2 then (1 : Int) else 0) ∧ (if form = 2 then (1 : Int) else 0) < 2 := by split <;> decide
  generalize (if form = 2 then (1 : Int) else 0) = o at ho
  simp only [List.mem_cons, List.not_mem_nil, or_false, forall_eq_or_imp, forall_eq]
  omega
theorem wrap_base {mem : List Int} {x : Int} (h : 0 ≤ x ∧ x < mem.length) : wrap mem x = x := Int.emod_eq_of_lt h.1 h.2
theorem endB_by {form a c5 c6 : Int} {j : Nat} (ha : 0 ≤ a ∧ a < 256) (h5 : 0 ≤ c5 ∧ c5 < 256) (h6 : 0 ≤ c6 ∧ c6 < 256) : ∀ x ∈ endB form a c5 c6 j, 0 ≤ x ∧ x < 256 ∨ True := fun _ _ => .inr trivial
theorem noRef_told {es : List D} {e : PySem.Str} {m b : List Int} {x y : Int} (h : noRefs es = true) : noRef (.tup [.tup es, .tup [.str e], .tup [.tup (m.map .int), .tup (b.map .int), .int x, .int y]]) = true := by
  simp [noRef, noRefs, h, noRefs_ints]
theorem told_is {mem : List Int} {n base form a L P t c0 c1 c2 c3 c4 c5 c6 c7 : Int} {j : Nat} {s : Hs} (hj : 1 ≤ j ∧ j ≤ 100) (r : Rd0 mem base form a (j : Int) L P t) (o : Ok mem [c0, c1, c2, c3, c4, c5, c6, c7]) (hb : ∀ v ∈ [c0, c1, c2, c3, c4, c5, c6, c7], 0 ≤ v ∧ v < 256) (ha : 0 ≤ a ∧ a < 256)
    (hn : n = 7 + 7 * (j : Int) ∨ n = 6 + 7 * (j : Int) ∨ n = 5 + 7 * (j : Int) ∨ n = 12 + 7 * (j : Int)) (hbase : 0 ≤ base ∧ base < mem.length) :
    runFn T 1000 (k + 12) 6 [.tup [.tup (mem.map .int), .tup ([c0, c1, c2, c3, c4, c5, c6, c7].map .int), .int base, .int ((base - t) % (mem.length : Int))], .tup [], .int n] s =
      .ok (.tup [.tup (evsD n j (itF form a j (if form = 2 then 1 else 0))), .tup [.str (endS n j)], .tup [.tup ((after mem base t a).map .int), .tup ((endB form a c5 c6 j).map .int), .int ((base + if n = 5 + 7 * (j : Int) then 27 else 29) % (mem.length : Int)), .int ((base - t) % (mem.length : Int))]]) s := by
  have h := run_end (k := k) (n := n) hj r o ha (by omega)
  rw [wrap_base hbase] at h
  have e1 : (if n = 5 + 7 * (j : Int) then [] else [D.tup [.str "tell", .int (itF form a j (if form = 2 then 1 else 0))]]) = evsD n j (itF form a j (if form = 2 then 1 else 0)) := rfl
  rw [e1] at h
  have w0 := wrap_nn (a := base - t) o.pos
  have w1 := wrap_lt (a := base - t) o.pos
  refine r6 (k := k + 6) o hb r.hi hbase ⟨w0, w1⟩ (by omega) h (noRef_told ?_)
  unfold evsD
  split <;> rfl
theorem wrap_len {m m' : List Int} (h : m.length = m'.length) (x : Int) : wrap m x = wrap m' x := by unfold wrap; rw [h]
theorem put_of_wrap {m m' : List Int} (h : m.length = m'.length) (x i v : Int) : put m (wrap m' x - i) v = put m (x - i) v := by
  unfold put
  rw [wrap_len h, wrap_len h, wrap_wrap_sub]
theorem put_comm {m : List Int} {x y u v : Int} (hm : 0 < m.length) (h : wrap m x ≠ wrap m y) : put (put m x u) y v = put (put m y v) x u := by
  have h1 := wrap_nn (a := x) hm
  have h2 := wrap_nn (a := y) hm
  show (put m x u).set (wrap (put m x u) y).toNat v = (put m y v).set (wrap (put m y v) x).toNat u
  rw [wrap_put, wrap_put]
  unfold put
  exact List.set_comm _ _ (by omega)
theorem after_law {mem : List Int} {base t a : Int} (hm : 64 ≤ mem.length) (ht : 0 ≤ t ∧ t ≤ 8) : put (put (put mem ((base - t) % (mem.length : Int) - 3) a) ((base - t) % (mem.length : Int) - 2) (((base + 18) % (mem.length : Int)) / 256)) ((base - t) % (mem.length : Int) - 1) (((base + 18) % (mem.length : Int)) % 256) = after mem base t a := by
  have e : (base - t) % (mem.length : Int) = wrap mem (base - t) := rfl
  have e2 : (base + 18) % (mem.length : Int) = wrap mem (base + 18) := rfl
  rw [e, e2, put_of_wrap rfl, put_of_wrap (by simp), put_of_wrap (by simp)]
  have x3 : base - t - 3 = base - (t + 3) := by omega
  have x2 : base - t - 2 = base - (t + 2) := by omega
  have x1 : base - t - 1 = base - (t + 1) := by omega
  rw [x3, x2, x1]
  have n1 : wrap mem (base - (t + 3)) ≠ wrap mem (base - (t + 2)) := wrap_ne (by omega) (by omega)
  have n2 : wrap mem (base - (t + 3)) ≠ wrap mem (base - (t + 1)) := wrap_ne (by omega) (by omega)
  rw [put_comm (by omega) n1, put_comm (by rw [put_len]; omega) (by rw [wrap_put, wrap_put]; exact n2)]
  rfl
theorem rd0_law {mem : List Int} {base form a b m t : Int} (hm : 64 ≤ mem.length) (hh : mem.length ≤ 4096) (hf : form = 0 ∨ form = 1 ∨ form = 2) (ht : 0 ≤ t ∧ t ≤ 8) : Rd0 (putAll mem base 0 (codeB form a b ((base + 15) % (mem.length : Int) + (mem.length : Int) * m) ((base + 30) % (mem.length : Int) + (mem.length : Int) * m))) base form a b ((base + 15) % (mem.length : Int) + (mem.length : Int) * m) ((base + 30) % (mem.length : Int) + (mem.length : Int) * m) t := by
  have w : ∀ x : Int, wrap mem ((base + x) % (mem.length : Int) + (mem.length : Int) * m) = wrap mem (base + x) := by
    intro x
    unfold wrap
    rw [Int.add_mul_emod_self_left, Int.emod_emod_of_dvd _ (Int.dvd_refl _)]
  have l : ∀ x, wrap (putAll mem base 0 (codeB form a b ((base + 15) % (mem.length : Int) + (mem.length : Int) * m) ((base + 30) % (mem.length : Int) + (mem.length : Int) * m))) x = wrap mem x := fun x => wrap_len (putAll_len ..) x
  refine ⟨fun j hj => ?_, by rw [putAll_len]; exact hm, by rw [putAll_len]; exact hh, by rw [l, l, w], by rw [l, l, w], ht.1, ht.2, hf⟩
  have hj' : j < 39 := hj
  have q := putAll_new base (codeB form a b ((base + 15) % (mem.length : Int) + (mem.length : Int) * m) ((base + 30) % (mem.length : Int) + (mem.length : Int) * m)) mem 0 j hj (by show 0 + 39 ≤ _; omega)
  rw [Nat.zero_add] at q
  exact q
theorem l6 {d : D} {size base more form a b i l dd : Int} {cells : List Int} (hf : form = 0 ∨ form = 1 ∨ form = 2) : evalS T wf (runFn T wf (k + 1)) la6 (E6 d size base more none form a b) [jl cells i l dd, .lst [.int 0]] = .ok (.next (E6 d size base more (some lastRow) form a b)) [jl cells i l dd, .lst (plcs.map .int)] := by
  rcases hf with rfl | rfl | rfl
  · exact l6_0 ..
  · exact l6_1 ..
  · exact l6_2 ..
theorem l9 {d : D} {size base more form a b loop part i l dd : Int} {cells : List Int} {ps : List D} (hf : form = 0 ∨ form = 1 ∨ form = 2) (ha : 0 ≤ a ∧ a < 256) (hb : 1 ≤ b ∧ b ≤ 100) : evalS T wf (runFn T wf (k + 1)) la9 (E9 d size base more (some lastRow) form a b loop part) [jl cells i l dd, .lst ps, .lst []] = .ok (.next (E9 d size base more (some lastRow) form a b loop part)) [jl cells i l dd, .lst ps, .lst ((codeB form a b loop part).map .int)] := by
  rw [← codeF_codeB hf ha hb]
  rcases hf with rfl | rfl | rfl
  · exact l9_0 ..
  · exact l9_1 ..
  · exact l9_2 ..
theorem sameOk_told {n b num : Int} : sameOk (.tup [.tup (evsD n b num), .tup [.str (endS n b)]]) = true ∧ dep (.tup [.tup (evsD n b num), .tup [.str (endS n b)]]) ≤ 3 := by
  unfold evsD endS
  have h1 : PySem.PyData.strOk "tell" = true := by decide +kernel
  have h2 : PySem.PyData.strOk "stopped" = true := by decide +kernel
  have h3 : PySem.PyData.strOk "tired" = true := by decide +kernel
  split <;> split <;> simp [sameOk, sameOks, dep, deps, h1, h2, h3]
theorem sameOk_ints : ∀ xs : List Int, sameOks (xs.map D.int) = true ∧ deps (xs.map D.int) = 0
  | [] => ⟨rfl, rfl⟩
  | x :: xs => by
    obtain ⟨h1, h2⟩ := sameOk_ints xs
    simp [sameOks, sameOk, deps, dep, h1, h2]
theorem law_all {ns : List Int} (hl : ns.length ≤ 63) {d : D} (hd : d = D.tl (ns.map D.int) ∨ d = D.kl (ns.map D.int)) : ∃ s', runFn T 1000 20 1 [d] [] = .ok (.bl true) s' := by
  obtain ⟨cells, hc, hjar⟩ := r2 (wf := 1000) (k := 18) ns hl d hd
  rw [rf (f := i__law_all) rfl rfl, la_body]
  suffices h : ∃ s', evalSs T 1000 (runFn T 1000 19) (.cons la0 (.cons la1 (.cons la2 (.cons la3 (.cons la4 (.cons la5 (.cons la6 (.cons la7 (.cons la8 (.cons la9 (.cons la10 (.cons la11 (.cons la12 (.cons la13 (.cons la14 (.cons la15 (.cons la16 (.cons la17 (.cons la18 (.cons la19 (.cons la20 (.cons la21 (.cons la22 (.cons la23 (.cons la24 (.cons la25 (.cons la26 (.cons la27 (.cons la28 (.cons la29 .nil)))))))))))))))))))))))))))))) (startE 30 [d]) [] = .ok (.ret (.bl true)) s' by
    obtain ⟨s', h⟩ := h
    refine ⟨s', ?_⟩
    show fin 0 [] (evalSs T 1000 (runFn T 1000 19) _ (startE 30 [d]) []) = _
    rw [h]
    rfl
  have j0 : JarS cells [] [jl cells 0 0 0] := ⟨0, 0, 0, by decide, by decide, by decide, rfl⟩
  have h0 : evalS T 1000 (runFn T 1000 19) la0 (startE 30 [d]) [] = .ok (.next ((startE 30 [d]).set 1 (some (.ref 0)))) [jl cells 0 0 0] := by
    refine asg_ok (e := .call 2 (.cons (.var 0) .nil)) ?_
    have e : (evP T (runFn T 1000 19) (.call 2 (.cons (.var 0) .nil))).e (startE 30 [d]) [] = runFn T 1000 19 2 [d] [] := rfl
    rw [e]
    exact hjar
  obtain ⟨form, a, b, s1, hf, ha, hb, j1, h1⟩ := a1 (wf := 1000) (k := 18) (env := (startE 30 [d]).set 1 (some (.ref 0))) hc j0 rfl
  obtain ⟨size, s2, hs, j2, h2⟩ := a2 (wf := 1000) (k := 18) (env := ((((startE 30 [d]).set 1 (some (.ref 0))).set 20 (some (.int form))).set 21 (some (.int a))).set 22 (some (.int b))) hc j1 rfl
  obtain ⟨z, rfl⟩ : ∃ z : Nat, size = (z : Int) := ⟨size.toNat, by omega⟩
  obtain ⟨base, s3, hbase, j3, h3⟩ := a3 (wf := 1000) (k := 18) (env := (((((startE 30 [d]).set 1 (some (.ref 0))).set 20 (some (.int form))).set 21 (some (.int a))).set 22 (some (.int b))).set 2 (some (.int z))) hc j2 rfl rfl hs
  obtain ⟨m, s4, hm, j4, h4⟩ := a4 (wf := 1000) (k := 18) (env := ((((((startE 30 [d]).set 1 (some (.ref 0))).set 20 (some (.int form))).set 21 (some (.int a))).set 22 (some (.int b))).set 2 (some (.int z))).set 3 (some (.int base))) hc j3 rfl rfl hs
  obtain ⟨s5, j5, h5⟩ := a5 (wf := 1000) (call := runFn T 1000 19) (env := (((((((startE 30 [d]).set 1 (some (.ref 0))).set 20 (some (.int form))).set 21 (some (.int a))).set 22 (some (.int b))).set 2 (some (.int z))).set 3 (some (.int base))).set 4 (some (.int ((z : Int) * m)))) j4
  have E6e : ((((((((startE 30 [d]).set 1 (some (.ref 0))).set 20 (some (.int form))).set 21 (some (.int a))).set 22 (some (.int b))).set 2 (some (.int z))).set 3 (some (.int base))).set 4 (some (.int ((z : Int) * m)))).set 5 (some (.ref 1)) = E6 d z base ((z : Int) * m) none form a b := rfl
  rw [E6e] at h5
  obtain ⟨ji, jl_, jd, hji, hjl, hjd, rfl⟩ := j5
  have h6 := l6 (wf := 1000) (k := 18) (d := d) (size := z) (base := base) (more := (z : Int) * m) (a := a) (b := b) (i := ji) (l := jl_) (dd := jd) (cells := cells) hf
  have j6 : JarS cells [.lst (plcs.map .int)] [jl cells ji jl_ jd, .lst (plcs.map .int)] := ⟨ji, jl_, jd, hji, hjl, hjd, rfl⟩
  have h7 := a7 (wf := 1000) (call := runFn T 1000 19) (env := E6 d z base ((z : Int) * m) (some lastRow) form a b) j6 rfl rfl rfl rfl hs
  obtain ⟨s8, j8, h8⟩ := a8 (wf := 1000) (call := runFn T 1000 19) (env := ((E6 d z base ((z : Int) * m) (some lastRow) form a b).set 23 (some (.int ((base + 15) % (z : Int) + (z : Int) * m)))).set 24 (some (.int ((base + 30) % (z : Int) + (z : Int) * m)))) j6
  obtain ⟨ji, jl_, jd, hji, hjl, hjd, rfl⟩ := j8
  generalize hL : (base + 15) % (z : Int) + (z : Int) * m = L at h7 h8
  generalize hP : (base + 30) % (z : Int) + (z : Int) * m = P at h7 h8
  have E9e : (((E6 d z base ((z : Int) * m) (some lastRow) form a b).set 23 (some (.int L))).set 24 (some (.int P))).set 7 (some (.ref 2)) = E9 d z base ((z : Int) * m) (some lastRow) form a b L P := rfl
  rw [E9e] at h8
  have h9 := l9 (wf := 1000) (k := 18) (d := d) (size := z) (base := base) (more := (z : Int) * m) (loop := L) (part := P) (i := ji) (l := jl_) (dd := jd) (cells := cells) (ps := plcs.map .int) hf ha hb
  have j9 : JarS cells [.lst (plcs.map .int), .lst ((codeB form a b L P).map .int)] [jl cells ji jl_ jd, .lst (plcs.map .int), .lst ((codeB form a b L P).map .int)] := ⟨ji, jl_, jd, hji, hjl, hjd, rfl⟩
  generalize hE9 : E9 d z base ((z : Int) * m) (some lastRow) form a b L P = V9 at h8 h9
  have v1 : V9[1]? = some (some (.ref 0)) := by rw [← hE9]; rfl
  have v2 : V9[2]? = some (some (.int (z : Int))) := by rw [← hE9]; rfl
  have v3 : V9[3]? = some (some (.int base)) := by rw [← hE9]; rfl
  have v5 : V9[5]? = some (some (.ref 1)) := by rw [← hE9]; rfl
  have v7 : V9[7]? = some (some (.ref 2)) := by rw [← hE9]; rfl
  have v20 : V9[20]? = some (some (.int form)) := by rw [← hE9]; rfl
  have v21 : V9[21]? = some (some (.int a)) := by rw [← hE9]; rfl
  have v22 : V9[22]? = some (some (.int b)) := by rw [← hE9]; rfl
  have vl : V9.length = 30 := by rw [← hE9]; rfl
  clear hE9 E9e E6e
  obtain ⟨start, step, s10, hstart, hstep, j10, h10⟩ := a10 (wf := 1000) (k := 18) (env := V9) hc j9 v1
  obtain ⟨s11, j11, h11⟩ := a11 (wf := 1000) (call := runFn T 1000 19) (env := (V9.set 25 (some (.int start))).set 26 (some (.int step))) (start := start) (step := step) (size := z) j10 (by simp [vl]) (by simpa using v2) (by simp [vl]) (by simp [vl]) hstep (by omega)
  have ml : (mem0 start step z).length = z := mem0_len ..
  have cs_by : ∀ x ∈ codeB form a b L P, 0 ≤ x ∧ x < 256 := by
    have w1 := Int.emod_nonneg (base + 15) (show (z : Int) ≠ 0 by omega)
    have w2 := Int.emod_lt_of_pos (base + 15) (show (0 : Int) < z by omega)
    have w3 := Int.emod_nonneg (base + 30) (show (z : Int) ≠ 0 by omega)
    have w4 := Int.emod_lt_of_pos (base + 30) (show (0 : Int) < z by omega)
    refine codeB_by hf ha hb ?_ ?_
    · rcases hm with rfl | rfl | rfl <;> omega
    · rcases hm with rfl | rfl | rfl <;> omega
  obtain ⟨s12, j12, h12⟩ := a12 (wf := 1000) (call := runFn T 1000 19) (env := ((V9.set 25 (some (.int start))).set 26 (some (.int step))).set 8 (some (.ref 3))) (base := base) (cs := codeB form a b L P) (mem := mem0 start step z) j11 rfl (by simp [vl]) (by omega) (by simp [v2, ml]) (by simpa using v3) (by simpa using v7) (by simp [vl])
  have rd : ∀ t : Int, 0 ≤ t ∧ t ≤ 8 → Rd0 (putAll (mem0 start step z) base 0 (codeB form a b L P)) base form a b L P t := by
    intro t ht
    have q := rd0_law (mem := mem0 start step z) (base := base) (form := form) (a := a) (b := b) (m := m) (t := t) (by omega) (by omega) hf ht
    rw [ml, hL, hP] at q
    exact q
  have mby := putAll_by base (codeB form a b L P) (mem0 start step z) 0 (mem0_by _ _ _) cs_by
  have ml1 : (putAll (mem0 start step z) base 0 (codeB form a b L P)).length = z := by rw [putAll_len, ml]
  generalize putAll (mem0 start step z) base 0 (codeB form a b L P) = mem at j12 rd mby ml1
  generalize hV12 : (((V9.set 25 (some (.int start))).set 26 (some (.int step))).set 8 (some (.ref 3))).set 9 (some (.int 38)) = V12 at h12
  have u1 : V12[1]? = some (some (.ref 0)) := by rw [← hV12]; simpa using v1
  have u2 : V12[2]? = some (some (.int (z : Int))) := by rw [← hV12]; simpa using v2
  have u3 : V12[3]? = some (some (.int base)) := by rw [← hV12]; simpa using v3
  have u5 : V12[5]? = some (some (.ref 1)) := by rw [← hV12]; simpa using v5
  have u8 : V12[8]? = some (some (.ref 3)) := by rw [← hV12]; simp [vl]
  have u20 : V12[20]? = some (some (.int form)) := by rw [← hV12]; simpa using v20
  have u21 : V12[21]? = some (some (.int a)) := by rw [← hV12]; simpa using v21
  have u22 : V12[22]? = some (some (.int b)) := by rw [← hV12]; simpa using v22
  have ul : V12.length = 30 := by rw [← hV12]; simp [vl]
  clear hV12
  obtain ⟨c0, c1, c2, c3, c4, c5, c6, c7, s13, hbx, j13, h13⟩ := a13 (wf := 1000) (k := 18) (env := V12) hc j12 (by omega) u1
  obtain ⟨t, s14, ht, j14, h14⟩ := a14 (wf := 1000) (k := 18) (env := V12.set 10 (some (.tl ([c0, c1, c2, c3, c4, c5, c6, c7].map .int)))) (size := z) (base := base) hc j13 (by simpa using u1) (by simpa using u2) (by simpa using u3) hs
  have r := rd t ht
  have s14_3 : s14[3]? = some (.lst (mem.map .int)) := by
    obtain ⟨_, _, _, _, _, _, rfl⟩ := j14
    rfl
  have h15 := a15 (wf := 1000) (call := runFn T 1000 19) (env := (V12.set 10 (some (.tl ([c0, c1, c2, c3, c4, c5, c6, c7].map .int)))).set 11 (some (.int ((base - t) % (z : Int))))) (by simpa using u8) (by rw [List.getElem?_set_ne (by decide), List.getElem?_set_self (by omega)]) (by simpa using u3) (by rw [List.getElem?_set_self (by simp; omega)]) s14_3
  generalize hV15 : ((V12.set 10 (some (.tl ([c0, c1, c2, c3, c4, c5, c6, c7].map .int)))).set 11 (some (.int ((base - t) % (z : Int))))).set 12 (some (.tup [.tup (mem.map .int), .tup ([c0, c1, c2, c3, c4, c5, c6, c7].map .int), .int base, .int ((base - t) % (z : Int))])) = V15 at h15
  have x1 : V15[1]? = some (some (.ref 0)) := by rw [← hV15]; simpa using u1
  have x2 : V15[2]? = some (some (.int (z : Int))) := by rw [← hV15]; simpa using u2
  have x3 : V15[3]? = some (some (.int base)) := by rw [← hV15]; simpa using u3
  have x5 : V15[5]? = some (some (.ref 1)) := by rw [← hV15]; simpa using u5
  have x8 : V15[8]? = some (some (.ref 3)) := by rw [← hV15]; simpa using u8
  have x20 : V15[20]? = some (some (.int form)) := by rw [← hV15]; simpa using u20
  have x21 : V15[21]? = some (some (.int a)) := by rw [← hV15]; simpa using u21
  have x22 : V15[22]? = some (some (.int b)) := by rw [← hV15]; simpa using u22
  have x10 : V15[10]? = some (some (.tl ([c0, c1, c2, c3, c4, c5, c6, c7].map .int))) := by rw [← hV15, List.getElem?_set_ne (by decide), List.getElem?_set_ne (by decide), List.getElem?_set_self (by omega)]
  have x11 : V15[11]? = some (some (.int ((base - t) % (z : Int)))) := by rw [← hV15, List.getElem?_set_ne (by decide), List.getElem?_set_self (by simp; omega)]
  have x12 : V15[12]? = some (some (.tup [.tup (mem.map .int), .tup ([c0, c1, c2, c3, c4, c5, c6, c7].map .int), .int base, .int ((base - t) % (z : Int))])) := by rw [← hV15, List.getElem?_set_self (by simp; omega)]
  have xl : V15.length = 30 := by rw [← hV15]; simp [ul]
  clear hV15
  obtain ⟨j, rfl⟩ : ∃ j : Nat, b = (j : Int) := ⟨b.toNat, by omega⟩
  have h16 : evalS T 1000 (runFn T 1000 19) la16 V15 s14 = .ok (.next (V15.set 13 (some (.int 1)))) s14 := a16
  have h17 := a17 (wf := 1000) (call := runFn T 1000 19) (env := V15.set 13 (some (.int 1))) (s := s14) (a := a) (b := j) ha (by omega) (by simp [xl]) (by simpa using x22) (by simp [xl]) (by simpa using x21)
  have h18 := a18 (wf := 1000) (call := runFn T 1000 19) (env := ((V15.set 13 (some (.int 1))).set 9 (some (.int ((j - 1 : Nat) : Int)))).set 13 (some (.int (itF 2 a j 1)))) (s := s14) hf ha (by simpa using x20) (by simpa using x21) (by simpa using x22) (by simp [xl])
  have h19 := a19 (wf := 1000) (call := runFn T 1000 19) (env := (((V15.set 13 (some (.int 1))).set 9 (some (.int ((j - 1 : Nat) : Int)))).set 13 (some (.int (itF 2 a j 1)))).set 13 (some (.int (itF form a j (if form = 2 then 1 else 0))))) (s := s14) (b := (j : Int)) (by simpa using x22) hb
  obtain ⟨n, s20, hn, j20, h20⟩ := a20 (wf := 1000) (k := 18) (env := ((((V15.set 13 (some (.int 1))).set 9 (some (.int ((j - 1 : Nat) : Int)))).set 13 (some (.int (itF 2 a j 1)))).set 13 (some (.int (itF form a j (if form = 2 then 1 else 0))))).set 14 (some (.int (7 + 7 * (j : Int))))) (b := (j : Int)) hc j14 (by simpa using x1) (by simp [xl])
  generalize hnum : itF form a j (if form = 2 then 1 else 0) = num at h18 h19 h20
  generalize hV20 : (((((V15.set 13 (some (.int 1))).set 9 (some (.int ((j - 1 : Nat) : Int)))).set 13 (some (.int (itF 2 a j 1)))).set 13 (some (.int num))).set 14 (some (.int (7 + 7 * (j : Int))))).set 15 (some (.int n)) = V20 at h20
  have y2 : V20[2]? = some (some (.int (z : Int))) := by rw [← hV20]; simpa using x2
  have y3 : V20[3]? = some (some (.int base)) := by rw [← hV20]; simpa using x3
  have y5 : V20[5]? = some (some (.ref 1)) := by rw [← hV20]; simpa using x5
  have y8 : V20[8]? = some (some (.ref 3)) := by rw [← hV20]; simpa using x8
  have y21 : V20[21]? = some (some (.int a)) := by rw [← hV20]; simpa using x21
  have y10 : V20[10]? = some (some (.tl ([c0, c1, c2, c3, c4, c5, c6, c7].map .int))) := by
    rw [← hV20, List.getElem?_set_ne (by decide), List.getElem?_set_ne (by decide), List.getElem?_set_ne (by decide), List.getElem?_set_ne (by decide), List.getElem?_set_ne (by decide), List.getElem?_set_ne (by decide)]
    exact x10
  have y11 : V20[11]? = some (some (.int ((base - t) % (z : Int)))) := by rw [← hV20]; simpa using x11
  have y12 : V20[12]? = some (some (.tup [.tup (mem.map .int), .tup ([c0, c1, c2, c3, c4, c5, c6, c7].map .int), .int base, .int ((base - t) % (z : Int))])) := by
    rw [← hV20, List.getElem?_set_ne (by decide), List.getElem?_set_ne (by decide), List.getElem?_set_ne (by decide), List.getElem?_set_ne (by decide), List.getElem?_set_ne (by decide), List.getElem?_set_ne (by decide)]
    exact x12
  have y13 : V20[13]? = some (some (.int num)) := by rw [← hV20]; simp [xl]
  have y14 : V20[14]? = some (some (.int (7 + 7 * (j : Int)))) := by rw [← hV20]; simp [xl]
  have y15 : V20[15]? = some (some (.int n)) := by rw [← hV20]; simp [xl]
  have yl : V20.length = 30 := by rw [← hV20]; simp [xl]
  clear hV20
  have o : Ok mem [c0, c1, c2, c3, c4, c5, c6, c7] := ⟨by omega, mby, rfl⟩
  have tb := told_is (k := 7) (n := n) (s := s20) (by omega) r o hbx ha hn (by omega)
  rw [ml1, hnum] at tb
  generalize hB : endB form a c5 c6 j = bx' at tb
  have hB' : bx' = [a, 0, num, 1, a, c5, c6, 0] := by rw [← hB, ← hnum]; rfl
  subst hB'
  clear hB
  have h21 := a21 (wf := 1000) (call := runFn T 1000 19) (env := V20) y12 y15 tb
  generalize hT : D.tup [.tup (evsD n j num), .tup [.str (endS n j)], .tup [.tup ((after mem base t a).map .int), .tup ([a, 0, num, 1, a, c5, c6, 0].map .int), .int ((base + if n = 5 + 7 * (j : Int) then 27 else 29) % (z : Int)), .int ((base - t) % (z : Int))]] = told at h21
  have h22 := a22 (wf := 1000) (call := runFn T 1000 19) (env := V20.set 16 (some told)) (s := s20) (n := n) (b := (j : Int)) (num := num) hn (by simpa using y13) (by simpa using y14) (by simpa using y15)
  have sk := sameOk_told (n := n) (b := (j : Int)) (num := num)
  generalize hV22 : ((V20.set 16 (some told)).set 27 (some (.tup (evsD n j num)))).set 28 (some (.tup [.str (endS n j)])) = V22 at h22
  have w2 : V22[2]? = some (some (.int (z : Int))) := by rw [← hV22]; simpa using y2
  have w3 : V22[3]? = some (some (.int base)) := by rw [← hV22]; simpa using y3
  have w5 : V22[5]? = some (some (.ref 1)) := by rw [← hV22]; simpa using y5
  have w8 : V22[8]? = some (some (.ref 3)) := by rw [← hV22]; simpa using y8
  have w21 : V22[21]? = some (some (.int a)) := by rw [← hV22]; simpa using y21
  have w10 : V22[10]? = some (some (.tl ([c0, c1, c2, c3, c4, c5, c6, c7].map .int))) := by
    rw [← hV22, List.getElem?_set_ne (by decide), List.getElem?_set_ne (by decide), List.getElem?_set_ne (by decide)]
    exact y10
  have w11 : V22[11]? = some (some (.int ((base - t) % (z : Int)))) := by rw [← hV22]; simpa using y11
  have w13 : V22[13]? = some (some (.int num)) := by rw [← hV22]; simpa using y13
  have w14 : V22[14]? = some (some (.int (7 + 7 * (j : Int)))) := by rw [← hV22]; simpa using y14
  have w15 : V22[15]? = some (some (.int n)) := by rw [← hV22]; simpa using y15
  have w16 : V22[16]? = some (some told) := by rw [← hV22]; simp [yl]
  have w27 : V22[27]? = some (some (.tup (evsD n j num))) := by rw [← hV22]; simp [yl]
  have w28 : V22[28]? = some (some (.tup [.str (endS n j)])) := by rw [← hV22]; simp [yl]
  have wl : V22.length = 30 := by rw [← hV22]; simp [yl]
  clear hV22
  have h23 := a23 (wf := 1000) (call := runFn T 1000 19) (env := V22) (s := s20) (by rw [w16, ← hT]) w27 w28 (same_ok (k := 15) 3 _ s20 sk.2 sk.1)
  have h24 := a24 (wf := 1000) (call := runFn T 1000 19) (env := V22) (size := z) (base := base) j20 w5 w2 w3 hs
  obtain ⟨s25, j25, h25⟩ := a25 (wf := 1000) (call := runFn T 1000 19) (env := V22.set 17 (some (.int ((base + 18) % (z : Int))))) (mem := mem) (top := (base - t) % (z : Int)) (a := a) (w := (base + 18) % (z : Int)) j20 (by simp [wl]) o.pos (by rw [ml1]; simpa using w2) (by simpa using w11) (by simpa using w8) (by simpa using w21) (by simp [wl])
  have al := after_law (mem := mem) (base := base) (t := t) (a := a) (by omega) ht
  rw [ml1] at al
  rw [al] at j25
  generalize hV25 : ((((((V22.set 17 (some (.int ((base + 18) % (z : Int))))).set 9 (some (.int 3))).set 29 (some (.int a))).set 9 (some (.int 2))).set 29 (some (.int ((base + 18) % (z : Int) / 256)))).set 9 (some (.int 1))).set 29 (some (.int ((base + 18) % (z : Int) % 256))) = V25 at h25
  have q2 : V25[2]? = some (some (.int (z : Int))) := by rw [← hV25]; simpa using w2
  have q3 : V25[3]? = some (some (.int base)) := by rw [← hV25]; simpa using w3
  have q5 : V25[5]? = some (some (.ref 1)) := by rw [← hV25]; simpa using w5
  have q8 : V25[8]? = some (some (.ref 3)) := by rw [← hV25]; simpa using w8
  have q21 : V25[21]? = some (some (.int a)) := by rw [← hV25]; simpa using w21
  have q10 : V25[10]? = some (some (.tl ([c0, c1, c2, c3, c4, c5, c6, c7].map .int))) := by
    rw [← hV25, List.getElem?_set_ne (by decide), List.getElem?_set_ne (by decide), List.getElem?_set_ne (by decide), List.getElem?_set_ne (by decide), List.getElem?_set_ne (by decide), List.getElem?_set_ne (by decide), List.getElem?_set_ne (by decide)]
    exact w10
  have q11 : V25[11]? = some (some (.int ((base - t) % (z : Int)))) := by rw [← hV25]; simpa using w11
  have q13 : V25[13]? = some (some (.int num)) := by rw [← hV25]; simpa using w13
  have q14 : V25[14]? = some (some (.int (7 + 7 * (j : Int)))) := by rw [← hV25]; simpa using w14
  have q15 : V25[15]? = some (some (.int n)) := by rw [← hV25]; simpa using w15
  have q16 : V25[16]? = some (some told) := by rw [← hV25]; simpa using w16
  have ql : V25.length = 30 := by rw [← hV25]; simp [wl]
  clear hV25
  have h26 := a26 (wf := 1000) (call := runFn T 1000 19) (env := V25) (s := s25) q21 q13 q10
  have h27 := a27 (wf := 1000) (call := runFn T 1000 19) (env := V25.set 18 (some (.tl ([a, 0, num, 1, a, c5, c6, 0].map .int)))) (s := s25) (size := z) (base := base) (n := n) (b := (j : Int)) j25 hn (by simpa using q5) (by simpa using q2) (by simpa using q3) (by simpa using q14) (by simpa using q15) hs
  generalize hA : (base + if n = 5 + 7 * (j : Int) then 27 else 29) % (z : Int) = at' at hT h27
  generalize hV27 : (V25.set 18 (some (.tl ([a, 0, num, 1, a, c5, c6, 0].map .int)))).set 19 (some (.int at')) = V27 at h27
  have p8 : V27[8]? = some (some (.ref 3)) := by rw [← hV27]; simpa using q8
  have p11 : V27[11]? = some (some (.int ((base - t) % (z : Int)))) := by rw [← hV27]; simpa using q11
  have p16 : V27[16]? = some (some told) := by rw [← hV27]; simpa using q16
  have p18 : V27[18]? = some (some (.tl ([a, 0, num, 1, a, c5, c6, 0].map .int))) := by rw [← hV27, List.getElem?_set_ne (by decide), List.getElem?_set_self (by omega)]
  have p19 : V27[19]? = some (some (.int at')) := by rw [← hV27, List.getElem?_set_self (by simp; omega)]
  clear hV27
  have s25_3 : s25[3]? = some (.lst ((after mem base t a).map .int)) := by
    obtain ⟨_, _, _, _, _, _, rfl⟩ := j25
    rfl
  have al2 : (after mem base t a).length ≤ 5000 := by rw [after_len]; omega
  have h28 := a28 (wf := 1000) (call := runFn T 1000 19) (env := V27) (s := s25) (by rw [p16, ← hT]) p8 (r42 (k := 18) (after mem base t a) 3 s25 s25_3 al2)
  have si := sameOk_ints [a, 0, num, 1, a, c5, c6, 0]
  have sk2 : sameOk (.tup [.tup ([a, 0, num, 1, a, c5, c6, 0].map .int), .int at', .int ((base - t) % (z : Int))]) = true ∧ dep (.tup [.tup ([a, 0, num, 1, a, c5, c6, 0].map .int), .int at', .int ((base - t) % (z : Int))]) ≤ 3 := by
    simp [sameOk, sameOks, dep, deps]
  have h29 := a29 (wf := 1000) (call := runFn T 1000 19) (env := V27) (s := s25) (by rw [p16, ← hT]) p18 p19 p11 (same_ok (k := 15) 3 _ s25 sk2.2 sk2.1)
  refine ⟨s25, ?_⟩
  rw [nx h0, nx h1, nx h2, nx h3, nx h4, nx h5, nx h6, nx h7, nx h8, nx h9, nx h10, nx h11, nx h12, nx h13, nx h14, nx h15, nx h16, nx h17, nx h18, nx h19, nx h20, nx h21, nx h22, nx h23, nx h24, nx h25, nx h26, nx h27, nx h28, rt h29]
theorem law_ok {ns : List Int} (hl : ns.length ≤ 63) {d : D} (hd : d = D.tl (ns.map D.int) ∨ d = D.kl (ns.map D.int)) : ∃ s', runFn T 1000 21 0 [d] [] = .ok (.bl true) s' := by
  obtain ⟨s', h⟩ := law_all hl hd
  refine ⟨s', ?_⟩
  rw [rf (f := i_law) rfl rfl]
  have e : evalSs T 1000 (runFn T 1000 20) i_law.body (startE i_law.slots [d]) [] = (((((runFn T 1000 20 1 [d] []).bs (startE i_law.slots [d]) fun d s1 => .ok (.ret d) s1).bind fun f s1 => match f with
      | .next env' => .ok (.next env') s1
      | f => .ok f s1).bind fun f s1 => match f with
      | .exc _ _ _ => .stuck
      | f => .ok f s1).bind fun f s1 => match f with
      | .next env' => .ok (.next env') s1
      | f => .ok f s1) := rfl
  rw [e, h]
  rfl
theorem runs : LawRuns T 1000 20 0 := fun ns hl d hd => law_ok hl hd
end K69
set_option Elab.async false
set_option linter.all false
set_option maxRecDepth 100000
set_option maxHeartbeats 0
/-! the top of k69: one run of the kernel's -/
namespace K69
open PySem PySem.W PyProof.Rows
abbrev hk : PySem.W.Hook := LD.hook 5
def ob (s : PySem.W.SharedT) : hk.α := He.obsX 5 LD.fa LD.fn LD.ts [] LD.ex (HandSHeadRun.getT s)
theorem ob_eq (s : PySem.W.SharedT) : ob s = hk.obs s.abs := He.obsX_eq (HandSHeadRun.getT_eq s)
def names : List PySem.Str := (["is_integer", "is_number", "is_number_below", "is_byte", "is_tuple_of", "are_bytes", "are_below", "are_numbers_below", "NotaryError", "InvalidAnswers", "InvalidNumber", "InvalidWork", "BOXES", "BYTES", "ADDRESSES", "WORDS", "OPERANDS", "SIZES", "is_opcode", "word_of", "length_of", "sum_of", "rest_of", "test_holds", "high_and_low", "joined_bytes", "Outside", "ANSWER_NEEDED", "ANSWER_OR_NONE", "is_machine_state"] : List PySem.Str) ++ (["are_machine_answers", "RawMemory", "RawMachine", "raw_set", "raw_copy", "raw_sum", "raw_low", "raw_ask", "raw_tell", "raw_get", "raw_put", "raw_test", "raw_jump", "raw_call", "raw_back", "raw_push", "raw_pop", "raw_out", "RAW_DEEDS", "ran", "machine_run", "_law_jar", "_law_draw", "_law_same", "_law_bytes", "_law_coded", "_law_lines", "_law_all"] : List PySem.Str)
theorem run0 (w : World) : HandSHeadRun.RunEq R (view R.prog [65]) hk ob 6000 names (w.withFollow "special-get-raises" false) := by
  intro os
  kernel_rfl
theorem run1 (w : World) : HandSHeadRun.RunEq R (view R.prog [65]) hk ob 6000 names (w.withFollow "special-get-raises" true) := by
  intro os
  kernel_rfl
theorem run (w : World) : HandSHeadRun.RunEq R (view R.prog [65]) hk ob 6000 names w := PySem.W.byRow2 "special-get-raises" (P := fun w => HandSHeadRun.RunEq R (view R.prog [65]) hk ob 6000 names w) run0 run1 w
end K69
set_option Elab.async false
set_option linter.all false
set_option maxRecDepth 100000
set_option maxHeartbeats 0
/-! k69: the whole, given that the interpreter answers True. -/
namespace K69
open PySem PySem.Spec PyProof.Rows L2 CN
theorem facts {P : Program} {w : World} {K : PySem.W.Frag} {h : Heap} {mg : Str → Option Value} {fa : Addr} {wf k : Nat} (run : LawRuns T wf k 0) (X : K.In h) (N : h.Ns mainGlobals mg) (hfa : mg ("law" : Str) = some (.ref fa)) (c : He.SaysX LD.fa LD.fn LD.ts [] LD.ex w h K) :
    ∃ fd : FuncData, (∀ (s : Shared) (v : Value), BindsTo s fd ⟨[v], []⟩ [("script", v)]) ∧ ∀ base : Heap, K.In base → base.Ns mainGlobals mg → FnOk P w K mg base CX0 (2 * k + 2) fa fd ["script"] (spLaw K) := by
  have st : Stat LD.T LD.G (LD.ad K) w K mg := stat_of good allc X N c
  obtain ⟨fd, F⟩ := He.SaysD.defs c.t.d (List.mem_of_getElem? (show LD.fn[0]? = some d_law from rfl))
  have e : He.fAd K d_law.at_ = fa := by
    have q := He.glo_ok X N (He.SaysD.facts c.t.d (show He.Fa.glo "law" ∈ LD.fa from List.mem_append_left _ (List.mem_append_left _ (List.mem_append_left _ (List.mem_map_of_mem List.mem_cons_self)))))
    exact Option.some.inj (Value.ref.inj (Option.some.inj (q.symm.trans hfa)) ▸ rfl)
  subst e
  obtain ⟨_, _, ps, N', hb, hc⟩ := c_law
  refine ⟨fd, fun s v => FunD.bindsA (ps := ["script"]) F (fun _ _ _ _ _ _ us hl => match us, hl with | [_], _ => rfl) s [v] rfl, fun base _ _ => ?_⟩
  exact law_fn (D := LD) st (d := d_law) (f := i_law) rfl rfl F (N := ["script"]) (by decide +kernel) rfl run
end K69
open PySem PySem.W PySem.Calls PyProof.Rows
theorem k69_of {wf k : Nat} (run : CN.LawRuns K69.T wf 20 0) : PySem.Challenge.rw_codenotary_k69_machine_counts.Holds := by
  w_on; o_law
  refine HandSHeadRun.head_any (r := OpenLaw.row PySem.Challenge.rw_codenotary_k69_machine_counts) (q := view (OpenLaw.row PySem.Challenge.rw_codenotary_k69_machine_counts).prog [65]) (H := K69.hk) (ob := K69.ob) (M := 6000) (loose := K69.names) (d := HandSHeadRun.topDef (OpenLaw.row PySem.Challenge.rw_codenotary_k69_machine_counts).prog 65) (kwd := []) K69.ob_eq
    (by kernel_rfl) (fun s => by kernel_rfl) K69.run (by kernel_rfl) (by kernel_rfl) (by kernel_rfl) (by rfl) (by first | assumption | decide +kernel) (by decide +kernel) ⟨rfl, rfl, rfl, rfl, rfl, by decide +kernel⟩ ?hw ?hc
  case hw => w_witness2
  case hc =>
    refine L2.walk_ofE (l := PySem.Challenge.rw_codenotary_k69_machine_counts) (n := 63) (k := 42) (x := "script") (CX := L2.CX0) rfl (by decide) (by kernel_rfl) ⟨rfl, by decide, by decide⟩ ?F (fun _ _ _ _ z => z)
    intro w mg fa h Y G hmg0
    obtain ⟨K, KX, c⟩ := Y
    have hmg : mg ("law" : PySem.Str) = some (.ref fa) := by
      have e : (HandSHeadRun.topDef (OpenLaw.row PySem.Challenge.rw_codenotary_k69_machine_counts).prog 65).name = ("law" : PySem.Str) := by kernel_rfl
      rw [← e]
      exact hmg0
    obtain ⟨fd, hb, hF⟩ := K69.facts (P := (PySem.Challenge.rw_codenotary_k69_machine_counts).prog) (w := w) run KX G hmg c
    exact ⟨K, fd, CN.spLaw K, KX, hb, fun H a ns hl _ hS => ⟨a, ns, rfl, hS, hl, fun _ => rfl⟩, hF⟩
theorem PySem.Challenge.cw_codenotary_k69_machine_counts_holds : PySem.Challenge.rw_codenotary_k69_machine_counts.Holds := by
  exact k69_of (wf := 1000) (k := 0) K69.runs
