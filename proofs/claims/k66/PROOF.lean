import PyProof.Rows.All
import Wide.All
import OpenK.AllK
import Wide.FinOn
import HandS.ForMost
import HandS.ForExc
import HandS.TupAny
import HandS.TupMul
import HandS.IsInst
import HandS.Text
import HandS.RaiseMore
import HandS.ExcOwn
import HandS.CallLocal
import HandS.Comp
import HandS.Zip
import HandS.Nested
import HandS.ExcInit
import HandS.ExcField
import KE.KExcSuper
import KE.KSuper
import HandS.ExcCtx
import HandS.HotCalls
import HandS.TryOnly
import HandS.Dict
import HandS.Style
import HandS.WordsExc
import HandS.ReplaceLit
import HandS.ReplaceDef
import HandS.Defaults
import HandS.HeadHook4
import HandS.HeadEnd
import HandS.Codes
import KE.KStateDown
import Lean
import HandS.Head0
import HandS.Head1
import HandS.Head2
import PySem.Challenge.RW_codenotary_k66_listings_written_and_read
set_option Elab.async false
set_option maxRecDepth 100000
/-! CnSem: a small interpreter over plain data (tuples as trees, lists by value or at a place of a list-shaped heap). -/
namespace CN
open PySem

/-- a value: tuples and lists that nobody changes stand as trees; ref n: the n-th object of the heap -/
inductive D where
  | non | bl (b : Bool) | int (i : Int) | str (x : Str)
  | tup (ds : List D) | tl (ds : List D) | kl (ds : List D)
  | ref (n : Nat) | fn (g : Nat) | cls (c : Nat) | ty (n : String) | tab (t : Nat)

mutual
def D.eqb : D → D → Bool
  | .non, .non => true
  | .bl a, .bl b => a == b
  | .int a, .int b => decide (a = b)
  | .str a, .str b => decide (a = b)
  | .tup a, .tup b => D.eqbs a b
  | .tl a, .tl b => D.eqbs a b
  | .kl a, .kl b => D.eqbs a b
  | .ref a, .ref b => decide (a = b)
  | .fn a, .fn b => decide (a = b)
  | .cls a, .cls b => decide (a = b)
  | .ty a, .ty b => decide (a = b)
  | .tab a, .tab b => decide (a = b)
  | _, _ => false
def D.eqbs : List D → List D → Bool
  | [], [] => true
  | x :: xs, y :: ys => D.eqb x y && D.eqbs xs ys
  | _, _ => false
end
mutual
theorem D.eqb_refl : ∀ d : D, D.eqb d d = true
  | .non => by simp [D.eqb]
  | .bl _ => by simp [D.eqb]
  | .int _ => by simp [D.eqb]
  | .str _ => by simp [D.eqb]
  | .tup ds => by simp [D.eqb, D.eqbs_refl ds]
  | .tl ds => by simp [D.eqb, D.eqbs_refl ds]
  | .kl ds => by simp [D.eqb, D.eqbs_refl ds]
  | .ref _ => by simp [D.eqb]
  | .fn _ => by simp [D.eqb]
  | .cls _ => by simp [D.eqb]
  | .ty _ => by simp [D.eqb]
  | .tab _ => by simp [D.eqb]
theorem D.eqbs_refl : ∀ ds : List D, D.eqbs ds ds = true
  | [] => by simp [D.eqbs]
  | d :: ds => by simp [D.eqbs, D.eqb_refl d, D.eqbs_refl ds]
end
mutual
theorem D.eqb_eq : ∀ {a b : D}, D.eqb a b = true → a = b
  | .non, b, h => by cases b <;> simp [D.eqb] at h <;> rfl
  | .bl _, b, h => by cases b <;> simp [D.eqb] at h <;> simp [h]
  | .int _, b, h => by cases b <;> simp [D.eqb] at h <;> simp [h]
  | .str _, b, h => by cases b <;> simp [D.eqb] at h <;> simp [h]
  | .tup ds, b, h => by cases b <;> simp [D.eqb] at h <;> simp [D.eqbs_eq h]
  | .tl ds, b, h => by cases b <;> simp [D.eqb] at h <;> simp [D.eqbs_eq h]
  | .kl ds, b, h => by cases b <;> simp [D.eqb] at h <;> simp [D.eqbs_eq h]
  | .ref _, b, h => by cases b <;> simp [D.eqb] at h <;> simp [h]
  | .fn _, b, h => by cases b <;> simp [D.eqb] at h <;> simp [h]
  | .cls _, b, h => by cases b <;> simp [D.eqb] at h <;> simp [h]
  | .ty _, b, h => by cases b <;> simp [D.eqb] at h <;> simp [h]
  | .tab _, b, h => by cases b <;> simp [D.eqb] at h <;> simp [h]
theorem D.eqbs_eq : ∀ {a b : List D}, D.eqbs a b = true → a = b
  | [], b, h => by cases b <;> simp [D.eqbs] at h <;> rfl
  | x :: xs, b, h => by
    cases b with
    | nil => simp [D.eqbs] at h
    | cons y ys =>
      simp only [D.eqbs, Bool.and_eq_true] at h
      rw [D.eqb_eq h.1, D.eqbs_eq h.2]
end

/-- an object: a list, an instance (class, fields by number), a dict -/
inductive GO where
  | lst (ds : List D)
  | ins (c : Nat) (fs : List (Nat × D))
  | dct (kvs : List (L2.Key × D))
abbrev Hs := List GO
/-- a slot: not known; a value; the exception that is handled (its class, its fields' values) -/
inductive Sl where
  | no | has (d : D) | xc (c : Nat) (fs : List (Nat × D))
abbrev Env := List Sl

inductive Res (α : Type) where
  | stuck
  | ok (a : α) (s : Hs)
  | err (c : Nat) (fs : List (Nat × D)) (s : Hs)
def Res.bind {α β : Type} : Res α → (α → Hs → Res β) → Res β
  | .stuck, _ => .stuck
  | .ok a s, f => f a s
  | .err c fs s, _ => .err c fs s
@[simp] theorem Res.bind_ok {α β : Type} (a : α) (s : Hs) (f : α → Hs → Res β) : (Res.ok a s).bind f = f a s := rfl
@[simp] theorem Res.bind_stuck {α β : Type} (f : α → Hs → Res β) : (Res.stuck : Res α).bind f = .stuck := rfl
@[simp] theorem Res.bind_err {α β : Type} (c : Nat) (fs : List (Nat × D)) (s : Hs) (f : α → Hs → Res β) : (Res.err c fs s : Res α).bind f = .err c fs s := rfl
def Res.of {α : Type} (o : Option α) (s : Hs) : Res α := match o with | some a => .ok a s | none => .stuck
@[simp] theorem Res.of_some {α : Type} (a : α) (s : Hs) : Res.of (some a) s = .ok a s := rfl
@[simp] theorem Res.of_none {α : Type} (s : Hs) : Res.of (none : Option α) s = .stuck := rfl

inductive Flow where
  | next (e : Env) | ret (d : D) | brk (e : Env) | cont (e : Env) | exc (e : Env) (c : Nat) (fs : List (Nat × D))
/-- an expression's end within a statement -/
def Res.bs {α : Type} (env : Env) : Res α → (α → Hs → Res Flow) → Res Flow
  | .stuck, _ => .stuck
  | .ok a s, f => f a s
  | .err c fs s, _ => .ok (.exc env c fs) s
@[simp] theorem Res.bs_ok {α : Type} (env : Env) (a : α) (s : Hs) (f : α → Hs → Res Flow) : (Res.ok a s).bs env f = f a s := rfl
@[simp] theorem Res.bs_stuck {α : Type} (env : Env) (f : α → Hs → Res Flow) : (Res.stuck : Res α).bs env f = .stuck := rfl
@[simp] theorem Res.bs_err {α : Type} (env : Env) (c : Nat) (fs : List (Nat × D)) (s : Hs) (f : α → Hs → Res Flow) : (Res.err c fs s : Res α).bs env f = .ok (.exc env c fs) s := rfl

inductive BOp where | add | sub | mul | fdiv | mod | pow
inductive COp where | lt | le | gt | ge | eq | ne | isin | notin
/-- built-in functions: bool tells a tuple of classes -/
inductive Bi where
  | len | isinst (t : String) | int | tuple | list | all | any | sum | max2 | min2 | abs | str
  deriving DecidableEq
/-- methods of built-in objects -/
inductive Bm where
  | append | extend | pop | popAt | insert | index | split | replace | join | startswith
  deriving DecidableEq
/-- targets -/
inductive Tg where
  | nm (i : Nat) | tp (is : List Nat)

mutual
inductive Ex where
  | var (i : Nat) | cst (d : D) | glob (x : Nat) | xf (i f : Nat)
  | tup (es : Exs) | lst (es : Exs) | box (e : Ex)
  | bin (op : BOp) (a b : Ex) | cmp (op : COp) (a b : Ex) | isN (neg : Bool) (a : Ex) | chain (o p : COp) (a b c : Ex)
  | and (es : Exs) | or (es : Exs) | not (a : Ex) | neg (a : Ex)
  | ite (t a b : Ex)
  | idx (a b : Ex) | sl (a : Ex) (lo hi : Exo)
  | attr (e : Ex) (f : Nat)
  | call (g : Nat) (args : Exs) | callv (i : Nat) (args : Exs) | make (c : Nat) (args : Exs) | meth (m : Nat) (e : Ex) (args : Exs)
  | bi (b : Bi) (args : Exs) | bm (m : Bm) (e : Ex) (args : Exs)
  | pick (ks : List L2.Key) (vs : Exs) (i : Ex)
  | comp (elt : Ex) (tg : Tg) (own : List Nat) (it : It) (cond : Exo) | compB (elt : Ex) (tg : Tg) (own : List Nat) (it : It) (cond : Exo)
inductive Exs where
  | nil | cons (e : Ex) (es : Exs)
inductive Exo where
  | no | so (e : Ex)
inductive It where
  | seq (e : Ex) | range1 (a : Ex) | range2 (a b : Ex) | zip (a b : Ex) | enum (a : Ex) | rev (a : Ex)
end
mutual
inductive St where
  | asg (t : Tg) (e : Ex) | sub (o i e : Ex) | fld (o : Ex) (f : Nat) (e : Ex)
  | par (is : List Nat) (es : Exs)
  | aug (i : Nat) (op : BOp) (e : Ex) | augf (o : Ex) (f : Nat) (op : BOp) (e : Ex)
  | expr (e : Ex) | ret (e : Ex) | retN
  | ite (t : Ex) (a b : Sts) | whl (t : Ex) (b : Sts) | for_ (tg : Tg) (it : It) (b : Sts)
  | pass | brk | cont
  | raise (c : Nat) (es : Exs)
  | thru (b : Sts)
  | try_ (b : Sts) (hs : Hds)
  | never
inductive Sts where
  | nil | cons (st : St) (sts : Sts)
inductive Hds where
  | nil | cons (c : Nat) (i : Nat) (b : Sts) (hs : Hds)
end

/-! ### operations over values -/
def lenOk (n : Nat) : Bool := decide (n ≤ sizeLine)
/-- a list's content: by value or at its place -/
def lstAt (s : Hs) : D → Option (List D)
  | .tl ds => some ds
  | .ref n => match s[n]? with
    | some (.lst ds) => some ds
    | _ => none
  | _ => none
/-- a list or a tuple -/
def seqAt (s : Hs) : D → Option (List D)
  | .tup ds => some ds
  | .kl ds => some ds
  | d => lstAt s d
def seqAt0 (s : Hs) : D → Option (List D)
  | .tup ds => some ds
  | d => lstAt s d
def flatD : D → Bool
  | .non => true
  | .bl _ => true
  | .int _ => true
  | .str _ => true
  | _ => false
/-- == of flat values -/
def eqF : D → D → Bool
  | .non, .non => true
  | .bl a, .bl b => a == b
  | .bl a, .int b => (if a then 1 else 0) == b
  | .int a, .bl b => a == (if b then 1 else 0)
  | .int a, .int b => a == b
  | .str a, .str b => a == b
  | _, _ => false
/-! data without places, as the library's data -/
mutual
def pure? : D → Option PyData
  | .non => some .none
  | .bl b => some (.bool b)
  | .int i => some (.int i)
  | .str x => some (.str x)
  | .tup ds => match pures? ds with | some xs => some (.tuple xs) | none => none
  | .tl ds => match pures? ds with | some xs => some (.list xs) | none => none
  | _ => none
def pures? : List D → Option (List PyData)
  | [] => some []
  | d :: ds => match pure? d, pures? ds with | some x, some xs => some (x :: xs) | _, _ => none
end
/-- .. a list at its place, too -/
def data? (s : Hs) : D → Option PyData
  | .ref n => match s[n]? with
    | some (.lst ds) => match pures? ds with | some xs => some (.list xs) | none => none
    | _ => none
  | d => pure? d
def eqD (s : Hs) (a b : D) : Option Bool := match data? s a, data? s b with
  | some x, some y => if SeqAt.shaped x && SeqAt.shaped y then some (PyData.eqv x y) else none
  | _, _ => none
def cut {α : Type} (xs : List α) (lo hi : Option Int) : List α :=
  (xs.drop (HT.sIx xs.length 0 lo)).take (HT.sIx xs.length xs.length hi - HT.sIx xs.length 0 lo)
def inRng (i : Int) : Bool := decide (-(2 ^ 64) < i) && decide (i < 2 ^ 64)
def binop (s : Hs) : BOp → D → D → Option D
  | .add, .int i, .int j => some (.int (i + j))
  | .add, .str x, .str y => if x.length + y.length ≤ sizeLine then some (.str (x ++ y)) else none
  | .add, .tup a, .tup b => if a.length + b.length ≤ sizeLine then some (.tup (a ++ b)) else none
  | .add, x, y => match lstAt s x, lstAt s y with
    | some a, some b => if a.length + b.length ≤ sizeLine then some (.tl (a ++ b)) else none
    | _, _ => none
  | .sub, .int i, .int j => some (.int (i - j))
  | .mul, .int i, .int j => if inRng i || inRng j then some (.int (i * j)) else none
  | .mul, .tup a, .int k => if decide (0 ≤ k) && decide (k ≤ 1000) && decide (a.length ≤ 1000) then some (.tup (List.replicate k.toNat a).flatten) else none
  | .mul, .tl a, .int k => if decide (0 ≤ k) && decide (k ≤ 1000) && decide (a.length ≤ 1000) then some (.tl (List.replicate k.toNat a).flatten) else none
  | .fdiv, .int i, .int j => if decide (j ≠ 0) && decide (j.natAbs < 1073741824) then some (.int (i.fdiv j)) else none
  | .mod, .int i, .int j => if decide (j ≠ 0) then some (.int (i.fmod j)) else none
  | .pow, .int i, .int j => if decide (0 ≤ j) && decide (j ≤ 1000000) && decide (i.natAbs < 2 ^ 64) then some (.int (i ^ j.toNat)) else none
  | _, _, _ => none
def inD (tabs : List (List (Str × D))) (s : Hs) (x y : D) : Option Bool := match y with
  | .tab t => match x, tabs[t]? with
    | .str z, some kvs => some (kvs.lookup z).isSome
    | _, _ => none
  | .str z => match x with
    | .str c => some (!(Builtin.Str.occurrences z c 0 z.length 1).isEmpty)
    | _ => none
  | _ => match seqAt s y with
    | some ds => if flatD x && ds.all flatD then some (ds.any fun d => eqF d x) else none
    | none => none
def cmpop (tabs : List (List (Str × D))) (s : Hs) : COp → D → D → Option Bool
  | .lt, .int i, .int j => some (decide (i < j))
  | .lt, .str x, .str y => some (decide (x.cps.toList < y.cps.toList))
  | .le, .int i, .int j => some (decide (i ≤ j))
  | .gt, .int i, .int j => some (decide (j < i))
  | .ge, .int i, .int j => some (decide (j ≤ i))
  | .eq, x, y => eqD s x y
  | .ne, x, y => (eqD s x y).map (!·)
  | .isin, x, y => inD tabs s x y
  | .notin, x, y => (inD tabs s x y).map (!·)
  | _, _, _ => none
def idxop (tabs : List (List (Str × D))) (s : Hs) (x y : D) : Option D := match x, y with
  | .tab t, .str z => match tabs[t]? with
    | some kvs => kvs.lookup z
    | none => none
  | .str z, .int i => if z.length ≤ sizeLine then (L2.atI z.cps.toList i).map fun c => .str ⟨#[c]⟩ else none
  | .ref n, y => match s[n]?, y with
    | some (.lst ds), .int i => L2.atI ds i
    | _, _ => none
  | .tup ds, .int i => L2.atI ds i
  | .tl ds, .int i => L2.atI ds i
  | _, _ => none
def slop (s : Hs) (x : D) (lo hi : Option Int) : Option D := match x with
  | .tup ds => some (.tup (cut ds lo hi))
  | .str z => if z.length ≤ sizeLine then some (.str (L2.cutS z lo hi)) else none
  | _ => match lstAt s x with
    | some ds => some (.tl (cut ds lo hi))
    | none => none
/-- truth -/
def truth (s : Hs) : D → Option Bool
  | .non => some false
  | .bl b => some b
  | .int i => some (i != 0)
  | .str x => if x.length ≤ sizeLine then some (x.length != 0) else none
  | .tup ds => some (!ds.isEmpty)
  | .tl ds => some (!ds.isEmpty)
  | .ref n => match s[n]? with
    | some (.lst ds) => some (!ds.isEmpty)
    | _ => none
  | _ => none
def tyName (s : Hs) : D → Option String
  | .non => some "NoneType"
  | .bl _ => some "bool"
  | .int _ => some "int"
  | .str _ => some "str"
  | .tup _ => some "tuple"
  | .tl _ => some "list"
  | .ref n => match s[n]? with
    | some (.lst _) => some "list"
    | some (.dct _) => some "dict"
    | _ => none
  | _ => none
def isNd (neg : Bool) : D → Bool
  | .non => !neg
  | _ => neg
/-- isinstance for int, bool, str, tuple, list -/
def isi (ty cl : String) : Option Bool :=
  if cl = "int" then some (ty = "int" || ty = "bool") else if cl = "bool" then some (ty = "bool") else if cl = "str" then some (ty = "str") else if cl = "tuple" then some (ty = "tuple") else if cl = "list" then some (ty = "list") else none
def bools? : List D → Option (List Bool)
  | [] => some []
  | .bl b :: ds => (bools? ds).map (b :: ·)
  | _ :: _ => none
def ints? : List D → Option (List Int)
  | [] => some []
  | .int b :: ds => (ints? ds).map (b :: ·)
  | _ :: _ => none
def strs? : List D → Option (List Str)
  | [] => some []
  | .str b :: ds => (strs? ds).map (b :: ·)
  | _ :: _ => none
def bifun (s : Hs) : Bi → List D → Option D
  | .len, [.str z] => if z.length ≤ sizeLine then some (.int z.length) else none
  | .len, [d] => (seqAt s d).map fun ds => .int ds.length
  | .isinst cl, [d] => match tyName s d with
    | some ty => (isi ty cl).map .bl
    | none => none
  | .int, [.int i] => some (.int i)
  | .int, [.bl b] => some (.int (if b then 1 else 0))
  | .int, [.str x] => if x.length ≤ 640 then (PySem.intText? x).map .int else none
  | .str, [.int i] => if i.natAbs.log2 < 1920 then some (.str (toString i)) else none
  | .str, [.str x] => some (.str x)
  | .tuple, [.tup ds] => some (.tup ds)
  | .tuple, [d] => (lstAt s d).map .tup
  | .list, [d] => (seqAt s d).map .tl
  | .all, [d] => match lstAt s d with
    | some ds => (bools? ds).map fun bs => .bl (bs.all id)
    | none => none
  | .any, [d] => match lstAt s d with
    | some ds => (bools? ds).map fun bs => .bl (bs.any id)
    | none => none
  | .sum, [d] => match lstAt s d with
    | some ds => (ints? ds).map fun ns => .int ns.sum
    | none => none
  | .max2, [.int i, .int j] => some (.int (if j > i then j else i))
  | .min2, [.int i, .int j] => some (.int (if j < i then j else i))
  | .abs, [.int i] => some (.int (if i < 0 then -i else i))
  | _, _ => none
/-- the first place of a flat value -/
def firstAt (x : D) : List D → Option Nat
  | [] => none
  | d :: ds => if eqF d x then some 0 else (firstAt x ds).map (· + 1)
def bmeth (s : Hs) : Bm → D → List D → Res D
  | .append, .ref n, [d] => match s[n]? with
    | some (.lst ds) => if ds.length < sizeLine then .ok .non (s.set n (.lst (ds ++ [d]))) else .stuck
    | _ => .stuck
  | .extend, .ref n, [d] => match s[n]?, seqAt0 s d with
    | some (.lst ds), some es => if ds.length + es.length ≤ sizeLine then .ok .non (s.set n (.lst (ds ++ es))) else .stuck
    | _, _ => .stuck
  | .pop, .ref n, [] => match s[n]? with
    | some (.lst ds) => match ds[ds.length - 1]? with
      | some d => .ok d (s.set n (.lst ds.dropLast))
      | none => .stuck
    | _ => .stuck
  | .index, x, [y] => match lstAt s x with
    | some ds => if flatD y && ds.all flatD then match firstAt y ds with
        | some j => .ok (.int j) s
        | none => .stuck
      else .stuck
    | none => .stuck
  | .replace, .str x, [.str y, .str z] => if x.length + (x.length + 1) * z.length ≤ 16777216 then .ok (.str (PySem.Txt.replace x y z)) s else .stuck
  | .join, .str x, [d] => match seqAt0 s d with
    | some ds => match strs? ds with
      | some ys => if (ys.map (·.length)).sum + ys.length * x.length ≤ 16777216 then .ok (.str (PySem.Txt.join x ys)) s else .stuck
      | none => .stuck
    | none => .stuck
  | .startswith, .str x, [.str y] => .ok (.bl (PySem.Txt.startswith x y)) s
  | .split, .str x, [.str y] => if (y.length == 0) = false ∧ x.length + 2 ≤ sizeLine then .ok (.tl ((PySem.Txt.split x y).map .str)) s else .stuck
  | _, _, _ => .stuck

/-- the receiver is of the method's type -/
def bmTy (s : Hs) : Bm → D → Bool
  | .split, .str _ => true
  | .replace, .str _ => true
  | .join, .str _ => true
  | .startswith, .str _ => true
  | .append, x => (lstAt s x).isSome
  | .extend, x => (lstAt s x).isSome
  | .pop, x => (lstAt s x).isSome
  | .popAt, x => (lstAt s x).isSome
  | .insert, x => (lstAt s x).isSome
  | .index, x => (lstAt s x).isSome
  | _, _ => false

/-! ### fields by number -/
def putN (f : Nat) (v : D) : List (Nat × D) → List (Nat × D)
  | [] => [(f, v)]
  | (g, x) :: r => if g = f then (g, v) :: r else (g, x) :: putN f v r
/-- the slots of a comprehension's own names forgotten -/
def wipeE (env : Env) : List Nat → Env
  | [] => env
  | v :: vs => (wipeE env vs).set v .no
def setAll (env : Env) : List Nat → List D → Option Env
  | [], [] => some env
  | i :: is, d :: ds => setAll (env.set i (.has d)) is ds
  | _, _ => none
def assignTg (env : Env) : Tg → D → Option Env
  | .nm i, d => some (env.set i (.has d))
  | .tp is, .tup ds => setAll env is ds
  | _, _ => none
/-- places of a range -/
def rangeD (lo : Int) (n : Nat) : List D := (List.range n).map fun k => .int (lo + (k : Nat))
def zipD : List D → List D → List D
  | a :: as, b :: bs => .tup [a, b] :: zipD as bs
  | _, _ => []
def enumD (k : Nat) : List D → List D
  | [] => []
  | a :: as => .tup [.int (k : Nat), a] :: enumD (k + 1) as
/-- a walked list that stands at a place must stay as it is -/
def stays (w : Option (Nat × List D)) (s : Hs) : Bool := match w with
  | none => true
  | some (n, ds) => match s[n]? with
    | some (.lst es) => D.eqbs es ds
    | _ => false
def watchOf : D → List D → Option (Nat × List D)
  | .ref n, ds => some (n, ds)
  | _, _ => none

/-! ### the tables -/
structure Fn where
  slots : Nat
  params : Nat
  body : Sts
  /-- 0: as it is; 1: what it made is dropped, nothing old is changed, the value bears no place; 2: what it made is dropped -/
  flag : Nat
  /-- the last parameters' names, where it is called with keywords -/
  kws : List Str
structure Tb where
  fns : List Fn
  /-- a class: its methods by number (name's number, function's number); -/
  clss : List (List (Nat × Nat))
  /-- the number of __init__ -/
  inits : List Nat
  tabs : List (List (Str × D))
  consts : List D
  /-- an exception class: its fields by number, the last stored one first -/
  excs : List (List Nat)
  /-- the exception classes that an exception class stands under, itself among them -/
  xsup : List (List Nat)
  /-- the module's file -/
  file : Str

def signs (x : Str) : List D := x.cps.toList.map fun c => .str ⟨#[c]⟩

/-- what is walked: the items, and the place that must stay -/
def seqI (x : D) (s1 : Hs) : Res (List D × Option (Nat × List D)) := match x with
  | .str z => .ok (signs z, none) s1
  | .tup ds => .ok (ds, none) s1
  | .kl ds => .ok (ds, none) s1
  | x => match lstAt s1 x with
    | some ds => .ok (ds, watchOf x ds) s1
    | none => .stuck
def range1I (x : D) (s1 : Hs) : Res (List D × Option (Nat × List D)) := match x with
  | .int n => if decide (-(2 ^ 62) ≤ n) && decide (n < 2 ^ 62) then .ok (rangeD 0 n.toNat, none) s1 else .stuck
  | _ => .stuck
def range2I (x y : D) (s2 : Hs) : Res (List D × Option (Nat × List D)) := match x, y with
  | .int m, .int n => if decide (-(2 ^ 62) ≤ m) && decide (m < 2 ^ 62) && decide (-(2 ^ 62) ≤ n) && decide (n < 2 ^ 62) then .ok (rangeD m (n - m).toNat, none) s2 else .stuck
  | _, _ => .stuck
def zipI (x y : D) (s2 : Hs) : Res (List D × Option (Nat × List D)) := match x, y with
  | .tup xs, .tup ys => .ok (zipD xs ys, none) s2
  | .tl xs, .tl ys => .ok (zipD xs ys, none) s2
  | .tup xs, .tl ys => .ok (zipD xs ys, none) s2
  | _, _ => .stuck
def enumI (x : D) (s1 : Hs) : Res (List D × Option (Nat × List D)) := match x with
  | .tl xs => .ok (enumD 0 xs, none) s1
  | _ => .stuck
def revI (x : D) (s1 : Hs) : Res (List D × Option (Nat × List D)) := match x with
  | .tl xs => .ok (xs.reverse, none) s1
  | _ => .stuck

section
variable (T : Tb) (wf : Nat) (call : Nat → List D → Hs → Res D)

def loopFor (body : D → Env → Hs → Res Flow) (w : Option (Nat × List D)) : List D → Env → Hs → Res Flow
  | [], env, s => .ok (.next env) s
  | x :: xs, env, s => (body x env s).bind fun f s' => match f with
    | .next env' => if stays w s' then loopFor body w xs env' s' else .stuck
    | .cont env' => if stays w s' then loopFor body w xs env' s' else .stuck
    | .brk env' => .ok (.next env') s'
    | f => .ok f s'
def loopComp (step : D → Hs → Res (Option D)) (w : Option (Nat × List D)) : List D → List D → Hs → Res (List D)
  | [], acc, s => .ok acc s
  | x :: xs, acc, s => match step x s with
    | .ok o s' => if stays w s' then match o with
        | some d => if acc.length < sizeLine then loopComp step w xs (acc ++ [d]) s' else .stuck
        | none => loopComp step w xs acc s'
      else .stuck
    | _ => .stuck
/-- the same where the list has a place n from the start -/
def loopCompB (step : D → Hs → Res (Option D)) (n : Nat) (w : Option (Nat × List D)) : List D → List D → Hs → Res Unit
  | [], _, s => .ok () s
  | x :: xs, acc, s => match step x s with
    | .ok o s' => if stays w s' && stays (some (n, acc)) s' then match o with
        | some d => if acc.length < sizeLine then loopCompB step n w xs (acc ++ [d]) (s'.set n (.lst (acc ++ [d]))) else .stuck
        | none => loopCompB step n w xs acc s'
      else .stuck
    | _ => .stuck
def loopWhl (test : Env → Hs → Res Bool) (body : Env → Hs → Res Flow) : Nat → Env → Hs → Res Flow
  | 0, _, _ => .stuck
  | n + 1, env, s => (test env s).bs env fun b s1 => if b then (body env s1).bind fun f s' => match f with
      | .next env' => loopWhl test body n env' s'
      | .cont env' => loopWhl test body n env' s'
      | .brk env' => .ok (.next env') s'
      | f => .ok f s'
    else .ok (.next env) s1

/-- a value as a test -/
def truly (m : Env → Hs → Res D) : Env → Hs → Res Bool := fun env s => (m env s).bind fun x s1 => Res.of (truth s1 x) s1
abbrev ME := Env → Hs → Res D
abbrev MT := Env → Hs → Res Bool
/-- as a value, as a test -/
structure EvE where
  e : ME
  t : MT
structure EvL where
  args : Env → Hs → Res (List D)
  and : ME
  or : ME
  andT : MT
  orT : MT
def pE (m : ME) : EvE := ⟨m, truly m⟩
def and2 (ma mb : ME) : ME := fun env s => (ma env s).bind fun x s1 => match x with
    | .bl true => mb env s1
    | .bl false => .ok (.bl false) s1
    | _ => .stuck
def or2 (ma mb : ME) : ME := fun env s => (ma env s).bind fun x s1 => match x with
    | .bl true => .ok (.bl true) s1
    | .bl false => mb env s1
    | _ => .stuck
def andT2 (ta tb : MT) : MT := fun env s => (ta env s).bind fun c s1 => if c then tb env s1 else .ok false s1
def orT2 (ta tb : MT) : MT := fun env s => (ta env s).bind fun c s1 => if c then .ok true s1 else tb env s1
def pick {α : Type} (es : Exs) (x y : α) : α := match es with
  | .nil => x
  | .cons _ _ => y
def consL (a : EvE) (r : EvL) (es : Exs) : EvL :=
  ⟨fun env s => (a.e env s).bind fun d s1 => (r.args env s1).bind fun ds s2 => .ok (d :: ds) s2, pick es a.e (and2 a.e r.and), pick es a.e (or2 a.e r.or), pick es a.t (andT2 a.t r.andT), pick es a.t (orT2 a.t r.orT)⟩
/-- the step of a comprehension -/
def stepC (own : List Nat) (t : Tg) (mc : MT) (me : ME) (env : Env) (d : D) (s' : Hs) : Res (Option D) := match assignTg (wipeE env own) t d with
  | some env' => (mc env' s').bind fun b s2 => if b then (me env' s2).bind fun v s3 => .ok (some v) s3 else .ok none s2
  | none => .stuck
def varM (i : Nat) : ME := fun env s => match env[i]? with
  | some (.has d) => .ok d s
  | _ => .stuck
def tupM (m : Env → Hs → Res (List D)) : ME := fun env s => (m env s).bind fun ds s1 => if lenOk ds.length then .ok (.tup ds) s1 else .stuck
def lstM (m : Env → Hs → Res (List D)) : ME := fun env s => (m env s).bind fun ds s1 => if lenOk ds.length then .ok (.tl ds) s1 else .stuck
/-- a list that gets a place -/
def boxed (m : ME) : ME := fun env s => (m env s).bind fun d s1 => match d with
  | .tl ds => .ok (.ref s1.length) (s1 ++ [.lst ds])
  | _ => .stuck
def binM (op : BOp) (ma mb : ME) : ME := fun env s => (ma env s).bind fun x s1 => (mb env s1).bind fun y s2 => Res.of (binop s2 op x y) s2
def cmpM (op : COp) (ma mb : ME) : ME := fun env s => (ma env s).bind fun x s1 => (mb env s1).bind fun y s2 => Res.of ((cmpop T.tabs s2 op x y).map .bl) s2
def isNM (neg : Bool) (ma : ME) : ME := fun env s => (ma env s).bind fun x s1 => .ok (.bl (isNd neg x)) s1
def chainM (o p : COp) (ma mb mc : ME) : ME := fun env s => (ma env s).bind fun x s1 => (mb env s1).bind fun y s2 => match cmpop T.tabs s2 o x y with
  | some true => (mc env s2).bind fun z s3 => Res.of ((cmpop T.tabs s3 p y z).map .bl) s3
  | some false => .ok (.bl false) s2
  | none => .stuck
def notM (ma : ME) : ME := fun env s => (ma env s).bind fun x s1 => Res.of ((truth s1 x).map fun b => .bl (!b)) s1
def notT (ta : MT) : MT := fun env s => (ta env s).bind fun b s1 => .ok (!b) s1
def negM (ma : ME) : ME := fun env s => (ma env s).bind fun x s1 => match x with
  | .int i => .ok (.int (-i)) s1
  | _ => .stuck
def iteM {α : Type} (mt : MT) (ma mb : Env → Hs → Res α) : Env → Hs → Res α := fun env s => (mt env s).bind fun c s1 => if c then ma env s1 else mb env s1
def idxM (ma mb : ME) : ME := fun env s => (ma env s).bind fun x s1 => (mb env s1).bind fun y s2 => Res.of (idxop T.tabs s2 x y) s2
def slM (ma : ME) (ml mh : Env → Hs → Res (Option Int)) : ME := fun env s => (ma env s).bind fun x s1 => (ml env s1).bind fun l s2 => (mh env s2).bind fun h s3 => Res.of (slop s3 x l h) s3
def attrM (ma : ME) (f : Nat) : ME := fun env s => (ma env s).bind fun x s1 => match x with
  | .ref n => match s1[n]? with
    | some (.ins _ fs) => Res.of (fs.lookup f) s1
    | _ => .stuck
  | _ => .stuck
/-- a field of the handled exception -/
def xfM (i f : Nat) : ME := fun env s => match env[i]? with
  | some (.xc _ fs) => Res.of (fs.lookup f) s
  | _ => .stuck
def callM (g : Nat) (ms : Env → Hs → Res (List D)) : ME := fun env s => (ms env s).bind fun ds s1 => call g ds s1
def callvM (i : Nat) (ms : Env → Hs → Res (List D)) : ME := fun env s => match env[i]? with
  | some (.has (.fn g)) => (ms env s).bind fun ds s1 => call g ds s1
  | _ => .stuck
def madeBy (c : Nat) (ds : List D) (s1 : Hs) : Res D := match T.inits[c]? with
  | some g => (call g (.ref s1.length :: ds) (s1 ++ [.ins c []])).bind fun r s2 => match r with
    | .non => .ok (.ref s1.length) s2
    | _ => .stuck
  | none => .stuck
def makeM (c : Nat) (ms : Env → Hs → Res (List D)) : ME := fun env s => (ms env s).bind fun ds s1 => madeBy T call c ds s1
def methM (m : Nat) (ma : ME) (ms : Env → Hs → Res (List D)) : ME := fun env s => (ma env s).bind fun x s1 => match x with
  | .ref n => match s1[n]? with
    | some (.ins c _) => match (T.clss[c]?).bind (·.lookup m) with
      | some g => (ms env s1).bind fun ds s2 => call g (.ref n :: ds) s2
      | none => .stuck
    | _ => .stuck
  | _ => .stuck
def biM (b : Bi) (ms : Env → Hs → Res (List D)) : ME := fun env s => (ms env s).bind fun ds s1 => Res.of (bifun s1 b ds) s1
def bmM (m : Bm) (ma : ME) (ms : Env → Hs → Res (List D)) : ME := fun env s => (ma env s).bind fun x s1 => if bmTy s1 m x then (ms env s1).bind fun ds s2 => bmeth s2 m x ds else .stuck
def keyD : D → Option L2.Key
  | .int i => some (.inl i)
  | .str x => some (.inr x)
  | _ => none
def lookK (k : L2.Key) : List L2.Key → List D → Option D
  | c :: ks, d :: ds => if k = c then some d else lookK k ks ds
  | _, _ => none
def pickK (ks : List L2.Key) (ds : List D) (d : D) : Option D := match keyD d with
  | some k => lookK k ks ds
  | none => none
/-- {k: v, ..}[i] -/
def pickM (ks : List L2.Key) (ms : Env → Hs → Res (List D)) (mi : ME) : ME := fun env s => (ms env s).bind fun ds s1 => (mi env s1).bind fun d s2 => Res.of (pickK ks ds d) s2
def compM (own : List Nat) (tg : Tg) (mi : Env → Hs → Res (List D × Option (Nat × List D))) (mc : MT) (me : ME) : ME := fun env s => (mi env s).bind fun p s1 => (loopComp (stepC own tg mc me env) p.2 p.1 [] s1).bind fun ds s2 => .ok (.tl ds) s2
def compBM (own : List Nat) (tg : Tg) (mi : Env → Hs → Res (List D × Option (Nat × List D))) (mc : MT) (me : ME) : ME := fun env s => (mi env s).bind fun p s1 => (loopCompB (stepC own tg mc me env) s1.length p.2 p.1 [] (s1 ++ [.lst []])).bind fun _ s2 => .ok (.ref s1.length) s2
def soM (ma : ME) : Env → Hs → Res (Option Int) := fun env s => (ma env s).bind fun x s1 => match x with
  | .int i => .ok (some i) s1
  | _ => .stuck
mutual
def evP : Ex → EvE
  | .var i => pE (varM i)
  | .cst d => pE fun _ s => .ok d s
  | .glob x => pE fun _ s => Res.of T.consts[x]? s
  | .xf i f => pE (xfM i f)
  | .tup es => pE (tupM (evPs es).args)
  | .lst es => pE (lstM (evPs es).args)
  | .box e => pE (boxed (evP e).e)
  | .bin op a b => pE (binM op (evP a).e (evP b).e)
  | .cmp op a b => pE (cmpM T op (evP a).e (evP b).e)
  | .isN neg a => pE (isNM neg (evP a).e)
  | .chain o p a b c => pE (chainM T o p (evP a).e (evP b).e (evP c).e)
  | .and es => ⟨(evPs es).and, (evPs es).andT⟩
  | .or es => ⟨(evPs es).or, (evPs es).orT⟩
  | .not a => ⟨notM (evP a).e, notT (evP a).t⟩
  | .neg a => pE (negM (evP a).e)
  | .ite t a b => ⟨iteM (evP t).t (evP a).e (evP b).e, iteM (evP t).t (evP a).t (evP b).t⟩
  | .idx a b => pE (idxM T (evP a).e (evP b).e)
  | .sl a lo hi => pE (slM (evP a).e (evO lo) (evO hi))
  | .attr e f => pE (attrM (evP e).e f)
  | .call g args => pE (callM call g (evPs args).args)
  | .callv i args => pE (callvM call i (evPs args).args)
  | .make c args => pE (makeM T call c (evPs args).args)
  | .meth m e args => pE (methM T call m (evP e).e (evPs args).args)
  | .bi b args => pE (biM b (evPs args).args)
  | .bm m e args => pE (bmM m (evP e).e (evPs args).args)
  | .pick ks vs i => pE (pickM ks (evPs vs).args (evP i).e)
  | .comp elt tg own it cond => pE (compM own tg (evI it) (evC cond) (evP elt).e)
  | .compB elt tg own it cond => pE (compBM own tg (evI it) (evC cond) (evP elt).e)
def evPs : Exs → EvL
  | .nil => ⟨fun _ s => .ok [] s, fun _ _ => .stuck, fun _ _ => .stuck, fun _ _ => .stuck, fun _ _ => .stuck⟩
  | .cons e es => consL (evP e) (evPs es) es
def evO : Exo → Env → Hs → Res (Option Int)
  | .no => fun _ s => .ok none s
  | .so e => soM (evP e).e
/-- a comprehension's if -/
def evC : Exo → MT
  | .no => fun _ s => .ok true s
  | .so e => (evP e).t
/-- what is walked: the items, and the place that must stay -/
def evI : It → Env → Hs → Res (List D × Option (Nat × List D))
  | .seq e => fun env s => ((evP e).e env s).bind seqI
  | .range1 a => fun env s => ((evP a).e env s).bind range1I
  | .range2 a b => fun env s => ((evP a).e env s).bind fun x s1 => ((evP b).e env s1).bind fun y s2 => range2I x y s2
  | .zip a b => fun env s => ((evP a).e env s).bind fun x s1 => ((evP b).e env s1).bind fun y s2 => zipI x y s2
  | .enum a => fun env s => ((evP a).e env s).bind enumI
  | .rev a => fun env s => ((evP a).e env s).bind revI
end
abbrev evalE (e : Ex) : ME := (evP T call e).e
abbrev evalT (e : Ex) : MT := (evP T call e).t
abbrev evalEs (e : Exs) : Env → Hs → Res (List D) := (evPs T call e).args
abbrev evalO (e : Exo) : Env → Hs → Res (Option Int) := evO T call e
abbrev evalC (e : Exo) : MT := evC T call e
abbrev evalI (e : It) : Env → Hs → Res (List D × Option (Nat × List D)) := evI T call e

/-- op= on numbers -/
def augop : BOp → D → D → Option D
  | .add, .int a, .int b => some (.int (a + b))
  | .sub, .int a, .int b => some (.int (a - b))
  | _, _, _ => none
abbrev MS := Env → Hs → Res Flow
def asgM (t : Tg) (m : ME) : MS := fun env s => (m env s).bs env fun d s1 => Res.of ((assignTg env t d).map .next) s1
def subM (mo mi m : ME) : MS := fun env s => (m env s).bs env fun d s1 => (mo env s1).bs env fun x s2 => (mi env s2).bs env fun y s3 => match x with
    | .ref n => match s3[n]?, y with
      | some (.lst ds), .int k => match L2.ixN ds.length k with
        | some j => .ok (.next env) (s3.set n (.lst (ds.set j d)))
        | none => .stuck
      | _, _ => .stuck
    | _ => .stuck
def fldM (mo : ME) (f : Nat) (m : ME) : MS := fun env s => (m env s).bs env fun d s1 => (mo env s1).bs env fun x s2 => match x with
    | .ref n => match s2[n]? with
      | some (.ins c fs) => if fs.length < 1000 then .ok (.next env) (s2.set n (.ins c (putN f d fs))) else .stuck
      | _ => .stuck
    | _ => .stuck
def parM (is : List Nat) (ms : Env → Hs → Res (List D)) : MS := fun env s => (ms env s).bs env fun ds s1 => Res.of ((setAll env is ds).map .next) s1
def augM (i : Nat) (op : BOp) (m : ME) : MS := fun env s => match env[i]? with
    | some (.has x) => (m env s).bs env fun y s1 => match augop op x y with
      | some z => .ok (.next (env.set i (.has z))) s1
      | none => .stuck
    | _ => .stuck
def augfM (mo : ME) (f : Nat) (op : BOp) (m : ME) : MS := fun env s => (mo env s).bs env fun x s1 => match x with
    | .ref n => match s1[n]? with
      | some (.ins c fs) => match fs.lookup f with
        | some a => (m env s1).bs env fun b s2 => match s2[n]?, augop op a b with
          | some (.ins c' fs'), some z => if c' = c ∧ fs'.length < 1000 then .ok (.next env) (s2.set n (.ins c' (putN f z fs'))) else .stuck
          | _, _ => .stuck
        | none => .stuck
      | _ => .stuck
    | _ => .stuck
def forStep (tg : Tg) (b : MS) : D → Env → Hs → Res Flow := fun d env' s' => match assignTg env' tg d with
    | some env2 => b env2 s'
    | none => .stuck
def forM (tg : Tg) (mi : Env → Hs → Res (List D × Option (Nat × List D))) (b : MS) : MS := fun env s => (mi env s).bs env fun p s1 => loopFor (forStep tg b) p.2 p.1 env s1
/-- raise C(..) -/
def raiseM (c : Nat) (ms : Env → Hs → Res (List D)) : MS := fun env s => match T.excs[c]? with
    | some (f :: fl) => (ms env s).bs env fun ds s1 => if (f :: fl).length = ds.length ∧ ds.length ≤ 1000 then .ok (.exc env c ((f :: fl).zip ds.reverse)) s1 else .stuck
    | _ => .stuck
/-- the handled exception is forgotten -/
def clr (env : Env) : Env := env.map fun x => match x with
  | .xc _ _ => .no
  | x => x
def clrF : Flow → Flow
  | .next e => .next (clr e)
  | .brk e => .brk (clr e)
  | .cont e => .cont (clr e)
  | f => f
/-- behind a suite: its name is gone -/
def goneF (i : Nat) : Flow → Flow
  | .next e => .next (clr (e.set i .no))
  | .brk e => .brk (clr (e.set i .no))
  | .cont e => .cont (clr (e.set i .no))
  | .ret d => .ret d
  | .exc e c fs => .exc (clr (e.set i .no)) c fs
def nextHd (xs : List Nat) (c i : Nat) (b : MS) (r : Env → Nat → List (Nat × D) → Hs → Res Flow) : Env → Nat → List (Nat × D) → Hs → Res Flow := fun env x fs s =>
  if c ∈ xs then (b (env.set i (.xc x fs)) s).bind fun f s1 => match f with
    | .exc _ _ _ => .stuck
    | f => .ok (goneF i f) s1
  else r env x fs s
def tryM (b : MS) (h : Env → Nat → List (Nat × D) → Hs → Res Flow) : MS := fun env s => (b env s).bind fun f s1 => match f with
    | .exc e c fs => h e c fs s1
    | f => .ok f s1
def thruM (b : MS) : MS := fun env s => (b env s).bind fun f s1 => match f with
    | .exc _ _ _ => .stuck
    | f => .ok f s1
mutual
def evalS : St → MS
  | .asg t e => asgM t (evalE T call e)
  | .sub o i e => subM (evalE T call o) (evalE T call i) (evalE T call e)
  | .fld o f e => fldM (evalE T call o) f (evalE T call e)
  | .par is es => parM is (evalEs T call es)
  | .aug i op e => augM i op (evalE T call e)
  | .augf o f op e => augfM (evalE T call o) f op (evalE T call e)
  | .expr e => fun env s => (evalE T call e env s).bs env fun _ s1 => .ok (.next env) s1
  | .ret e => fun env s => (evalE T call e env s).bs env fun d s1 => .ok (.ret d) s1
  | .retN => fun _ s => .ok (.ret .non) s
  | .ite t a b => fun env s => (evalT T call t env s).bs env fun c s1 => if c then evalSs a env s1 else evalSs b env s1
  | .whl t b => loopWhl (evalT T call t) (evalSs b) wf
  | .for_ tg it b => forM tg (evalI T call it) (evalSs b)
  | .pass => fun env s => .ok (.next env) s
  | .brk => fun env s => .ok (.brk env) s
  | .cont => fun env s => .ok (.cont env) s
  | .raise c es => raiseM T c (evalEs T call es)
  | .thru b => thruM (evalSs b)
  | .try_ b hs => tryM (evalSs b) (evalHs hs)
  | .never => fun _ _ => .stuck
def evalSs : Sts → MS
  | .nil => fun env s => .ok (.next env) s
  | .cons st sts => fun env s => (evalS st env s).bind fun f s1 => match f with
    | .next env' => evalSs sts env' s1
    | f => .ok f s1
def evalHs : Hds → Env → Nat → List (Nat × D) → Hs → Res Flow
  | .nil => fun env c fs s => .ok (.exc env c fs) s
  | .cons c i b hs => fun env x fs s => nextHd (T.xsup.getD x []) c i (evalSs b) (evalHs hs) env x fs s
end
end

/-! no place within -/
mutual
def noRef : D → Bool
  | .ref _ => false
  | .tup ds => noRefs ds
  | .tl ds => noRefs ds
  | .kl ds => noRefs ds
  | _ => true
def noRefs : List D → Bool
  | [] => true
  | d :: ds => noRef d && noRefs ds
end
/-! places below n -/
mutual
def below (n : Nat) : D → Bool
  | .ref k => decide (k < n)
  | .tup ds => belows n ds
  | .tl ds => belows n ds
  | .kl ds => belows n ds
  | _ => true
def belows (n : Nat) : List D → Bool
  | [] => true
  | d :: ds => below n d && belows n ds
end
def eqFs : List (Nat × D) → List (Nat × D) → Bool
  | [], [] => true
  | (k, x) :: r, (l, y) :: t => decide (k = l) && D.eqb x y && eqFs r t
  | _, _ => false
def eqKs : List (L2.Key × D) → List (L2.Key × D) → Bool
  | [], [] => true
  | (k, x) :: r, (l, y) :: t => decide (k = l) && D.eqb x y && eqKs r t
  | _, _ => false
def GO.eqb : GO → GO → Bool
  | .lst a, .lst b => D.eqbs a b
  | .ins c f, .ins d g => decide (c = d) && eqFs f g
  | .dct f, .dct g => eqKs f g
  | _, _ => false
def eqHs : Hs → Hs → Bool
  | [], [] => true
  | x :: r, y :: t => GO.eqb x y && eqHs r t
  | _, _ => false
theorem eqFs_refl : ∀ f, eqFs f f = true
  | [] => rfl
  | (_, x) :: r => by simp [eqFs, D.eqb_refl x, eqFs_refl r]
theorem eqKs_refl : ∀ f, eqKs f f = true
  | [] => rfl
  | (_, x) :: r => by simp [eqKs, D.eqb_refl x, eqKs_refl r]
theorem GO.eqb_refl : ∀ g, GO.eqb g g = true
  | .lst a => by simp [GO.eqb, D.eqbs_refl]
  | .ins _ f => by simp [GO.eqb, eqFs_refl]
  | .dct f => by simp [GO.eqb, eqKs_refl]
theorem eqHs_refl : ∀ h, eqHs h h = true
  | [] => rfl
  | x :: r => by simp [eqHs, GO.eqb_refl x, eqHs_refl r]
theorem eqFs_eq : ∀ {f g}, eqFs f g = true → f = g
  | [], [], _ => rfl
  | [], _ :: _, h => by simp [eqFs] at h
  | _ :: _, [], h => by simp [eqFs] at h
  | (k, x) :: r, (l, y) :: t, h => by
    simp only [eqFs, Bool.and_eq_true, decide_eq_true_eq] at h
    rw [h.1.1, D.eqb_eq h.1.2, eqFs_eq h.2]
theorem eqKs_eq : ∀ {f g}, eqKs f g = true → f = g
  | [], [], _ => rfl
  | [], _ :: _, h => by simp [eqKs] at h
  | _ :: _, [], h => by simp [eqKs] at h
  | (k, x) :: r, (l, y) :: t, h => by
    simp only [eqKs, Bool.and_eq_true, decide_eq_true_eq] at h
    rw [h.1.1, D.eqb_eq h.1.2, eqKs_eq h.2]
theorem GO.eqb_eq : ∀ {a b}, GO.eqb a b = true → a = b
  | .lst a, .lst b, h => by rw [D.eqbs_eq (show D.eqbs a b = true from h)]
  | .ins c f, .ins d g, h => by
    simp only [GO.eqb, Bool.and_eq_true, decide_eq_true_eq] at h
    rw [h.1, eqFs_eq h.2]
  | .dct f, .dct g, h => by rw [eqKs_eq (show eqKs f g = true from h)]
  | .lst _, .ins _ _, h => by simp [GO.eqb] at h
  | .lst _, .dct _, h => by simp [GO.eqb] at h
  | .ins _ _, .lst _, h => by simp [GO.eqb] at h
  | .ins _ _, .dct _, h => by simp [GO.eqb] at h
  | .dct _, .lst _, h => by simp [GO.eqb] at h
  | .dct _, .ins _ _, h => by simp [GO.eqb] at h
theorem eqHs_eq : ∀ {a b}, eqHs a b = true → a = b
  | [], [], _ => rfl
  | [], _ :: _, h => by simp [eqHs] at h
  | _ :: _, [], h => by simp [eqHs] at h
  | x :: r, y :: t, h => by
    simp only [eqHs, Bool.and_eq_true] at h
    rw [GO.eqb_eq h.1, eqHs_eq h.2]
def belowG (n : Nat) : GO → Bool
  | .lst ds => belows n ds
  | .ins _ fs => fs.all fun p => below n p.2
  | .dct kvs => kvs.all fun p => below n p.2

/-- what a call gives back: what it made is dropped, by the function's flag -/
def back (flag : Nat) (s0 : Hs) (d : D) (s : Hs) : Res D :=
  if flag = 0 then .ok d s
  else if flag = 1 then (if noRef d && eqHs (s.take s0.length) s0 then .ok d s0 else .stuck)
  else if flag = 3 then (match d with
    | .ref n => (match s[n]? with
      | some (.lst ds) => if decide (s0.length ≤ n) && noRefs ds && eqHs (s.take s0.length) s0 then .ok (.tl ds) s0 else .stuck
      | _ => .stuck)
    | _ => .stuck)
  else if decide (s0.length ≤ s.length) && below s0.length d && (s.take s0.length).all (belowG s0.length) then .ok d (s.take s0.length) else .stuck

/-- a call on a heap of its own: nothing old is seen; flag 5: a list at a place is given back by value -/
def backF (flag : Nat) (s0 : Hs) : Res Flow → Res D
  | .ok (.next _) _ => .ok .non s0
  | .ok (.ret d) s1 => if noRef d then .ok d s0 else if flag = 5 then (match d with
    | .ref n => (match s1[n]? with
      | some (.lst ds) => if noRefs ds then .ok (.tl ds) s0 else .stuck
      | _ => .stuck)
    | _ => .stuck) else .stuck
  | .ok (.exc _ c fs) _ => if (fs.all fun p => noRef p.2) then .err c fs s0 else .stuck
  | _ => .stuck
def startE (n : Nat) (ds : List D) : Env := ds.map .has ++ List.replicate (n - ds.length) .no
/-- the k-th level: calls at most k deep -/
def runFn (T : Tb) (wf : Nat) : Nat → Nat → List D → Hs → Res D
  | 0, _, _, _ => .stuck
  | k + 1, g, ds, s => match T.fns[g]? with
    | some f => if ds.length = f.params then
        if 4 ≤ f.flag then (if noRefs ds then backF f.flag s (evalSs T wf (runFn T wf k) f.body (startE f.slots ds) []) else .stuck) else
        match evalSs T wf (runFn T wf k) f.body (startE f.slots ds) s with
        | .ok (.next _) s1 => back f.flag s .non s1
        | .ok (.ret d) s1 => back f.flag s d s1
        | .ok (.exc _ c fs) s1 => .err c fs s1
        | _ => .stuck
      else .stuck
    | none => .stuck
end CN
set_option Elab.async false
set_option maxRecDepth 100000
/-! CnRel: how the interpreter's values and heap stand in the hand layer's. -/
namespace CN
open PySem L2

/-- where the tables stand -/
structure Ad where
  fn : Nat → Option Addr
  cl : Nat → Option Addr
  tb : Nat → Option Addr
  fld : Nat → Str
  /-- exception classes -/
  xc : Nat → Option Addr
  /-- the exception that is handled: its class, its address, its dict -/
  cau : Option (Nat × Addr × Addr)

/-- the places' addresses, and addresses that no value may show -/
structure Mu where
  tr : List Addr
  pv : List Addr
def Mu.has (μ : Mu) (a : Addr) : Prop := a ∈ μ.tr ∨ a ∈ μ.pv
instance : Membership Addr Mu := ⟨Mu.has⟩
def Mu.add (μ : Mu) (p : Addr) : Mu := ⟨μ.tr ++ [p], μ.pv⟩
def Mu.hide (μ : Mu) (p : Addr) : Mu := ⟨μ.tr, p :: μ.pv⟩
theorem Mu.mem_def {μ : Mu} {a : Addr} : a ∈ μ ↔ a ∈ μ.tr ∨ a ∈ μ.pv := Iff.rfl
theorem Mu.mem_tr {μ : Mu} {a : Addr} (h : a ∈ μ.tr) : a ∈ μ := .inl h
theorem Mu.mem_at {μ : Mu} {n : Nat} {a : Addr} (h : μ.tr[n]? = some a) : a ∈ μ := .inl (List.mem_of_getElem? h)
theorem Mu.mem_add {μ : Mu} {p a : Addr} : a ∈ μ.add p ↔ a ∈ μ ∨ a = p := by
  show (a ∈ μ.tr ++ [p] ∨ a ∈ μ.pv) ↔ (a ∈ μ.tr ∨ a ∈ μ.pv) ∨ a = p
  rw [List.mem_append, List.mem_singleton]
  constructor
  · rintro ((h | h) | h)
    · exact .inl (.inl h)
    · exact .inr h
    · exact .inl (.inr h)
  · rintro ((h | h) | h)
    · exact .inl (.inl h)
    · exact .inr h
    · exact .inl (.inr h)
/-- a sequence of the written part -/
def KSeq (K : PySem.W.Frag) (cl : String) (a : Addr) (xs : List V) : Prop :=
  ∃ (o : Obj) (its : Array Value) (n : Nat), K.lookup a = some o ∧ o.cls = .type cl ∧ o.dict = none ∧ o.data = .seq its n ∧ its.size ≤ sizeLine ∧ Vals xs its.toList
def TupR (K : PySem.W.Frag) (μ : Mu) (H : Hp) (a : Addr) (xs : List V) : Prop := (Rd H a (.tup xs) ∧ a ∉ μ) ∨ KSeq K "tuple" a xs
def LstR (μ : Mu) (H : Hp) (a : Addr) (xs : List V) : Prop := Rd H a (.lst xs) ∧ a ∉ μ
theorem TupR.sq {K : PySem.W.Frag} {μ : Mu} {H : Hp} {a : Addr} {xs : List V} (h : TupR K μ H a xs) : SqT K H a xs := by
  rcases h with ⟨h, _⟩ | ⟨o, its, n, h1, h2, h3, h4, h5, h6⟩
  · exact .inl h
  · exact .inr ⟨o, its, n, h1, h2, h4, h5, h6⟩
theorem LstR.sq {K : PySem.W.Frag} {μ : Mu} {H : Hp} {a : Addr} {xs : List V} (h : LstR μ H a xs) : SqL K H a xs := .inl h.1

theorem KSeq.sqL {K : PySem.W.Frag} {H : Hp} {a : Addr} {xs : List V} (h : KSeq K "list" a xs) : SqL K H a xs := by
  obtain ⟨o, its, n, h1, h2, h3, h4, h5, h6⟩ := h
  exact .inr ⟨o, its, n, h1, h2, h3, h4, h5, h6⟩

mutual
inductive DR (K : PySem.W.Frag) (A : Ad) (μ : Mu) (H : Hp) : D → V → Prop where
  | non : DR K A μ H .non .non
  | bl (b : Bool) : DR K A μ H (.bl b) (.bl b)
  | int (i : Int) : DR K A μ H (.int i) (.int i)
  | str (x : Str) : DR K A μ H (.str x) (.str x)
  | tup {ds : List D} {a : Addr} {vs : List V} (h : TupR K μ H a vs) (r : DRs K A μ H ds vs) : DR K A μ H (.tup ds) (.ref a)
  | tl {ds : List D} {a : Addr} {vs : List V} (h : LstR μ H a vs) (r : DRs K A μ H ds vs) : DR K A μ H (.tl ds) (.ref a)
  | kl {ds : List D} {a : Addr} {vs : List V} (h : KSeq K "list" a vs) (r : DRs K A μ H ds vs) : DR K A μ H (.kl ds) (.ref a)
  | ref {n : Nat} {a : Addr} (h : μ.tr[n]? = some a) : DR K A μ H (.ref n) (.ref a)
  | fn {g : Nat} {a : Addr} (h : A.fn g = some a) : DR K A μ H (.fn g) (.ref a)
  | cls {c : Nat} {a : Addr} (h : A.cl c = some a) : DR K A μ H (.cls c) (.ref a)
  | ty (n : String) : DR K A μ H (.ty n) (.ty n)
  | tab {t : Nat} {a : Addr} (h : A.tb t = some a) : DR K A μ H (.tab t) (.ref a)
inductive DRs (K : PySem.W.Frag) (A : Ad) (μ : Mu) (H : Hp) : List D → List V → Prop where
  | nil : DRs K A μ H [] []
  | cons {d : D} {v : V} {ds : List D} {vs : List V} (h : DR K A μ H d v) (r : DRs K A μ H ds vs) : DRs K A μ H (d :: ds) (v :: vs)
end

/-- what a value's description leans on stays -/
structure Mg (μ : Mu) (H : Hp) (μ' : Mu) (H' : Hp) : Prop where
  get : ∀ (n : Nat) (a : Addr), μ.tr[n]? = some a → μ'.tr[n]? = some a
  rd : ∀ (a : Addr) (u : HO), Rd H a u → a ∉ μ → Rd H' a u ∧ a ∉ μ'
  xd : ∀ (a : Addr) (vs : List (Str × V)), H a = some (.xd vs) → a ∉ μ → H' a = some (.xd vs) ∧ a ∉ μ'
/-- what is kept on the way: places are only added, they are new; what bears no place stays -/
structure Mo (μ : Mu) (H : Hp) (μ' : Mu) (H' : Hp) : Prop where
  pre : ∃ l, μ'.tr = μ.tr ++ l
  pv : μ'.pv = μ.pv
  keep : ∀ a o, H a = some o → a ∉ μ.tr → H' a = some o
  fresh : ∀ a, a ∈ μ'.tr → a ∉ μ.tr → H a = none
theorem Mo.refl (μ : Mu) (H : Hp) : Mo μ H μ H := ⟨⟨[], by simp⟩, rfl, fun _ _ h _ => h, fun _ h n => absurd h n⟩
theorem Mo.trans {μ μ1 μ2 : Mu} {H H1 H2 : Hp} (a : Mo μ H μ1 H1) (b : Mo μ1 H1 μ2 H2) : Mo μ H μ2 H2 := by
  have nin : ∀ c o, H c = some o → c ∉ μ.tr → c ∉ μ1.tr := fun c o e n h => by
    rw [a.fresh c h n] at e
    cases e
  refine ⟨?_, b.pv.trans a.pv, fun c o e n => b.keep c o (a.keep c o e n) (nin c o e n), fun c h n => ?_⟩
  · obtain ⟨l, e1⟩ := a.pre
    obtain ⟨l', e2⟩ := b.pre
    exact ⟨l ++ l', by rw [e2, e1]; simp⟩
  · by_cases h1 : c ∈ μ1.tr
    · exact a.fresh c h1 n
    · cases e : H c with
      | none => rfl
      | some o =>
        have := a.keep c o e n
        rw [b.fresh c h h1] at this
        cases this
theorem Mo.get {μ μ' : Mu} {H H' : Hp} (m : Mo μ H μ' H') {n : Nat} {a : Addr} (h : μ.tr[n]? = some a) : μ'.tr[n]? = some a := by
  obtain ⟨l, e⟩ := m.pre
  rw [e, List.getElem?_append_left (List.getElem?_eq_some_iff.mp h).1]
  exact h
theorem Mo.nin {μ μ' : Mu} {H H' : Hp} (m : Mo μ H μ' H') {a : Addr} {o : HO} (h : H a = some o) (n : a ∉ μ) : a ∉ μ' := fun q => by
  rcases q with q | q
  · rw [m.fresh a q fun z => n (.inl z)] at h
    cases h
  · rw [m.pv] at q
    exact n (.inr q)
theorem Mo.rd {μ μ' : Mu} {H H' : Hp} (m : Mo μ H μ' H') {a : Addr} {u : HO} (h : Rd H a u) (n : a ∉ μ) : Rd H' a u ∧ a ∉ μ' := by
  have nt : a ∉ μ.tr := fun z => n (.inl z)
  rcases h with h | ⟨o, h⟩
  · exact ⟨.inl (m.keep a _ h nt), m.nin h n⟩
  · exact ⟨.inr ⟨o, m.keep a _ h nt⟩, m.nin h n⟩
theorem Mo.g {μ μ' : Mu} {H H' : Hp} (m : Mo μ H μ' H') : Mg μ H μ' H' := ⟨fun _ _ => m.get, fun _ _ => m.rd, fun _ _ e n => ⟨m.keep _ _ e fun z => n (.inl z), m.nin e n⟩⟩
/-- an address is hidden -/
theorem Mg.hide {μ : Mu} {H : Hp} {p : Addr} {o : HO} (h : H p = none) : Mg μ H (μ.hide p) (upd H p o) := ⟨fun _ _ e => e, fun a u e n => by
  have ne : a ≠ p := by
    rintro rfl
    rcases e with e | ⟨_, e⟩ <;> (rw [h] at e; cases e)
  refine ⟨?_, fun q => ?_⟩
  · rcases e with e | ⟨o', e⟩
    · exact .inl (by rw [upd_ne ne]; exact e)
    · exact .inr ⟨o', by rw [upd_ne ne]; exact e⟩
  · rcases q with q | q
    · exact n (.inl q)
    · rcases List.mem_cons.mp q with q | q
      · exact ne q
      · exact n (.inr q), fun a vs e n => by
  have ne : a ≠ p := by
    rintro rfl
    rw [h] at e
    cases e
  refine ⟨by rw [upd_ne ne]; exact e, fun q => ?_⟩
  rcases q with q | q
  · exact n (.inl q)
  · rcases List.mem_cons.mp q with q | q
    · exact ne q
    · exact n (.inr q)⟩
theorem Mg.show_ {μ : Mu} {H : Hp} {p : Addr} : Mg (μ.hide p) H μ H := ⟨fun _ _ e => e, fun a u e n => ⟨e, fun q => n (q.elim .inl fun z => .inr (List.mem_cons_of_mem _ z))⟩, fun a vs e n => ⟨e, fun q => n (q.elim .inl fun z => .inr (List.mem_cons_of_mem _ z))⟩⟩
/-- what is hidden changes -/
theorem Mg.over {μ : Mu} {H : Hp} {p : Addr} {o : HO} (h : p ∈ μ.pv) : Mg μ H μ (upd H p o) := ⟨fun _ _ e => e, fun a u e n => by
  have ne : a ≠ p := fun q => n (.inr (by rw [q]; exact h))
  refine ⟨?_, n⟩
  rcases e with e | ⟨o', e⟩
  · exact .inl (by rw [upd_ne ne]; exact e)
  · exact .inr ⟨o', by rw [upd_ne ne]; exact e⟩, fun a vs e n => by
  have ne : a ≠ p := fun q => n (.inr (by rw [q]; exact h))
  exact ⟨by rw [upd_ne ne]; exact e, n⟩⟩
theorem TupR.mono {K : PySem.W.Frag} {μ μ' : Mu} {H H' : Hp} (m : Mg μ H μ' H') {a : Addr} {xs : List V} (h : TupR K μ H a xs) : TupR K μ' H' a xs := by
  rcases h with ⟨h, n⟩ | h
  · exact .inl (m.rd a _ h n)
  · exact .inr h
theorem LstR.mono {μ μ' : Mu} {H H' : Hp} (m : Mg μ H μ' H') {a : Addr} {xs : List V} (h : LstR μ H a xs) : LstR μ' H' a xs := m.rd a _ h.1 h.2
section
variable {K : PySem.W.Frag} {A : Ad} {μ μ' : Mu} {H H' : Hp}
mutual
theorem DR.monog (m : Mg μ H μ' H') : ∀ {d : D} {v : V}, DR K A μ H d v → DR K A μ' H' d v
  | _, _, .non => .non
  | _, _, .bl b => .bl b
  | _, _, .int i => .int i
  | _, _, .str x => .str x
  | _, _, .tup h r => .tup (h.mono m) (DRs.monog m r)
  | _, _, .tl h r => .tl (h.mono m) (DRs.monog m r)
  | _, _, .kl h r => .kl h (DRs.monog m r)
  | _, _, .ref h => .ref (m.get _ _ h)
  | _, _, .fn h => .fn h
  | _, _, .cls h => .cls h
  | _, _, .ty n => .ty n
  | _, _, .tab h => .tab h
theorem DRs.monog (m : Mg μ H μ' H') : ∀ {ds : List D} {vs : List V}, DRs K A μ H ds vs → DRs K A μ' H' ds vs
  | _, _, .nil => .nil
  | _, _, .cons h r => .cons (DR.monog m h) (DRs.monog m r)
end
theorem DR.mono (m : Mo μ H μ' H') {d : D} {v : V} (h : DR K A μ H d v) : DR K A μ' H' d v := h.monog m.g
theorem DRs.mono (m : Mo μ H μ' H') {d : List D} {v : List V} (h : DRs K A μ H d v) : DRs K A μ' H' d v := h.monog m.g
theorem DRs.length : ∀ {ds : List D} {vs : List V}, DRs K A μ H ds vs → vs.length = ds.length
  | _, _, .nil => rfl
  | _, _, .cons _ r => by rw [List.length_cons, List.length_cons, DRs.length r]
theorem DRs.get : ∀ {ds : List D} {vs : List V} {i : Nat} {d : D}, DRs K A μ H ds vs → ds[i]? = some d → ∃ v, vs[i]? = some v ∧ DR K A μ H d v
  | _, _, _, _, .nil, e => by simp at e
  | _, _, 0, d, .cons h _, e => by simp at e; subst e; exact ⟨_, rfl, h⟩
  | _, _, i + 1, d, .cons _ r, e => by
    obtain ⟨v, h1, h2⟩ := DRs.get (i := i) r (by simpa using e)
    exact ⟨v, by simpa using h1, h2⟩
theorem DRs.append : ∀ {ds es : List D} {vs ws : List V}, DRs K A μ H ds vs → DRs K A μ H es ws → DRs K A μ H (ds ++ es) (vs ++ ws)
  | _, _, _, _, .nil, q => q
  | _, _, _, _, .cons h r, q => .cons h (DRs.append r q)
theorem DRs.take : ∀ {ds : List D} {vs : List V} (n : Nat), DRs K A μ H ds vs → DRs K A μ H (ds.take n) (vs.take n)
  | _, _, 0, _ => by simp; exact .nil
  | _, _, _ + 1, .nil => .nil
  | _, _, n + 1, .cons h r => .cons h (DRs.take n r)
theorem DRs.drop : ∀ {ds : List D} {vs : List V} (n : Nat), DRs K A μ H ds vs → DRs K A μ H (ds.drop n) (vs.drop n)
  | _, _, 0, q => q
  | _, _, _ + 1, .nil => .nil
  | _, _, n + 1, .cons _ r => DRs.drop n r
theorem DRs.set : ∀ {ds : List D} {vs : List V} {d : D} {v : V} (j : Nat), DRs K A μ H ds vs → DR K A μ H d v → DRs K A μ H (ds.set j d) (vs.set j v)
  | _, _, _, _, _, .nil, _ => .nil
  | _, _, _, _, 0, .cons _ r, q => .cons q r
  | _, _, _, _, j + 1, .cons h r, q => .cons h (DRs.set j r q)
theorem DRs.cut {ds : List D} {vs : List V} (lo hi : Option Int) (r : DRs K A μ H ds vs) : DRs K A μ H (CN.cut ds lo hi) (cutV vs lo hi) := by
  unfold CN.cut cutV
  rw [r.length]
  exact (r.drop _).take _
theorem DRs.rep {ds : List D} {vs : List V} (r : DRs K A μ H ds vs) : ∀ k : Nat, DRs K A μ H (List.replicate k ds).flatten (List.replicate k vs).flatten
  | 0 => .nil
  | k + 1 => by
    rw [List.replicate_succ, List.replicate_succ, List.flatten_cons, List.flatten_cons]
    exact r.append (DRs.rep r k)
theorem DRs.dropLast : ∀ {ds : List D} {vs : List V}, DRs K A μ H ds vs → DRs K A μ H ds.dropLast vs.dropLast := fun {ds vs} r => by
  rw [List.dropLast_eq_take, List.dropLast_eq_take, r.length]
  exact r.take _
theorem DRs.atI {ds : List D} {vs : List V} {i : Int} {d : D} (r : DRs K A μ H ds vs) (h : L2.atI ds i = some d) : ∃ v, L2.atI vs i = some v ∧ DR K A μ H d v := by
  unfold L2.atI at h ⊢
  rw [r.length]
  cases e : L2.ixN ds.length i with
  | none => rw [e] at h; cases h
  | some j =>
    rw [e] at h
    exact r.get h
theorem DRs.strs : ∀ (xs : List Str), DRs K A μ H (xs.map D.str) (xs.map V.str)
  | [] => .nil
  | x :: xs => .cons (.str x) (DRs.strs xs)
theorem DRs.ints : ∀ (xs : List Int), DRs K A μ H (xs.map D.int) (xs.map V.int)
  | [] => .nil
  | x :: xs => .cons (.int x) (DRs.ints xs)
end

inductive FR (K : PySem.W.Frag) (A : Ad) (μ : Mu) (H : Hp) : List (Nat × D) → List (Str × V) → Prop where
  | nil : FR K A μ H [] []
  | cons {f : Nat} {d : D} {v : V} {fs : List (Nat × D)} {vs : List (Str × V)} (h : DR K A μ H d v) (r : FR K A μ H fs vs) : FR K A μ H ((f, d) :: fs) ((A.fld f, v) :: vs)
inductive KR (K : PySem.W.Frag) (A : Ad) (μ : Mu) (H : Hp) : List (Key × D) → List (Key × V) → Prop where
  | nil : KR K A μ H [] []
  | cons {k : Key} {d : D} {v : V} {fs : List (Key × D)} {vs : List (Key × V)} (h : DR K A μ H d v) (r : KR K A μ H fs vs) : KR K A μ H ((k, d) :: fs) ((k, v) :: vs)
inductive OR (K : PySem.W.Frag) (A : Ad) (μ : Mu) (H : Hp) : GO → HO → Prop where
  | lst {ds : List D} {vs : List V} (r : DRs K A μ H ds vs) : OR K A μ H (.lst ds) (.lst vs)
  | ins {c : Nat} {C dx : Addr} {fs : List (Nat × D)} {vs : List (Str × V)} (h : A.cl c = some C) (r : FR K A μ H fs vs) : OR K A μ H (.ins c fs) (.ins C dx vs)
  | dct {kvs : List (Key × D)} {vs : List (Key × V)} (r : KR K A μ H kvs vs) : OR K A μ H (.dct kvs) (.dK vs)
section
variable {K : PySem.W.Frag} {A : Ad} {μ μ' : Mu} {H H' : Hp}
theorem FR.monog (m : Mg μ H μ' H') : ∀ {fs : List (Nat × D)} {vs : List (Str × V)}, FR K A μ H fs vs → FR K A μ' H' fs vs
  | _, _, .nil => .nil
  | _, _, .cons h r => .cons (h.monog m) (FR.monog m r)
theorem KR.monog (m : Mg μ H μ' H') : ∀ {fs : List (Key × D)} {vs : List (Key × V)}, KR K A μ H fs vs → KR K A μ' H' fs vs
  | _, _, .nil => .nil
  | _, _, .cons h r => .cons (h.monog m) (KR.monog m r)
theorem OR.monog (m : Mg μ H μ' H') : ∀ {g : GO} {o : HO}, OR K A μ H g o → OR K A μ' H' g o
  | _, _, .lst r => .lst (r.monog m)
  | _, _, .ins h r => .ins h (r.monog m)
  | _, _, .dct r => .dct (r.monog m)
theorem FR.mono (m : Mo μ H μ' H') {fs : List (Nat × D)} {vs : List (Str × V)} (h : FR K A μ H fs vs) : FR K A μ' H' fs vs := h.monog m.g
theorem OR.mono (m : Mo μ H μ' H') {g : GO} {o : HO} (h : OR K A μ H g o) : OR K A μ' H' g o := h.monog m.g
theorem FR.length : ∀ {fs : List (Nat × D)} {vs : List (Str × V)}, FR K A μ H fs vs → vs.length = fs.length
  | _, _, .nil => rfl
  | _, _, .cons _ r => by rw [List.length_cons, List.length_cons, FR.length r]
theorem FR.look (inj : ∀ f g, A.fld f = A.fld g → f = g) {f : Nat} : ∀ {fs : List (Nat × D)} {vs : List (Str × V)} {d : D}, FR K A μ H fs vs → fs.lookup f = some d → ∃ v, vs.lookup (A.fld f) = some v ∧ DR K A μ H d v
  | _, _, _, .nil, e => by simp at e
  | _, _, d, .cons (f := g) h r, e => by
    by_cases q : f = g
    · subst q
      simp only [List.lookup, beq_self_eq_true] at e ⊢
      cases e
      exact ⟨_, rfl, h⟩
    · have q1 : (f == g) = false := by simpa using q
      have q2 : (A.fld f == A.fld g) = false := by simpa using fun z => q (inj _ _ z)
      simp only [List.lookup, q1] at e
      simp only [List.lookup, q2]
      exact FR.look inj r e
theorem FR.no {x : Str} (hx : ∀ f, A.fld f ≠ x) : ∀ {fs : List (Nat × D)} {vs : List (Str × V)}, FR K A μ H fs vs → vs.lookup x = none
  | _, _, .nil => rfl
  | _, _, .cons (f := g) h r => by
    have q2 : (x == A.fld g) = false := by simpa using fun z => hx g z.symm
    simp only [List.lookup, q2]
    exact FR.no hx r
theorem FR.put (inj : ∀ f g, A.fld f = A.fld g → f = g) {f : Nat} {d : D} {v : V} (q : DR K A μ H d v) : ∀ {fs : List (Nat × D)} {vs : List (Str × V)}, FR K A μ H fs vs → FR K A μ H (putN f d fs) (putF (A.fld f) v vs)
  | _, _, .nil => .cons q .nil
  | _, _, .cons (f := g) h r => by
    unfold putN putF
    by_cases e : g = f
    · subst e
      rw [if_pos rfl, if_pos rfl]
      exact .cons q r
    · rw [if_neg e, if_neg (fun z => e (inj _ _ z))]
      exact .cons h (FR.put inj q r)
theorem KR.look {k : Key} : ∀ {fs : List (Key × D)} {vs : List (Key × V)} {d : D}, KR K A μ H fs vs → fs.lookup k = some d → ∃ v, vs.lookup k = some v ∧ DR K A μ H d v
  | _, _, _, .nil, e => by simp at e
  | _, _, d, .cons (k := g) h r, e => by
    by_cases q : (k == g) = true
    · simp only [List.lookup, q] at e ⊢
      cases e
      exact ⟨_, rfl, h⟩
    · have q1 : (k == g) = false := by simpa using q
      simp only [List.lookup, q1] at e ⊢
      exact KR.look r e
end

structure HR (K : PySem.W.Frag) (A : Ad) (μ : Mu) (S : Hs) (H : Hp) : Prop where
  nd : μ.tr.Nodup
  len : μ.tr.length = S.length
  obj : ∀ (n : Nat) (o : GO) (a : Addr), S[n]? = some o → μ.tr[n]? = some a → ∃ ho, H a = some ho ∧ OR K A μ H o ho
  pvt : ∀ a, a ∈ μ.pv → ∃ o, H a = some o
  pvn : ∀ a, a ∈ μ.pv → a ∉ μ.tr
section
variable {K : PySem.W.Frag} {A : Ad} {μ μ' : Mu} {S : Hs} {H H' : Hp}
theorem HR.there (R : HR K A μ S H) {a : Addr} (h : a ∈ μ) : ∃ o, H a = some o := by
  rcases h with h | h
  · obtain ⟨n, hn, e⟩ := List.mem_iff_getElem.mp h
    have hs : n < S.length := by rw [← R.len]; exact hn
    obtain ⟨ho, h1, _⟩ := R.obj n S[n] a (List.getElem?_eq_getElem hs) (by rw [List.getElem?_eq_getElem hn, e])
    exact ⟨ho, h1⟩
  · exact R.pvt a h
theorem HR.nin (R : HR K A μ S H) {p : Addr} (h : H p = none) : p ∉ μ := fun q => by
  obtain ⟨o, e⟩ := R.there q
  rw [h] at e
  cases e
theorem HR.nint (R : HR K A μ S H) {p : Addr} (h : H p = none) : p ∉ μ.tr := fun q => R.nin h (.inl q)
/-- something new that bears no place -/
theorem Mo.new {p : Addr} {o : HO} (h : H p = none) : Mo μ H μ (upd H p o) := ⟨⟨[], by simp⟩, rfl, fun a u e _ => by rw [upd_ne (ne_of_none e h)]; exact e, fun a h1 h2 => absurd h1 h2⟩
theorem HR.new (R : HR K A μ S H) {p : Addr} {o : HO} (h : H p = none) : HR K A μ S (upd H p o) := ⟨R.nd, R.len, fun n g a e1 e2 => by
  obtain ⟨ho, h1, h2⟩ := R.obj n g a e1 e2
  exact ⟨ho, by rw [upd_ne (ne_of_none h1 h)]; exact h1, h2.mono (Mo.new h)⟩, fun a ha => by
  obtain ⟨u, hu⟩ := R.pvt a ha
  exact ⟨u, by rw [upd_ne (ne_of_none hu h)]; exact hu⟩, R.pvn⟩
/-- .. that is hidden -/
theorem HR.hide (R : HR K A μ S H) {p : Addr} {o : HO} (h : H p = none) : HR K A (μ.hide p) S (upd H p o) := ⟨R.nd, R.len, fun n g a e1 e2 => by
  obtain ⟨ho, h1, h2⟩ := R.obj n g a e1 e2
  exact ⟨ho, by rw [upd_ne (ne_of_none h1 h)]; exact h1, h2.monog (Mg.hide h)⟩, fun a ha => by
  rcases List.mem_cons.mp ha with rfl | ha
  · exact ⟨o, upd_same⟩
  · obtain ⟨u, hu⟩ := R.pvt a ha
    exact ⟨u, by rw [upd_ne (ne_of_none hu h)]; exact hu⟩, fun a ha => by
  rcases List.mem_cons.mp ha with rfl | ha
  · exact R.nint h
  · exact R.pvn a ha⟩
theorem HR.show_ {p : Addr} (R : HR K A (μ.hide p) S H) : HR K A μ S H := ⟨R.nd, R.len, fun n g a e1 e2 => by
  obtain ⟨ho, h1, h2⟩ := R.obj n g a e1 e2
  exact ⟨ho, h1, h2.monog Mg.show_⟩, fun a ha => R.pvt a (List.mem_cons_of_mem _ ha), fun a ha => R.pvn a (List.mem_cons_of_mem _ ha)⟩
theorem HR.over (R : HR K A μ S H) {p : Addr} {o : HO} (h : p ∈ μ.pv) : HR K A μ S (upd H p o) := ⟨R.nd, R.len, fun n g a e1 e2 => by
  obtain ⟨ho, h1, h2⟩ := R.obj n g a e1 e2
  have ne : a ≠ p := fun q => R.pvn p h (by rw [← q]; exact List.mem_of_getElem? e2)
  exact ⟨ho, by rw [upd_ne ne]; exact h1, h2.monog (Mg.over h)⟩, fun a ha => by
  by_cases e : a = p
  · subst e; exact ⟨o, upd_same⟩
  · obtain ⟨u, hu⟩ := R.pvt a ha
    exact ⟨u, by rw [upd_ne e]; exact hu⟩, R.pvn⟩
/-- a new object at a new place -/
theorem Mo.place {p : Addr} {o : HO} (h : H p = none) : Mo μ H (μ.add p) (upd H p o) := ⟨⟨[p], rfl⟩, rfl, fun a u e _ => by rw [upd_ne (ne_of_none e h)]; exact e, fun a h1 h2 => by
  rcases List.mem_append.mp h1 with q | q
  · exact absurd q h2
  · rw [List.mem_singleton.mp q]; exact h⟩
theorem Mu.add_at (R : HR K A μ S H) {p : Addr} : (μ.add p).tr[S.length]? = some p := by
  show (μ.tr ++ [p])[S.length]? = some p
  rw [List.getElem?_append_right (by rw [R.len]; exact Nat.le_refl _), R.len, Nat.sub_self]
  rfl
theorem HR.place (R : HR K A μ S H) {p : Addr} {o : HO} {g : GO} (h : H p = none) (r : OR K A μ H g o) : HR K A (μ.add p) (S ++ [g]) (upd H p o) := by
  have M := Mo.place (μ := μ) (o := o) h
  refine ⟨?_, by show (μ.tr ++ [p]).length = _; rw [List.length_append, List.length_append, R.len]; rfl, fun n u a e1 e2 => ?_, fun a ha => ?_, fun a ha => ?_⟩
  · show (μ.tr ++ [p]).Nodup
    rw [List.nodup_append]
    refine ⟨R.nd, by simp, fun a h1 b h2 => ?_⟩
    rw [List.mem_singleton.mp h2]
    intro e
    exact R.nint h (e ▸ h1)
  · replace e2 : (μ.tr ++ [p])[n]? = some a := e2
    by_cases hn : n < S.length
    · rw [List.getElem?_append_left hn] at e1
      rw [List.getElem?_append_left (by rw [R.len]; exact hn)] at e2
      obtain ⟨ho, h1, h2⟩ := R.obj n u a e1 e2
      exact ⟨ho, by rw [upd_ne (ne_of_none h1 h)]; exact h1, h2.mono M⟩
    · have hn1 : n = S.length := by
        have := (List.getElem?_eq_some_iff.mp e1).1
        rw [List.length_append, List.length_singleton] at this
        omega
      subst hn1
      rw [List.getElem?_append_right (Nat.le_refl _), Nat.sub_self] at e1
      rw [List.getElem?_append_right (by rw [R.len]; exact Nat.le_refl _), R.len, Nat.sub_self] at e2
      cases e1
      cases e2
      exact ⟨o, upd_same, r.mono M⟩
  · obtain ⟨u, hu⟩ := R.pvt a ha
    exact ⟨u, by rw [upd_ne (ne_of_none hu h)]; exact hu⟩
  · intro q
    rcases List.mem_append.mp q with q | q
    · exact R.pvn a ha q
    · obtain ⟨u, hu⟩ := R.pvt a ha
      rw [List.mem_singleton.mp q, h] at hu
      cases hu
/-- a write at a place -/
theorem Mo.write {p : Addr} {o : HO} (h : p ∈ μ.tr) : Mo μ H μ (upd H p o) := ⟨⟨[], by simp⟩, rfl, fun a u e n => by rw [upd_ne (fun q : a = p => n (by rw [q]; exact h))]; exact e, fun a h1 h2 => absurd h1 h2⟩
theorem HR.write (R : HR K A μ S H) {n : Nat} {p : Addr} {o : HO} {g : GO} (h : μ.tr[n]? = some p) (r : OR K A μ H g o) : HR K A μ (S.set n g) (upd H p o) := by
  have hm : p ∈ μ.tr := List.mem_of_getElem? h
  have M : Mo μ H μ (upd H p o) := Mo.write hm
  refine ⟨R.nd, by rw [List.length_set]; exact R.len, fun j u a e1 e2 => ?_, fun a ha => ?_, R.pvn⟩
  · by_cases e : j = n
    · subst e
      rw [h] at e2
      cases e2
      have hl : j < S.length := by rw [← R.len]; exact (List.getElem?_eq_some_iff.mp h).1
      rw [List.getElem?_set_self hl] at e1
      cases e1
      exact ⟨o, upd_same, r.mono M⟩
    · rw [List.getElem?_set_ne (Ne.symm e)] at e1
      obtain ⟨ho, h1, h2⟩ := R.obj j u a e1 e2
      have ne : a ≠ p := fun q => e (by
        subst q
        obtain ⟨l1, q1⟩ := List.getElem?_eq_some_iff.mp e2
        obtain ⟨l2, q2⟩ := List.getElem?_eq_some_iff.mp h
        exact (List.getElem_inj R.nd).mp (q1.trans q2.symm))
      exact ⟨ho, by rw [upd_ne ne]; exact h1, h2.mono M⟩
  · have ne : a ≠ p := fun q => R.pvn a ha (by rw [q]; exact hm)
    obtain ⟨u, hu⟩ := R.pvt a ha
    exact ⟨u, by rw [upd_ne ne]; exact hu⟩
end

/-- a slot -/
def SlotR (K : PySem.W.Frag) (A : Ad) (μ : Mu) (H : Hp) : Sl → Option V → Prop
  | .no, _ => True
  | .has d, o => ∃ v, o = some v ∧ DR K A μ H d v
  | .xc c fs, o => ∃ (a dd : Addr) (vs : List (Str × V)), A.cau = some (c, a, dd) ∧ o = some (.ref a) ∧ H dd = some (.xd vs) ∧ dd ∉ μ ∧ FR K A μ H fs vs
theorem SlotR.monog {K : PySem.W.Frag} {A : Ad} {μ μ' : Mu} {H H' : Hp} (m : Mg μ H μ' H') : ∀ {x : Sl} {o : Option V}, SlotR K A μ H x o → SlotR K A μ' H' x o
  | .no, _, _ => True.intro
  | .has _, _, ⟨v, e, r⟩ => ⟨v, e, r.monog m⟩
  | .xc _ _, _, ⟨a, dd, vs, h1, h2, h3, h4, r⟩ => ⟨a, dd, vs, h1, h2, (m.xd _ _ h3 h4).1, (m.xd _ _ h3 h4).2, r.monog m⟩
/-- the slots -/
structure ER (K : PySem.W.Frag) (A : Ad) (μ : Mu) (H : Hp) (env : Env) (σ : L2.St) : Prop where
  len : env.length = σ.length
  sl : ∀ (i : Nat) (x : Sl), env[i]? = some x → ∃ o, σ[i]? = some o ∧ SlotR K A μ H x o
section
variable {K : PySem.W.Frag} {A : Ad} {μ μ' : Mu} {H H' : Hp} {env : Env} {σ : L2.St}
theorem ER.at_ (E : ER K A μ H env σ) : ∀ (i : Nat) (d : D), env[i]? = some (.has d) → ∃ v, σ[i]? = some (some v) ∧ DR K A μ H d v := fun i d e => by
  obtain ⟨o, h1, v, rfl, r⟩ := E.sl i _ e
  exact ⟨v, h1, r⟩
theorem ER.monog (m : Mg μ H μ' H') (E : ER K A μ H env σ) : ER K A μ' H' env σ := ⟨E.len, fun i d e => by
  obtain ⟨v, h1, h2⟩ := E.sl i d e
  exact ⟨v, h1, h2.monog m⟩⟩
theorem ER.mono (m : Mo μ H μ' H') (E : ER K A μ H env σ) : ER K A μ' H' env σ := E.monog m.g
theorem ER.setS (E : ER K A μ H env σ) {i : Nat} {x : Sl} {o : Option V} (r : SlotR K A μ H x o) : ER K A μ H (env.set i x) (σ.set i o) := ⟨by rw [List.length_set, List.length_set]; exact E.len, fun j e h => by
  by_cases q : j = i
  · subst q
    have hl : j < env.length := by
      have := (List.getElem?_eq_some_iff.mp h).1
      rwa [List.length_set] at this
    rw [List.getElem?_set_self hl] at h
    cases h
    exact ⟨o, List.getElem?_set_self (by rw [← E.len]; exact hl), r⟩
  · rw [List.getElem?_set_ne (Ne.symm q)] at h
    obtain ⟨u, h1, h2⟩ := E.sl j e h
    exact ⟨u, by rw [List.getElem?_set_ne (Ne.symm q)]; exact h1, h2⟩⟩
theorem ER.set (E : ER K A μ H env σ) {i : Nat} {d : D} {v : V} (r : DR K A μ H d v) : ER K A μ H (env.set i (.has d)) (σ.set i (some v)) := E.setS ⟨v, rfl, r⟩
theorem ER.unset (E : ER K A μ H env σ) (i : Nat) : ER K A μ H (env.set i .no) (σ.set i none) := E.setS True.intro
theorem ER.wipe (E : ER K A μ H env σ) : ∀ own : List Nat, ER K A μ H (wipeE env own) (wipe σ own)
  | [] => E
  | i :: own => (ER.wipe E own).unset i
end
/-! ### another handled exception -/
abbrev Ad.with (A : Ad) (c : Option (Nat × Addr × Addr)) : Ad := { A with cau := c }
section
variable {K : PySem.W.Frag} {A : Ad} {μ : Mu} {H : Hp} {c c' : Option (Nat × Addr × Addr)}
mutual
theorem DR.with : ∀ {d : D} {v : V}, DR K (A.with c) μ H d v → DR K (A.with c') μ H d v
  | _, _, .non => .non
  | _, _, .bl b => .bl b
  | _, _, .int i => .int i
  | _, _, .str x => .str x
  | _, _, .tup h r => .tup h (DRs.with r)
  | _, _, .tl h r => .tl h (DRs.with r)
  | _, _, .kl h r => .kl h (DRs.with r)
  | _, _, .ref h => .ref h
  | _, _, .fn h => .fn h
  | _, _, .cls h => .cls h
  | _, _, .ty n => .ty n
  | _, _, .tab h => .tab h
theorem DRs.with : ∀ {ds : List D} {vs : List V}, DRs K (A.with c) μ H ds vs → DRs K (A.with c') μ H ds vs
  | _, _, .nil => .nil
  | _, _, .cons h r => .cons (DR.with h) (DRs.with r)
end
theorem FR.with : ∀ {fs : List (Nat × D)} {vs : List (Str × V)}, FR K (A.with c) μ H fs vs → FR K (A.with c') μ H fs vs
  | _, _, .nil => .nil
  | _, _, .cons h r => .cons h.with (FR.with r)
theorem KR.with : ∀ {fs : List (Key × D)} {vs : List (Key × V)}, KR K (A.with c) μ H fs vs → KR K (A.with c') μ H fs vs
  | _, _, .nil => .nil
  | _, _, .cons h r => .cons h.with (KR.with r)
theorem OR.with : ∀ {g : GO} {o : HO}, OR K (A.with c) μ H g o → OR K (A.with c') μ H g o
  | _, _, .lst r => .lst r.with
  | _, _, .ins h r => .ins h r.with
  | _, _, .dct r => .dct r.with
theorem HR.with {S : Hs} (R : HR K (A.with c) μ S H) : HR K (A.with c') μ S H := ⟨R.nd, R.len, fun n g a e1 e2 => by
  obtain ⟨ho, h1, h2⟩ := R.obj n g a e1 e2
  exact ⟨ho, h1, h2.with⟩, R.pvt, R.pvn⟩
theorem clr_at {env : Env} {i : Nat} {x : Sl} (h : (clr env)[i]? = some x) : x = .no ∨ ∃ d, x = .has d ∧ env[i]? = some (.has d) := by
  unfold clr at h
  rw [List.getElem?_map] at h
  cases e : env[i]? with
  | none => rw [e] at h; cases h
  | some y =>
    rw [e] at h
    cases y with
    | no => cases h; exact .inl rfl
    | has d => cases h; exact .inr ⟨d, rfl, rfl⟩
    | xc c fs => cases h; exact .inl rfl
/-- what was handled is forgotten -/
theorem ER.clr {env : Env} {σ : L2.St} (E : ER K (A.with c) μ H env σ) : ER K (A.with c') μ H (CN.clr env) σ := ⟨by unfold CN.clr; rw [List.length_map]; exact E.len, fun i x e => by
  have hi : i < σ.length := by
    have := (List.getElem?_eq_some_iff.mp e).1
    unfold CN.clr at this
    rw [List.length_map] at this
    rw [← E.len]
    exact this
  rcases clr_at e with rfl | ⟨d, rfl, e2⟩
  · exact ⟨σ[i], List.getElem?_eq_getElem hi, True.intro⟩
  · obtain ⟨v, h1, h2⟩ := E.at_ i d e2
    exact ⟨some v, h1, v, rfl, h2.with⟩⟩
theorem ER.with0 {env : Env} {σ : L2.St} (E : ER K (A.with none) μ H env σ) : ER K (A.with c') μ H env σ := ⟨E.len, fun i x e => by
  obtain ⟨o, h1, h2⟩ := E.sl i x e
  refine ⟨o, h1, ?_⟩
  cases x with
  | no => exact True.intro
  | has d => obtain ⟨v, e1, r⟩ := h2; exact ⟨v, e1, r.with⟩
  | xc c fs => obtain ⟨a, dd, vs, q, _⟩ := h2; cases q⟩
end
end CN
set_option Elab.async false
set_option linter.all false
set_option maxRecDepth 100000
/-! CnJudge: what the interpreter's answer says of a state; the readings it makes. -/
namespace CN
open PySem L2

/-- an exception of a class of the program, its fields in its own dict -/
inductive XR (K : PySem.W.Frag) (A : Ad) (μ : Mu) (H : Hp) : Nat → List (Nat × D) → Value → Option Addr → Prop where
  | mk {c : Nat} {fs : List (Nat × D)} {C d : Addr} {vs : List (Str × V)} (hc : A.xc c = some C) (hd : H d = some (.xd vs)) (hn : d ∉ μ) (r : FR K A μ H fs vs) : XR K A μ H c fs (.ref C) (some d)
theorem XR.mono {K : PySem.W.Frag} {A : Ad} {μ μ' : Mu} {H H' : Hp} (m : Mo μ H μ' H') {c : Nat} {fs : List (Nat × D)} {cl : Value} {dx : Option Addr} (h : XR K A μ H c fs cl dx) : XR K A μ' H' c fs cl dx := by
  obtain ⟨hc, hd, hn, r⟩ := h
  exact ⟨hc, m.keep _ _ hd fun z => hn (.inl z), m.nin hd hn, r.mono m⟩

abbrev Rl (α β : Type) := Mu → Hp → α → β → Prop
/-- what an answer asks of what comes behind -/
def Post {α β : Type} (Re : Rl α β) (K : PySem.W.Frag) (A : Ad) (W : WX) (σ : L2.St) (μ : Mu) (H : Hp) (Q : β → Hp → Prop) : Res α → Prop
  | .stuck => False
  | .ok a S => ∀ b μ' H', Re μ' H' a b → HR K A μ' S H' → Mo μ H μ' H' → Q b H'
  | .err c fs S => ∀ cl dx μ' H', XR K A μ' H' c fs cl dx → HR K A μ' S H' → Mo μ H μ' H' → W cl dx σ H'
theorem Post.base {α β : Type} {Re : Rl α β} {K : PySem.W.Frag} {A : Ad} {W : WX} {σ : L2.St} {μ μ' : Mu} {H H' : Hp} {Q : β → Hp → Prop} {r : Res α} (m : Mo μ H μ' H') (h : Post Re K A W σ μ H Q r) : Post Re K A W σ μ' H' Q r := by
  cases r with
  | stuck => exact h
  | ok a S => exact fun b μ2 H2 r R M => h b μ2 H2 r R (m.trans M)
  | err c fs S => exact fun cl dx μ2 H2 r R M => h cl dx μ2 H2 r R (m.trans M)
theorem Post.imp {α β : Type} {Re : Rl α β} {K : PySem.W.Frag} {A : Ad} {W : WX} {σ : L2.St} {μ : Mu} {H : Hp} {Q Q' : β → Hp → Prop} {r : Res α} (h : Post Re K A W σ μ H Q r) (q : ∀ b H', Q b H' → Q' b H') : Post Re K A W σ μ H Q' r := by
  cases r with
  | stuck => exact h
  | ok a S => exact fun b μ2 H2 r R M => q _ _ (h b μ2 H2 r R M)
  | err c fs S => exact h
/-- the reading of an answer -/
def Rd1 {α β : Type} (Re : Rl α β) (K : PySem.W.Frag) (A : Ad) (W : WX) (m : Env → Hs → Res α) (σ : L2.St) (H : Hp) (Q : β → Hp → Prop) : Prop :=
  ∃ (env : Env) (S : Hs) (μ : Mu), ER K A μ H env σ ∧ HR K A μ S H ∧ Post Re K A W σ μ H Q (m env S)
abbrev ReD (K : PySem.W.Frag) (A : Ad) : Rl D V := fun μ H d v => DR K A μ H d v
abbrev ReDs (K : PySem.W.Frag) (A : Ad) : Rl (List D) (List V) := fun μ H d v => DRs K A μ H d v
abbrev ReB : Rl Bool Bool := fun _ _ a b => a = b
abbrev ReI : Rl (Option Int) (Option Int) := fun _ _ a b => a = b
abbrev TEo (K : PySem.W.Frag) (A : Ad) (W : WX) (m : Env → Hs → Res D) : TE := Rd1 (ReD K A) K A W m
abbrev TTo (K : PySem.W.Frag) (A : Ad) (W : WX) (m : Env → Hs → Res Bool) : TT := Rd1 ReB K A W m
abbrev TAo (K : PySem.W.Frag) (A : Ad) (W : WX) (m : Env → Hs → Res (List D)) : TA := Rd1 (ReDs K A) K A W m

section
variable {K : PySem.W.Frag} {A : Ad} {W : WX} {σ : L2.St} {μ : Mu} {H : Hp} {env : Env} {S : Hs}
/-- one answer after another -/
theorem seq {α β γ δ : Type} {Re : Rl α β} {Rf : Rl γ δ} {m : Env → Hs → Res α} {f : α → Hs → Res γ} {Q : δ → Hp → Prop} {k : β → Hp → Prop} (E : ER K A μ H env σ) (R : HR K A μ S H) (h : Post Rf K A W σ μ H Q ((m env S).bind f))
    (hk : ∀ a S1 b μ1 H1, m env S = .ok a S1 → Re μ1 H1 a b → HR K A μ1 S1 H1 → ER K A μ1 H1 env σ → Mo μ H μ1 H1 → Post Rf K A W σ μ1 H1 Q (f a S1) → k b H1) : Rd1 Re K A W m σ H k := by
  refine ⟨env, S, μ, E, R, ?_⟩
  cases e : m env S with
  | stuck => rw [e] at h; exact h
  | ok a S1 =>
    rw [e] at h
    exact fun b μ1 H1 r R1 M => hk a S1 b μ1 H1 e r R1 (E.mono M) M (h.base M)
  | err c fs S1 => rw [e] at h; exact h
theorem Post.of {α β : Type} {Re : Rl α β} {Q : β → Hp → Prop} {o : Option α} (h : Post Re K A W σ μ H Q (Res.of o S)) : ∃ a, o = some a ∧ ∀ b μ' H', Re μ' H' a b → HR K A μ' S H' → Mo μ H μ' H' → Q b H' := by
  cases o with
  | none => exact h.elim
  | some a => exact ⟨a, rfl, h⟩
end

section
variable {X : Cx} {e : Expr}
theorem PE.imp {t t' : TE} (h : PE X e t) (f : ∀ σ H Q, t' σ H Q → t σ H Q) : PE X e t' := ⟨fun pins s σ H Q I q => h.run pins s σ H Q I (f σ H Q q)⟩
theorem PE.by_ {t' : TE} (f : ∀ σ H Q, t' σ H Q → ∃ t, PE X e t ∧ t σ H Q) : PE X e t' := ⟨fun pins s σ H Q I q => by
  obtain ⟨t, h, z⟩ := f σ H Q q
  exact h.run pins s σ H Q I z⟩
theorem PE.byI {t' : TE} (f : ∀ pins s σ H Q, Inv X pins σ H s → t' σ H Q → ∃ t, PE X e t ∧ t σ H Q) : PE X e t' := ⟨fun pins s σ H Q I q => by
  obtain ⟨t, h, z⟩ := f pins s σ H Q I q
  exact h.run pins s σ H Q I z⟩
theorem PT.imp {t t' : TT} (h : PT X e t) (f : ∀ σ H Q, t' σ H Q → t σ H Q) : PT X e t' := ⟨fun pins s σ H Q I q => h.run pins s σ H Q I (f σ H Q q)⟩
theorem PA.imp {es : List Expr} {t t' : TA} (h : PA X es t) (f : ∀ σ H Q, t' σ H Q → t σ H Q) : PA X es t' := ⟨fun pos pins s σ H Q I q => h.run pos pins s σ H Q I (f σ H Q q)⟩
end

/-! ### operators -/
section
variable {X : Cx} {A : Ad}
/-- a two-place operation that changes nothing old: by what it answers on data -/
def r2 (K : PySem.W.Frag) (A : Ad) (f : Hs → D → D → Option D) : R2 := fun x y H Q => ∃ (μ : Mu) (S : Hs) (dx dy d : D), DR K A μ H dx x ∧ DR K A μ H dy y ∧ HR K A μ S H ∧ f S dx dy = some d ∧
  ∀ v μ' H', DR K A μ' H' d v → HR K A μ' S H' → Mo μ H μ' H' → Q v H'
theorem OpR.of {f : Value → Value → Sem Value} {r : R2} (h : ∀ x y H Q, r x y H Q → ∃ r', OpR X f r' ∧ r' x y H Q) : OpR X f r := fun pins s σ H x y v u Q I rx ry q => by
  obtain ⟨r', h1, h2⟩ := h x y H Q q
  exact h1 pins s σ H x y v u Q I rx ry h2
theorem DR.int_inv {K : PySem.W.Frag} {μ : Mu} {H : Hp} {i : Int} {v : V} (h : DR K A μ H (.int i) v) : v = .int i := by cases h; rfl
theorem DR.str_inv {K : PySem.W.Frag} {μ : Mu} {H : Hp} {i : Str} {v : V} (h : DR K A μ H (.str i) v) : v = .str i := by cases h; rfl
theorem DR.bl_inv {K : PySem.W.Frag} {μ : Mu} {H : Hp} {i : Bool} {v : V} (h : DR K A μ H (.bl i) v) : v = .bl i := by cases h; rfl
theorem lstAt_ref {S : Hs} {n : Nat} {ds : List D} (h : lstAt S (.ref n) = some ds) : S[n]? = some (.lst ds) := by
  have h' : (match S[n]? with | some (.lst ds) => some ds | _ => none) = some ds := h
  split at h' <;> simp_all
/-- a list's content stands at its address -/
theorem lst_sq {K : PySem.W.Frag} {μ : Mu} {H : Hp} {S : Hs} {d : D} {ds : List D} {v : V} (R : HR K A μ S H) (h : DR K A μ H d v) (e : lstAt S d = some ds) : ∃ a vs, v = .ref a ∧ Rd H a (.lst vs) ∧ DRs K A μ H ds vs := by
  cases d with
  | tl es =>
    cases h with
    | tl q r =>
      cases e
      exact ⟨_, _, rfl, q.1, r⟩
  | ref n =>
    cases h with
    | ref q =>
      obtain ⟨ho, h1, h2⟩ := R.obj _ _ _ (lstAt_ref e) q
      cases h2 with
      | lst r => exact ⟨_, _, rfl, .inl h1, r⟩
  | _ => cases e
theorem seq_sq {K : PySem.W.Frag} {μ : Mu} {H : Hp} {S : Hs} {d : D} {ds : List D} {v : V} (R : HR K A μ S H) (h : DR K A μ H d v) (e : seqAt S d = some ds) : ∃ a vs, v = .ref a ∧ (SqL K H a vs ∨ SqT K H a vs) ∧ DRs K A μ H ds vs := by
  cases d with
  | tup es =>
    cases e
    cases h with
    | tup q r => exact ⟨_, _, rfl, .inr q.sq, r⟩
  | kl es =>
    cases e
    cases h with
    | kl q r => exact ⟨_, _, rfl, .inl q.sqL, r⟩
  | _ =>
    obtain ⟨a, vs, h1, h2, h3⟩ := lst_sq R h e
    exact ⟨a, vs, h1, .inl (.inl h2), h3⟩
/-- a new tuple, a new list by value -/
theorem new_tup {K : PySem.W.Frag} {μ : Mu} {H : Hp} {S : Hs} {ds : List D} {vs : List V} {p : Addr} (R : HR K A μ S H) (r : DRs K A μ H ds vs) (hp : H p = none) :
    DR K A μ (upd H p (.tup vs)) (.tup ds) (.ref p) ∧ HR K A μ S (upd H p (.tup vs)) ∧ Mo μ H μ (upd H p (.tup vs)) := ⟨.tup (.inl ⟨.inl upd_same, R.nin hp⟩) (r.mono (Mo.new hp)), R.new hp, Mo.new hp⟩
theorem new_tl {K : PySem.W.Frag} {μ : Mu} {H : Hp} {S : Hs} {ds : List D} {vs : List V} {p : Addr} (R : HR K A μ S H) (r : DRs K A μ H ds vs) (hp : H p = none) :
    DR K A μ (upd H p (.lst vs)) (.tl ds) (.ref p) ∧ HR K A μ S (upd H p (.lst vs)) ∧ Mo μ H μ (upd H p (.lst vs)) := ⟨.tl ⟨.inl upd_same, R.nin hp⟩ (r.mono (Mo.new hp)), R.new hp, Mo.new hp⟩
end
end CN
set_option Elab.async false
set_option linter.all false
set_option maxRecDepth 100000
set_option maxHeartbeats 2000000
/-! CnOps: the operators. -/
namespace CN
open PySem PyProof.Rows L2

def pyOp : BOp → Operator
  | .add => .Add | .sub => .Sub | .mul => .Mult | .fdiv => .FloorDiv | .mod => .Mod | .pow => .Pow
def pyCmp : COp → CmpOp
  | .lt => .Lt | .le => .LtE | .gt => .Gt | .ge => .GtE | .eq => .Eq | .ne => .NotEq | .isin => .In | .notin => .NotIn

/-! ### lists that are read: tracked or locked -/
section
variable {X : Cx} {A : Ad} {pins : List (Addr × Obj)} {σ : L2.St} {H : Hp} {s : Shared}
theorem rdL (I : Inv X pins σ H s) {a : Addr} {xs : List V} (h : Rd H a (.lst xs)) : xs.length ≤ sizeLine ∧ ∃ (its : List Value) (n : Nat), Vals xs its ∧ xs.length = its.length ∧ s.heap.get? a = some { cls := .type "list", data := .seq its.toArray n } := by
  obtain ⟨z, its, n, r, e⟩ := h.ok I.hok
  exact ⟨z, its, n, r, r.length, e⟩
/-- list + list, either one locked perhaps -/
theorem op_catR : OpR X (binaryOp .Add) (fun x y H Q => ∃ l b xs zs, x = .ref l ∧ y = .ref b ∧ Rd H l (.lst xs) ∧ Rd H b (.lst zs) ∧ xs.length + zs.length ≤ sizeLine ∧ ∀ p, H p = none → Q (.ref p) (upd H p (.lst (xs ++ zs)))) := by
  intro pins s σ H x y v u Q I rx ry h
  obtain ⟨l, b, xs, zs, rfl, rfl, hH, hB, hz, q⟩ := h
  cases rx
  cases ry
  obtain ⟨z, its, n, r, hl, e⟩ := rdL I hH
  obtain ⟨z2, its2, n2, r2, hl2, e2⟩ := rdL I hB
  refine PySem.P.add_list e e2 ?_ (by rw [List.size_toArray, List.size_toArray]; omega)
  have ea : its.toArray ++ its2.toArray = (its ++ its2).toArray := by simp
  rw [ea]
  exact ⟨.ref _, _, I.lnew (t' := s.toks) (r.append r2) (by rw [List.length_append]; omega), rfl, q _ I.fresh⟩
theorem op_repR : OpR X (binaryOp .Mult) (fun x y H Q => ∃ l k xs, x = .ref l ∧ y = .int k ∧ Rd H l (.lst xs) ∧ -(2 ^ 63) ≤ k ∧ k < 2 ^ 63 ∧ xs.length * k.toNat ≤ sizeLine ∧ ∀ p, H p = none → Q (.ref p) (upd H p (.lst (List.replicate k.toNat xs).flatten))) := by
  intro pins s σ H x y v u Q I rx ry h
  obtain ⟨l, k, xs, rfl, rfl, hH, h1, h2, hz, q⟩ := h
  cases rx
  obtain ⟨t, rfl⟩ := ry
  obtain ⟨z, its, n, r, hl, e⟩ := rdL I hH
  have hlen : its.toArray.size * k.toNat ≤ sizeLine := by rw [List.size_toArray, ← hl]; exact hz
  have hcap : ¬ its.toArray.size * k.toNat > (2 ^ 63 - 1) / 8 := by
    have : (sizeLine : Nat) ≤ (2 ^ 63 - 1) / 8 := by decide
    omega
  have hfit : ¬ (!Builtin.List.listFitsIndex k) = true := by
    rw [fitsIndex_both h1 h2]
    exact Bool.false_ne_true
  have hlong : ¬ Builtin.List.listTooLong (its.toArray.size * k.toNat) = true := by
    rw [notLongL hlen]
    exact Bool.false_ne_true
  have hnew : List.foldl (fun x1 x2 => x1 ++ x2) #[] (List.replicate (if its.toArray.isEmpty = true then 0 else k.toNat) its.toArray) = (List.replicate k.toNat its).flatten.toArray := by
    have f0 : ∀ m : Nat, List.foldl (fun x1 x2 => x1 ++ x2) #[] (List.replicate m its.toArray) = (List.replicate m its).flatten.toArray := fun m => by
      have := foldl_rep its m []
      rw [List.nil_append] at this
      exact this
    rw [f0]
    cases its with
    | nil => simp
    | cons a r' => rw [if_neg (by simp)]
  refine wpAny_binaryOp_repeat_ref (T := "list") (U := "int") (by decide) ⟨_, e, rfl⟩ (fun s' => typeIs_int s' k t) noFill_list_mul F.fills_int_mul F.slot_int_rmul repeat_list F.slot_int_index.lookup
    (call_meets F.slot_int_rmul (typeIs_int s k t) F.entry_int_rmul (F.args_int_rmul_2 _ _) (int___rmul___int_list k t l its.toArray n)
      ⟨e, rfl, ⟨_, e, rfl⟩, call_meets F.slot_list_mul ⟨_, e, rfl⟩ F.entry_list_mul (F.args_list_mul_2 _ _) (AutoListH.list___mul___list_int_3 l its.toArray n k t hfit hcap hlong) ⟨e, ?_⟩⟩)
  rw [hnew]
  exact ⟨.ref _, _, I.lnew (t' := s.toks) (r.rep k.toNat) (by rw [PyProof.Rows.lm_len_rep_flat, Nat.mul_comm]; exact hz), rfl, q _ I.fresh⟩
end

/-! ### tuple * int for 0 and 1 -/
theorem tuple_mul1 (l : Addr) (items : Array Value) (n : Nat) (u : Tok) (sl : Array (Option Value)) (dd : Option Addr) (x : Int) (c0 : (decide (x < -(2 ^ 63)) || decide (x ≥ 2 ^ 63)) = false) (c1 : (items.isEmpty || x == 1) = true) :
    Meets (Builtin.«tuple.__mul__» ⟨[.ref l, .int x u], []⟩) (fun _ R s => s.heap.get? l = some { cls := .type "tuple", dict := dd, data := .seq items n, slots := sl } ∧ R (.ok (.ret (Value.ref l))) s) :=
  .of_wp fun prog w A R s h => by
    obtain ⟨hp, g, d, tk, os⟩ := s
    obtain ⟨hl, h⟩ := h
    have f1 := AutoSeq1.idx_int
    wp_walk using wpAny_loadPart' hl
    repeat (first
      | (refine wpAny_ite_false (decide_eq_false (by rw [c0]; exact Bool.false_ne_true)) ?_; wp_walk using wpAny_loadPart' hl)
      | (refine wpAny_ite_true (decide_eq_true c1) ?_; wp_walk using wpAny_loadPart' hl))
    exact ⟨_, rfl, h⟩
theorem tuple_mul0 (l : Addr) (items : Array Value) (n : Nat) (u : Tok) (sl : Array (Option Value)) (dd : Option Addr) (x : Int) (c0 : (decide (x < -(2 ^ 63)) || decide (x ≥ 2 ^ 63)) = false) (c1 : (items.isEmpty || x == 1) = false) (c2 : (decide (x ≤ 0) || items.isEmpty) = true) :
    Meets (Builtin.«tuple.__mul__» ⟨[.ref l, .int x u], []⟩) (fun _ R s => s.heap.get? l = some { cls := .type "tuple", dict := dd, data := .seq items n, slots := sl } ∧
      R (.ok (.ret (Value.ref s.heap.objs.size))) { s with heap := s.heap.push { cls := Value.type "tuple", data := Data.seq #[] }, toks := s.toks }) :=
  .of_wp fun prog w A R s h => by
    obtain ⟨hp, g, d, tk, os⟩ := s
    obtain ⟨hl, h⟩ := h
    have f1 := AutoSeq1.idx_int
    wp_walk using wpAny_loadPart' hl
    repeat (first
      | (refine wpAny_ite_false (decide_eq_false (by rw [c0]; exact Bool.false_ne_true)) ?_; wp_walk using wpAny_loadPart' hl)
      | (refine wpAny_ite_false (decide_eq_false (by rw [c1]; exact Bool.false_ne_true)) ?_; wp_walk using wpAny_loadPart' hl)
      | (refine wpAny_ite_true (decide_eq_true c2) ?_; wp_walk using wpAny_loadPart' hl))
    exact ⟨_, rfl, h⟩
section
variable {X : Cx}
theorem op_repT1 : OpR X (binaryOp .Mult) (fun x y H Q => ∃ l k xs, x = .ref l ∧ y = .int k ∧ SqT X.K H l xs ∧ (k = 1 ∨ xs = []) ∧ 0 ≤ k ∧ k < 2 ^ 63 ∧ Q (.ref l) H) := by
  intro pins s σ H x y v u Q I rx ry h
  obtain ⟨l, k, xs, rfl, rfl, hT, hk, k0, k1, q⟩ := h
  cases rx
  obtain ⟨t, rfl⟩ := ry
  obtain ⟨its, r, ⟨⟨cls, dd, data, sl⟩, ho, hc, n, hd⟩, hs⟩ := I.tuple hT
  simp only at hc hd
  subst hc hd
  have c0 : (decide (k < -(2 ^ 63)) || decide (k ≥ 2 ^ 63)) = false := by
    rw [decide_eq_false (by omega), decide_eq_false (by omega)] <;> rfl
  have c1 : (its.toArray.isEmpty || k == 1) = true := by
    rcases hk with rfl | rfl
    · simp
    · cases r
      simp
  refine wpAny_binaryOp_repeat_ref (T := "tuple") (U := "int") (by decide) ⟨_, ho, rfl⟩ (fun s' => typeIs_int s' k t) noFill_tuple_mul F.fills_int_mul F.slot_int_rmul repeat_tuple F.slot_int_index.lookup
    (call_meets F.slot_int_rmul (typeIs_int s k t) F.entry_int_rmul (F.args_int_rmul_2 _ _) (int_rmul_tuple k t l its.toArray n dd sl)
      ⟨ho, rfl, ⟨_, ho, rfl⟩, call_meets F.slot_tuple_mul ⟨_, ho, rfl⟩ F.entry_tuple_mul (F.args_tuple_mul_2 _ _) (tuple_mul1 l its.toArray n t sl dd k c0 c1) ⟨ho, ?_⟩⟩)
  exact ⟨.ref l, H, I, rfl, q⟩
theorem op_repT0 : OpR X (binaryOp .Mult) (fun x y H Q => ∃ l k xs, x = .ref l ∧ y = .int k ∧ SqT X.K H l xs ∧ xs ≠ [] ∧ k = 0 ∧ ∀ p, H p = none → Q (.ref p) (upd H p (.tup []))) := by
  intro pins s σ H x y v u Q I rx ry h
  obtain ⟨l, k, xs, rfl, rfl, hT, hne, rfl, q⟩ := h
  cases rx
  obtain ⟨t, rfl⟩ := ry
  obtain ⟨its, r, ⟨⟨cls, dd, data, sl⟩, ho, hc, n, hd⟩, hs⟩ := I.tuple hT
  simp only at hc hd
  subst hc hd
  have c1 : (its.toArray.isEmpty || (0 : Int) == 1) = false := by
    cases r with
    | nil => exact absurd rfl hne
    | cons _ _ => simp
  refine wpAny_binaryOp_repeat_ref (T := "tuple") (U := "int") (by decide) ⟨_, ho, rfl⟩ (fun s' => typeIs_int s' 0 t) noFill_tuple_mul F.fills_int_mul F.slot_int_rmul repeat_tuple F.slot_int_index.lookup
    (call_meets F.slot_int_rmul (typeIs_int s 0 t) F.entry_int_rmul (F.args_int_rmul_2 _ _) (int_rmul_tuple 0 t l its.toArray n dd sl)
      ⟨ho, rfl, ⟨_, ho, rfl⟩, call_meets F.slot_tuple_mul ⟨_, ho, rfl⟩ F.entry_tuple_mul (F.args_tuple_mul_2 _ _) (tuple_mul0 l its.toArray n t sl dd 0 (by decide) c1 (by simp)) ⟨ho, ?_⟩⟩)
  refine ⟨.ref s.heap.objs.size, _, I.laid (t' := s.toks) (o := .tup []) (fun b ob q => Heap.get?_push_of_some _ q) (Nat.le_refl _) ?_, rfl, q _ (I.hok.fresh (Nat.le_refl _))⟩
  exact ⟨Nat.zero_le _, [], .nil, IsTup.new _ _⟩

variable {A : Ad}
theorem inRng_mul {i j : Int} (h : (inRng i || inRng j) = true) : CMul i j := by
  simp only [inRng, Bool.or_eq_true, Bool.and_eq_true, decide_eq_true_eq] at h
  exact h
theorem opR_bin (op : BOp) : OpR X (binaryOp (pyOp op)) (r2 X.K A fun S => binop S op) := by
  refine OpR.of fun x y H Q hq => ?_
  obtain ⟨μ, S, dx, dy, d, rx, ry, R, e, q⟩ := hq
  replace e : binop S op dx dy = some d := e
  unfold binop at e
  split at e
  · cases e; cases rx; cases ry
    exact ⟨_, op_add, _, _, rfl, rfl, q _ μ H (.int _) R (Mo.refl _ _)⟩
  · split at e
    · rename_i hz
      cases e; cases rx; cases ry
      exact ⟨_, op_add_str, _, _, rfl, rfl, hz, q _ μ H (.str _) R (Mo.refl _ _)⟩
    · cases e
  · split at e
    · rename_i a b hz
      cases e
      cases rx with
      | @tup _ p vs h1 r1 =>
        cases ry with
        | @tup _ p2 ws h2 r2 =>
          refine ⟨_, op_catA, p, p2, vs, ws, rfl, rfl, h1.sq, h2.sq, by rw [r1.length, r2.length]; exact hz, fun hv => ?_, fun hv hw => ?_, fun hv hw p3 hp => ?_⟩
          · have : a = [] := List.eq_nil_of_length_eq_zero (by rw [← r1.length, hv]; rfl)
            subst this
            exact q _ μ H (.tup h2 r2) R (Mo.refl _ _)
          · have : b = [] := List.eq_nil_of_length_eq_zero (by rw [← r2.length, hw]; rfl)
            subst this
            exact q _ μ H (by rw [List.append_nil]; exact .tup h1 r1) R (Mo.refl _ _)
          · obtain ⟨z1, z2, z3⟩ := new_tup R (r1.append r2) hp
            exact q _ _ _ z1 z2 z3
    · cases e
  · split at e
    · rename_i a b ea eb
      split at e
      · rename_i hz
        cases e
        obtain ⟨l, vs, rfl, hl, r1⟩ := lst_sq R rx ea
        obtain ⟨m, ws, rfl, hm, r2⟩ := lst_sq R ry eb
        refine ⟨_, op_catR, l, m, vs, ws, rfl, rfl, hl, hm, by rw [r1.length, r2.length]; exact hz, fun p hp => ?_⟩
        obtain ⟨z1, z2, z3⟩ := new_tl R (r1.append r2) hp
        exact q _ _ _ z1 z2 z3
      · cases e
    · cases e
  · cases e; cases rx; cases ry
    exact ⟨_, op_sub, _, _, rfl, rfl, q _ μ H (.int _) R (Mo.refl _ _)⟩
  · split at e
    · rename_i hz
      cases e; cases rx; cases ry
      exact ⟨_, op_mul, _, _, rfl, rfl, inRng_mul hz, q _ μ H (.int _) R (Mo.refl _ _)⟩
    · cases e
  · rename_i a k
    split at e
    · rename_i hz
      simp only [Bool.and_eq_true, decide_eq_true_eq] at hz
      obtain ⟨⟨k0, k1⟩, hl⟩ := hz
      cases e; cases ry
      cases rx with
      | @tup _ p vs h1 r1 =>
        by_cases hn : vs = []
        · have : a = [] := List.eq_nil_of_length_eq_zero (by rw [← r1.length, hn]; rfl)
          subst this
          refine ⟨_, op_repT1, p, k, vs, rfl, rfl, h1.sq, .inr hn, k0, by omega, ?_⟩
          exact q _ μ H (by simp; exact .tup h1 r1) R (Mo.refl _ _)
        · by_cases e1 : k = 1
          · subst e1
            refine ⟨_, op_repT1, p, 1, vs, rfl, rfl, h1.sq, .inl rfl, by decide, by decide, ?_⟩
            exact q _ μ H (by simp; exact .tup h1 r1) R (Mo.refl _ _)
          · by_cases e0 : k = 0
            · subst e0
              refine ⟨_, op_repT0, p, 0, vs, rfl, rfl, h1.sq, hn, rfl, fun p3 hp => ?_⟩
              obtain ⟨z1, z2, z3⟩ := new_tup R (ds := []) (vs := []) .nil hp
              exact q _ _ _ (by simpa using z1) z2 z3
            · refine ⟨_, op_repT, p, k, vs, rfl, rfl, h1.sq, hn, by omega, k1, by rw [r1.length]; exact hl, fun p3 hp => ?_⟩
              obtain ⟨z1, z2, z3⟩ := new_tup R (r1.rep k.toNat) hp
              exact q _ _ _ z1 z2 z3
    · cases e
  · rename_i a k
    split at e
    · rename_i hz
      simp only [Bool.and_eq_true, decide_eq_true_eq] at hz
      obtain ⟨⟨k0, k1⟩, hl⟩ := hz
      cases e; cases ry
      cases rx with
      | @tl _ p vs h1 r1 =>
        refine ⟨_, op_repR, p, k, vs, rfl, rfl, h1.1, by omega, by omega, ?_, fun p3 hp => ?_⟩
        · have a1 : vs.length * k.toNat ≤ 1000 * 1000 := Nat.mul_le_mul (by rw [r1.length]; exact hl) (by omega)
          rw [sizeLine_eq]
          omega
        · obtain ⟨z1, z2, z3⟩ := new_tl R (r1.rep k.toNat) hp
          exact q _ _ _ z1 z2 z3
    · cases e
  · split at e
    · rename_i hz
      simp only [Bool.and_eq_true, decide_eq_true_eq] at hz
      cases e; cases rx; cases ry
      exact ⟨_, op_fdivN, _, _, rfl, rfl, hz, q _ μ H (.int _) R (Mo.refl _ _)⟩
    · cases e
  · split at e
    · rename_i hz
      simp only [decide_eq_true_eq] at hz
      cases e; cases rx; cases ry
      exact ⟨_, op_modN, _, _, rfl, rfl, hz, q _ μ H (.int _) R (Mo.refl _ _)⟩
    · cases e
  · split at e
    · rename_i hz
      simp only [Bool.and_eq_true, decide_eq_true_eq] at hz
      cases e; cases rx; cases ry
      exact ⟨_, op_pow, _, _, rfl, rfl, ⟨hz.1.1, hz.1.2, hz.2⟩, q _ μ H (.int _) R (Mo.refl _ _)⟩
    · cases e
  · cases e
end
end CN
set_option Elab.async false
set_option linter.all false
set_option maxRecDepth 100000
set_option maxHeartbeats 2000000
/-! CnOps2: comparisons, subscripts, slices, truth. -/
namespace CN
open PySem PyProof.Rows L2

/-! ### written tables -/
/-- a value that stands whatever the heap -/
def KD (K : PySem.W.Frag) (A : Ad) (d : D) (v : V) : Prop := ∀ μ H, DR K A μ H d v
inductive TbR (K : PySem.W.Frag) (A : Ad) : List DictEntry → List (Str × D) → Prop where
  | nil : TbR K A [] []
  | cons {e : DictEntry} {es : List DictEntry} {x : Str} {d : D} {kvs : List (Str × D)} (hk : ∃ t, e.key = .str x t) (hv : ∃ v, RelV v e.val ∧ KD K A d v) (r : TbR K A es kvs) : TbR K A (e :: es) ((x, d) :: kvs)
def TabAt (K : PySem.W.Frag) (w : World) (A : Ad) (a : Addr) (kvs : List (Str × D)) : Prop :=
  ∃ (es : Array DictEntry) (n : Nat), K.lookup a = some ⟨.type "dict", none, .dict es n, #[]⟩ ∧ PySem.W.KeysLit w.params es.toList ∧ (a == sysModules) = false ∧ TbR K A es.toList kvs
def Tabs (T : Tb) (A : Ad) (K : PySem.W.Frag) (w : World) : Prop := ∀ t kvs a, T.tabs[t]? = some kvs → A.tb t = some a → TabAt K w A a kvs
theorem isStrOf_str (x y : Str) (t : Tok) : Value.isStrOf x (.str y t) = decide (x = y) := by
  by_cases e : x = y
  · subst e
    simp [Value.isStrOf]
  · have : (y == x) = false := by simpa using fun q : y = x => e q.symm
    simp [Value.isStrOf, this, e]
theorem TbR.find {K : PySem.W.Frag} {A : Ad} {z : Str} : ∀ {es : List DictEntry} {kvs : List (Str × D)}, TbR K A es kvs →
    (∀ d, kvs.lookup z = some d → ∃ u v, (es.find? fun e => Value.isStrOf z e.key).map (·.val) = some u ∧ RelV v u ∧ KD K A d v) ∧ (kvs.lookup z = none → (es.find? fun e => Value.isStrOf z e.key).map (·.val) = none)
  | _, _, .nil => ⟨fun d h => by simp at h, fun _ => rfl⟩
  | _, _, .cons (e := e) (x := x) ⟨t, hk⟩ ⟨v, rv, kv⟩ r => by
    obtain ⟨i1, i2⟩ := TbR.find (z := z) r
    by_cases q : z = x
    · subst q
      have h1 : Value.isStrOf z e.key = true := by rw [hk, isStrOf_str]; simp
      refine ⟨fun d h => ?_, fun h => ?_⟩
      · simp only [List.lookup, beq_self_eq_true] at h
        cases h
        exact ⟨e.val, v, by simp only [List.find?_cons, h1, Option.map_some], rv, kv⟩
      · simp [List.lookup] at h
    · have h1 : Value.isStrOf z e.key = false := by rw [hk, isStrOf_str]; simpa using q
      have h2 : (z == x) = false := by simpa using q
      simp only [List.find?_cons, h1, List.lookup, h2]
      exact ⟨i1, i2⟩
theorem findBy_list (es : Array DictEntry) (z : Str) : findBy Value.isStrOf es z = (es.toList.find? fun e => Value.isStrOf z e.key).map (·.val) := by
  unfold findBy
  rw [← Array.find?_toList]
section
variable {X : Cx} {A : Ad}
theorem op_inTab : OpR X (compareOp .In) (fun x y H Q => ∃ z a kvs, x = .str z ∧ y = .ref a ∧ TabAt X.K X.w A a kvs ∧ Q (.bl (kvs.lookup z).isSome) H) := by
  intro pins s σ H x y v u Q I rx ry h
  obtain ⟨z, a, kvs, rfl, rfl, ⟨es, n, hl, hk, hs, r⟩, q⟩ := h
  obtain ⟨t, rfl⟩ := rx
  cases ry
  have hm := PySem.W.mapOf_K (prog := X.prog) (w := X.w) I.kIn hl hk
  refine wpAny_in_of (strKind_is X.prog X.w z t) hs hm ?_
  have e : (findBy Value.isStrOf es z).isSome = (kvs.lookup z).isSome := by
    rw [findBy_list]
    obtain ⟨i1, i2⟩ := r.find (z := z)
    cases ek : kvs.lookup z with
    | none => rw [i2 ek]; rfl
    | some d =>
      obtain ⟨u, v, h1, _⟩ := i1 d ek
      rw [h1]; rfl
  rw [e]
  exact ⟨.bl _, H, I.tok _, rfl, q⟩
theorem op_ninTab : OpR X (compareOp .NotIn) (fun x y H Q => ∃ z a kvs, x = .str z ∧ y = .ref a ∧ TabAt X.K X.w A a kvs ∧ Q (.bl (!(kvs.lookup z).isSome)) H) := by
  intro pins s σ H x y v u Q I rx ry h
  obtain ⟨z, a, kvs, rfl, rfl, ⟨es, n, hl, hk, hs, r⟩, q⟩ := h
  obtain ⟨t, rfl⟩ := rx
  cases ry
  have hm := PySem.W.mapOf_K (prog := X.prog) (w := X.w) I.kIn hl hk
  refine wpAny_notIn_of (strKind_is X.prog X.w z t) hs hm ?_
  have e : (findBy Value.isStrOf es z).isSome = (kvs.lookup z).isSome := by
    rw [findBy_list]
    obtain ⟨i1, i2⟩ := r.find (z := z)
    cases ek : kvs.lookup z with
    | none => rw [i2 ek]; rfl
    | some d =>
      obtain ⟨u, v, h1, _⟩ := i1 d ek
      rw [h1]; rfl
  rw [e]
  exact ⟨.bl _, H, I.tok _, rfl, q⟩
theorem ix_tab : IxR X (fun x y H Q => ∃ z a kvs d, x = .str z ∧ y = .str z ∧ TabAt X.K X.w A a kvs ∧ kvs.lookup z = some d ∧ False) := fun _ _ _ _ _ _ _ _ _ _ _ _ _ _ h => by
  obtain ⟨_, _, _, _, _, _, _, _, z⟩ := h
  exact z.elim
theorem ix_tabR : IxR X (fun x y H Q => ∃ z a kvs d, x = .ref a ∧ y = .str z ∧ TabAt X.K X.w A a kvs ∧ kvs.lookup z = some d ∧ ∀ v, KD X.K A d v → Q v H) := by
  intro value slice pins s σ H x y v u Q I rx ry h hs
  obtain ⟨z, a, kvs, d, rfl, rfl, ⟨es, n, hl, hk, _, r⟩, e, q⟩ := h
  obtain rfl : v = Value.ref a := rx
  obtain ⟨t, rfl⟩ := ry
  obtain ⟨i1, i2⟩ := r.find (z := z)
  obtain ⟨u0, v0, h1, rv, kv⟩ := i1 d e
  have hm := PySem.W.mapOf_K (prog := X.prog) (w := X.w) I.kIn hl hk
  exact tail_any hm.typeIs slot_dict_getitem.lookup (wpAny_getItem_of (strKind_is X.prog X.w z t) hm (by rw [findBy_list]; exact h1) ⟨v0, H, I.tok _, rv, q v0 kv⟩) hs

/-! ### data as the library's -/
mutual
theorem dp_of {K : PySem.W.Frag} {μ : Mu} {H : Hp} : ∀ {d : D} {v : V} {x : PyData}, DR K A μ H d v → pure? d = some x → Dp K H v x
  | _, _, x, .non, e => by simp [pure?] at e; subst e; exact .non
  | _, _, x, .bl b, e => by simp [pure?] at e; subst e; exact .bl b
  | _, _, x, .int i, e => by simp [pure?] at e; subst e; exact .int i
  | _, _, x, .str z, e => by simp [pure?] at e; subst e; exact .str z
  | _, _, x, .tup (ds := ds) h r, e => by
    unfold pure? at e
    cases q : pures? ds with
    | none => rw [q] at e; cases e
    | some xs =>
      rw [q] at e
      cases e
      exact .tup h.sq (dps_of r q)
  | _, _, x, .tl (ds := ds) h r, e => by
    unfold pure? at e
    cases q : pures? ds with
    | none => rw [q] at e; cases e
    | some xs =>
      rw [q] at e
      cases e
      exact .lst h.sq (dps_of r q)
  | _, _, x, .kl _ _, e => by simp [pure?] at e
  | _, _, x, .ref _, e => by simp [pure?] at e
  | _, _, x, .fn _, e => by simp [pure?] at e
  | _, _, x, .cls _, e => by simp [pure?] at e
  | _, _, x, .ty _, e => by simp [pure?] at e
  | _, _, x, .tab _, e => by simp [pure?] at e
theorem dps_of {K : PySem.W.Frag} {μ : Mu} {H : Hp} : ∀ {ds : List D} {vs : List V} {xs : List PyData}, DRs K A μ H ds vs → pures? ds = some xs → DpAll K H vs xs
  | _, _, _, .nil, e => by simp [pures?] at e; subst e; exact .nil
  | _, _, _, .cons (d := d) (ds := ds) h r, e => by
    unfold pures? at e
    cases q : pure? d with
    | none => rw [q] at e; cases e
    | some x =>
      cases q2 : pures? ds with
      | none => rw [q, q2] at e; cases e
      | some xs =>
        rw [q, q2] at e
        cases e
        exact .cons (dp_of h q) (dps_of r q2)
end
theorem data_of {K : PySem.W.Frag} {μ : Mu} {H : Hp} {S : Hs} {d : D} {v : V} {x : PyData} (R : HR K A μ S H) (h : DR K A μ H d v) (e : data? S d = some x) : Dp K H v x := by
  cases d with
  | ref n =>
    have e' : (match S[n]? with | some (.lst ds) => (match pures? ds with | some xs => some (.list xs) | none => none) | _ => none) = some x := e
    split at e'
    · rename_i ds hs
      split at e'
      · rename_i xs hp
        cases e'
        cases h with
        | ref q =>
          obtain ⟨ho, h1, h2⟩ := R.obj _ _ _ hs q
          cases h2 with
          | lst r => exact .lst (SqL.of h1) (dps_of r hp)
      · cases e'
    · cases e'
  | _ => exact dp_of h e
theorem flat_of {K : PySem.W.Frag} {μ : Mu} {H : Hp} {d : D} {v : V} (h : DR K A μ H d v) (f : flatD d = true) : flatV v = true := by
  cases h <;> simp [flatD] at f <;> rfl
theorem flats_of {K : PySem.W.Frag} {μ : Mu} {H : Hp} : ∀ {ds : List D} {vs : List V}, DRs K A μ H ds vs → ds.all flatD = true → vs.all flatV = true
  | _, _, .nil, _ => rfl
  | _, _, .cons h r, f => by
    rw [List.all_cons, Bool.and_eq_true] at f
    rw [List.all_cons, flat_of h f.1, flats_of r f.2]
    rfl
theorem eqF_of {K : PySem.W.Frag} {μ : Mu} {H : Hp} {d e : D} {v u : V} (h : DR K A μ H d v) (q : DR K A μ H e u) (f : flatD d = true) (g : flatD e = true) : eqV v u = eqF d e := by
  cases h <;> cases q <;> simp [flatD] at f g <;> rfl
theorem inV_of {K : PySem.W.Frag} {μ : Mu} {H : Hp} {e : D} {u : V} (q : DR K A μ H e u) (g : flatD e = true) : ∀ {ds : List D} {vs : List V}, DRs K A μ H ds vs → ds.all flatD = true → inV u vs = ds.any fun d => eqF d e
  | _, _, .nil, _ => rfl
  | _, _, .cons h r, f => by
    rw [List.all_cons, Bool.and_eq_true] at f
    have ih := inV_of q g r f.2
    unfold inV at ih ⊢
    rw [List.any_cons, List.any_cons, eqF_of h q f.1 g, ih]

/-- a comparison's answer -/
def r2b (K : PySem.W.Frag) (A : Ad) (f : Hs → D → D → Option Bool) : R2 := fun x y H Q => ∃ (μ : Mu) (S : Hs) (dx dy : D) (b : Bool), DR K A μ H dx x ∧ DR K A μ H dy y ∧ HR K A μ S H ∧ f S dx dy = some b ∧ Q (.bl b) H
theorem opR_in (T : Tb) (TT : Tabs T A X.K X.w) : OpR X (compareOp .In) (r2b X.K A fun S => inD T.tabs S) := by
  refine OpR.of fun x y H Q hq => ?_
  obtain ⟨μ, S, dx, dy, b, rx, ry, R, e, q⟩ := hq
  replace e : inD T.tabs S dx dy = some b := e
  unfold inD at e
  split at e
  · split at e
    · rename_i z kvs hk
      cases e; cases rx
      cases ry with
      | tab h => exact ⟨_, op_inTab (A := A), z, _, kvs, rfl, rfl, TT _ _ _ hk h, q⟩
    · cases e
  · split at e
    · cases e; cases rx; cases ry
      exact ⟨_, op_in_str, _, _, rfl, rfl, q⟩
    · cases e
  · split at e
    · rename_i ds hd
      split at e
      · rename_i hf
        rw [Bool.and_eq_true] at hf
        cases e
        obtain ⟨a, vs, rfl, h1, h2⟩ := seq_sq R ry hd
        refine ⟨_, op_in_seq, a, vs, rfl, h1, flat_of rx hf.1, flats_of h2 hf.2, ?_⟩
        rw [inV_of rx hf.1 h2 hf.2]
        exact q
      · cases e
    · cases e
theorem opR_nin (T : Tb) (TT : Tabs T A X.K X.w) : OpR X (compareOp .NotIn) (r2b X.K A fun S x y => (inD T.tabs S x y).map (!·)) := by
  refine OpR.of fun x y H Q hq => ?_
  obtain ⟨μ, S, dx, dy, b0, rx, ry, R, e, q⟩ := hq
  replace e : (inD T.tabs S dx dy).map (!·) = some b0 := e
  cases e1 : inD T.tabs S dx dy with
  | none => rw [e1] at e; cases e
  | some b =>
    rw [e1] at e
    cases e
    replace e := e1
    clear e1
    unfold inD at e
    split at e
    · split at e
      · rename_i z kvs hk
        cases e; cases rx
        cases ry with
        | tab h => exact ⟨_, op_ninTab (A := A), z, _, kvs, rfl, rfl, TT _ _ _ hk h, q⟩
      · cases e
    · split at e
      · cases e; cases rx; cases ry
        exact ⟨_, op_notin_str, _, _, rfl, rfl, q⟩
      · cases e
    · split at e
      · rename_i ds hd
        split at e
        · rename_i hf
          rw [Bool.and_eq_true] at hf
          cases e
          obtain ⟨a, vs, rfl, h1, h2⟩ := seq_sq R ry hd
          refine ⟨_, op_notIn_seq, a, vs, rfl, h1, flat_of rx hf.1, flats_of h2 hf.2, ?_⟩
          rw [inV_of rx hf.1 h2 hf.2]
          exact q
        · cases e
      · cases e
theorem eqD_inv {S : Hs} {x y : D} {b : Bool} (e : eqD S x y = some b) : ∃ p q, data? S x = some p ∧ data? S y = some q ∧ SeqAt.shaped p = true ∧ SeqAt.shaped q = true ∧ b = PyData.eqv p q := by
  unfold eqD at e
  split at e
  · split at e
    · rename_i p q h1 h2 hs
      rw [Bool.and_eq_true] at hs
      cases e
      exact ⟨p, q, h1, h2, hs.1, hs.2, rfl⟩
    · cases e
  · cases e
theorem opR_cmp (T : Tb) (TT : Tabs T A X.K X.w) (hu : X.A.units + 64 < cLine) (op : COp) : OpR X (compareOp (pyCmp op)) (r2b X.K A fun S => cmpop T.tabs S op) := by
  cases op with
  | isin => exact opR_in T TT
  | notin => exact opR_nin T TT
  | eq =>
    refine OpR.of fun x y H Q hq => ?_
    obtain ⟨μ, S, dx, dy, b, rx, ry, R, e, q⟩ := hq
    obtain ⟨p1, p2, h1, h2, h3, h4, rfl⟩ := eqD_inv (show eqD S dx dy = some b from e)
    exact ⟨_, op_eqD hu, p1, p2, data_of R rx h1, data_of R ry h2, h3, h4, q⟩
  | ne =>
    refine OpR.of fun x y H Q hq => ?_
    obtain ⟨μ, S, dx, dy, b0, rx, ry, R, e, q⟩ := hq
    replace e : (eqD S dx dy).map (!·) = some b0 := e
    cases e1 : eqD S dx dy with
    | none => rw [e1] at e; cases e
    | some b =>
      rw [e1] at e
      cases e
      obtain ⟨p1, p2, h1, h2, h3, h4, rfl⟩ := eqD_inv e1
      exact ⟨_, op_neD hu, p1, p2, data_of R rx h1, data_of R ry h2, h3, h4, q⟩
  | lt =>
    refine OpR.of fun x y H Q hq => ?_
    obtain ⟨μ, S, dx, dy, b, rx, ry, R, e, q⟩ := hq
    replace e : cmpop T.tabs S .lt dx dy = some b := e
    cases dx <;> cases dy <;> simp only [cmpop, Option.some.injEq, reduceCtorEq] at e
    · subst e; cases rx; cases ry
      exact ⟨_, op_lt, _, _, rfl, rfl, q⟩
    · subst e; cases rx; cases ry
      exact ⟨_, op_lt_str, _, _, rfl, rfl, q⟩
  | le =>
    refine OpR.of fun x y H Q hq => ?_
    obtain ⟨μ, S, dx, dy, b, rx, ry, R, e, q⟩ := hq
    replace e : cmpop T.tabs S .le dx dy = some b := e
    cases dx <;> cases dy <;> simp only [cmpop, Option.some.injEq, reduceCtorEq] at e
    subst e; cases rx; cases ry
    exact ⟨_, op_le, _, _, rfl, rfl, q⟩
  | gt =>
    refine OpR.of fun x y H Q hq => ?_
    obtain ⟨μ, S, dx, dy, b, rx, ry, R, e, q⟩ := hq
    replace e : cmpop T.tabs S .gt dx dy = some b := e
    cases dx <;> cases dy <;> simp only [cmpop, Option.some.injEq, reduceCtorEq] at e
    subst e; cases rx; cases ry
    exact ⟨_, op_gt, _, _, rfl, rfl, q⟩
  | ge =>
    refine OpR.of fun x y H Q hq => ?_
    obtain ⟨μ, S, dx, dy, b, rx, ry, R, e, q⟩ := hq
    replace e : cmpop T.tabs S .ge dx dy = some b := e
    cases dx <;> cases dy <;> simp only [cmpop, Option.some.injEq, reduceCtorEq] at e
    subst e; cases rx; cases ry
    exact ⟨_, op_ge, _, _, rfl, rfl, q⟩

/-! ### truth -/
theorem isEmpty_drs {K : PySem.W.Frag} {μ : Mu} {H : Hp} {ds : List D} {vs : List V} (r : DRs K A μ H ds vs) : vs.isEmpty = ds.isEmpty := by cases r <;> rfl
theorem tru_of : TruR X (fun x H Q => ∃ (μ : Mu) (S : Hs) (d : D) (b : Bool), DR X.K A μ H d x ∧ HR X.K A μ S H ∧ truth S d = some b ∧ Q b H) := by
  intro pins s σ H x v Q I rx h
  obtain ⟨μ, S, d, b, rd, R, e, q⟩ := h
  refine tru_ok pins s σ H x v Q I rx ⟨b, ?_, q⟩
  cases d with
  | ref n =>
    have e' : (match S[n]? with | some (.lst ds) => some (!ds.isEmpty) | _ => none) = some b := e
    split at e'
    · rename_i ds hs
      cases e'
      cases rd with
      | ref h =>
        obtain ⟨ho, h1, h2⟩ := R.obj _ _ _ hs h
        cases h2 with
        | lst r => exact .inl ⟨_, SqL.of h1, by rw [isEmpty_drs r]⟩
    · cases e'
  | tup ds =>
    cases rd with
    | tup h r =>
      have e' : some (!ds.isEmpty) = some b := e
      cases e'
      exact .inr (.inl ⟨_, h.sq, by rw [isEmpty_drs r]⟩)
  | tl ds =>
    cases rd with
    | tl h r =>
      have e' : some (!ds.isEmpty) = some b := e
      cases e'
      exact .inl ⟨_, h.sq, by rw [isEmpty_drs r]⟩
  | str z =>
    cases rd
    have e' : (if z.length ≤ sizeLine then some (z.length != 0) else none) = some b := e
    split at e'
    · rename_i hz
      cases e'
      refine ⟨hz, ?_⟩
      by_cases h0 : z.length = 0
      · rw [h0]; rfl
      · have h1 : ¬ (z.length : Int) = 0 := by omega
        rw [bne_iff_ne.mpr h0, bne_iff_ne.mpr h1]
    · cases e'
  | non => cases rd; simp [truth] at e; exact e
  | bl b => cases rd; simp [truth] at e; exact e.symm
  | int i => cases rd; simp only [truth, Option.some.injEq] at e; exact e.symm
  | kl _ => cases e
  | fn _ => cases e
  | cls _ => cases e
  | ty _ => cases e
  | tab _ => cases e
end
end CN
set_option Elab.async false
set_option linter.all false
set_option maxRecDepth 100000
set_option maxHeartbeats 2000000
/-! CnOps3: subscripts, slices, built-in functions and methods. -/
namespace CN
open PySem PyProof.Rows L2

section
variable {X : Cx} {A : Ad}
theorem IxR.of {r : R2} (h : ∀ x y H Q, r x y H Q → ∃ r', IxR X r' ∧ r' x y H Q) : IxR X r := fun value slice pins s σ H x y v u Q I rx ry q hs => by
  obtain ⟨r', h1, h2⟩ := h x y H Q q
  exact h1 value slice pins s σ H x y v u Q I rx ry h2 hs
theorem SlR.of {r : V → Option Int → Option Int → Hp → VK → Prop} (h : ∀ x lo hi H Q, r x lo hi H Q → ∃ r', SlR X r' ∧ r' x lo hi H Q) : SlR X r := fun pins s σ H x v vl vu lo hi sl Q I rx hs pl pu q => by
  obtain ⟨r', h1, h2⟩ := h x lo hi H Q q
  exact h1 pins s σ H x v vl vu lo hi sl Q I rx hs pl pu h2
theorem CallR.of {f : Value} {r : List V → Hp → VK → Prop} (h : ∀ xs H Q, r xs H Q → ∃ r', CallR X f r' ∧ r' xs H Q) : CallR X f r := fun pins s σ H xs us Q I rs q => by
  obtain ⟨r', h1, h2⟩ := h xs H Q q
  exact h1 pins s σ H xs us Q I rs h2
theorem MtR.of {id : String} {r : V → List V → Hp → VK → Prop} (h : ∀ x xs H Q, r x xs H Q → ∃ r', MtR X id r' ∧ r' x xs H Q) : MtR X id r := fun pins s σ H x xs v us Q I rx rs q => by
  obtain ⟨r', h1, h2⟩ := h x xs H Q q
  exact h1 pins s σ H x xs v us Q I rx rs h2

theorem ixR (T : Tb) (TT : Tabs T A X.K X.w) : IxR X (r2 X.K A fun S => idxop T.tabs S) := by
  refine IxR.of fun x y H Q hq => ?_
  obtain ⟨μ, S, dx, dy, d, rx, ry, R, e, q⟩ := hq
  replace e : idxop T.tabs S dx dy = some d := e
  unfold idxop at e
  split at e
  · split at e
    · rename_i kvs hk
      cases ry
      cases rx with
      | tab h => exact ⟨_, ix_tabR (A := A), _, _, kvs, d, rfl, rfl, TT _ _ _ hk h, e, fun v kv => q v μ H (kv μ H) R (Mo.refl _ _)⟩
    · cases e
  · split at e
    · rename_i z i hz
      cases rx; cases ry
      cases e1 : L2.atI z.cps.toList i with
      | none => rw [e1] at e; cases e
      | some c =>
        rw [e1] at e
        cases e
        exact ⟨_, ix_str, z, i, c, rfl, rfl, hz, e1, q _ μ H (.str _) R (Mo.refl _ _)⟩
    · cases e
  · split at e
    · rename_i hs
      cases ry
      cases rx with
      | ref h =>
        obtain ⟨ho, h1, h2⟩ := R.obj _ _ _ hs h
        cases h2 with
        | lst r =>
          obtain ⟨v, e1, r1⟩ := r.atI e
          exact ⟨_, ix_list, _, _, _, v, rfl, rfl, SqL.of h1, e1, q v μ H r1 R (Mo.refl _ _)⟩
    · cases e
  · cases ry
    cases rx with
    | tup h r =>
      obtain ⟨v, e1, r1⟩ := r.atI e
      exact ⟨_, ix_tup, _, _, _, v, rfl, rfl, h.sq, e1, q v μ H r1 R (Mo.refl _ _)⟩
  · cases ry
    cases rx with
    | tl h r =>
      obtain ⟨v, e1, r1⟩ := r.atI e
      exact ⟨_, ix_list, _, _, _, v, rfl, rfl, h.sq, e1, q v μ H r1 R (Mo.refl _ _)⟩
  · cases e

/-- a slice -/
def rS (K : PySem.W.Frag) (A : Ad) : V → Option Int → Option Int → Hp → VK → Prop := fun x lo hi H Q => ∃ (μ : Mu) (S : Hs) (dx d : D), DR K A μ H dx x ∧ HR K A μ S H ∧ slop S dx lo hi = some d ∧
  ∀ v μ' H', DR K A μ' H' d v → HR K A μ' S H' → Mo μ H μ' H' → Q v H'
theorem cut_all {α : Type} {xs : List α} {lo hi : Option Int} (h : HT.sIx xs.length 0 lo = 0 ∧ HT.sIx xs.length xs.length hi = xs.length) : cut xs lo hi = xs := by
  unfold cut
  rw [h.1, h.2]
  simp
theorem slR : SlR X (rS X.K A) := by
  refine SlR.of fun x lo hi H Q hq => ?_
  obtain ⟨μ, S, dx, d, rx, R, e, q⟩ := hq
  unfold slop at e
  split at e
  · rename_i ds
    cases e
    cases rx with
    | @tup _ p vs h r =>
      refine ⟨_, sl_tupA, p, vs, rfl, h.sq, fun hw => ?_, fun hw p2 hp => ?_⟩
      · rw [r.length] at hw
        exact q _ μ H (by rw [cut_all hw]; exact .tup h r) R (Mo.refl _ _)
      · obtain ⟨z1, z2, z3⟩ := new_tup R (r.cut lo hi) hp
        exact q _ _ _ z1 z2 z3
  · split at e
    · rename_i z hz
      cases e; cases rx
      exact ⟨_, sl_str, z, rfl, hz, q _ μ H (.str _) R (Mo.refl _ _)⟩
    · cases e
  · split at e
    · rename_i ds hd
      cases e
      obtain ⟨a, vs, rfl, h1, r⟩ := lst_sq R rx hd
      refine ⟨_, sl_list, a, vs, rfl, .inl h1, fun p2 hp => ?_⟩
      obtain ⟨z1, z2, z3⟩ := new_tl R (r.cut lo hi) hp
      exact q _ _ _ z1 z2 z3
    · cases e

/-! ### built-in functions -/
def rC (K : PySem.W.Frag) (A : Ad) (b : Bi) : List V → Hp → VK → Prop := fun xs H Q => ∃ (μ : Mu) (S : Hs) (ds : List D) (d : D), DRs K A μ H ds xs ∧ HR K A μ S H ∧ bifun S b ds = some d ∧
  ∀ v μ' H', DR K A μ' H' d v → HR K A μ' S H' → Mo μ H μ' H' → Q v H'
theorem one_inv {K : PySem.W.Frag} {μ : Mu} {H : Hp} {d : D} {xs : List V} (h : DRs K A μ H [d] xs) : ∃ v, xs = [v] ∧ DR K A μ H d v := by
  cases h with
  | cons h r =>
    cases r
    exact ⟨_, rfl, h⟩
theorem bools_of {K : PySem.W.Frag} {μ : Mu} {H : Hp} : ∀ {ds : List D} {vs : List V} {bs : List Bool}, DRs K A μ H ds vs → bools? ds = some bs → vs = bs.map V.bl
  | _, _, bs, .nil, e => by simp [bools?] at e; subst e; rfl
  | _, _, bs, .cons (d := d) (ds := ds) h r, e => by
    cases d with
    | bl b =>
      have e' : (bools? ds).map (b :: ·) = some bs := e
      cases q : bools? ds with
      | none => rw [q] at e'; cases e'
      | some cs =>
        rw [q] at e'
        cases e'
        cases h
        rw [bools_of r q]
        rfl
    | _ => cases e
theorem ints_of {K : PySem.W.Frag} {μ : Mu} {H : Hp} : ∀ {ds : List D} {vs : List V} {bs : List Int}, DRs K A μ H ds vs → ints? ds = some bs → vs = bs.map V.int
  | _, _, bs, .nil, e => by simp [ints?] at e; subst e; rfl
  | _, _, bs, .cons (d := d) (ds := ds) h r, e => by
    cases d with
    | int b =>
      have e' : (ints? ds).map (b :: ·) = some bs := e
      cases q : ints? ds with
      | none => rw [q] at e'; cases e'
      | some cs =>
        rw [q] at e'
        cases e'
        cases h
        rw [ints_of r q]
        rfl
    | _ => cases e
theorem cR_len : CallR X (.builtin "len") (rC X.K A .len) := by
  refine CallR.of fun xs H Q hq => ?_
  obtain ⟨μ, S, ds, d, rs, R, e, q⟩ := hq
  unfold bifun at e
  split at e <;> try contradiction
  · split at e
    · rename_i z hz
      cases e
      obtain ⟨v, rfl, r⟩ := one_inv rs
      cases r
      exact ⟨_, call_len, _, _, rfl, ⟨hz, rfl⟩, q _ μ H (.int _) R (Mo.refl _ _)⟩
    · cases e
  · rename_i d0 _ _
    obtain ⟨v, rfl, r⟩ := one_inv rs
    cases e1 : seqAt S d0 with
    | none => rw [e1] at e; cases e
    | some es =>
      rw [e1] at e
      cases e
      obtain ⟨a, vs, rfl, h1, h2⟩ := seq_sq R r e1
      refine ⟨_, call_len, .ref a, es.length, rfl, ?_, q _ μ H (.int _) R (Mo.refl _ _)⟩
      rcases h1 with h1 | h1
      · exact .inl ⟨vs, h1, h2.length.symm⟩
      · exact .inr ⟨vs, h1, h2.length.symm⟩
  all_goals cases e
theorem tyx_of {K : PySem.W.Frag} {μ : Mu} {H : Hp} {S : Hs} {d : D} {v : V} {ty : String} (R : HR K A μ S H) (h : DR K A μ H d v) (e : tyName S d = some ty) : TyX K H v (.type ty) := by
  cases d with
  | non => cases e; cases h; exact .base .non
  | bl b => cases e; cases h; exact .base (.bl _)
  | int b => cases e; cases h; exact .base (.int _)
  | str b => cases e; cases h; exact .base (.str _)
  | tup ds =>
    cases e
    cases h with
    | tup h r =>
      rcases h with ⟨h | ⟨o, h⟩, _⟩ | ⟨o, its, n, h1, h2, _⟩
      · exact .base (.tup h)
      · exact .fTuple h
      · exact .kTuple h1 h2
  | tl ds =>
    cases e
    cases h with
    | tl h r =>
      rcases h with ⟨h | ⟨o, h⟩, _⟩
      · exact .base (.lst h)
      · exact .base (.frz h)
  | ref n =>
    have e' : (match S[n]? with | some (.lst _) => some "list" | some (.dct _) => some "dict" | _ => none) = some ty := e
    cases h with
    | ref q =>
      split at e'
      · rename_i ds hs
        cases e'
        obtain ⟨ho, h1, h2⟩ := R.obj _ _ _ hs q
        cases h2
        exact .base (.lst h1)
      · rename_i ds hs
        cases e'
        obtain ⟨ho, h1, h2⟩ := R.obj _ _ _ hs q
        cases h2
        exact .base (.dK h1)
      · cases e'
  | kl _ => cases e
  | fn _ => cases e
  | cls _ => cases e
  | ty _ => cases e
  | tab _ => cases e
theorem tyName_ty {S : Hs} {d : D} {ty : String} (e : tyName S d = some ty) : ty ∈ ["NoneType", "bool", "int", "str", "tuple", "list", "dict"] := by
  unfold tyName at e
  split at e
  any_goals (cases e; decide)
  · split at e
    · cases e; decide
    · cases e; decide
    · cases e
  · cases e
theorem isi_kit {ty cl : String} {b : Bool} (ht : ty ∈ ["NoneType", "bool", "int", "str", "tuple", "list", "dict"]) (hc : cl ∈ ["int", "bool", "str", "tuple", "list"]) (e : isi ty cl = some b) : kitB ty cl = some b := by
  have h : ∀ t ∈ ["NoneType", "bool", "int", "str", "tuple", "list", "dict"], ∀ c ∈ ["int", "bool", "str", "tuple", "list"], isi t c = kitB t c := by decide +kernel
  rw [← h ty ht cl hc]
  exact e
theorem cR_isi (cl : String) (hc : cl ∈ ["int", "bool", "str", "tuple", "list"]) : CallR X (.builtin "isinstance") (fun xs H Q => ∃ x ys, xs = [x, .ty cl] ∧ ys = [x] ∧ rC X.K A (.isinst cl) ys H Q) := by
  refine CallR.of fun xs H Q hq => ?_
  obtain ⟨x, ys, rfl, rfl, μ, S, ds, d, rs, R, e, q⟩ := hq
  unfold bifun at e
  split at e <;> try contradiction
  · rename_i cl' d0 heq
    cases heq
    obtain ⟨v, e0, r⟩ := one_inv rs
    cases e0
    split at e
    · rename_i ty hty
      cases e2 : isi ty cl with
      | none => rw [e2] at e; cases e
      | some b =>
        rw [e2] at e
        cases e
        exact ⟨_, call_isi, x, .ty cl, .type ty, .type cl, b, rfl, .ty _, tyx_of R r hty, kit_ty (isi_kit (tyName_ty hty) hc e2), q _ μ H (.bl _) R (Mo.refl _ _)⟩
    · cases e
  all_goals cases e
theorem cR_int : CallR X (.type "int") (rC X.K A .int) := by
  refine CallR.of fun xs H Q hq => ?_
  obtain ⟨μ, S, ds, d, rs, R, e, q⟩ := hq
  unfold bifun at e
  split at e <;> try contradiction
  · cases e
    obtain ⟨v, rfl, r⟩ := one_inv rs
    cases r
    exact ⟨_, call_int1, .inl ⟨_, rfl, q _ μ H (.int _) R (Mo.refl _ _)⟩⟩
  · cases e
    obtain ⟨v, rfl, r⟩ := one_inv rs
    cases r
    exact ⟨_, call_int1, .inr ⟨_, rfl, q _ μ H (.int _) R (Mo.refl _ _)⟩⟩
  · split at e
    · rename_i hz
      obtain ⟨v, rfl, r⟩ := one_inv rs
      cases r
      obtain ⟨n, e1, rfl⟩ := Option.map_eq_some_iff.mp e
      exact ⟨_, call_int_str, _, n, rfl, e1, hz, q _ μ H (.int _) R (Mo.refl _ _)⟩
    · cases e
  all_goals cases e
theorem cR_str : CallR X (.type "str") (rC X.K A .str) := by
  refine CallR.of fun xs H Q hq => ?_
  obtain ⟨μ, S, ds, d, rs, R, e, q⟩ := hq
  unfold bifun at e
  split at e <;> try contradiction
  · split at e
    · rename_i hz
      cases e
      obtain ⟨v, rfl, r⟩ := one_inv rs
      cases r
      exact ⟨_, call_str_int, _, rfl, hz, q _ μ H (.str _) R (Mo.refl _ _)⟩
    · cases e
  · cases e
    obtain ⟨v, rfl, r⟩ := one_inv rs
    cases r
    exact ⟨_, SkE.call_str_str, _, rfl, q _ μ H (.str _) R (Mo.refl _ _)⟩
  all_goals cases e
theorem cR_tuple : CallR X (.type "tuple") (rC X.K A .tuple) := by
  refine CallR.of fun xs H Q hq => ?_
  obtain ⟨μ, S, ds, d, rs, R, e, q⟩ := hq
  unfold bifun at e
  split at e <;> try contradiction
  · cases e
    obtain ⟨v, rfl, r⟩ := one_inv rs
    cases r with
    | tup h r => exact ⟨_, call_tuple_of, _, _, rfl, .inr ⟨h.sq, q _ μ H (.tup h r) R (Mo.refl _ _)⟩⟩
  · rename_i d0 _ _
    obtain ⟨v, rfl, r⟩ := one_inv rs
    cases e1 : lstAt S d0 with
    | none => rw [e1] at e; cases e
    | some es =>
      rw [e1] at e
      cases e
      obtain ⟨a, vs, rfl, h1, h2⟩ := lst_sq R r e1
      refine ⟨_, call_tuple_of, a, vs, rfl, .inl ⟨.inl h1, fun p hp => ?_⟩⟩
      obtain ⟨z1, z2, z3⟩ := new_tup R h2 hp
      exact q _ _ _ z1 z2 z3
  all_goals cases e
theorem cR_list : CallR X (.type "list") (rC X.K A .list) := by
  refine CallR.of fun xs H Q hq => ?_
  obtain ⟨μ, S, ds, d, rs, R, e, q⟩ := hq
  unfold bifun at e
  split at e <;> try contradiction
  · rename_i d0 _
    obtain ⟨v, rfl, r⟩ := one_inv rs
    cases e1 : seqAt S d0 with
    | none => rw [e1] at e; cases e
    | some es =>
      rw [e1] at e
      cases e
      obtain ⟨a, vs, rfl, h1, h2⟩ := seq_sq R r e1
      refine ⟨_, call_list_of, a, vs, rfl, h1, fun p hp => ?_⟩
      obtain ⟨z1, z2, z3⟩ := new_tl R h2 hp
      exact q _ _ _ z1 z2 z3
  all_goals cases e
theorem cR_all (hc : X.calm = true) : CallR X (.builtin "all") (rC X.K A .all) := by
  refine CallR.of fun xs H Q hq => ?_
  obtain ⟨μ, S, ds, d, rs, R, e, q⟩ := hq
  unfold bifun at e
  split at e <;> try contradiction
  · obtain ⟨v, rfl, r⟩ := one_inv rs
    split at e
    · rename_i es e1
      cases e2 : bools? es with
      | none => rw [e2] at e; cases e
      | some bs =>
        rw [e2] at e
        cases e
        obtain ⟨a, vs, rfl, h1, h2⟩ := lst_sq R r e1
        exact ⟨_, L2.cr_all hc, a, bs, rfl, .inl (by rw [← bools_of h2 e2]; exact h1), q _ μ H (.bl _) R (Mo.refl _ _)⟩
    · cases e
  all_goals cases e
theorem cR_any (hc : X.calm = true) : CallR X (.builtin "any") (rC X.K A .any) := by
  refine CallR.of fun xs H Q hq => ?_
  obtain ⟨μ, S, ds, d, rs, R, e, q⟩ := hq
  unfold bifun at e
  split at e <;> try contradiction
  · obtain ⟨v, rfl, r⟩ := one_inv rs
    split at e
    · rename_i es e1
      cases e2 : bools? es with
      | none => rw [e2] at e; cases e
      | some bs =>
        rw [e2] at e
        cases e
        obtain ⟨a, vs, rfl, h1, h2⟩ := lst_sq R r e1
        exact ⟨_, L2.cr_any hc, a, bs, rfl, .inl (by rw [← bools_of h2 e2]; exact h1), q _ μ H (.bl _) R (Mo.refl _ _)⟩
    · cases e
  all_goals cases e
theorem cR_sum (hc : X.calm = true) : CallR X (.builtin "sum") (rC X.K A .sum) := by
  refine CallR.of fun xs H Q hq => ?_
  obtain ⟨μ, S, ds, d, rs, R, e, q⟩ := hq
  unfold bifun at e
  split at e <;> try contradiction
  · obtain ⟨v, rfl, r⟩ := one_inv rs
    split at e
    · rename_i es e1
      cases e2 : ints? es with
      | none => rw [e2] at e; cases e
      | some bs =>
        rw [e2] at e
        cases e
        obtain ⟨a, vs, rfl, h1, h2⟩ := lst_sq R r e1
        exact ⟨_, L2.cr_sum hc, a, bs, rfl, .inl (by rw [← ints_of h2 e2]; exact h1), q _ μ H (.int _) R (Mo.refl _ _)⟩
    · cases e
  all_goals cases e
theorem two_inv {K : PySem.W.Frag} {μ : Mu} {H : Hp} {d e : D} {xs : List V} (h : DRs K A μ H [d, e] xs) : ∃ v u, xs = [v, u] ∧ DR K A μ H d v ∧ DR K A μ H e u := by
  cases h with
  | cons h r =>
    obtain ⟨u, rfl, q⟩ := one_inv r
    exact ⟨_, _, rfl, h, q⟩
theorem cR_max2 (hc : X.calm = true) : CallR X (.builtin "max") (rC X.K A .max2) := by
  refine CallR.of fun xs H Q hq => ?_
  obtain ⟨μ, S, ds, d, rs, R, e, q⟩ := hq
  unfold bifun at e
  split at e <;> try contradiction
  · cases e
    obtain ⟨v, u, rfl, r1, r2⟩ := two_inv rs
    cases r1; cases r2
    exact ⟨_, call_max2 hc, _, _, rfl, q _ μ H (.int _) R (Mo.refl _ _)⟩
  all_goals cases e
theorem cR_min2 (hc : X.calm = true) : CallR X (.builtin "min") (rC X.K A .min2) := by
  refine CallR.of fun xs H Q hq => ?_
  obtain ⟨μ, S, ds, d, rs, R, e, q⟩ := hq
  unfold bifun at e
  split at e <;> try contradiction
  · cases e
    obtain ⟨v, u, rfl, r1, r2⟩ := two_inv rs
    cases r1; cases r2
    exact ⟨_, call_min2 hc, _, _, rfl, q _ μ H (.int _) R (Mo.refl _ _)⟩
  all_goals cases e
theorem cR_abs : CallR X (.builtin "abs") (rC X.K A .abs) := by
  refine CallR.of fun xs H Q hq => ?_
  obtain ⟨μ, S, ds, d, rs, R, e, q⟩ := hq
  unfold bifun at e
  split at e <;> try contradiction
  · cases e
    obtain ⟨v, rfl, r1⟩ := one_inv rs
    cases r1
    exact ⟨_, call_abs, _, rfl, q _ μ H (.int _) R (Mo.refl _ _)⟩
  all_goals cases e
end
end CN
set_option Elab.async false
set_option linter.all false
set_option maxRecDepth 100000
set_option maxHeartbeats 2000000
/-! CnOps4: methods of built-in objects. -/
namespace CN
open PySem PyProof.Rows L2

theorem list_extend_tup (l : Addr) (items : Array Value) (n : Nat) (b : Addr) (items2 : Array Value) (n2 : Nat) (dd : Option Addr) (sl : Array (Option Value)) (hs0 : ¬(!items.isEmpty && Builtin.List.listTooLong (items.size + items2.size)) = true) (hs1 : items.size ≤ sizeLine) (hs2 : items.size + items2.size ≤ sizeLine + 1) :
    Meets (Builtin.«list.extend» ⟨[.ref l, .ref b], []⟩) (fun _ R s => s.heap.get? l = some { cls := .type "list", dict := none, data := .seq items n, slots := #[] } ∧ s.heap.get? b = some { cls := .type "tuple", dict := dd, data := .seq items2 n2, slots := sl } ∧ R (.ok (.ret Value.none)) { s with heap := s.heap.update l (Obj.mapSeq fun x => x ++ items2), toks := s.toks }) :=
  .of_wp fun prog w A R s h => by
    obtain ⟨hp, g, d, tk, os⟩ := s; obtain ⟨hl, hb, h⟩ := h; have f1 := AutoSeq1.idx_int; have f2 := AutoSeq1.sub_tuple_tuple; have f3 := AutoSeq1.sub_list_list; have f4 := AutoSeq1.sub_tuple_list; have f5 := AutoSeq1.sub_list_tuple;
    have hz' : (items ++ items2).size ≤ sizeLine + 1 := by rw [Array.size_append]; exact hs2
    wp_walk using (wpAny_updateSeq hl rfl (hz := hs1) (_hz' := hz')), wpAny_loadPart' hl, wpAny_loadPart' hb; exact ⟨_, rfl, h⟩

section
variable {X : Cx} {A : Ad}
theorem seq_rd {K : PySem.W.Frag} {μ : Mu} {H : Hp} {S : Hs} {d : D} {ds : List D} {v : V} (R : HR K A μ S H) (h : DR K A μ H d v) (e : seqAt0 S d = some ds) : ∃ a vs, v = .ref a ∧ (Rd H a (.lst vs) ∨ SqT K H a vs) ∧ DRs K A μ H ds vs := by
  cases d with
  | tup es =>
    cases e
    cases h with
    | tup q r => exact ⟨_, _, rfl, .inr q.sq, r⟩
  | _ =>
    obtain ⟨a, vs, h1, h2, h3⟩ := lst_sq R h e
    exact ⟨a, vs, h1, .inl h2, h3⟩
theorem mt_extendT : MtR X "list.extend" (fun x vs H Q => ∃ l b xs zs, x = .ref l ∧ vs = [.ref b] ∧ H l = some (.lst xs) ∧ SqT X.K H b zs ∧ xs.length + zs.length ≤ sizeLine ∧ Q .non (upd H l (.lst (xs ++ zs)))) := by
  intro pins s σ H x vs v us Q I rx rv h
  obtain ⟨l, b, xs, zs, rfl, rfl, hH, hB, hz, q⟩ := h
  cases rx
  obtain ⟨u, rfl, ru⟩ := vals1 rv
  cases ru
  obtain ⟨z, its, n, r, hl, e⟩ := I.lstM hH
  obtain ⟨its2, r2, ⟨⟨cls, dd, data, sl⟩, ho, hc, n2, hd⟩, hs⟩ := I.tuple hB
  simp only at hc hd
  subst hc hd
  have hl2 := r2.length
  have hsz : its.toArray.size + its2.toArray.size ≤ sizeLine := by rw [List.size_toArray, List.size_toArray]; omega
  have hlong : ¬ (!its.toArray.isEmpty && Builtin.List.listTooLong (its.toArray.size + its2.toArray.size)) = true := by
    rw [notLongL hsz, Bool.and_false]
    exact Bool.false_ne_true
  refine call_meets F.slot_list_extend ⟨_, e, rfl⟩ F.entry_list_extend (F.args_list_extend_2 _ _)
    (list_extend_tup l its.toArray n b its2.toArray n2 dd sl hlong (by rw [List.size_toArray]; omega) (by omega)) ⟨e, ho, ?_⟩
  refine ⟨.non, _, I.lset (its' := its ++ its2) hH e (by simp) (r.append r2) ?_, rfl, q⟩
  rw [List.length_append]
  omega
theorem mt_extendR : MtR X "list.extend" (fun x vs H Q => ∃ l b xs zs, x = .ref l ∧ vs = [.ref b] ∧ H l = some (.lst xs) ∧ Rd H b (.lst zs) ∧ xs.length + zs.length ≤ sizeLine ∧ Q .non (upd H l (.lst (xs ++ zs)))) := by
  intro pins s σ H x vs v us Q I rx rv h
  obtain ⟨l, b, xs, zs, rfl, rfl, hH, hB, hz, q⟩ := h
  cases rx
  obtain ⟨u, rfl, ru⟩ := vals1 rv
  cases ru
  obtain ⟨z, its, n, r, hl, e⟩ := I.lstM hH
  obtain ⟨z2, its2, n2, r2, hl2, e2⟩ := rdL I hB
  have hsz : its.toArray.size + its2.toArray.size ≤ sizeLine := by rw [List.size_toArray, List.size_toArray]; omega
  have hlong : ¬ (!its.toArray.isEmpty && Builtin.List.listTooLong (its.toArray.size + its2.toArray.size)) = true := by
    rw [notLongL hsz, Bool.and_false]
    exact Bool.false_ne_true
  refine call_meets F.slot_list_extend ⟨_, e, rfl⟩ F.entry_list_extend (F.args_list_extend_2 _ _)
    (AutoSeq1.list_extend_list_list_0 l its.toArray n b its2.toArray n2 hlong (by rw [List.size_toArray]; omega) (by omega)) ⟨e, e2, ?_⟩
  refine ⟨.non, _, I.lset (its' := its ++ its2) hH e (by simp) (r.append r2) ?_, rfl, q⟩
  rw [List.length_append]
  omega
/-- a method's answer -/
def rM (K : PySem.W.Frag) (A : Ad) (m : Bm) : V → List V → Hp → VK → Prop := fun x xs H Q => ∃ (μ : Mu) (S S' : Hs) (dx d : D) (ds : List D), DR K A μ H dx x ∧ DRs K A μ H ds xs ∧ HR K A μ S H ∧ bmeth S m dx ds = .ok d S' ∧
  ∀ v μ' H', DR K A μ' H' d v → HR K A μ' S' H' → Mo μ H μ' H' → Q v H'
theorem mR_append : MtR X "list.append" (rM X.K A .append) := by
  refine MtR.of fun x xs H Q hq => ?_
  obtain ⟨μ, S, S', dx, d, ds, rx, rs, R, e, q⟩ := hq
  unfold bmeth at e
  split at e <;> try contradiction
  · split at e
    · rename_i es hs
      split at e
      · rename_i hz
        cases e
        obtain ⟨v, rfl, r⟩ := one_inv rs
        cases rx with
        | ref h =>
          obtain ⟨ho, h1, h2⟩ := R.obj _ _ _ hs h
          cases h2 with
          | lst r1 =>
            refine ⟨_, mt_append, _, _, v, rfl, rfl, h1, by rw [r1.length]; exact hz, ?_⟩
            exact q _ μ _ .non (R.write h (.lst (r1.append (.cons r .nil)))) (Mo.write (List.mem_of_getElem? h))
      · cases e
    · cases e
  all_goals cases e
theorem mR_extend : MtR X "list.extend" (rM X.K A .extend) := by
  refine MtR.of fun x xs H Q hq => ?_
  obtain ⟨μ, S, S', dx, d, ds, rx, rs, R, e, q⟩ := hq
  unfold bmeth at e
  split at e <;> try contradiction
  · split at e
    · rename_i ds1 es hs he
      split at e
      · rename_i hz
        cases e
        obtain ⟨v, rfl, r⟩ := one_inv rs
        cases rx with
        | ref h =>
          obtain ⟨ho, h1, h2⟩ := R.obj _ _ _ hs h
          cases h2 with
          | lst r1 =>
            obtain ⟨b, zs, rfl, h3, r3⟩ := seq_rd R r he
            have fin := q .non μ _ .non (R.write h (.lst (r1.append r3))) (Mo.write (List.mem_of_getElem? h))
            rcases h3 with h3 | h3
            · exact ⟨_, mt_extendR, _, b, _, zs, rfl, rfl, h1, h3, by rw [r1.length, r3.length]; exact hz, fin⟩
            · exact ⟨_, mt_extendT, _, b, _, zs, rfl, rfl, h1, h3, by rw [r1.length, r3.length]; exact hz, fin⟩
      · cases e
    · cases e
  all_goals cases e
theorem mR_pop : MtR X "list.pop" (rM X.K A .pop) := by
  refine MtR.of fun x xs H Q hq => ?_
  obtain ⟨μ, S, S', dx, d, ds, rx, rs, R, e, q⟩ := hq
  unfold bmeth at e
  split at e <;> try contradiction
  · split at e
    · rename_i ds1 hs
      split at e
      · rename_i d1 hd
        cases e
        cases rs
        cases rx with
        | ref h =>
          obtain ⟨ho, h1, h2⟩ := R.obj _ _ _ hs h
          cases h2 with
          | lst r1 =>
            obtain ⟨v, h3, r3⟩ := r1.get hd
            refine ⟨_, mt_pop, _, _, v, rfl, rfl, h1, by rw [r1.length]; exact h3, ?_⟩
            exact q _ μ _ (r3.mono (Mo.write (List.mem_of_getElem? h))) (R.write h (.lst r1.dropLast)) (Mo.write (List.mem_of_getElem? h))
      · cases e
    · cases e
  all_goals cases e
theorem firstAt_of {y : D} : ∀ {ds : List D} {j : Nat}, firstAt y ds = some j → (∃ z, ds[j]? = some z ∧ eqF z y = true) ∧ ∀ m z', m < j → ds[m]? = some z' → eqF z' y = false
  | [], j, e => by cases e
  | d :: ds, j, e => by
    unfold firstAt at e
    split at e
    · rename_i h
      cases e
      exact ⟨⟨d, rfl, h⟩, fun m z' hm => by omega⟩
    · rename_i h
      cases e1 : firstAt y ds with
      | none => rw [e1] at e; cases e
      | some k =>
        rw [e1] at e
        cases e
        obtain ⟨⟨z, h1, h2⟩, h3⟩ := firstAt_of e1
        refine ⟨⟨z, by simpa using h1, h2⟩, fun m z' hm hz => ?_⟩
        cases m with
        | zero =>
          simp at hz
          subst hz
          simpa using h
        | succ m => exact h3 m z' (Nat.lt_of_succ_lt_succ hm) (by simpa using hz)
theorem mR_index : MtR X "list.index" (rM X.K A .index) := by
  refine MtR.of fun x xs H Q hq => ?_
  obtain ⟨μ, S, S', dx, d, ds, rx, rs, R, e, q⟩ := hq
  unfold bmeth at e
  split at e <;> try contradiction
  · split at e
    · rename_i es he
      split at e
      · rename_i hf
        rw [Bool.and_eq_true] at hf
        split at e
        · rename_i j hj
          cases e
          obtain ⟨v, rfl, r⟩ := one_inv rs
          obtain ⟨a, vs, rfl, h1, h2⟩ := lst_sq R rx he
          obtain ⟨⟨z, h3, h4⟩, h5⟩ := firstAt_of hj
          obtain ⟨w, h6, h7⟩ := h2.get h3
          have fl : ∀ {k : Nat} {c : D}, es[k]? = some c → flatD c = true := fun hc => (List.all_eq_true.mp hf.2) _ (List.mem_of_getElem? hc)
          refine ⟨_, mt_index, a, vs, v, j, w, rfl, rfl, .inl h1, flat_of r hf.1, flats_of h2 hf.2, h6, by rw [eqF_of h7 r (fl h3) hf.1]; exact h4, fun m z' hm hz => ?_, q _ μ H (.int _) R (Mo.refl _ _)⟩
          have hl : m < es.length := by
            have := (List.getElem?_eq_some_iff.mp h3).1
            omega
          obtain ⟨w2, h8, h9⟩ := h2.get (List.getElem?_eq_getElem hl)
          rw [hz] at h8
          cases h8
          rw [eqF_of h9 r (fl (List.getElem?_eq_getElem hl)) hf.1]
          exact h5 m _ hm (List.getElem?_eq_getElem hl)
        · cases e
      · cases e
    · cases e
  all_goals cases e
theorem mR_split : MtR X "str.split" (rM X.K A .split) := by
  refine MtR.of fun x xs H Q hq => ?_
  obtain ⟨μ, S, S', dx, d, ds, rx, rs, R, e, q⟩ := hq
  unfold bmeth at e
  split at e <;> try contradiction
  · split at e
    · rename_i hz
      cases e
      obtain ⟨v, rfl, r⟩ := one_inv rs
      cases r; cases rx
      refine ⟨_, mt_split, _, _, rfl, rfl, hz.1, hz.2, fun p hp => ?_⟩
      obtain ⟨z1, z2, z3⟩ := new_tl R (DRs.strs (Txt.split _ _)) hp
      exact q _ _ _ z1 z2 z3
    · cases e
  all_goals cases e
theorem strs_of {K : PySem.W.Frag} {μ : Mu} {H : Hp} : ∀ {ds : List D} {vs : List V} {bs : List Str}, DRs K A μ H ds vs → strs? ds = some bs → vs = bs.map V.str
  | _, _, bs, .nil, e => by simp [strs?] at e; subst e; rfl
  | _, _, bs, .cons (d := d) (ds := ds) h r, e => by
    cases d with
    | str b =>
      have e' : (strs? ds).map (b :: ·) = some bs := e
      cases q : strs? ds with
      | none => rw [q] at e'; cases e'
      | some cs =>
        rw [q] at e'
        cases e'
        cases h
        rw [strs_of r q]
        rfl
    | _ => cases e
theorem mR_join : MtR X "str.join" (rM X.K A .join) := by
  refine MtR.of fun x xs H Q hq => ?_
  obtain ⟨μ, S, S', dx, d, ds, rx, rs, R, e, q⟩ := hq
  unfold bmeth at e
  split at e <;> try contradiction
  · split at e
    · rename_i es he
      split at e
      · rename_i ys hy
        split at e
        · rename_i hz
          cases e
          obtain ⟨v, rfl, r⟩ := one_inv rs
          cases rx
          obtain ⟨a, vs, rfl, h1, r1⟩ := seq_rd R r he
          cases strs_of r1 hy
          exact ⟨_, mt_join, _, a, ys, rfl, rfl, h1.imp .inl id, hz, q _ μ H (.str _) R (Mo.refl _ _)⟩
        · cases e
      · cases e
    · cases e
  all_goals cases e
theorem mR_startswith : MtR X "str.startswith" (rM X.K A .startswith) := by
  refine MtR.of fun x xs H Q hq => ?_
  obtain ⟨μ, S, S', dx, d, ds, rx, rs, R, e, q⟩ := hq
  unfold bmeth at e
  split at e <;> try contradiction
  · cases e
    obtain ⟨v, rfl, r⟩ := one_inv rs
    cases r; cases rx
    exact ⟨_, mt_startswith, _, _, rfl, rfl, q _ μ H (.bl _) R (Mo.refl _ _)⟩
  all_goals cases e
end
end CN
set_option Elab.async false
set_option linter.all false
set_option maxRecDepth 100000
set_option maxHeartbeats 2000000
/-! CnChk: does a text of the interpreter's say what a Python text says? -/
namespace CN
open PySem L2

/-- the names behind the numbers -/
structure Gi where
  consts : List Str
  fns : List Str
  clss : List Str
  meths : List Str
  flds : List Str
  /-- exception classes -/
  excs : List Str
  /-- within an except suite, or a function that is called there -/
  inH : Bool
  /-- the functions that are called within except suites -/
  hotf : List Nat
  /-- the functions that are called with keywords: all parameters' names -/
  kwf : List (Nat × List Str)
  /-- the classes that are called with keywords: all parameters' names -/
  kwc : List (Nat × List Str)

/-- what is walked within an except suite -/
def hotIt : It → Tg → Bool
  | .range1 _, .nm _ => true
  | _, _ => false
def plainNm (x : Str) : Bool := !(x == ("__debug__" : Str)) && !(x == ("__classdict__" : Str)) && !(decide (x = "__name__"))
def isGl (sc : Scope) (x : Str) : Bool := decide (sc.names.lookup x = some .globalImplicit) && plainNm x
def isVis (sc : Scope) (x : Str) : Bool := (decide (sc.names.lookup x = some .local) || decide (sc.names.lookup x = some .cell) || decide (sc.names.lookup x = some .free)) && plainNm x
def isLoc (sc : Scope) (x : Str) : Bool := decide (sc.names.lookup x = some .local)
/-- neither a star nor a slice nor a call of super -/
def plainE : Expr → Bool
  | .Starred _ _ => false
  | .Slice _ _ _ _ => false
  | _ => true
def noSuper : Expr → Bool
  | .Call (.Name x _) [] [] _ => !(decide (x = "super"))
  | _ => true
def biName : Bi → Option Str
  | .len => some "len" | .int => some "int" | .tuple => some "tuple" | .list => some "list" | .all => some "all" | .any => some "any" | .sum => some "sum" | .max2 => some "max" | .min2 => some "min" | .abs => some "abs" | .str => some "str"
  | .isinst _ => none
/-- served within an except suite, too -/
def quietBi : Bi → Bool
  | .all | .any | .sum | .max2 | .min2 => false
  | _ => true
/-- the method's name -/
def bmName : Bm → Str
  | .append => "append" | .extend => "extend" | .pop => "pop" | .popAt => "pop" | .insert => "insert" | .index => "index" | .split => "split" | .replace => "replace" | .join => "join" | .startswith => "startswith"
/-- the methods that are served -/
def bmOk : Bm → Bool
  | .append | .extend | .index | .split | .join | .startswith => true
  | _ => false
def boxable : Ex → Bool
  | .lst _ => true
  | .bi .list _ => true
  | _ => false
def ownNames (N : List Str) (own : List Nat) : List (Str × Nat) := own.map fun i => (N.getD i Str.empty, i)

def chkTgN (cl : Bool) (N : List Str) (sc : Scope) : List Nat → List Expr → Bool
  | [], [] => true
  | i :: is, .Name x _ :: es => decide (N[i]? = some x) && (isLoc sc x || (cl && decide (sc.names.lookup x = some .cell))) && chkTgN cl N sc is es
  | _, _ => false
/-- a target: names that are the frame's own; cl: cells, too -/
def chkTg (cl : Bool) (N : List Str) (sc : Scope) : Tg → Expr → Bool
  | .nm i, .Name x _ => decide (N[i]? = some x) && (isLoc sc x || (cl && decide (sc.names.lookup x = some .cell)))
  | .tp is, .Tuple es _ _ => chkTgN cl N sc is es
  | _, _ => false

def kwNames : List Keyword → Option (List Str)
  | [] => some []
  | ⟨some x, _, _⟩ :: r => match kwNames r with | some xs => some (x :: xs) | none => none
  | ⟨none, _, _⟩ :: _ => none
/-- written keys -/
def chkKeys : List L2.Key → List (Option Expr) → Bool
  | [], [] => true
  | .inl i :: ks, some (.Constant (.int j) _ _) :: es => decide (i = j) && chkKeys ks es
  | .inr x :: ks, some (.Constant (.str y) _ _) :: es => decide (x = y) && chkKeys ks es
  | _, _ => false
mutual
def chkE (G : Gi) (N : List Str) (sc : Scope) : Ex → Expr → Bool
  | .var i, e => match e with
    | .Name x _ => decide (N[i]? = some x) && isVis sc x
    | _ => false
  | .cst d, e => match d, e with
    | .int i, .Constant (.int j) _ _ => decide (i = j)
    | .bl i, .Constant (.bool j) _ _ => i == j
    | .str i, .Constant (.str j) _ _ => decide (i = j)
    | .non, .Constant .none _ _ => true
    | _, _ => false
  | .glob k, e => match e with
    | .Name x _ => decide (G.consts[k]? = some x) && isGl sc x
    | _ => false
  | .xf i f, e => match e with
    | .Attribute (.Name x _) y _ => decide (N[i]? = some x) && isVis sc x && decide (G.flds[f]? = some y)
    | _ => false
  | .tup es, e => match e with
    | .Tuple xs _ _ => chkEs G N sc es xs
    | _ => false
  | .lst es, e => match e with
    | .List xs _ => chkEs G N sc es xs
    | _ => false
  | .box a, e => boxable a && chkE G N sc a e
  | .bin op a b, e => match e with
    | .BinOp x o y _ => decide (o = pyOp op) && chkE G N sc a x && chkE G N sc b y
    | _ => false
  | .cmp op a b, e => match e with
    | .Compare x [o] [y] _ => decide (o = pyCmp op) && !behindInMarks o y && chkE G N sc a x && chkE G N sc b y
    | _ => false
  | .isN neg a, e => match e with
    | .Compare x [o] [.Constant .none _ _] _ => decide (o = if neg then .IsNot else .Is) && chkE G N sc a x
    | _ => false
  | .chain o p a b c, e => match e with
    | .Compare x [o1, p1] [y, z] _ => decide (o1 = pyCmp o) && decide (p1 = pyCmp p) && !behindInMarks p1 z && chkE G N sc a x && chkE G N sc b y && chkE G N sc c z
    | _ => false
  | .and es, e => match e with
    | .BoolOp .And xs _ => chkEs G N sc es xs && !xs.isEmpty
    | _ => false
  | .or es, e => match e with
    | .BoolOp .Or xs _ => chkEs G N sc es xs && !xs.isEmpty
    | _ => false
  | .not a, e => match e with
    | .UnaryOp .Not x _ => chkE G N sc a x
    | _ => false
  | .neg a, e => match e with
    | .UnaryOp .USub x _ => chkE G N sc a x
    | _ => false
  | .ite t a b, e => match e with
    | .IfExp u x y _ => chkE G N sc t u && chkE G N sc a x && chkE G N sc b y
    | _ => false
  | .idx a b, e => match e with
    | .Subscript x y _ => plainE y && chkE G N sc a x && chkE G N sc b y
    | _ => false
  | .sl a lo hi, e => match e with
    | .Subscript x (.Slice l h none _) _ => chkE G N sc a x && chkO G N sc lo l && chkO G N sc hi h
    | _ => false
  | .attr a f, e => match e with
    | .Attribute x y _ => decide (G.flds[f]? = some y) && noSuper x && chkE G N sc a x
    | _ => false
  | .call g args, e => match e with
    | .Call (.Name x _) xs kws _ => (!G.inH || decide (g ∈ G.hotf)) && decide (G.fns[g]? = some x) && isGl sc x && (match kws with
      | [] => chkEs G N sc args xs
      | _ :: _ => xs.isEmpty && !G.inH && decide (G.kwf.lookup g = kwNames kws) && (kwNames kws).isSome && chkEs G N sc args (kws.map (·.value)))
    | _ => false
  | .callv i args, e => match e with
    | .Call (.Name x _) xs [] _ => !G.inH && decide (N[i]? = some x) && isVis sc x && chkEs G N sc args xs && !xs.isEmpty
    | _ => false
  | .make c args, e => match e with
    | .Call (.Name x _) xs [] _ => !G.inH && decide (G.clss[c]? = some x) && isGl sc x && chkEs G N sc args xs
    | _ => false
  | .meth m a args, e => match e with
    | .Call (.Attribute o y ap) xs [] p => !G.inH && decide (G.meths[m]? = some y) && (ap.endLine == p.line) && decide (xs.length < 30) && noSuper o && chkE G N sc a o && chkEs G N sc args xs
    | _ => false
  | .bi b args, e => match e with
    | .Call (.Name x _) xs [] _ => match b with
      | .isinst cl => match xs with
        | [u, .Name y _] => decide (x = "isinstance") && isGl sc x && isGl sc y && decide (y = Str.ofString cl) && decide (cl ∈ ["int", "bool", "str", "tuple", "list"]) && chkEs G N sc args [u]
        | _ => false
      | b => (!G.inH || quietBi b) && (decide (biName b = some x) && isGl sc x && chkEs G N sc args xs && !xs.isEmpty)
    | _ => false
  | .bm m a args, e => match e with
    | .Call (.Attribute o y ap) xs [] p => bmOk m && decide (y = bmName m) && noSuper o && decide (xs.length = 1) && (ap.endLine == p.line) && chkE G N sc a o && chkEs G N sc args xs
    | _ => false
  | .pick ks vs i, e => match e with
    | .Subscript (.Dict keys values _) j _ => chkKeys ks keys && decide (keys.length = values.length) && !ks.isEmpty && decide (ks.length ≤ 15) && decide ks.Nodup && plainE j && chkEs G N sc vs values && chkE G N sc i j
    | _ => false
  | .comp elt tg own it cond, e => match e with
    | .ListComp x [⟨t, i, fs, 0⟩] csc _ => (!G.inH || hotIt it tg) && blkC N sc csc (ownNames N own) && chkTg false N (relS csc sc) tg t && chkI G N sc it i t && chkC G N (relS csc sc) cond fs && chkE G N (relS csc sc) elt x && tgOwn own tg
    | _ => false
  | .compB elt tg own it cond, e => match e with
    | .ListComp x [⟨t, i, fs, 0⟩] csc _ => (!G.inH || hotIt it tg) && blkC N sc csc (ownNames N own) && chkTg false N (relS csc sc) tg t && chkI G N sc it i t && chkC G N (relS csc sc) cond fs && chkE G N (relS csc sc) elt x && tgOwn own tg
    | _ => false
def chkEs (G : Gi) (N : List Str) (sc : Scope) : Exs → List Expr → Bool
  | .nil, xs => xs.isEmpty
  | .cons a as, xs => match xs with
    | x :: r => plainE x && chkE G N sc a x && chkEs G N sc as r
    | [] => false
def chkO (G : Gi) (N : List Str) (sc : Scope) : Exo → Option Expr → Bool
  | .no, o => o.isNone
  | .so a, o => match o with
    | some x => chkE G N sc a x
    | none => false
def chkC (G : Gi) (N : List Str) (sc : Scope) : Exo → List Expr → Bool
  | .no, o => o.isEmpty
  | .so a, o => match o with
    | [x] => chkE G N sc a x
    | _ => false
/-- t: the target (zip, enumerate want a written tuple) -/
def chkI (G : Gi) (N : List Str) (sc : Scope) : It → Expr → Expr → Bool
  | .seq a, e, _ => plainE e && notSet e && chkE G N sc a e
  | .range1 a, e, _ => match e with
    | .Call (.Name x _) [y] [] _ => decide (x = "range") && isGl sc x && plainE y && chkE G N sc a y
    | _ => false
  | .range2 a b, e, _ => match e with
    | .Call (.Name x _) [y, z] [] _ => decide (x = "range") && isGl sc x && plainE y && plainE z && chkE G N sc a y && chkE G N sc b z
    | _ => false
  | .zip a b, e, t => match e with
    | .Call (.Name x _) [y, z] [] _ => decide (x = "zip") && isGl sc x && plainE y && plainE z && chkE G N sc a y && chkE G N sc b z && isTup t
    | _ => false
  | .enum a, e, t => match e with
    | .Call (.Name x _) [y] [] _ => decide (x = "enumerate") && isGl sc x && plainE y && chkE G N sc a y && isTup t
    | _ => false
  | .rev a, e, _ => match e with
    | .Call (.Name x _) [y] [] _ => decide (x = "reversed") && isGl sc x && plainE y && chkE G N sc a y
    | _ => false
def notSet : Expr → Bool
  | .Set _ _ _ => false
  | _ => true
def isTup : Expr → Bool
  | .Tuple _ _ _ => true
  | _ => false
/-- a comprehension's targets are its own names -/
def tgOwn (own : List Nat) : Tg → Bool
  | .nm i => decide (i ∈ own)
  | .tp is => is.all fun i => decide (i ∈ own)
end
end CN
set_option Elab.async false
set_option linter.all false
set_option maxRecDepth 100000
set_option maxHeartbeats 2000000
/-! CnExpr: the readings of expressions. -/
namespace CN
open PySem PyProof.Rows L2

/-! ### shapes of texts -/
theorem starE {e : Expr} {es : List Expr} {env : PySem.Env} (h : plainE e = true) : starEach (e :: es) env = (false, eval e env) :: starEach es env := by
  cases e <;> first | rfl | cases h
theorem plain_any {pos : Pos} {env : PySem.Env} : ∀ {es : List Expr}, es.all plainE = true → (backTo pos (starEach es env)).any (·.1) = false
  | [], _ => rfl
  | e :: es, h => by
    rw [List.all_cons, Bool.and_eq_true] at h
    rw [starE h.1]
    have ih := plain_any (pos := pos) (env := env) h.2
    unfold backTo at ih ⊢
    rw [List.map_cons, List.any_cons, ih]
    rfl
theorem plainNm_ne {x : Str} (h : plainNm x = true) : (x == ("__debug__" : Str)) = false ∧ (x == ("__classdict__" : Str)) = false ∧ x ≠ "__name__" := by
  unfold plainNm at h
  simp only [Bool.and_eq_true, Bool.not_eq_true', decide_eq_false_iff_not] at h
  exact ⟨h.1.1, h.1.2, h.2⟩
theorem isGl_ok {X : Cx} {x : Str} (h : isGl X.env.scope x = true) : Gl X x ∧ (x == ("__debug__" : Str)) = false ∧ x ≠ "__name__" := by
  unfold isGl at h
  rw [Bool.and_eq_true, decide_eq_true_eq] at h
  exact ⟨h.1, (plainNm_ne h.2).1, (plainNm_ne h.2).2.2⟩
theorem isVis_ok {X : Cx} {x : Str} (h : isVis X.env.scope x = true) : Vis X.env.scope x ∧ (x == ("__debug__" : Str)) = false ∧ (x == ("__classdict__" : Str)) = false := by
  unfold isVis at h
  simp only [Bool.and_eq_true, Bool.or_eq_true, decide_eq_true_eq] at h
  refine ⟨?_, (plainNm_ne h.2).1, (plainNm_ne h.2).2.1⟩
  rcases h.1 with (h | h) | h
  · exact .inl h
  · exact .inr (.inl h)
  · exact .inr (.inr h)
theorem base_of {o : Expr} {x : Str} {env : PySem.Env} {w : Sem Value} (h : noSuper o = true) : attributeBase o x env w = w := by
  unfold attributeBase
  split
  · rename_i id p1 p2
    have hx : ¬ id = "super" := by
      unfold noSuper at h
      simpa using h
    have hb : (id != ("super" : Str)) = true := by simpa using hx
    rw [hb]
    rfl
  · rfl

section
variable {X : Cx} {A : Ad} {W : WX}
/-! ### the simple ones -/
theorem px_cst {d : D} {v : V} {e : Expr} (h : PE X e (tC v)) (r : KD X.K A d v) : PE X e (TEo X.K A W fun _ s => .ok d s) := PE.imp h fun σ H Q ⟨env, S, μ, E, R, q⟩ => q v μ H (r μ H) R (Mo.refl _ _)
theorem px_var {i : Nat} {x : Str} {pos : Pos} (hN : X.N[i]? = some x) (h : isVis X.env.scope x = true) : PE X (.Name x pos) (TEo X.K A W fun env s => match env[i]? with | some (.has d) => .ok d s | _ => .stuck) := by
  obtain ⟨h1, h2, h3⟩ := isVis_ok h
  refine PE.imp (pe_var hN h1 h2 h3) fun σ H Q ⟨env, S, μ, E, R, q⟩ => ?_
  dsimp only at q
  split at q
  · rename_i d hd
    obtain ⟨v, h4, r⟩ := E.at_ i d hd
    exact ⟨v, h4, q v μ H r R (Mo.refl _ _)⟩
  · exact q.elim
variable {a b c e : Expr} {ma mb mc : CN.Env → Hs → Res D} {pos : Pos}
theorem px_bin (op : BOp) (ha : PE X a (TEo X.K A W ma)) (hb : PE X b (TEo X.K A W mb)) :
    PE X (.BinOp a (pyOp op) b pos) (TEo X.K A W fun env s => (ma env s).bind fun x s1 => (mb env s1).bind fun y s2 => Res.of (binop s2 op x y) s2) :=
  PE.imp (pe_op (opR_bin (A := A) op) ha hb) fun σ H Q ⟨env, S, μ, E, R, h⟩ =>
    seq E R h fun d S1 x μ1 H1 _ r1 R1 E1 M1 h1 => seq E1 R1 h1 fun d2 S2 y μ2 H2 _ r2 R2 E2 M2 h2 => by
      obtain ⟨z, e, q⟩ := Post.of h2
      exact ⟨μ2, S2, d, d2, z, DR.mono M2 r1, r2, R2, e, q⟩
theorem Post.ofB {K : PySem.W.Frag} {σ : L2.St} {μ : Mu} {H : Hp} {Q : VK} {S : Hs} {o : Option Bool} (R : HR K A μ S H) (h : Post (ReD K A) K A W σ μ H Q (Res.of (o.map D.bl) S)) : ∃ b, o = some b ∧ Q (.bl b) H := by
  cases o with
  | none => exact h.elim
  | some b => exact ⟨b, rfl, h (.bl b) μ H (.bl b) R (Mo.refl _ _)⟩
theorem px_cmp (T : Tb) (TT : Tabs T A X.K X.w) (hu : X.A.units + 64 < cLine) (op : COp) (ha : PE X a (TEo X.K A W ma)) (hb : PE X b (TEo X.K A W mb)) (hm : behindInMarks (pyCmp op) b = false) :
    PE X (.Compare a [pyCmp op] [b] pos) (TEo X.K A W fun env s => (ma env s).bind fun x s1 => (mb env s1).bind fun y s2 => Res.of ((cmpop T.tabs s2 op x y).map .bl) s2) :=
  PE.imp (pe_cmpR (opR_cmp T TT hu op) ha hb hm) fun σ H Q ⟨env, S, μ, E, R, h⟩ =>
    seq E R h fun d S1 x μ1 H1 _ r1 R1 E1 M1 h1 => seq E1 R1 h1 fun d2 S2 y μ2 H2 _ r2 R2 E2 M2 h2 => by
      obtain ⟨z, e, q⟩ := Post.ofB R2 h2
      exact ⟨μ2, S2, d, d2, z, DR.mono M2 r1, r2, R2, e, q⟩
theorem isN_of {K : PySem.W.Frag} {μ : Mu} {H : Hp} {d : D} {v : V} (r : DR K A μ H d v) : isNd false d = decide (v = .non) ∧ isNd true d = !decide (v = .non) := by
  cases r <;> simp [isNd]
theorem px_isN (neg : Bool) {k : Nat} {p : Pos} (ha : PE X a (TEo X.K A W ma)) :
    PE X (.Compare a [if neg then .IsNot else .Is] [.Constant .none k p] pos) (TEo X.K A W fun env s => (ma env s).bind fun x s1 => .ok (.bl (isNd neg x)) s1) := by
  cases neg with
  | false =>
    exact PE.imp (pe_cmp (pc_isN ha) rfl) fun σ H Q ⟨env, S, μ, E, R, h⟩ => seq E R h fun d S1 x μ1 H1 _ r1 R1 E1 M1 h1 => by
      have q := h1 (.bl _) μ1 H1 (.bl _) R1 (Mo.refl _ _)
      rw [(isN_of r1).1] at q
      exact q
  | true =>
    exact PE.imp (pe_cmp (pc_notN ha) rfl) fun σ H Q ⟨env, S, μ, E, R, h⟩ => seq E R h fun d S1 x μ1 H1 _ r1 R1 E1 M1 h1 => by
      have q := h1 (.bl _) μ1 H1 (.bl _) R1 (Mo.refl _ _)
      rw [(isN_of r1).2] at q
      exact q
theorem px_chain (T : Tb) (TT : Tabs T A X.K X.w) (hu : X.A.units + 64 < cLine) (o p : COp) (ha : PE X a (TEo X.K A W ma)) (hb : PE X b (TEo X.K A W mb)) (hc : PE X c (TEo X.K A W mc)) (hm : behindInMarks (pyCmp p) c = false) :
    PE X (.Compare a [pyCmp o, pyCmp p] [b, c] pos) (TEo X.K A W fun env s => (ma env s).bind fun x s1 => (mb env s1).bind fun y s2 => match cmpop T.tabs s2 o x y with
      | some true => (mc env s2).bind fun z s3 => Res.of ((cmpop T.tabs s3 p y z).map .bl) s3
      | some false => .ok (.bl false) s2
      | none => .stuck) :=
  PE.imp (pe_chain (opR_cmp T TT hu o) (opR_cmp T TT hu p) ha hb hc hm) fun σ H Q ⟨env, S, μ, E, R, h⟩ =>
    seq E R h fun d S1 x μ1 H1 _ r1 R1 E1 M1 h1 => seq E1 R1 h1 fun d2 S2 y μ2 H2 _ r2 R2 E2 M2 h2 => by
      cases e : cmpop T.tabs S2 o d d2 with
      | none => rw [e] at h2; exact h2.elim
      | some k =>
        rw [e] at h2
        refine ⟨μ2, S2, d, d2, k, DR.mono M2 r1, r2, R2, e, k, rfl, ?_⟩
        cases k with
        | false => exact iteF (h2 (.bl false) μ2 H2 (.bl false) R2 (Mo.refl _ _))
        | true => exact iteT (seq E2 R2 h2 fun d3 S3 z μ3 H3 _ r3 R3 E3 M3 h3 => by
            obtain ⟨w, e, q⟩ := Post.ofB R3 h3
            exact ⟨μ3, S3, d2, d3, w, DR.mono M3 r2, r3, R3, e, q⟩)
theorem px_neg (ha : PE X a (TEo X.K A W ma)) : PE X (.UnaryOp .USub a pos) (TEo X.K A W fun env s => (ma env s).bind fun x s1 => match x with | .int i => .ok (.int (-i)) s1 | _ => .stuck) :=
  PE.imp (pe_un un_neg ha) fun σ H Q ⟨env, S, μ, E, R, h⟩ => seq E R h fun d S1 x μ1 H1 _ r1 R1 E1 M1 h1 => by
    cases d with
    | int i => cases r1; exact ⟨i, rfl, h1 _ μ1 H1 (.int _) R1 (Mo.refl _ _)⟩
    | _ => exact h1.elim
/-! ### tests -/
variable {ta tb : CN.Env → Hs → Res Bool}
theorem pt_ofE (h : PE X a (TEo X.K A W ma)) (he : ∀ whole, isTrue a X.env whole = (do let v ← whole; standAt a.pos; holding [v] (truthy v))) : PT X a (TTo X.K A W fun env s => (ma env s).bind fun x s1 => Res.of (truth s1 x) s1) := by
  refine ⟨fun pins s σ H Q I hw => ?_⟩
  obtain ⟨env, S, μ, E, R, q⟩ := hw
  refine isTrue_plain (thn (h.run pins s σ H _ I (seq (k := fun v H' => ∃ (μ : Mu) (S : Hs) (d : D) (b : Bool), DR X.K A μ H' d v ∧ HR X.K A μ S H' ∧ truth S d = some b ∧ Q b H') E R q fun d S1 x μ1 H1 _ r1 R1 E1 M1 h1 => ?_)) fun v s1 hh => ?_) (he _)
  · obtain ⟨b, e, q⟩ := Post.of h1
    exact ⟨μ1, S1, d, b, r1, R1, e, q b μ1 H1 rfl R1 (Mo.refl _ _)⟩
  · obtain ⟨x, H1, I1, r1, q1⟩ := hh
    exact tru_of (A := A) pins s1 σ H1 x v Q I1 r1 q1
/-- a comparison as a test -/
theorem pt_ofC {op : CmpOp} {y : Expr} (h : PE X (.Compare a [op] [y] pos) (TEo X.K A W ma)) {r : R2} {tx ty : TE} (ho : OpR X (compareOp op) r) (hx : PE X a tx) (hy : PE X y ty) (hm : behindInMarks op y = false)
    (hi : ∀ σ H Q, TTo X.K A W (fun env s => (ma env s).bind fun x s1 => Res.of (truth s1 x) s1) σ H Q → tTest (tOp r tx ty) σ H Q) : PT X (.Compare a [op] [y] pos) (TTo X.K A W fun env s => (ma env s).bind fun x s1 => Res.of (truth s1 x) s1) := PT.imp (pt_cmpR ho hx hy hm) hi
theorem px_not (ha : PE X a (TEo X.K A W ma)) : PE X (.UnaryOp .Not a pos) (TEo X.K A W fun env s => (ma env s).bind fun x s1 => Res.of ((truth s1 x).map fun b => .bl (!b)) s1) := by
  refine ⟨fun pins s σ H Q I hw => ?_⟩
  obtain ⟨env, S, μ, E, R, q⟩ := hw
  refine UnaryOp_ (thn (ha.run pins s σ H _ I (seq (k := fun v H' => ∃ (μ : Mu) (S : Hs) (d : D) (b : Bool), DR X.K A μ H' d v ∧ HR X.K A μ S H' ∧ truth S d = some b ∧ Q (.bl (!b)) H') E R q fun d S1 x μ1 H1 _ r1 R1 E1 M1 h1 => ?_)) fun v s1 hh => ?_)
  · cases e : truth S1 d with
    | none => rw [e] at h1; exact h1.elim
    | some b =>
      rw [e] at h1
      exact ⟨μ1, S1, d, b, r1, R1, e, h1 _ μ1 H1 (.bl _) R1 (Mo.refl _ _)⟩
  · obtain ⟨x, H1, I1, r1, q1⟩ := hh
    refine not_of (thn (tru_of (A := A) pins s1 σ H1 x v (fun b H' => Q (.bl (!b)) H') I1 r1 q1) fun b s2 hh => ?_)
    obtain ⟨H2, I2, q2⟩ := hh
    exact ⟨.bl (!b), H2, I2, rfl, q2⟩
theorem px_ite {t : Expr} (ht : PT X t (TTo X.K A W ta)) (ha : PE X a (TEo X.K A W ma)) (hb : PE X b (TEo X.K A W mb)) : PE X (.IfExp t a b pos) (TEo X.K A W fun env s => (ta env s).bind fun c s1 => if c then ma env s1 else mb env s1) :=
  PE.imp (pe_ifExp ht ha hb) fun σ H Q ⟨env, S, μ, E, R, h⟩ => seq E R h fun c S1 c' μ1 H1 _ r1 R1 E1 M1 h1 => by
    obtain rfl : c = c' := r1
    cases c with
    | true => exact iteT ⟨env, S1, μ1, E1, R1, h1⟩
    | false => exact iteF ⟨env, S1, μ1, E1, R1, h1⟩
end
end CN
set_option Elab.async false
set_option linter.all false
set_option maxRecDepth 100000
set_option maxHeartbeats 4000000
/-! CnExc: an exception class of the program's whose __init__ says super().__init__('..') and stores its arguments. -/
namespace CN
open PySem PySem.Spec PySem.W PyProof.Rows L2

/-- what the written part says of such a class -/
structure ExI (P : Program) (K : PySem.W.Frag) (C fI cc : Addr) (F : NdefX.NF) (fd : FuncData) : Prop where
  oex : OexC K C
  ini : PySem.W.findIn K (.ref C) "__init__" = some (some (.ref fI))
  tI : PySem.W.typeIn K (.ref fI) = some (.type "function")
  fn : ∃ oc od osl, K.lookup fI = some ⟨oc, od, .func fd, osl⟩
  fdi : ∃ dV kV doc pm an ct, fd = PySem.W.fnX F.name F.qual F.params F.body F.scope F.cl dV kV doc pm an (.ref F.c) ct
  cl : F.cl = [(("__class__" : Str), cc)]
  code : PySem.W.codeIn K (.ref F.c) F.qual = true
  cda : ∃ (ccl : Value) (cdd : Option Addr) (vs : Array Value) (ccs : Array (Option Value)) (file : Str) (tf : Tok), K.lookup F.c = some ⟨ccl, cdd, .fields vs, ccs⟩ ∧ vs[2]? = some (.str file tf) ∧ ((P.main.file : Str) == file) = true
  cell : ∃ (a : Value) (b : Option Addr) (c : Array (Option Value)), K.lookup cc = some ⟨a, b, .cell (some (.ref C)), c⟩
  sub : PySem.W.mroIn K C (.ref C) = some true
  sup : PySem.W.nsIn K mainGlobals "super" = some none
  alo : PySem.W.ks_superIn K C C "__init__" = some (some (.builtin "ValueError.__init__"))
  any : PySem.W.nsIn K cStatics "thirdparty.any" = some none
  subV : PySem.W.subIn K (.ref C) (.type "ValueError") = some true
  top : (P.main.scope.names.lookup ("super" : Str)).isSome = false

theorem all_starX {es : List Expr} {pos : Pos} {env : PySem.Env} (h : es.all plainE = true) : (backTo pos (starEach es env)).all (fun x => !x.1) = true := by
  have z := plain_any (pos := pos) (env := env) h
  rw [List.any_eq_false] at z
  rw [List.all_eq_true]
  exact fun x hx => by simpa using z x hx
theorem meth_hb {o : Expr} {m : Str} {apos pos : Pos} {es : List Expr} {env : PySem.Env} (hp : es.all plainE = true) (hn : es.length < 30) (hl : (apos.endLine == pos.line) = true) :
    eval (.Call (.Attribute o m apos) es [] pos) env = (do
      let ov ← attributeBase o m env (eval o env)
      standAt apos.atName
      let (f, first) ← holding [ov] (getMethod ov m (do return (← importBound o env).getD true))
      callWith pos f first (backTo pos (starEach es env)) []) := by
  show (do
    let ov ← attributeBase o m env (eval o env)
    standAt apos.atName
    methodCall o m apos pos env ov (es.length + 0) (backTo pos (starEach es env)) (backToKw pos (keywordEach [] env))) = _
  have hf : methodCallForm (es.length + 0) (backTo pos (starEach es env)) (backToKw pos (keywordEach [] env)) = true := by
    unfold methodCallForm
    rw [all_starX hp]
    show (true && true && decide (es.length + 0 + 0 < 30)) = true
    simpa using hn
  unfold methodCall
  rw [hf]
  unfold calleeOf methodCallPos
  rw [hl]
  rfl
theorem lookup1 {β : Type} (k y : Str) (c : β) : [(k, c)].lookup y = if y = k then some c else none := by
  by_cases h : y = k
  · subst h
    simp [List.lookup]
  · have e : (y == k) = false := by simpa using h
    simp [List.lookup, e, h]
section
variable {CX : CXT} {P : Program} {w : World} {K : PySem.W.Frag} {mg : Str → Option Value} {base : Heap} {C fI cc : Addr} {F : NdefX.NF} {fd : FuncData} {k : Nat} {ps N : List Str}
/-- the call of such an __init__, given what its stores do -/
theorem init_ok {sp : Sp} {m slf : Str} {j : Nat} {p0 p1 p2 p3 p4 p5 : Pos} {rest : List Stmt} (E : ExI P K C fI cc F fd) (S : NdefX.NScope N ps ["__class__"] F.scope)
    (hb : F.body = .Expr (.Call (.Attribute (.Call (.Name "super" p0) [] [] p1) "__init__" p2) [.Constant (.str m) j p3] [] p4) p5 :: rest)
    (hks : F.scope.names.lookup ("super" : Str) = some .globalImplicit) (hpa : ∃ ar, (F.params.posonlyargs ++ F.params.args).head? = some ar ∧ ar.arg = slf) (hps : ps.head? = some slf) (hmg : mg "super" = none) (hpos : (p2.endLine == p4.line) = true)
    (len : ∀ vs H Q E, sp vs H Q E → vs.length = ps.length)
    (hsp : ∀ vs H Q E, sp vs H Q E → ∃ (a : Addr) (ws : List V), vs = .ref a :: ws ∧ H a = some (exo a C none))
    (hrt : ∃ t : TS, (∀ (A : Around) (outer : List PySem.Env) (s : Shared) (H : Hp) (E : XK), PSs (NdefX.ncx CX P w K mg base N F fI A outer s H E) rest t) ∧
      ∀ vs H Q E, sp vs H Q E → t { nx := fun _ H' => Q .non H', rt := Q } (NdefX.startF N vs [some (.ref C)]) H) :
    FnOk P w K mg base CX (k + 1) fI fd ps sp := by
  obtain ⟨t, hrest, ht⟩ := hrt
  obtain ⟨dV, kV, doc, pm, an, ct, rfl⟩ := E.fdi
  obtain ⟨oc, od, osl, lk⟩ := E.fn
  obtain ⟨ccl, cdd, cvs, ccs, file, tf, hcode, hvs, hfile⟩ := E.cda
  obtain ⟨c1, c2, c3, hcell⟩ := E.cell
  obtain ⟨nm, q, N0, bs, bm, sn, sub, ab, col, dd, k0, k1, k2, k3, k5, hC, hbm⟩ := E.oex.cls
  obtain ⟨ar, har, rfl⟩ := hpa
  have hcl : PySem.W.clsIn K C = some { name := nm, bases := bs, mro := .ref C :: bm, ns := N0, qualname := q, hasDict := true, slotNames := sn, subclasses := sub, abstract := ab, collection := col, hasDel := false } := by unfold PySem.W.clsIn; rw [hC] <;> rfl
  refine ⟨len, fun A outer s H args us vs Q Ex hr e0 hbd r hspv => ?_⟩
  have hl := len _ _ _ _ hspv
  have KX : K.In s.heap := e0.mod.kin.keeps fun b o e => (e0.bs b o e).1
  have lim : s.heap.NoLimit := e0.mod.nolimit.keeps fun b o e => (e0.bs b o e).1
  obtain ⟨a, ws, rfl, ha⟩ := hsp _ _ _ _ hspv
  refine ks_codeAny_call_defAt hr.depth (KX _ _ lk) rfl lim (PySem.W.codeRec_of KX E.code) rfl hbd S.nocell (fun ⟨n, _⟩ hy => S.par n (List.of_mem_zip hy).1) (fun h₁ hns kp => ?_) S.co S.gen S.kind
  have Cs : NdefX.CellsAt F.cl ["__class__"] [some (.ref C)] s.heap H := by
    have hb0 : base.get? cc = some ⟨c1, c2, .cell (some (.ref C)), c3⟩ := e0.mod.kin _ _ hcell
    have hc0 : H cc = none ∧ s.heap.IsCell cc (some (.ref C)) := ⟨(e0.bs _ _ hb0).2, ⟨_, (e0.bs _ _ hb0).1, rfl⟩⟩
    have one : ∀ y c, F.cl.lookup y = some c → c = cc := fun y c e => by
      rw [E.cl, lookup1] at e
      split at e
      · exact (Option.some.inj e).symm
      · cases e
    refine ⟨rfl, fun y c e => ?_, fun x y c e1 e2 => ?_, fun i y e => ?_⟩
    · rw [one y c e]
      exact ⟨hc0.1, _, hc0.2⟩
    · rw [E.cl, lookup1] at e1 e2
      split at e1
      · rename_i z
        split at e2
        · rename_i z2
          rw [z, z2]
        · cases e2
      · cases e1
    · match i, e with
      | 0, e =>
        cases e
        refine ⟨cc, by rw [E.cl, lookup1, if_pos rfl], fun v hv => ?_⟩
        cases hv
        exact ⟨_, rfl, hc0.2⟩
  have I : Inv (NdefX.ncx CX P w K mg base N F fI A outer s H Ex) [] (NdefX.startF N (.ref a :: ws) [some (.ref C)]) H { s with heap := h₁, toks := s.toks + (ps.zip us).length } := NdefX.inv_startN S hr.hd e0 hl r Cs hns kp
  have hf : h₁.get? fI = some ⟨oc, od, .func (PySem.W.fnX F.name F.qual F.params F.body F.scope F.cl dV kV doc pm an (.ref F.c) ct), osl⟩ := kp _ _ (KX _ _ lk)
  have hself : (ps.zip us).reverse.lookup ar.arg = some (.ref a) := by
    cases r with
    | @cons _ u0 _ ur ra rw' =>
      obtain rfl : u0 = Value.ref a := ra
      have h0 : ps[0]? = some ar.arg := by rw [← List.head?_eq_getElem?]; exact hps
      have ndP : ps.Nodup := by
        have q := S.nd.sublist (List.take_sublist (ps.length + 1) N)
        have e : N.take (ps.length + 1) = ps ++ [("__class__" : Str)] := S.pre
        rw [e] at q
        exact (List.nodup_append.mp q).1
      exact NdefX.zip_look (i := 0) ndP h0 rfl
  obtain ⟨t1, hx⟩ := exo_at I.hok ha
  show _root_.PySem.wpAt _ _ _ (execs F.body (NdefX.envF F fI s.heap.objs.size)) _ _ _
  rw [hb]
  refine ks_wpAt_execs_cons (ks_wpAt_Expr_any (hi := I.quiet) (ks_wpAt_MethodCall (he := meth_hb rfl (show 1 < 30 by decide) hpos) ?_))
  refine ks_wpAt_super_base (env := NdefX.envF F fI s.heap.objs.size) hks (S.frk _ List.mem_cons_self) rfl rfl hf rfl har rfl (I.kIn _ _ hcode) rfl hvs hfile E.top ?_
  obtain ⟨mb, hm1, hm2⟩ := I.mod.blt
  refine ks_loadName_global (env := NdefX.envF F fI s.heap.objs.size) S.kind hks (Calls.loadGlobal_builtin (env := NdefX.envF F fI s.heap.objs.size) (I.mod.glob.keeps I.bk) hmg (hm1.keeps I.bk) ((hm2 "super" (by decide)).trans (by kernel_rfl)) ⟨rfl, ?_⟩)
  refine wpAny_loadName_free (env := NdefX.envF F fI s.heap.objs.size) S.kind (S.frk _ List.mem_cons_self) (show F.cl.lookup ("__class__" : Str) = some cc by rw [E.cl, lookup1, if_pos rfl]) ⟨_, I.kIn _ _ hcell, rfl⟩ ?_
  refine wpAny_loadName_local (env := NdefX.envF F fI s.heap.objs.size) S.kind (S.par _ (List.mem_of_mem_head? hps)) hns hself ?_
  refine ks_wpAny_isType_cls (I.kIn _ _ hC) rfl ⟨rfl, ?_⟩
  refine ks_wpAny_call_super (I.kIn _ _ hC) rfl hx rfl (fun c z => by cases z) (PySem.W.looks_mroIn I.kIn E.sub) (fun h2 e2 k2 => ?_)
  have I2 := I.kept (h' := h2) (t' := s.toks + (ps.zip us).length) k2
  have J2 : PySem.W.InstAt h2 a _ C none := ⟨k2 _ _ hx, rfl, rfl, trivial⟩
  have alo := E.alo
  unfold PySem.W.ks_superIn at alo
  rw [hcl] at alo
  refine kxs_getMethod kxs_ValueError e2 (looks_opaque I2.kIn E.any) (l₀ := .ref C :: bm) (fun A Q E s k q => wpAny_bind ((looks_clsIn I2.kIn hcl) A _ E s k (wpAny_pure q))) rfl I2.kIn alo (J2.type.andThen (looks_subIn I2.kIn E.subV)) (ks_ne I2.kIn J2 hcl) rfl ?_
  have hn3 : H h2.objs.size = none := I2.hok.fresh (Nat.le_refl _)
  have fp := I2.fpOk (H' := H) (b := h2.objs.size) (Nat.le_refl _) hn3
  have I3 := I2.kept (h' := h2.push (kxs_mw "ValueError.__init__" a)) (t' := s.toks + (ps.zip us).length + 1) (fun b o z => Heap.get?_push_of_some _ z)
  have hm3 : (h2.push (kxs_mw "ValueError.__init__" a)).get? h2.objs.size = some (kxs_mw "ValueError.__init__" a) := Heap.get?_push_size _ rfl
  have I4 := I3.pinned (fp := [h2.objs.size]) (fun b hb => by rw [List.mem_singleton.mp hb]; exact fp) (fun b hb => by rw [List.mem_singleton.mp hb]; exact ⟨_, hm3, fun v z => by cases z⟩)
  have pa : PA (NdefX.ncx CX P w K mg base N F fI A outer s H Ex) [.Constant (.str m) j p3] (tCons (tC (.str m)) tNil) := pa_cons pe_str pa_nil
  show wpAny _ _ (callWith p4 (.ref h2.objs.size) [] ((false, eval (.Constant (.str m) j p3) (NdefX.envF F fI s.heap.objs.size)) :: backTo p4 (starEach [] (NdefX.envF F fI s.heap.objs.size))) []) _ _ _
  refine kxs_callWith (i := "ValueError.__init__") (x := a) rfl (PySem.Calls.evalArgs_plain ?_)
  refine thn (pa.run p4 _ _ _ _ (fun vs H1 => vs = [V.str m] ∧ H = H1) I4 ⟨rfl, rfl⟩) fun us4 s4 ⟨vs4, H4, I5, r4, ev4, eH⟩ => ?_
  subst ev4
  rw [← eH] at I5
  have hm4 : s4.heap.get? h2.objs.size = some (kxs_mw "ValueError.__init__" a) := by
    have q := (I5.pin (h2.objs.size, kxs_mw "ValueError.__init__" a) (List.mem_append_right _ (List.mem_append_right _ (mem_pinsAt (List.mem_singleton_self _) hm3)))).1
    exact q
  refine ⟨hm4, ?_⟩
  cases r4 with
  | @cons _ u5 _ ur5 ra5 rw5 =>
  cases rw5
  obtain ⟨t5, he5⟩ := exo_at I5.hok ha
  obtain ⟨h5, g5, d5, k5', os5⟩ := s4
  show wpAny _ _ (call (.ref h2.objs.size) [u5]) _ _ _
  refine wpAny_call (codeAny_of_tree ?_)
  show wpAny _ _ (callAny (.ref h2.objs.size) ⟨[u5], []⟩) _ _ _
  simp only [callAny]
  refine wpAny_bind (wpAny_load hm4 ?_)
  simp only [kxs_mw, show (Value.type "method-wrapper" == Value.type "method" || Value.type "method-wrapper" == Value.type "builtin_function_or_method" || Value.type "method-wrapper" == Value.type "method-wrapper") = true by decide, if_true]
  refine KFB.if_so (by decide) ?_
  refine wpAny_bind (check_bound_init PySem.F.excBase_ValueError.toExcCallFacts (I5.kIn _ _ hC) he5 rfl ?_)
  refine wpAny_bind (wpAny_pure (wpAny_pure ?_))
  refine ⟨plainId_quiet PySem.F.excBase_ValueError.init.plain _, codeAny_builtin PySem.F.excBase_ValueError.initEntry ?_⟩
  refine exc_init_tree (cls := .ref C) (t0 := t5) (dv := none) (c2 := .none) (c3 := .none) (b4 := .bool false) he5 (show 1 ≤ sizeLine by rw [sizeLine_eq]; omega) fun h6 k6 hx6 ht6 => ?_
  have I6 := I5.write (t' := k5') (x := a) (e := a) (o := exo a C none) (by rw [ha]; exact True.intro) (.inl rfl) k6 ⟨_, hx6⟩ (exo_ok hx6)
  have eu : upd H a (exo a C none) = H := by
    funext b
    by_cases hb : b = a
    · rw [hb, upd_same, ha]
    · rw [upd_ne hb]
  rw [eu] at I6
  have I7 := I6.unpinned
  show _root_.PySem.wpAt _ _ _ (execs rest (NdefX.envF F fI s.heap.objs.size)) _ _ _
  refine wpAt_of_wpAny (wpAny_mono ((hrest A outer s H Ex).run _ _ _ H _ I7 (ht _ _ _ _ hspv)) (fun fl s' hs => ?_) fun e s' hs => hs)
  have fin : ∀ {σ' : L2.St} {H' : Hp} {v : V} {u : Value}, Inv (NdefX.ncx CX P w K mg base N F fI A outer s H Ex) [] σ' H' s' → L2.RelV v u → Q v H' → CE outer P w H s Q u s' :=
    fun {σ' H' v u} J rv q => ⟨v, H', J.os, J.bare, J.base, J.hok, rv, q⟩
  cases fl with
  | ret u =>
    obtain ⟨v, σ', H', J, rv, q⟩ := hs
    exact fin J rv q
  | next =>
    obtain ⟨σ', H', J, q⟩ := hs
    exact fin (v := V.non) (u := Value.none) J rfl q
  | brk =>
    obtain ⟨_, _, _, q⟩ := hs
    exact False.elim q
  | cont =>
    obtain ⟨_, _, _, q⟩ := hs
    exact False.elim q
end
end CN
set_option Elab.async false
set_option linter.all false
set_option maxRecDepth 100000
set_option maxHeartbeats 4000000
/-! CnExc2: raise C(e, ..). -/
namespace CN
open PySem PySem.Spec PySem.W PyProof.Rows L2

/-- what such an __init__ does: the fields, the last one first -/
def spX (C : Addr) (fs : List Str) : Sp := fun vs H Q _ => ∃ (a : Addr) (ws : List V), vs = .ref a :: ws ∧ ws.length = fs.length ∧ H a = some (exo a C none) ∧
  ∀ d, H d = none → d ≠ a → Q .non (upd (upd H d (exd d (fs.zip ws.reverse))) a (exo a C (some d)))
theorem exo_ne {a C : Addr} {o : Option Addr} {H : Hp} {d : Addr} (h : H a = some (exo a C o)) (n : H d = none) : d ≠ a := fun z => by rw [z, h] at n; cases n
section
variable {CX : CXT} {P : Program} {w : World} {K : PySem.W.Frag} {mg : Str → Option Value} {base : Heap} {C fI cc : Addr} {F : NdefX.NF} {fd : FuncData} {k : Nat}
theorem vis_of {sc : Scope} {x : Str} (h : sc.names.lookup x = some .local) : Vis sc x := .inl h
/-- one field -/
theorem init1 {m slf p f : Str} {j : Nat} {p0 p1 p2 p3 p4 p5 q1 q2 q3 q4 : Pos} (E : ExI P K C fI cc F fd) (S : NdefX.NScope [slf, p, "__class__"] [slf, p] ["__class__"] F.scope)
    (hb : F.body = [.Expr (.Call (.Attribute (.Call (.Name "super" p0) [] [] p1) "__init__" p2) [.Constant (.str m) j p3] [] p4) p5, .Assign [.Attribute (.Name slf q1) f q2] (.Name p q3) q4])
    (hks : F.scope.names.lookup ("super" : Str) = some .globalImplicit) (hpa : ∃ ar, (F.params.posonlyargs ++ F.params.args).head? = some ar ∧ ar.arg = slf) (hmg : mg "super" = none) (hpos : (p2.endLine == p4.line) = true)
    (hd : (slf == ("__debug__" : Str)) = false ∧ (slf == ("__classdict__" : Str)) = false ∧ (p == ("__debug__" : Str)) = false ∧ (p == ("__classdict__" : Str)) = false)
    (hno : PySem.W.findIn K (.ref C) f = some none) : FnOk P w K mg base CX (k + 1) fI fd [slf, p] (spX C [f]) := by
  refine init_ok (N := [slf, p, "__class__"]) (sp := spX C [f]) E S hb hks hpa rfl hmg hpos (fun vs H Q E' h => ?_) (fun vs H Q E' h => ?_) ⟨tOst K f (tVar 0) (tVar 1), fun A outer s H E' => ?_, fun vs H Q E' h => ?_⟩
  · obtain ⟨a, ws, rfl, h2, _⟩ := h
    match ws, h2 with
    | [w1], _ => rfl
  · obtain ⟨a, ws, e, _, h3, _⟩ := h
    exact ⟨a, ws, e, h3⟩
  · exact pss_one (ps_ost (pe_var (i := 0) (X := NdefX.ncx CX P w K mg base [slf, p, "__class__"] F fI A outer s H E') rfl (vis_of (S.par slf List.mem_cons_self)) hd.1 hd.2.1)
      (pe_var (i := 1) (X := NdefX.ncx CX P w K mg base [slf, p, "__class__"] F fI A outer s H E') rfl (vis_of (S.par p (List.mem_cons_of_mem _ List.mem_cons_self))) hd.2.2.1 hd.2.2.2))
  · obtain ⟨a, ws, rfl, h2, h3, h4⟩ := h
    match ws, h2 with
    | [w1], _ => exact ⟨w1, rfl, .ref a, rfl, a, C, rfl, E.oex, hno, .inl ⟨h3, fun d n ne => h4 d n ne⟩⟩
/-- two fields -/
theorem init2 {m slf p p' f f' : Str} {j : Nat} {p0 p1 p2 p3 p4 p5 q1 q2 q3 q4 r1 r2 r3 r4 : Pos} (E : ExI P K C fI cc F fd) (S : NdefX.NScope [slf, p, p', "__class__"] [slf, p, p'] ["__class__"] F.scope)
    (hb : F.body = [.Expr (.Call (.Attribute (.Call (.Name "super" p0) [] [] p1) "__init__" p2) [.Constant (.str m) j p3] [] p4) p5, .Assign [.Attribute (.Name slf q1) f q2] (.Name p q3) q4, .Assign [.Attribute (.Name slf r1) f' r2] (.Name p' r3) r4])
    (hks : F.scope.names.lookup ("super" : Str) = some .globalImplicit) (hpa : ∃ ar, (F.params.posonlyargs ++ F.params.args).head? = some ar ∧ ar.arg = slf) (hmg : mg "super" = none) (hpos : (p2.endLine == p4.line) = true)
    (hd : (slf == ("__debug__" : Str)) = false ∧ (slf == ("__classdict__" : Str)) = false ∧ (p == ("__debug__" : Str)) = false ∧ (p == ("__classdict__" : Str)) = false) (hd' : (p' == ("__debug__" : Str)) = false ∧ (p' == ("__classdict__" : Str)) = false)
    (hno : PySem.W.findIn K (.ref C) f = some none) (hno' : PySem.W.findIn K (.ref C) f' = some none) : FnOk P w K mg base CX (k + 1) fI fd [slf, p, p'] (spX C [f', f]) := by
  refine init_ok (N := [slf, p, p', "__class__"]) (sp := spX C [f', f]) E S hb hks hpa rfl hmg hpos (fun vs H Q E' h => ?_) (fun vs H Q E' h => ?_) ⟨tSeq (tOst K f (tVar 0) (tVar 1)) (tOst K f' (tVar 0) (tVar 2)), fun A outer s H E' => ?_, fun vs H Q E' h => ?_⟩
  · obtain ⟨a, ws, rfl, h2, _⟩ := h
    match ws, h2 with
    | [w1, w2], _ => rfl
  · obtain ⟨a, ws, e, _, h3, _⟩ := h
    exact ⟨a, ws, e, h3⟩
  · have v0 := pe_var (i := 0) (pos := q1) (X := NdefX.ncx CX P w K mg base [slf, p, p', "__class__"] F fI A outer s H E') rfl (vis_of (S.par slf List.mem_cons_self)) hd.1 hd.2.1
    have v0' := pe_var (i := 0) (pos := r1) (X := NdefX.ncx CX P w K mg base [slf, p, p', "__class__"] F fI A outer s H E') rfl (vis_of (S.par slf List.mem_cons_self)) hd.1 hd.2.1
    have v1 := pe_var (i := 1) (pos := q3) (X := NdefX.ncx CX P w K mg base [slf, p, p', "__class__"] F fI A outer s H E') rfl (vis_of (S.par p (List.mem_cons_of_mem _ List.mem_cons_self))) hd.2.2.1 hd.2.2.2
    have v2 := pe_var (i := 2) (pos := r3) (X := NdefX.ncx CX P w K mg base [slf, p, p', "__class__"] F fI A outer s H E') rfl (vis_of (S.par p' (List.mem_cons_of_mem _ (List.mem_cons_of_mem _ List.mem_cons_self)))) hd'.1 hd'.2
    exact pss_cons (ps_ost v0 v1) (pss_one (ps_ost v0' v2))
  · obtain ⟨a, ws, rfl, h2, h3, h4⟩ := h
    match ws, h2 with
    | [w1, w2], _ =>
      refine ⟨w1, rfl, .ref a, rfl, a, C, rfl, E.oex, hno, .inl ⟨h3, fun d n ne => ?_⟩⟩
      refine ⟨w2, rfl, .ref a, rfl, a, C, rfl, E.oex, hno', .inr ⟨d, [(f, w1)], upd_same, by rw [upd_ne ne, upd_same], by show 1 ≤ 900; decide, ?_⟩⟩
      have e : upd (upd (upd H d (exd d [(f, w1)])) a (exo a C (some d))) d (exd d [(f', w2), (f, w1)]) = upd (upd H d (exd d [(f', w2), (f, w1)])) a (exo a C (some d)) := by
        funext b
        by_cases hb : b = d
        · subst hb
          rw [upd_same, upd_ne ne, upd_same]
        · rw [upd_ne hb]
          by_cases ha : b = a
          · subst ha
            rw [upd_same, upd_same]
          · rw [upd_ne ha, upd_ne ha, upd_ne hb, upd_ne hb]
      show Q .non (upd (upd (upd H d (exd d [(f, w1)])) a (exo a C (some d))) d (exd d [(f', w2), (f, w1)]))
      rw [e]
      exact h4 d n ne
end
section
variable {X : Cx} {C fI : Addr} {fs : List Str} {k : Nat} {x : Str} {p pos : Pos} {e : Expr} {es : List Expr} {ta : TA} {fd : FuncData} {ps : List Str} {CX : CXT}
/-- C(e, ..): the exception stands for itself, its dict is told -/
def tMkX (C : Addr) (fs : List Str) (ta : TA) : L2.St → Hp → XK → Prop := fun σ H Q => ta σ H fun vs H1 => vs.length = fs.length ∧ vs.length ≤ 1000 ∧ ∀ d, H1 d = none → Q (.ref C) (some d) (upd H1 d (.xd (fs.zip vs.reverse)))
theorem pmkX (T : OexC X.K C) (iC : PySem.W.findIn X.K (.ref C) "__init__" = some (some (.ref fI))) (tI : PySem.W.typeIn X.K (.ref fI) = some (.type "function"))
    (F1 : FnOk X.prog X.w X.K X.mg X.base CX k fI fd ps (spX C fs)) (hr : Room (k + 1) X.A) (hb : Binds X.K fd ps []) (hx : Passes CX X (fun _ _ _ => False)) (hg : Gl X x) (hm : X.mg x = some (.ref C)) (ha : PA X (e :: es) ta)
    (hdb : (x == ("__debug__" : Str)) = false) (he : starEach (e :: es) X.env = (false, eval e X.env) :: starEach es X.env) (hpl : (backTo pos (starEach es X.env)).any (·.1) = false) :
    L2N.PMk X (.Call (.Name x p) (e :: es) [] pos) (tMkX C fs ta) := by
  intro pins s σ H Q I h
  obtain ⟨nm, q, N, bs, bm, sn, sub, ab, col, dd, k0, k1, k2, k3, k5, hC, hbm⟩ := T.cls
  refine wpAny_Call_Name_kw (ld_glob I hg hm ?_ hdb)
  refine PySem.W.callWith_K (h₀ := X.base) I.ok.mod.kin T.kC (thn (ha.run pos pins s σ H _ I h) fun us s1 ⟨vs, H1, I1, r1, hz0, hz, q1⟩ => ⟨I1.kIn, ?_⟩) he hpl
  show wpAny _ _ (call (.ref C) us) _ _ _
  obtain ⟨hp, g, dr, tk, os⟩ := s1
  have two : hp.objs.size ≤ hp.objs.size + 1 := Nat.le_succ _
  generalize ea : hp.objs.size + 1 = a at two
  have hn : H1 a = none := I1.hok.fresh two
  have kk : ∀ b o, hp.get? b = some o → ((hp.push (PySem.W.kdv_tup us)).push (PySem.HandSPX.excO C hp.objs.size)).get? b = some o := fun b o e => Heap.get?_push_of_some _ (Heap.get?_push_of_some _ e)
  have hget : ((hp.push (PySem.W.kdv_tup us)).push (PySem.HandSPX.excO C hp.objs.size)).get? a = some (PySem.HandSPX.excO C hp.objs.size) := by
    rw [← ea]
    heap_get
  have I2 : Inv X pins σ (upd H1 a (exo a C none)) ⟨(hp.push (PySem.W.kdv_tup us)).push (PySem.HandSPX.excO C hp.objs.size), g, dr, tk, os⟩ := I1.laid (t' := tk) kk two (exo_ok hget)
  have hq : spX C fs (V.ref a :: vs) (upd H1 a (exo a C none)) (fun v H2 => v = .non ∧ ∃ (d : Addr), H2 a = some (exo a C (some d)) ∧ H2 d = some (exd d (fs.zip vs.reverse)) ∧ H1 d = none ∧ Q (.ref C) (some d) (upd (del H2 a) d (.xd (fs.zip vs.reverse)))) (fun _ _ _ => False) := by
    refine ⟨a, vs, rfl, hz0, upd_same, fun d n ne => ⟨rfl, d, upd_same, by rw [upd_ne ne, upd_same], by rwa [upd_ne ne] at n, ?_⟩⟩
    have n1 : H1 d = none := by rwa [upd_ne ne] at n
    have e : upd (del (upd (upd (upd H1 a (exo a C none)) d (exd d (fs.zip vs.reverse))) a (exo a C (some d))) a) d (.xd (fs.zip vs.reverse)) = upd H1 d (.xd (fs.zip vs.reverse)) := by
      funext b
      by_cases hb : b = d
      · rw [hb, upd_same, upd_same]
      · rw [upd_ne hb, upd_ne hb]
        by_cases h : b = a
        · rw [h, del_same, hn]
        · rw [del_ne h, upd_ne h, upd_ne hb, upd_ne h]
    rw [e]
    exact q1 d n1
  have r2 : Vals (V.ref a :: vs) (Value.ref a :: us) := .cons rfl r1
  have hl : (Value.ref a :: us).length = ps.length := by
    rw [← r2.length]
    exact F1.len _ _ _ _ hq
  have hus : us.length ≤ sizeLine := by
    rw [← Paired.length r1, sizeLine_eq]
    omega
  have bd := hb _ (Value.ref a :: us) I2.kIn (by rw [List.append_nil]; exact hl)
  rw [List.append_nil] at bd
  subst ea
  refine wpAny_call (PySem.HandSPX.call_own PySem.F.excBase_ValueError (fun Y => PySem.HandSPX.refsVE_contains Y bm hbm) (I1.kIn _ _ hC) (PySem.W.looks_findIn I1.kIn iC) (fun self => PySem.W.bind_fn I1.kIn self tI) hus
    (codeAny_mono (F1.run _ X.stack _ _ ⟨Value.ref (hp.objs.size + 1) :: us, []⟩ (Value.ref (hp.objs.size + 1) :: us) _ _ (fun _ _ _ => False) (hr.make C us []) (I2.env0.make C us []) bd r2 hq) fun r s' hq' => ?_))
  cases r with
  | error er => exact hx pins σ _ _ er s' I2 hq'
  | ok fl =>
    cases fl with
    | ret u =>
      obtain ⟨v, H2, os2, bare2, un2, hok2, rv, ev, d, e1, e2, hd1, q2⟩ := hq'
      subst ev
      obtain ⟨h2, g2, d2, t2, os'⟩ := s'
      obtain ⟨t0, G, J, kG, ge, hoe, na⟩ := mk_end0 (d2 := d2) (t2 := t2) I1 two kk un2 hok2 os2 bare2 e1 e2 hd1
      exact ⟨rv, hp.objs.size + 1, _, _, ⟨G, g2, d2, t2, os'⟩, _, .ref C, some d, rfl, J, kG, ge, hoe, ⟨rfl, rfl, fun vs e => by cases e; rfl⟩, rfl, rfl, na, rfl, bare2, raises_own T.exC T.tyC, q2⟩
    | next => exact False.elim hq'
    | brk => exact False.elim hq'
    | cont => exact False.elim hq'
end
end CN
set_option Elab.async false
set_option linter.all false
set_option maxRecDepth 100000
set_option maxHeartbeats 2000000
/-! CnHot: a list comprehension over a range where an exception is handled. -/
namespace CN
open PySem PySem.Spec PyProof.Rows L2 L2H

/-- a comprehension's block that still knows what X has pinned -/
abbrev blkH (X : Cx) (s : Shared) (H : Hp) (scope : Scope) (cenv : PySem.Env) (fp : List Addr) : Cx := { X.blk s H scope cenv fp with pn := X.pn }
section
variable {X : Cx} {pins : List (Addr × Obj)} {σ σ' : L2.St} {H H' : Hp} {s s' : Shared} {scope : Scope} {cenv : PySem.Env} {fp : List Addr}
/-- pins of the block, as the block's own -/
theorem toBlkH {pins' : List (Addr × Obj)} (I : Inv (X.blk s H scope cenv fp) pins' σ' H' s') (hp : ∀ p ∈ X.pn, s'.heap.get? p.1 = some p.2 ∧ H' p.1 = none ∧ p.1 ≠ cenv.locals ∧ p.1 ∉ frs X.stack ∧ ∀ v, p.2.data ≠ .cell v) : Inv (blkH X s H scope cenv fp) pins' σ' H' s' where
  ok := ⟨I.ok.mod, I.ok.kind, I.ok.glob, I.ok.blt, I.ok.above, I.ok.inj, I.ok.has, I.ok.cab, I.ok.hd, I.ok.frames, I.ok.stk, I.ok.exf, I.ok.bs, I.ok.bsz, I.ok.noex, I.ok.exfs, I.ok.funs, I.ok.frf⟩
  os := I.os
  bare := I.bare
  base := I.base
  loc := I.loc
  cell := I.cell
  free := I.free
  freeC := I.freeC
  pin := fun p h => (List.mem_append.mp h).elim (hp p) fun z => I.pin p (List.mem_append_right _ z)
  hok := I.hok
  len := I.len
theorem startBlkH {own : List (Str × Nat)} (I : Inv X pins σ H s) (ok : BlkOk X.N X.env.scope scope own) (hN : X.N.Nodup) (hfp : ∀ b ∈ fp, FpOk X pins H b ∧ b < s.heap.objs.size) :
    Inv (blkH X s H scope (compEnvC scope (cellsFrom (s.heap.objs.size + 1) scope.names (cloFrom X.env.cells scope.names [])) s.heap.objs.size X.env) fp) [] (wipe σ (own.map (·.2))) H { s with heap := pushCells (s.heap.push { cls := .type "dict", data := .dict #[] }) scope.names } := by
  refine toBlkH (block_start I ok hN hfp) fun p hp => ?_
  obtain ⟨p1, p2, p3, p4, p5⟩ := I.pin p (List.mem_append_left _ hp)
  exact ⟨pushCells_keeps _ _ _ _ (Heap.get?_push_of_some _ p1), p2, Nat.ne_of_lt (Heap.lt_size p1), fun z => (List.mem_cons.mp (I.stkSub _ z)).elim p3 p4, p5⟩
theorem HotC.blkH (c : HotC X) : HotC (blkH X s H scope cenv fp) := c
end
section
variable {X : Cx} {elt tg iter : Expr} {ifs : List Expr} {scope : Scope} {own : List (Str × Nat)} {pos : Pos} {wi : TI} {g : TG} {tt : TT} {te : TE}
theorem pe_lcH (hc : HotC X) (hN : X.N.Nodup) (hi : PIH X tg iter wi) (ok : BlkOk X.N X.env.scope scope own)
    (hg : ∀ (s : Shared) (H : Hp) (C : Addr) (cl : List (Str × Addr)) (fp : List Addr), PG (blkH X s H scope (compEnvC scope cl C X.env) fp) tg g) (ht : ∀ (s : Shared) (H : Hp) (C : Addr) (cl : List (Str × Addr)) (fp : List Addr), PTs (blkH X s H scope (compEnvC scope cl C X.env) fp) ifs tt)
    (he : ∀ (s : Shared) (H : Hp) (C : Addr) (cl : List (Str × Addr)) (fp : List Addr), PE (blkH X s H scope (compEnvC scope cl C X.env) fp) elt te) (hs : ∀ x, foldedSetIterable iter X.env x = pure x) :
    PE X (.ListComp elt [⟨tg, iter, ifs, 0⟩] scope pos) (tLc wi g tt te (own.map (·.2))) := by
  refine ⟨fun pins s0 σ H0 Q I0 h => ?_⟩
  rw [eval_ListComp]
  have fr : ∀ y ∈ scope.names, y.2 = .free → ∃ c, X.env.cells.lookup y.1 = some c := fun y hy e => I0.ok.has _ (ok.free y hy e)
  refine wpAny_comprehension_free (use := none) rfl hs (closure_ok fr) ok.kind (fun y hy e => by rw [ok.uniq y hy, e]) (thn (hi.run pins s0 σ H0 _ I0 h) fun _ s1 h1 => thn h1 fun _ s2 ⟨it, fp, tn, J, H2, e2, I2, T, st2, f2, q⟩ => ?_)
  subst e2
  refine wpAny_newObj_type (newEnv_comp ?_) (by show 0 ≤ sizeLine; decide)
  -- L: the new list
  obtain ⟨L, hL⟩ : ∃ L, L = s2.heap.objs.size := ⟨_, rfl⟩
  obtain ⟨W, ⟨m0, w0⟩, turn⟩ := q L (I2.hok.fresh (Nat.le_of_eq hL.symm))
  obtain ⟨s3, hs3⟩ : ∃ s3 : Shared, s3 = { s2 with heap := s2.heap.push { cls := .type "list", data := .seq ([] : List Value).toArray } } := ⟨_, rfl⟩
  have eh3 : s3.heap = s2.heap.push { cls := .type "list", data := .seq ([] : List Value).toArray } := by rw [hs3]
  have up3 : ∀ b o, s2.heap.get? b = some o → s3.heap.get? b = some o := fun b o e => by rw [eh3]; exact Heap.get?_push_of_some _ e
  obtain ⟨H3, hH3⟩ : ∃ H3, H3 = upd H2 L (.lst []) := ⟨_, rfl⟩
  have I3 : Inv X pins σ H3 s3 := by
    rw [hs3, hH3]
    refine I2.laid (t' := s2.toks) (fun b o e => Heap.get?_push_of_some _ e) (Nat.le_of_eq hL.symm) ⟨Nat.zero_le _, [], 0, .nil, ?_⟩
    rw [hL]
    exact Heap.get?_push_size _ rfl
  have old : ∀ b ∈ fp, b < s2.heap.objs.size := fun b hb => (T.obj _ _ st2 b hb).elim fun o e => Heap.lt_size e.1
  have f3 : ∀ b ∈ fp, FpOk X pins H3 b ∧ b < s3.heap.objs.size := fun b hb =>
    ⟨⟨by rw [hH3, upd_ne (by rw [hL]; exact Nat.ne_of_lt (old b hb))]; exact (f2 b hb).1, (f2 b hb).2⟩, by rw [eh3, Heap.size_push]; exact Nat.lt_succ_of_lt (old b hb)⟩
  have st3 : tn 0 s3.heap := T.keep _ _ _ st2 fun b _ => up3 b
  have I4 := startBlkH I3 ok hN f3
  have pg := hg s3 H3 s3.heap.objs.size (cellsFrom (s3.heap.objs.size + 1) scope.names (cloFrom X.env.cells scope.names [])) fp
  have pt := ht s3 H3 s3.heap.objs.size (cellsFrom (s3.heap.objs.size + 1) scope.names (cloFrom X.env.cells scope.names [])) fp
  have pe := he s3 H3 s3.heap.objs.size (cellsFrom (s3.heap.objs.size + 1) scope.names (cloFrom X.env.cells scope.names [])) fp
  rw [← hs3, ← hL]
  show codeAny _ _ (.compStart (.ListComp elt [⟨tg, iter, ifs, 0⟩] scope pos) 0 (.ref it) (.ref L) (compEnvC scope (cellsFrom (s3.heap.objs.size + 1) scope.names (cloFrom X.env.cells scope.names [])) s3.heap.objs.size X.env)) (compPost (model X.prog X.w) X.A X.xe none _ (.ref L) s3.heap.objs.size) { s3 with heap := pushCells (s3.heap.push { cls := .type "dict", data := .dict #[] }) scope.names }
  obtain ⟨ce, hce⟩ : ∃ ce, ce = compEnvC scope (cellsFrom (s3.heap.objs.size + 1) scope.names (cloFrom X.env.cells scope.names [])) s3.heap.objs.size X.env := ⟨_, rfl⟩
  have cl : ce.locals = s3.heap.objs.size := by rw [hce]; rfl
  rw [← hce] at I4 pg pt pe ⊢
  obtain ⟨s4, hs4⟩ : ∃ s4 : Shared, s4 = { s3 with heap := pushCells (s3.heap.push { cls := .type "dict", data := .dict #[] }) scope.names } := ⟨_, rfl⟩
  rw [← hs4] at I4 ⊢
  have st4 : tn 0 s4.heap := T.keep _ _ _ st3 fun b _ o e => by rw [hs4]; exact pushCells_keeps _ _ _ _ (Heap.get?_push_of_some _ e)
  -- the iterator's objects in the block
  have inB : ∀ {H' : Hp} {σ' : L2.St} {s' : Shared}, Inv (blkH X s3 H3 scope ce fp) [] σ' H' s' → (∀ b ∈ fp, H' b = none) → ∀ b ∈ fp, FpOk (blkH X s3 H3 scope ce fp) [] H' b := fun {H' σ' s'} J' hn b hb =>
    ⟨hn b hb, (J'.ok.exf b hb).1, J'.ok.exfs b hb, .inl hb, (J'.ok.exf b hb).2, fun p hp => (f3 b hb).1.2.2.2.2.2 p (by rw [List.append_nil] at hp; exact List.mem_append_left _ hp)⟩
  have all : codeAny (model X.prog X.w) X.A (.compLoop (.ListComp elt [⟨tg, iter, ifs, 0⟩] scope pos) 0 (.ref it) (.ref L) ce) (compPost (model X.prog X.w) X.A X.xe none (EP X pins σ Q) (.ref L) s3.heap.objs.size) s4 := by
    refine compLoop_any (fun n s' => ∃ (i : Nat) (H' : Hp), (W i n H' ∧ ∀ b ∈ fp, H' b = none) ∧ tn i s'.heap ∧ Inv (blkH X s3 H3 scope ce fp) [] (wipe σ (own.map (·.2))) H' s') (fun n s5 ⟨i, H5, ⟨w5, n5⟩, st5, I5⟩ => ?_) m0 ⟨0, H3, ⟨by rw [hH3]; exact w0, fun b hb => (f3 b hb).1.1⟩, st4, I4⟩
    rcases turn i n H5 w5 with ⟨stop, qq⟩ | ⟨go, Nx, hNx, step⟩
    · refine thnF (T.done (blkH X s3 H3 scope ce fp) rfl rfl rfl (HotC.blkH hc) i [] s5 _ H5 (fun _ _ => False) I5 (inB I5 n5) st5 stop) fun r s6 ⟨hr, I6⟩ => ?_
      subst hr
      have I7 : Inv X pins σ H5 s6 := I3.call' (ch := fp) I6.os I6.base I6.hok I6.bare fun b hb => ⟨(f3 b hb).1.2.2.2.1, (f3 b hb).1.2.1, (f3 b hb).1.2.2.2.2.1, (f3 b hb).1.2.2.2.2.2⟩
      obtain ⟨m, hn, _⟩ := I6.loc
      replace hn : s6.heap.Ns ce.locals m := hn
      have nC : H5 ce.locals = none := I6.free
      rw [cl] at hn nC
      obtain ⟨c0, c1, c2, c3, c4, c5⟩ := I3.fpOk (H' := H5) (Nat.le_refl _) nC
      exact ⟨m, hn, fun h'' sb => ⟨.ref L, H5, I7.turned (t' := s6.toks) (fun b o hb e => (sb.2 b hb).trans e) c0 c1 c3 c4 c5, rfl, qq⟩⟩
    · refine thnF (T.item (blkH X s3 H3 scope ce fp) rfl rfl rfl (HotC.blkH hc) i [] s5 _ H5 (fun _ _ => False) I5 (inB I5 n5) st5 go) fun r s6 ⟨u, hr, h6⟩ => ?_
      subst hr
      refine thnF h6 fun _ s7 ⟨x, H7, I7, r7, y7, st7, n7⟩ => ?_
      refine thnF (pg.run _ s7 _ H7 x u _ (I7.pinned (inB I7 n7) (T.obj _ _ st7)) r7 (step x H7 y7)) fun _ s8 ⟨σ8, H8, I8, e8, q8⟩ => ?_
      refine thnF (pt.run _ s8 σ8 H8 _ I8 q8) fun b s9 ⟨H9, I9, q9⟩ => ?_
      have again : ∀ {s' : Shared} {H' : Hp}, Nx H' → Inv (blkH X s3 H3 scope ce fp) ([] ++ pinsAt fp s7.heap) σ8 H' s' → ∃ m, m < n ∧ ∃ (i : Nat) (H' : Hp), (W i m H' ∧ ∀ b ∈ fp, H' b = none) ∧ tn i s'.heap ∧ Inv (blkH X s3 H3 scope ce fp) [] (wipe σ (own.map (·.2))) H' s' := fun {s' H'} nx I' => by
        obtain ⟨m', lt, w'⟩ := hNx H' nx
        have stay : ∀ b ∈ fp, ∀ o, s7.heap.get? b = some o → s'.heap.get? b = some o ∧ H' b = none := fun b hb o e => by
          have z := I'.pin (b, o) (List.mem_append_right _ (List.mem_append_right _ (mem_pinsAt hb e)))
          exact ⟨z.1, z.2.1⟩
        refine ⟨m', lt, i + 1, H', ⟨w', fun b hb => ?_⟩, T.keep _ _ _ st7 fun b hb o e => (stay b hb o e).1, (I'.unpinned (pins := [])).weak (by rw [← e8, wipe_length]) fun j v e => ?_⟩
        · obtain ⟨o, e, _⟩ := T.obj _ _ st7 b hb
          exact (stay b hb o e).2
        · rw [← e8] at e
          exact (wipe_some e).1
      cases b with
      | false => exact again q9 I9
      | true =>
        refine thnF (pe.run _ s9 σ8 H9 _ I9 q9) fun z s10 ⟨y, H10, I10, r10, acc, hl, hz, nx⟩ => ?_
        exact app_ok (X := blkH X s3 H3 scope ce fp) I10 hl hz r10 fun s11 I11 => again nx I11
  exact codeAny_compStart_list all (T.self X.A 0 _ _ _ st4 all)
end
end CN
set_option Elab.async false
set_option linter.all false
set_option maxRecDepth 100000
set_option maxHeartbeats 4000000
/-! CnTry: try with any clauses, with names and without. -/
namespace CN
open PySem PySem.Spec PyProof.Rows L2

abbrev Clause := Value × Nat × (Addr → Value → Option Addr → TS)
/-- behind a suite slot i is gone -/
def goneD (D : Ends) (i : Nat) : Ends := { nx := fun σ H => D.nx (σ.set i none) H, rt := D.rt, bk := fun σ H => D.bk (σ.set i none) H, ct := fun σ H => D.ct (σ.set i none) H }
/-- what the clauses ask of an exception: slot i is the name's, or none -/
def wHs (K : PySem.W.Frag) (Wout : WX) (D : Ends) : List Clause → WX
  | [] => Wout
  | (c, i, ts) :: r => fun cls d σ H => ∃ b, PySem.W.exmOne K cls c = some b ∧ (b = true → ∀ a, H a = none → ts a cls d (goneD D i) (σ.set i (some (.ref a))) H) ∧ (b = false → wHs K Wout D r cls d σ H)
abbrev SuiteOk (X : Cx) (suite : List Stmt) (ts : Addr → Value → Option Addr → TS) : Prop :=
  ∀ (a : Addr) (oe : Obj) (cls : Value) (d : Option Addr) (pn : List (Addr × Obj)), L2N.Zn cls d oe → (∃ vs, oe.data = .fields vs) → PSs (X.suite a ((a, oe) :: pn)) suite (ts a cls d)
inductive Clauses (X : Cx) : List ExceptHandler → List Clause → Prop
  | nil : Clauses X [] []
  | named {x n : Str} {c : Value} {i : Nat} {ts : Addr → Value → Option Addr → TS} {b : Stmt} {bs : List Stmt} {np hp : Pos} {hds : List ExceptHandler} {l : List Clause} (hc : Names X x c) (hi : X.N[i]? = some n) (hl : X.env.kindOf n = some .local)
      (su : SuiteOk X (b :: bs) ts) (r : Clauses X hds l) : Clauses X (.ExceptHandler (some (.Name x np)) (some n) (b :: bs) hp :: hds) ((c, i, ts) :: l)
  | bare {x : Str} {c : Value} {i : Nat} {ts : Addr → Value → Option Addr → TS} {b : Stmt} {bs : List Stmt} {np hp : Pos} {hds : List ExceptHandler} {l : List Clause} (hc : Names X x c) (hi : X.N.length ≤ i)
      (su : SuiteOk X (b :: bs) ts) (r : Clauses X hds l) : Clauses X (.ExceptHandler (some (.Name x np)) none (b :: bs) hp :: hds) ((c, i, ts) :: l)
section
variable {X : Cx} {body : List Stmt} {h₀ : ExceptHandler} {hds : List ExceptHandler} {l : List Clause} {pos : Pos} {tb : WX → TS} {Wout : WX}
theorem set_out {σ : L2.St} {i : Nat} {o : Option V} (h : σ.length ≤ i) : σ.set i o = σ := List.set_eq_of_length_le h
/-- the rule: the exception has landed; one clause behind another -/
theorem clauses_run {pins : List (Addr × Obj)} {σ : L2.St} {H : Hp} {D : Ends} {sI s3 : Shared} {B : Heap} {a : Addr} {cls : Value} {d : Option Addr} (ok : X.Ok) (hN : X.N.Nodup) (hs : X.stack = X.env :: X.outer) (hf : X.env.frame = some X.env.locals) (tk : L2N.Takes X Wout)
    (J : Inv X pins σ H sI) (nb : ∀ b o, sI.heap.get? b = some o → b ∉ frs X.stack → B.get? b = some o) (fl : HandSPX.FlyingZ B (X.env :: X.outer) a (L2N.Zn cls d) s3.heap) (up : sI.heap.UpToSlots s3.heap) (na : H a = none) (os : s3.os = sI.os) (ag : AllBare s3.gens) :
    ∀ {hds : List ExceptHandler} {l : List Clause}, Clauses X hds l → wHs X.K Wout D l cls d σ H → wpAny (model X.prog X.w) X.A (handleBy (.ref a) X.env hds) (SP X pins D) X.xe s3 := by
  have J3 : Inv X pins σ H s3 := J.landed nb fl.1 up os ag
  obtain ⟨oe, us, he, hz, hd⟩ := fl.there
  have nfr : a ∉ frs (X.env :: X.outer) := fun hm => by
    obtain ⟨_, o', e', hnf⟩ := fl.2.2.1.mem hm
    rw [he] at e'
    cases e'
    exact hnf _ hd
  have nL : a ≠ X.env.locals := fun z => nfr (List.mem_filterMap.mpr ⟨X.env, List.mem_cons_self, by rw [hf, z]⟩)
  have nF : a ∉ X.fs := fun hm => by
    obtain ⟨e, h1, h2⟩ := List.mem_filterMap.mp hm
    exact nfr (List.mem_filterMap.mpr ⟨e, List.mem_cons_of_mem _ h1, h2⟩)
  have S3 := J3.suite he hd na nL nF
  intro hds l hk
  induction hk with
  | nil =>
    intro w
    refine wpAny_handleBy_nil ?_
    obtain ⟨_, _, _, oe', us', T', _, _, he', _, hd', h1', _⟩ := id fl
    have fin : wpAny (model X.prog X.w) X.A (setFlight (.ref a) X.env.frame) (fun _ s4 => wpAny (model X.prog X.w) X.A (throw (.ref a) : Sem PySem.Flow) (SP X pins D) X.xe s4) X.xe s3 := by
      rw [hf]
      exact HandSPX.setFlight_upZ fl fun h4 hh4 up4 => wpAny_throw (tk _ _ ⟨a, B, sI, pins, σ, H, cls, d, rfl, J, nb, up.trans up4, .inr (.inr (by rw [hs]; exact hh4)), na, os, ag, w⟩)
    unfold PySem.passOn
    refine wpAny_bind (wpAny_field he' hd' h1' ?_)
    rw [if_neg (by simp : ¬ ((Value.ref T' == Value.none) = true))]
    first | exact wpAny_bind (wpAny_pure (wpAny_bind fin)) | exact wpAny_bind fin
  | @named x n c i ts b bs np hp hds l hc hi hl su r ih =>
    rintro ⟨y, hy, yes, no⟩
    refine wpAny_handleBy_cons (codeAny_handlers_test ?_) (by intro q; cases q)
    have LT : PySem.W.Looks (model X.prog X.w) s3.heap (typeOf (.ref a)) cls := fun A Q E s k q => wpAny_typeOf_ref (k _ _ he) (by rw [hz.1]; exact q)
    have LM := PySem.W.exm_one (M := model X.prog X.w) J3.kIn LT hy
    have test : ∀ {Q : Value → Shared → Prop} {E : Value → Shared → Prop}, Q c s3 → wpAny (model X.prog X.w) (X.A.mark (some (.ref a))) (eval (.Name x np) X.env) Q E s3 := fun {Q E} q => by
      obtain ⟨h1, h2, h3 | ⟨h3, h4, h5⟩⟩ := hc
      · exact ld_glob (X := X.suite a ((a, oe) :: (X.pn ++ pins))) S3 h1 h3 q h2
      · exact ld_blt (X := X.suite a ((a, oe) :: (X.pn ++ pins))) S3 h1 h3 h4 q h5 h2
    refine test (LM.here ?_)
    cases y with
    | false => exact ih (no rfl)
    | true =>
      refine codeAny_handlers_suite_as (HandSPX.lands_againZ fl fun h4 fl4 up4 => ?_)
      obtain ⟨oe4, us4, he4, hz4, hd4⟩ := fl4.there
      have S4 := (J.landed (s' := { s3 with heap := h4 }) nb fl4.1 (up.trans up4) os ag).suite he4 hd4 na nL nF
      refine store_ok (X := X.suite a ((a, oe4) :: (X.pn ++ pins))) (v := .ref a) S4 hN hi (.inl hl) rfl (fun s5 S5 => ?_) (.inr hl)
      refine wpAny_mono ((su a oe4 cls d (X.pn ++ pins) hz4 ⟨_, hd4⟩).run [] s5 _ H _ S5 (yes rfl a na)) (fun f s6 h6 => ?_) (fun _ _ z => z.elim)
      have done : ∀ {σ6 : L2.St} {H6 : Hp} {Q : Shared → Prop}, Inv (X.suite a ((a, oe4) :: (X.pn ++ pins))) [] σ6 H6 s6 → (∀ s7, Inv X pins (σ6.set i none) H6 s7 → Q s7) →
          wpAny (model X.prog X.w) X.A (do bindName X.env n .none; unbindBehindTheSuite X.env n hp) (fun _ s7 => Q s7) X.xe s6 := fun S6 hq => gone_ok (S6.unsuite ok) hN hi hl hq
      cases f with
      | next => obtain ⟨_, _, S6, q6⟩ := h6; exact done S6 fun s7 J7 => ⟨_, _, J7, q6⟩
      | brk => obtain ⟨_, _, S6, q6⟩ := h6; exact done S6 fun s7 J7 => ⟨_, _, J7, q6⟩
      | cont => obtain ⟨_, _, S6, q6⟩ := h6; exact done S6 fun s7 J7 => ⟨_, _, J7, q6⟩
      | ret u => obtain ⟨_, _, _, S6, r6, q6⟩ := h6; exact done S6 fun s7 J7 => ⟨_, _, _, J7, r6, q6⟩
  | @bare x c i ts b bs np hp hds l hc hi su r ih =>
    rintro ⟨y, hy, yes, no⟩
    refine wpAny_handleBy_cons (codeAny_handlers_test ?_) (by intro q; cases q)
    have LT : PySem.W.Looks (model X.prog X.w) s3.heap (typeOf (.ref a)) cls := fun A Q E s k q => wpAny_typeOf_ref (k _ _ he) (by rw [hz.1]; exact q)
    have LM := PySem.W.exm_one (M := model X.prog X.w) J3.kIn LT hy
    have test : ∀ {Q : Value → Shared → Prop} {E : Value → Shared → Prop}, Q c s3 → wpAny (model X.prog X.w) (X.A.mark (some (.ref a))) (eval (.Name x np) X.env) Q E s3 := fun {Q E} q => by
      obtain ⟨h1, h2, h3 | ⟨h3, h4, h5⟩⟩ := hc
      · exact ld_glob (X := X.suite a ((a, oe) :: (X.pn ++ pins))) S3 h1 h3 q h2
      · exact ld_blt (X := X.suite a ((a, oe) :: (X.pn ++ pins))) S3 h1 h3 h4 q h5 h2
    refine test (LM.here ?_)
    cases y with
    | false => exact ih (no rfl)
    | true =>
      have hw := yes rfl a na
      rw [set_out (by rw [J.len]; exact hi)] at hw
      refine codeAny_handlers_suite (HandSPX.lands_againZ fl fun h4 fl4 up4 => ?_)
      obtain ⟨oe4, us4, he4, hz4, hd4⟩ := fl4.there
      have S4 := (J.landed (s' := { s3 with heap := h4 }) nb fl4.1 (up.trans up4) os ag).suite he4 hd4 na nL nF
      refine wpAny_mono ((su a oe4 cls d (X.pn ++ pins) hz4 ⟨_, hd4⟩).run [] _ _ H _ S4 hw) (fun f s6 h6 => ?_) (fun _ _ z => z.elim)
      have cut : ∀ {σ6 : L2.St} {H6 : Hp} {s6 : Shared}, Inv X pins σ6 H6 s6 → σ6.set i none = σ6 := fun I6 => set_out (by rw [I6.len]; exact hi)
      cases f with
      | next => obtain ⟨σ6, _, S6, q6⟩ := h6; have I6 := S6.unsuite ok; exact ⟨_, _, I6, by have q7 : D.nx (σ6.set i none) _ := q6; rwa [cut I6] at q7⟩
      | brk => obtain ⟨σ6, _, S6, q6⟩ := h6; have I6 := S6.unsuite ok; exact ⟨_, _, I6, by have q7 : D.bk (σ6.set i none) _ := q6; rwa [cut I6] at q7⟩
      | cont => obtain ⟨σ6, _, S6, q6⟩ := h6; have I6 := S6.unsuite ok; exact ⟨_, _, I6, by have q7 : D.ct (σ6.set i none) _ := q6; rwa [cut I6] at q7⟩
      | ret u => obtain ⟨_, _, _, S6, r6, q6⟩ := h6; exact ⟨_, _, _, S6.unsuite ok, r6, q6⟩
theorem ps_try_hs (hs : X.stack = X.env :: X.outer) (hf : X.env.frame = some X.env.locals) (hN : X.N.Nodup) (tk : L2N.Takes X Wout)
    (hb : ∀ (W : WX) (pn : List (Addr × Obj)) (xe : Value → Shared → Prop), L2N.Takes (X.tr pn xe) W → PassesOwn (model X.prog X.w) X.A X.env xe → PSs (X.tr pn xe) body (tb W))
    (hh : Clauses X (h₀ :: hds) l) : PS X (.Try body (h₀ :: hds) [] [] pos) (fun D σ H => tb (wHs X.K Wout D l) D σ H) := by
  refine ⟨fun pins s σ H D I h => wpAny_Try_except ?_⟩
  have ok := I.ok
  have hfr : X.A.frames = some (X.env :: X.outer) := by rw [ok.frames, hs]
  refine wpAny_mono ((hb (wHs X.K Wout D l) (X.pn ++ pins) (fun e s₁ => wpAny (model X.prog X.w) X.A (noteFrame e X.env) (fun _ s₂ => wpAny (model X.prog X.w) X.A (setFlight e none) (fun _ s₃ =>
    wpAny (model X.prog X.w) X.A (handleBy e X.env (h₀ :: hds)) (SP X pins D) X.xe s₃) X.xe s₂) X.xe s₁) (fun u s' xx => ?_) PassesOwn.looking).run [] s σ H D (I.toTry _) h) (fun f s1 h1 => ?_) (fun e s1 he => he)
  · obtain ⟨a, B, sI, pins', σ', H', cls, d, rfl, J', nb, up, sky, na, os, ag, w⟩ := xx
    rw [show (X.tr (X.pn ++ pins) _).stack = X.env :: X.outer from hs] at sky
    refine L2N.Sky.land L2N.Zn.steady hfr hf sky fun h3 fl3 up3 => ?_
    exact clauses_run (s3 := { s' with heap := h3 }) ok hN hs hf tk (J'.ofTry ok) nb fl3 (up.trans up3) na os ag hh w
  · cases f with
    | next => obtain ⟨_, _, J, q⟩ := h1; exact wpAny_execs_nil ⟨_, _, J.ofTry ok, q⟩
    | brk => obtain ⟨_, _, J, q⟩ := h1; exact ⟨_, _, J.ofTry ok, q⟩
    | cont => obtain ⟨_, _, J, q⟩ := h1; exact ⟨_, _, J.ofTry ok, q⟩
    | ret u => obtain ⟨_, _, _, J, r, q⟩ := h1; exact ⟨_, _, _, J.ofTry ok, r, q⟩
end
end CN
set_option Elab.async false
set_option linter.all false
set_option maxRecDepth 100000
set_option maxHeartbeats 2000000
/-! CnExpr2: subscripts, displays, calls. -/
namespace CN
open PySem PyProof.Rows L2

/-- a wish of an exception that doesn't look at slots -/
def noSt (E : XK) : WX := fun cl dx _ H => E cl dx H
/-- a function's promise: what the interpreter answers at level k -/
def spOf (T : Tb) (wf : Nat) (K : PySem.W.Frag) (A : Ad) (k g : Nat) : Sp := fun vs H Q E => ∃ (ds : List D) (S : Hs) (μ : Mu), DRs K A μ H ds vs ∧ HR K A μ S H ∧ Post (ReD K A) K A (noSt E) [] μ H Q (runFn T wf k g ds S)
/-- what is called with keywords is bound by their names -/
def KwOk (K : PySem.W.Frag) (f : Fn) (fd : FuncData) (ps : List Str) : Prop := f.kws ≠ [] → ∀ (s : Shared) (us ws : List Value), K.In s.heap → us.length + f.kws.length = ps.length → ws.length = f.kws.length → BindsTo s fd ⟨us, f.kws.zip ws⟩ (ps.zip (us ++ ws))
/-- a function stands -/
structure FF (T : Tb) (wf : Nat) (A : Ad) (P : Program) (w : World) (K : PySem.W.Frag) (mg : Str → Option Value) (base : Heap) (k g : Nat) (f : Fn) (a : Addr) : Prop where
  ex : ∃ (fd : FuncData) (ps : List Str), Binds K fd ps [] ∧ ps.length = f.params ∧ FnOk P w K mg base (L2N.CX P w) (2 * k + 2) a fd ps (spOf T wf K A k g) ∧ KwOk K f fd ps
  kp : PySem.W.keepIn K (.ref a) = true
/-- an exception class of the program's that is raised -/
structure XMk (P : Program) (w : World) (K : PySem.W.Frag) (mg : Str → Option Value) (base : Heap) (C : Addr) (fs : List Str) : Prop where
  oex : OexC K C
  ini : ∃ (fI : Addr) (fd : FuncData) (ps : List Str), PySem.W.findIn K (.ref C) "__init__" = some (some (.ref fI)) ∧ PySem.W.typeIn K (.ref fI) = some (.type "function") ∧ Binds K fd ps [] ∧ FnOk P w K mg base (L2N.CX P w) 1 fI fd ps (spX C fs)
/-- a function that is called where an exception is handled -/
def FHot (T : Tb) (wf : Nat) (A : Ad) (P : Program) (w : World) (K : PySem.W.Frag) (mg : Str → Option Value) (base : Heap) (k g : Nat) (a : Addr) : Prop :=
  PySem.W.keepIn K (.ref a) = true ∧ ∃ (fd : FuncData) (ps : List Str), Binds K fd ps [] ∧ L2H.FnH P w K mg base (L2N.CX P w) (2 * k + 2) a fd ps (spOf T wf K A k g)
structure Known (T : Tb) (G : Gi) (wf : Nat) (A : Ad) (P : Program) (w : World) (K : PySem.W.Frag) (mg : Str → Option Value) (base : Heap) (k : Nat) : Prop where
  tabs : Tabs T A K w
  consts : ∀ (i : Nat) (x : Str) (d : D), G.consts[i]? = some x → T.consts[i]? = some d → ∃ u v, mg x = some u ∧ RelV v u ∧ KD K A d v
  constsL : ∀ (i : Nat) (x : Str), G.consts[i]? = some x → ∃ d, T.consts[i]? = some d
  afn : ∀ (g : Nat) (a : Addr), A.fn g = some a → ∃ f, T.fns[g]? = some f ∧ FF T wf A P w K mg base k g f a
  glob : ∀ (g : Nat) (x : Str), G.fns[g]? = some x → ∃ a, A.fn g = some a ∧ mg x = some (.ref a)
  clss : ∀ (c : Nat) (x : Str), G.clss[c]? = some x → ∃ C g a, A.cl c = some C ∧ mg x = some (.ref C) ∧ T.inits[c]? = some g ∧ A.fn g = some a ∧ Mk K C a
  meth : ∀ (c : Nat) (C : Addr) (ms : List (Nat × Nat)) (m g : Nat) (x : Str), A.cl c = some C → T.clss[c]? = some ms → ms.lookup m = some g → G.meths[m]? = some x → ∃ a, A.fn g = some a ∧ Meth K C x a
  cls : ∀ (c : Nat) (C : Addr), A.cl c = some C → Cls K C
  noat : ∀ (c : Nat) (C : Addr) (f : Nat) (x : Str), A.cl c = some C → G.flds[f]? = some x → NoAttr K C x
  fld : ∀ (f : Nat) (x : Str), G.flds[f]? = some x → A.fld f = x
  inj : ∀ (f g : Nat), A.fld f = A.fld g → f = g
  mfld : ∀ (m : Nat) (x : Str), G.meths[m]? = some x → ∀ f : Nat, A.fld f ≠ x
  exc : ∀ (c : Nat) (x : Str), G.excs[c]? = some x → ∃ C, A.xc c = some C ∧ mg x = some (.ref C)
  mkx : ∀ (c : Nat) (C : Addr) (fl : List Nat), A.xc c = some C → T.excs[c]? = some fl → fl ≠ [] → XMk P w K mg base C (fl.map A.fld)
  xfc : ∀ (c : Nat) (C : Addr), A.xc c = some C → XfC K C ∧ ∀ (f : Nat) (x : Str), G.flds[f]? = some x → PySem.W.findIn K (.ref C) x = some none
  sup : ∀ (c h : Nat) (C HC : Addr), A.xc c = some C → A.xc h = some HC → PySem.W.exmOne K (.ref C) (.ref HC) = some (decide (h ∈ T.xsup.getD c []))
  kwf : ∀ (g : Nat) (ks : List Str), G.kwf.lookup g = some ks → ks ≠ [] ∧ ∃ f, T.fns[g]? = some f ∧ f.kws = ks ∧ f.params = ks.length
  kwc : ∀ (c : Nat) (ks : List Str), G.kwc.lookup c = some ks → ks ≠ [] ∧ ∃ g f, T.inits[c]? = some g ∧ T.fns[g]? = some f ∧ f.kws = ks ∧ f.params = ks.length + 1
  hfn : ∀ (g : Nat) (a : Addr), g ∈ G.hotf → A.fn g = some a → FHot T wf A P w K mg base k g a
  blt : ∀ x : Str, x ∈ (["len", "int", "tuple", "list", "all", "any", "sum", "max", "min", "abs", "isinstance", "range", "zip", "enumerate", "reversed", "bool", "str"] : List Str) → mg x = none
/-- the handled exception's object stands beside the code -/
def Cau (G : Gi) (A : Ad) (X : Cx) : Prop := ∀ (c : Nat) (a dd : Addr), A.cau = some (c, a, dd) → ∃ (C : Addr) (oe : Obj), A.xc c = some C ∧ XfC X.K C ∧ (∀ (f : Nat) (x : Str), G.flds[f]? = some x → PySem.W.findIn X.K (.ref C) x = some none) ∧ (a, oe) ∈ X.pn ∧ oe.cls = .ref C ∧ oe.dict = some dd ∧ ∃ vs, oe.data = .fields vs
structure Gd (T : Tb) (G : Gi) (wf : Nat) (A : Ad) (k : Nat) (X : Cx) (W : WX) : Prop where
  kn : Known T G wf A X.prog X.w X.K X.mg X.base k
  un : X.A.units + 64 < cLine
  cold : G.inH = false → X.calm = true ∧ Room (2 * k + 3) X.A
  nd : X.N.Nodup
  takes : L2N.Takes X W
  pass : PassesOwn (model X.prog X.w) X.A X.env X.xe
  cau : Cau G A X
  nc : G.inH = false → A.cau = none
  hot : G.inH = true → L2H.HotC X ∧ L2H.RoomH (2 * k + 3) X.A

section
variable {X : Cx} {A : Ad} {W : WX} {a b e : Expr} {ma mb : CN.Env → Hs → Res D} {mas : CN.Env → Hs → Res (List D)} {pos : Pos}
theorem plainIx {b : Expr} (h : plainE b = true) : PlainIx b := by
  intro o i
  unfold subscripted
  cases b <;> first | rfl | cases h
theorem px_idx (T : Tb) (TT : Tabs T A X.K X.w) (ha : PE X a (TEo X.K A W ma)) (hb : PE X b (TEo X.K A W mb)) (hp : plainE b = true) :
    PE X (.Subscript a b pos) (TEo X.K A W fun env s => (ma env s).bind fun x s1 => (mb env s1).bind fun y s2 => Res.of (idxop T.tabs s2 x y) s2) :=
  PE.imp (pe_ix (ixR (A := A) T TT) ha hb (plainIx hp)) fun σ H Q ⟨env, S, μ, E, R, h⟩ =>
    seq E R h fun d S1 x μ1 H1 _ r1 R1 E1 M1 h1 => seq E1 R1 h1 fun d2 S2 y μ2 H2 _ r2 R2 E2 M2 h2 => by
      obtain ⟨z, e, q⟩ := Post.of h2
      exact ⟨μ2, S2, d, d2, z, DR.mono M2 r1, r2, R2, e, q⟩
abbrev TOo (K : PySem.W.Frag) (A : Ad) (W : WX) (m : CN.Env → Hs → Res (Option Int)) : TO := Rd1 ReI K A W m
theorem PO.imp {o : Option Expr} {t t' : TO} (h : PO X o t) (f : ∀ σ H Q, t' σ H Q → t σ H Q) : PO X o t' := ⟨fun pins s σ H Q I q => h.run pins s σ H Q I (f σ H Q q)⟩
theorem px_no : PO X none (TOo X.K A W fun _ s => .ok none s) := PO.imp po_none fun σ H Q ⟨env, S, μ, E, R, h⟩ => h none μ H rfl R (Mo.refl _ _)
theorem px_so (ha : PE X a (TEo X.K A W ma)) : PO X (some a) (TOo X.K A W fun env s => (ma env s).bind fun x s1 => match x with | .int i => .ok (some i) s1 | _ => .stuck) :=
  PO.imp (po_some ha) fun σ H Q ⟨env, S, μ, E, R, h⟩ => seq E R h fun d S1 x μ1 H1 _ r1 R1 E1 M1 h1 => by
    cases d with
    | int i => cases r1; exact ⟨i, rfl, h1 _ μ1 H1 rfl R1 (Mo.refl _ _)⟩
    | _ => exact h1.elim
theorem px_sl {lo hi : Option Expr} {ml mh : CN.Env → Hs → Res (Option Int)} {p2 : Pos} (ha : PE X a (TEo X.K A W ma)) (hl : PO X lo (TOo X.K A W ml)) (hh : PO X hi (TOo X.K A W mh)) :
    PE X (.Subscript a (.Slice lo hi none p2) pos) (TEo X.K A W fun env s => (ma env s).bind fun x s1 => (ml env s1).bind fun l s2 => (mh env s2).bind fun h s3 => Res.of (slop s3 x l h) s3) :=
  PE.imp (pe_slice (slR (A := A)) ha hl hh) fun σ H Q ⟨env, S, μ, E, R, h⟩ =>
    seq E R h fun d S1 x μ1 H1 _ r1 R1 E1 M1 h1 => seq E1 R1 h1 fun l S2 l' μ2 H2 _ r2 R2 E2 M2 h2 => seq E2 R2 h2 fun u S3 u' μ3 H3 _ r3 R3 E3 M3 h3 => by
      obtain rfl : l = l' := r2
      obtain rfl : u = u' := r3
      obtain ⟨z, e, q⟩ := Post.of h3
      exact ⟨μ3, S3, d, z, DR.mono (M2.trans M3) r1, R3, e, q⟩
/-! ### arguments, displays -/
theorem px_nil : PA X [] (TAo X.K A W fun _ s => .ok [] s) := PA.imp pa_nil fun σ H Q ⟨env, S, μ, E, R, h⟩ => h [] μ H .nil R (Mo.refl _ _)
theorem px_cons {es : List Expr} (ha : PE X a (TEo X.K A W ma)) (hp : plainE a = true) (hs : PA X es (TAo X.K A W mas)) : PA X (a :: es) (TAo X.K A W fun env s => (ma env s).bind fun d s1 => (mas env s1).bind fun ds s2 => .ok (d :: ds) s2) :=
  PA.imp (pa_cons ha hs (starE hp)) fun σ H Q ⟨env, S, μ, E, R, h⟩ =>
    seq E R h fun d S1 x μ1 H1 _ r1 R1 E1 M1 h1 => seq E1 R1 h1 fun ds S2 xs μ2 H2 _ r2 R2 E2 M2 h2 => h2 (x :: xs) μ2 H2 (.cons (DR.mono M2 r1) r2) R2 (Mo.refl _ _)
theorem lenOk_le {n : Nat} (h : lenOk n = true) : n ≤ sizeLine := by simpa [lenOk] using h
theorem px_tup {es : List Expr} {k : Nat} (hs : PA X es (TAo X.K A W mas)) : PE X (.Tuple es k pos) (TEo X.K A W fun env s => (mas env s).bind fun ds s1 => if lenOk ds.length then .ok (.tup ds) s1 else .stuck) :=
  PE.imp (pe_tup hs) fun σ H Q ⟨env, S, μ, E, R, h⟩ => seq E R h fun ds S1 xs μ1 H1 _ r1 R1 E1 M1 h1 => by
    by_cases hl : lenOk ds.length = true
    · rw [if_pos hl] at h1
      refine ⟨by rw [DRs.length r1]; exact lenOk_le hl, fun p hp => ?_⟩
      obtain ⟨z1, z2, z3⟩ := new_tup R1 r1 hp
      exact h1 _ _ _ z1 z2 z3
    · rw [if_neg hl] at h1
      exact h1.elim
theorem px_lst {es : List Expr} (hs : PA X es (TAo X.K A W mas)) : PE X (.List es pos) (TEo X.K A W fun env s => (mas env s).bind fun ds s1 => if lenOk ds.length then .ok (.tl ds) s1 else .stuck) :=
  PE.imp (pe_lst hs) fun σ H Q ⟨env, S, μ, E, R, h⟩ => seq E R h fun ds S1 xs μ1 H1 _ r1 R1 E1 M1 h1 => by
    by_cases hl : lenOk ds.length = true
    · rw [if_pos hl] at h1
      refine ⟨by rw [DRs.length r1]; exact lenOk_le hl, fun p hp => ?_⟩
      obtain ⟨z1, z2, z3⟩ := new_tl R1 r1 hp
      exact h1 _ _ _ z1 z2 z3
    · rw [if_neg hl] at h1
      exact h1.elim
theorem box_fin {K : PySem.W.Frag} {σ : L2.St} {μ : Mu} {H : Hp} {S : Hs} {ds : List D} {vs : List V} {Q : VK} {p : Addr} (R : HR K A μ S H) (r : DRs K A μ H ds vs) (hp : H p = none) (h : Post (ReD K A) K A W σ μ H Q (.ok (.ref S.length) (S ++ [.lst ds]))) : Q (.ref p) (upd H p (.lst vs)) := by
  refine h (.ref p) (μ.add p) _ (.ref ?_) (R.place hp (.lst r)) (Mo.place hp)
  exact Mu.add_at R
theorem px_lstB {es : List Expr} (hs : PA X es (TAo X.K A W mas)) : PE X (.List es pos) (TEo X.K A W (boxed fun env s => (mas env s).bind fun ds s1 => if lenOk ds.length then .ok (.tl ds) s1 else .stuck)) :=
  PE.imp (pe_lst hs) fun σ H Q ⟨env, S, μ, E, R, h⟩ => by
    have e : boxed (fun env s => (mas env s).bind fun ds s1 => if lenOk ds.length then .ok (.tl ds) s1 else .stuck) env S = (mas env S).bind fun ds s1 => if lenOk ds.length then .ok (.ref s1.length) (s1 ++ [.lst ds]) else .stuck := by
      unfold boxed
      dsimp only
      cases mas env S with
      | stuck => rfl
      | err c fs s => rfl
      | ok ds s1 =>
        simp only [Res.bind_ok]
        split <;> rfl
    rw [e] at h
    exact seq E R h fun ds S1 xs μ1 H1 _ r1 R1 E1 M1 h1 => by
      by_cases hl : lenOk ds.length = true
      · rw [if_pos hl] at h1
        exact ⟨by rw [DRs.length r1]; exact lenOk_le hl, fun p hp => box_fin R1 r1 hp h1⟩
      · rw [if_neg hl] at h1
        exact h1.elim
/-! ### attributes -/
variable {T : Tb} {G : Gi} {wf k : Nat}
theorem px_attr (g : Gd T G wf A k X W) {f : Nat} {x : Str} (ha : PE X a (TEo X.K A W ma)) (hf : G.flds[f]? = some x) (hb : noSuper a = true) :
    PE X (.Attribute a x pos) (TEo X.K A W fun env s => (ma env s).bind fun x s1 => match x with
      | .ref n => match s1[n]? with
        | some (.ins _ fs) => Res.of (fs.lookup f) s1
        | _ => .stuck
      | _ => .stuck) :=
  PE.imp (pe_fld ha (base_of hb)) fun σ H Q ⟨env, S, μ, E, R, h⟩ => seq E R h fun d S1 y μ1 H1 _ r1 R1 E1 M1 h1 => by
    cases d with
    | ref n =>
      dsimp only at h1
      split at h1
      · rename_i c fs hs
        obtain ⟨z, e, q⟩ := Post.of h1
        cases r1 with
        | ref hn =>
          obtain ⟨ho, h2, h3⟩ := R1.obj _ _ _ hs hn
          cases h3 with
          | @ins _ C dx _ vs hc r =>
            have hx := g.kn.fld f x hf
            subst hx
            obtain ⟨v, e2, r2⟩ := r.look g.kn.inj e
            exact ⟨_, C, dx, vs, v, rfl, h2, g.kn.cls c C hc, g.kn.noat c C f _ hc hf, e2, q v μ1 H1 r2 R1 (Mo.refl _ _)⟩
      · exact h1.elim
    | _ => exact h1.elim

/-- e.f of the handled exception -/
theorem px_xf (g : Gd T G wf A k X W) {i f : Nat} {x y : Str} {p : Pos} (hN : X.N[i]? = some x) (hv : isVis X.env.scope x = true) (hf : G.flds[f]? = some y) :
    PE X (.Attribute (.Name x p) y pos) (TEo X.K A W (xfM i f)) := by
  obtain ⟨vis, dbg, cdb⟩ := isVis_ok hv
  refine ⟨fun pins s σ H Q I h => ?_⟩
  obtain ⟨env, S, μ, E, R, h⟩ := h
  unfold xfM at h
  split at h
  · rename_i c fs he
    obtain ⟨o, h1, a, dd, vs, hc, rfl, hd, hn, r⟩ := E.sl i _ he
    obtain ⟨z, ez, q⟩ := Post.of h
    have hy := g.kn.fld f y hf
    subst hy
    obtain ⟨v, e2, r2⟩ := r.look g.kn.inj ez
    obtain ⟨C, oe, hC, T', hno, hp, h3, h4, us, h5⟩ := g.cau c a dd hc
    refine attr_of (base_of rfl) (thn ((pe_var (pos := p) hN vis dbg cdb).run pins s σ H (fun v H1 => v = .ref a ∧ H1 = H) I ⟨.ref a, h1, rfl, rfl⟩) fun u s1 hh => ?_)
    obtain ⟨v', H1, I1, r1, rfl, rfl⟩ := hh
    cases r1
    have ha := (I1.pin (a, oe) (List.mem_append_left _ hp)).1
    obtain ⟨mA, hns, hr⟩ := (show ObjOk X.prog X.w H1 s1.heap dd (.xd vs) from I1.hok dd _ hd)
    obtain ⟨od, ho, hl⟩ := lookIn_ns hns
    obtain ⟨w, hw, rw'⟩ := RelO.some_of (v := v) (o := mA (A.fld f)) (by rw [← e2]; exact hr (A.fld f))
    have J : PySem.W.InstAt s1.heap a oe C (some od) := ⟨ha, h3, by unfold PySem.W.notCls; rw [h5] <;> rfl, by rw [h4]; exact ho⟩
    exact HandSPX.exc_get I1.kIn J T'.ga T'.gg T'.exC (PySem.W.findObj_own T'.hdC (hno f _ hf) rfl (by rw [hl, hw])) (handed_of rw') ⟨v, H1, I1.tok _, rw', q v μ H1 r2 R (Mo.refl _ _)⟩
  · exact h.elim
/-! ### calls -/
theorem sp_of {K : PySem.W.Frag} {σ : L2.St} {μ : Mu} {H : Hp} {S : Hs} {ds : List D} {vs : List V} {Q : VK} {g : Nat} (r : DRs K A μ H ds vs) (R : HR K A μ S H) (h : Post (ReD K A) K A W σ μ H Q (runFn T wf k g ds S)) :
    spOf T wf K A k g vs H Q (WE W σ) := by
  refine ⟨ds, S, μ, r, R, ?_⟩
  cases e : runFn T wf k g ds S with
  | stuck => rw [e] at h; exact h
  | ok d S' => rw [e] at h; exact h
  | err c fs S' => rw [e] at h; exact h
theorem Gd.callee (g : Gd T G wf A k X W) {f : Nat} (hh : G.inH = false ∨ f ∈ G.hotf) {x : Str} (hf : G.fns[f]? = some x) : ∃ a, X.mg x = some (.ref a) ∧ PySem.W.keepIn X.K (.ref a) = true ∧ ∃ (fd : FuncData) (ps : List Str), Binds X.K fd ps [] ∧
    ((FnOk X.prog X.w X.K X.mg X.base (L2N.CX X.prog X.w) (2 * k + 2) a fd ps (spOf T wf X.K A k f) ∧ Room (2 * k + 2) X.A) ∨ (L2H.FnH X.prog X.w X.K X.mg X.base (L2N.CX X.prog X.w) (2 * k + 2) a fd ps (spOf T wf X.K A k f) ∧ L2H.RoomH (2 * k + 2) X.A ∧ L2H.HotC X)) := by
  obtain ⟨a, h1, h2⟩ := g.kn.glob f x hf
  cases e : G.inH with
  | false =>
    obtain ⟨fn, h3, ⟨fd, ps, hb, hl, F, _⟩, kp⟩ := g.kn.afn f a h1
    exact ⟨a, h2, kp, fd, ps, hb, .inl ⟨F, (g.cold e).2.mono (by omega)⟩⟩
  | true =>
    obtain ⟨kp, fd, ps, hb, F⟩ := g.kn.hfn f a (hh.elim (fun z => by rw [e] at z; cases z) id) h1
    exact ⟨a, h2, kp, fd, ps, hb, .inr ⟨F, (g.hot e).2.mono (by omega), (g.hot e).1⟩⟩
theorem px_call (g : Gd T G wf A k X W) {f : Nat} (hh : G.inH = false ∨ f ∈ G.hotf) {x : Str} {es : List Expr} {p : Pos} (hf : G.fns[f]? = some x) (hx : isGl X.env.scope x = true) (hs : PA X (e :: es) (TAo X.K A W mas)) (hp : (e :: es).all plainE = true) :
    PE X (.Call (.Name x p) (e :: es) [] pos) (TEo X.K A W fun env s => (mas env s).bind fun ds s1 => runFn T wf k f ds s1) := by
  obtain ⟨a, h2, kp, fd, ps, hb, F⟩ := g.callee hh hf
  obtain ⟨gx, dbg, _⟩ := isGl_ok hx
  rw [List.all_cons, Bool.and_eq_true] at hp
  have b : PE X (.Call (.Name x p) (e :: es) [] pos) (tCallS (spOf T wf X.K A k f) (WE W) (TAo X.K A W mas)) := by
    rcases F with ⟨F, hr⟩ | ⟨F, hr, hc⟩
    · exact pe_callS (E := WE W) F hr gx h2 kp hb (L2N.passAt g.takes) hs dbg (starE hp.1) (plain_any hp.2)
    · exact L2H.pe_callH (E := WE W) F hr hc gx h2 kp hb (L2N.passAt g.takes) hs dbg (starE hp.1) (plain_any hp.2)
  exact PE.imp b fun σ H Q ⟨env, S, μ, E, R, h⟩ => seq E R h fun ds S1 xs μ1 H1 _ r1 R1 E1 M1 h1 => sp_of r1 R1 h1
theorem px_call0 (g : Gd T G wf A k X W) {f : Nat} (hh : G.inH = false ∨ f ∈ G.hotf) {x : Str} {p : Pos} (hf : G.fns[f]? = some x) (hx : isGl X.env.scope x = true) :
    PE X (.Call (.Name x p) [] [] pos) (TEo X.K A W fun env s => runFn T wf k f [] s) := by
  obtain ⟨a, h2, kp, fd, ps, hb, F⟩ := g.callee hh hf
  obtain ⟨gx, dbg, _⟩ := isGl_ok hx
  refine ⟨fun pins s σ H Q I h => ?_⟩
  obtain ⟨env, S, μ, E, R, h⟩ := h
  refine wpAny_Call_Name_kw (ld_glob I gx h2 ?_ dbg)
  refine PySem.W.callWith_K0 I.kIn kp ?_
  rcases F with ⟨F, hr⟩ | ⟨F, hr, hc⟩
  · exact run_fnS (E := WE W) (us := []) F hr hb (L2N.passAt g.takes σ) I .nil (sp_of .nil R h)
  · exact L2H.run_fnH (E := WE W) (us := []) F hr hc hb (L2N.passAt g.takes σ) I .nil (sp_of .nil R h)
/-- f(k = v, ..), all by name, in the parameters' order -/
theorem kw_names {env : PySem.Env} {pos : Pos} : ∀ {kws : List Keyword} {ks : List Str}, kwNames kws = some ks → (backToKw pos (keywordEach kws env)).all (·.1.isSome) = true ∧ (backToKw pos (keywordEach kws env)).filterMap (·.1) = ks ∧ (backToKw pos (keywordEach kws env)).any (·.1.isNone) = false
  | [], ks, h => by cases h; exact ⟨rfl, rfl, rfl⟩
  | ⟨some x, v, p⟩ :: r, ks, h => by
    unfold kwNames at h
    split at h
    · rename_i xs hx
      cases h
      obtain ⟨h1, h2, h3⟩ := kw_names (env := env) (pos := pos) hx
      have e : backToKw pos (keywordEach (⟨some x, v, p⟩ :: r) env) = (some x, do let u ← eval v env; standAt pos; pure u) :: backToKw pos (keywordEach r env) := rfl
      rw [e]
      exact ⟨by rw [List.all_cons, h1]; rfl, by rw [List.filterMap_cons]; show x :: _ = _; rw [h2], by rw [List.any_cons, h3]; rfl⟩
    · cases h
  | ⟨none, v, p⟩ :: r, ks, h => by cases h
theorem px_callk (g : Gd T G wf A k X W) (hh : G.inH = false) {f : Nat} {x : Str} {kws : List Keyword} {ks : List Str} {p : Pos} (hf : G.fns[f]? = some x) (hx : isGl X.env.scope x = true) (hk : G.kwf.lookup f = some ks) (hn : kwNames kws = some ks) (hs : PK X kws (TAo X.K A W mas)) :
    PE X (.Call (.Name x p) [] kws pos) (TEo X.K A W fun env s => (mas env s).bind fun ds s1 => runFn T wf k f ds s1) := by
  obtain ⟨a, h1, h2⟩ := g.kn.glob f x hf
  obtain ⟨fn, h3, ⟨fd, ps, hb, hl, F, hw⟩, kp⟩ := g.kn.afn f a h1
  obtain ⟨hne, fn', h3', rfl, hpl⟩ := g.kn.kwf f ks hk
  rw [h3] at h3'
  cases h3'
  obtain ⟨gx, dbg, _⟩ := isGl_ok hx
  have hr : Room (2 * k + 2) X.A := (g.cold hh).2.mono (by omega)
  obtain ⟨n1, n2, n3⟩ := kw_names (env := X.env) (pos := pos) hn
  refine ⟨fun pins s σ H Q I h => ?_⟩
  obtain ⟨env, S, μ, E, R, h⟩ := h
  refine wpAny_Call_Name_kw (ld_glob I gx h2 ?_ dbg)
  refine PySem.W.callWith_KW0 (h₀ := X.base) I.ok.mod.kin kp n1 (thn (hs.run pos pins s σ H _ I (seq (k := fun vs H' => spOf T wf X.K A k f vs H' Q (WE W σ)) E R h fun ds S1 xs μ1 H1 _ r1 R1 E1 M1 h1 => sp_of r1 R1 h1)) fun ws s1 hz => ?_) (by rw [n3]; rfl)
  obtain ⟨zs, H1, I1, rz, q⟩ := hz
  refine ⟨I1.kIn, ?_⟩
  rw [n2]
  have hlz : ws.length = ps.length := by rw [← rz.length]; exact F.len _ _ _ _ q
  refine wpAny_call (codeAny_mono (F.run X.A X.stack s1 H1 ⟨[], fn.kws.zip ws⟩ ws zs Q (WE W σ) hr I1.env0 (hw hne s1 [] ws I1.kIn (by rw [hl, hpl]; simp) (by rw [hlz, hl, hpl])) rz q) fun r s' hq => ?_)
  cases r with
  | error e => exact (L2N.passAt g.takes σ) pins H1 s1 e s' I1 hq
  | ok fl =>
    cases fl with
    | ret u => exact I1.after hq
    | next => exact False.elim hq
    | brk => exact False.elim hq
    | cont => exact False.elim hq
theorem pxk_nil : PK X [] (TAo X.K A W fun _ s => .ok [] s) := ⟨fun pos pins s σ H Q I ⟨env, S, μ, E, R, h⟩ => pk_nil.run pos pins s σ H Q I (h [] μ H .nil R (Mo.refl _ _))⟩
theorem pxk_cons {nm : Option Str} {kp : Pos} {kws : List Keyword} (ha : PE X a (TEo X.K A W ma)) (hs : PK X kws (TAo X.K A W mas)) : PK X (⟨nm, a, kp⟩ :: kws) (TAo X.K A W fun env s => (ma env s).bind fun d s1 => (mas env s1).bind fun ds s2 => .ok (d :: ds) s2) :=
  ⟨fun pos pins s σ H Q I ⟨env, S, μ, E, R, h⟩ => (pk_cons ha hs).run pos pins s σ H Q I
    (seq E R h fun d S1 x μ1 H1 _ r1 R1 E1 M1 h1 => seq E1 R1 h1 fun ds S2 xs μ2 H2 _ r2 R2 E2 M2 h2 => h2 (x :: xs) μ2 H2 (.cons (DR.mono M2 r1) r2) R2 (Mo.refl _ _))⟩
/-- a call of a name that holds a function -/
theorem px_callv (g : Gd T G wf A k X W) (hh : G.inH = false) {i : Nat} {x : Str} {es : List Expr} {p : Pos} (hN : X.N[i]? = some x) (hv : isVis X.env.scope x = true) (hs : PA X (e :: es) (TAo X.K A W mas)) (hp : (e :: es).all plainE = true) :
    PE X (.Call (.Name x p) (e :: es) [] pos) (TEo X.K A W fun env s => match env[i]? with
      | some (.has (.fn g)) => (mas env s).bind fun ds s1 => runFn T wf k g ds s1
      | _ => .stuck) := by
  obtain ⟨vis, dbg, cdb⟩ := isVis_ok hv
  have hr : Room (2 * k + 2) X.A := (g.cold hh).2.mono (by omega)
  rw [List.all_cons, Bool.and_eq_true] at hp
  refine ⟨fun pins s σ H Q I h => ?_⟩
  obtain ⟨env, S, μ, E, R, h⟩ := h
  dsimp only at h
  split at h
  · rename_i f hd
    obtain ⟨v, h4, r⟩ := E.at_ i _ hd
    cases r with
    | @fn _ a h1 =>
      obtain ⟨fn, h3, ⟨fd, ps, hb, hl, F, _⟩, kp⟩ := g.kn.afn f a h1
      refine wpAny_Call_Name_kw (thn ((pe_var (pos := p) hN vis dbg cdb).run pins s σ H (fun v H1 => v = .ref a ∧ H1 = H) I ⟨.ref a, h4, rfl, rfl⟩) fun u s1 hh => ?_)
      obtain ⟨v, H1, I1, r1, rfl, rfl⟩ := hh
      cases r1
      refine PySem.W.callWith_K (h₀ := X.base) I.ok.mod.kin kp (thn (hs.run pos pins s1 σ _ _ I1 (seq (k := fun vs H' => spOf T wf X.K A k f vs H' Q (WE W σ)) E R h fun ds S1 xs μ1 H1 _ r1 R1 E1 M1 h1 => sp_of r1 R1 h1)) fun us s2 hh => ?_) (starE hp.1) (plain_any hp.2)
      obtain ⟨vs, H2, I2, r, q⟩ := hh
      exact ⟨I2.kIn, run_fnS (E := WE W) F hr hb (L2N.passAt g.takes σ) I2 r q⟩
  · exact h.elim
theorem all_star {es : List Expr} {pos : Pos} {env : PySem.Env} (h : es.all plainE = true) : (backTo pos (starEach es env)).all (fun x => !x.1) = true := by
  have z := plain_any (pos := pos) (env := env) h
  rw [List.any_eq_false] at z
  rw [List.all_eq_true]
  intro x hx
  simpa using z x hx
theorem meth_ht {o : Expr} {m : Str} {apos pos : Pos} {es : List Expr} {env : PySem.Env} (hb : noSuper o = true) (hp : es.all plainE = true) (hn : es.length < 30) (hl : (apos.endLine == pos.line) = true) :
    eval (.Call (.Attribute o m apos) es [] pos) env = (do
      let ov ← eval o env
      standAt apos.atName
      let (f, first) ← holding [ov] (getMethod ov m (do return (← importBound o env).getD true))
      callWith pos f first (backTo pos (starEach es env)) (backToKw pos (keywordEach [] env))) := by
  show (do
    let ov ← attributeBase o m env (eval o env)
    standAt apos.atName
    methodCall o m apos pos env ov (es.length + 0) (backTo pos (starEach es env)) (backToKw pos (keywordEach [] env))) = _
  rw [base_of hb]
  have hf : methodCallForm (es.length + 0) (backTo pos (starEach es env)) (backToKw pos (keywordEach [] env)) = true := by
    unfold methodCallForm
    rw [all_star hp]
    show (true && true && decide (es.length + 0 + 0 < 30)) = true
    simpa using hn
  unfold methodCall
  rw [hf]
  unfold calleeOf methodCallPos
  rw [hl]
  rfl
/-- o.m(..), o an instance -/
theorem px_meth (g : Gd T G wf A k X W) (hh : G.inH = false) {m : Nat} {x : Str} {es : List Expr} {apos : Pos} (hm : G.meths[m]? = some x) (ha : PE X a (TEo X.K A W ma)) (hb : noSuper a = true) (hs : PA X (e :: es) (TAo X.K A W mas)) (hp : (e :: es).all plainE = true)
    (hn : (e :: es).length < 30) (hl : (apos.endLine == pos.line) = true) :
    PE X (.Call (.Attribute a x apos) (e :: es) [] pos) (TEo X.K A W fun env s => (ma env s).bind fun x s1 => match x with
      | .ref n => match s1[n]? with
        | some (.ins c _) => match (T.clss[c]?).bind (·.lookup m) with
          | some g => (mas env s1).bind fun ds s2 => runFn T wf k g (.ref n :: ds) s2
          | none => .stuck
        | _ => .stuck
      | _ => .stuck) := by
  have hr : Room (2 * k + 2) X.A := (g.cold hh).2.mono (by omega)
  have ht := meth_ht (m := x) (env := X.env) hb hp hn hl
  rw [List.all_cons, Bool.and_eq_true] at hp
  refine ⟨fun pins s σ H Q I h => ?_⟩
  obtain ⟨env, S, μ, E, R, h⟩ := h
  refine PySem.W.methodCall_KW (thn (ha.run pins s σ H (fun v H1 => ∃ (p C dx : Addr) (fs : List (Str × V)) (f fa : Nat → Addr) (gf : Nat) (aa : Addr), v = .ref p ∧ H1 p = some (.ins C dx fs) ∧ Cls X.K C ∧ A.fn gf = some aa ∧ Meth X.K C x aa ∧ fs.lookup x = none ∧
      TAo X.K A W mas σ H1 fun vs H2 => spOf T wf X.K A k gf (.ref p :: vs) H2 Q (WE W σ)) I (seq E R h fun d S1 y μ1 H1 _ r1 R1 E1 M1 h1 => ?_)) fun u s1 hh => ?_) ht
  · cases d with
    | ref n =>
      dsimp only at h1
      split at h1
      · rename_i c fs0 hs0
        split at h1
        · rename_i gf hgf
          cases r1 with
          | ref hn1 =>
            obtain ⟨ho, h2, h3⟩ := R1.obj _ _ _ hs0 hn1
            cases h3 with
            | @ins _ C dx _ vs hc r =>
              cases ec : T.clss[c]? with
              | none => rw [ec] at hgf; cases hgf
              | some ms =>
                rw [ec] at hgf
                obtain ⟨aa, h4, h5⟩ := g.kn.meth c C ms m gf x hc ec hgf hm
                refine ⟨_, C, dx, vs, fun _ => 0, fun _ => 0, gf, aa, rfl, h2, g.kn.cls c C hc, h4, h5, r.no (g.kn.mfld m x hm), ?_⟩
                exact seq E1 R1 h1 fun ds S2 xs μ2 H2 _ r2 R2 E2 M2 h2 => sp_of (.cons (.ref (M2.get hn1)) r2) R2 h2
        · exact h1.elim
      · exact h1.elim
    | _ => exact h1.elim
  · obtain ⟨v, H1, I1, r1, p, C, dx, fs, _, _, gf, aa, rfl, h2, hc, h4, hM, h6, q⟩ := hh
    obtain rfl : u = Value.ref p := r1
    obtain ⟨fn, h3, ⟨fd, ps, hb, hl, F, _⟩, kp⟩ := g.kn.afn gf aa h4
    refine getmeth_ok I1 h2 hc hM h6 ?_
    refine PySem.W.callWith_K (first := [.ref p]) (h₀ := X.base) I.ok.mod.kin hM.kp (thn (hs.run pos pins s1 σ H1 _ I1 q) fun us s2 hh => ?_) (starE hp.1) (plain_any hp.2)
    obtain ⟨vs, H2, I2, r, q2⟩ := hh
    exact ⟨I2.kIn, run_fnS (E := WE W) (us := .ref p :: us) (vs := .ref p :: vs) F hr hb (L2N.passAt g.takes σ) I2 (.cons rfl r) q2⟩
theorem px_meth0 (g : Gd T G wf A k X W) (hh : G.inH = false) {m : Nat} {x : Str} {apos : Pos} (hm : G.meths[m]? = some x) (ha : PE X a (TEo X.K A W ma)) (hb : noSuper a = true) (hl : (apos.endLine == pos.line) = true) :
    PE X (.Call (.Attribute a x apos) [] [] pos) (TEo X.K A W fun env s => (ma env s).bind fun x s1 => match x with
      | .ref n => match s1[n]? with
        | some (.ins c _) => match (T.clss[c]?).bind (·.lookup m) with
          | some g => runFn T wf k g [.ref n] s1
          | none => .stuck
        | _ => .stuck
      | _ => .stuck) := by
  have hr : Room (2 * k + 2) X.A := (g.cold hh).2.mono (by omega)
  have ht := meth_ht (m := x) (es := []) (env := X.env) (pos := pos) hb rfl (by decide) hl
  refine ⟨fun pins s σ H Q I h => ?_⟩
  obtain ⟨env, S, μ, E, R, h⟩ := h
  refine PySem.W.methodCall_KW (thn (ha.run pins s σ H (fun v H1 => ∃ (p C dx : Addr) (fs : List (Str × V)) (gf : Nat) (aa : Addr), v = .ref p ∧ H1 p = some (.ins C dx fs) ∧ Cls X.K C ∧ A.fn gf = some aa ∧ Meth X.K C x aa ∧ fs.lookup x = none ∧
      spOf T wf X.K A k gf [.ref p] H1 Q (WE W σ)) I (seq E R h fun d S1 y μ1 H1 _ r1 R1 E1 M1 h1 => ?_)) fun u s1 hh => ?_) ht
  · cases d with
    | ref n =>
      dsimp only at h1
      split at h1
      · rename_i c fs0 hs0
        split at h1
        · rename_i gf hgf
          cases r1 with
          | ref hn1 =>
            obtain ⟨ho, h2, h3⟩ := R1.obj _ _ _ hs0 hn1
            cases h3 with
            | @ins _ C dx _ vs hc r =>
              cases ec : T.clss[c]? with
              | none => rw [ec] at hgf; cases hgf
              | some ms =>
                rw [ec] at hgf
                obtain ⟨aa, h4, h5⟩ := g.kn.meth c C ms m gf x hc ec hgf hm
                exact ⟨_, C, dx, vs, gf, aa, rfl, h2, g.kn.cls c C hc, h4, h5, r.no (g.kn.mfld m x hm), sp_of (.cons (.ref hn1) .nil) R1 h1⟩
        · exact h1.elim
      · exact h1.elim
    | _ => exact h1.elim
  · obtain ⟨v, H1, I1, r1, p, C, dx, fs, gf, aa, rfl, h2, hc, h4, hM, h6, q⟩ := hh
    obtain rfl : u = Value.ref p := r1
    obtain ⟨fn, h3, ⟨fd, ps, hb, hl, F, _⟩, kp⟩ := g.kn.afn gf aa h4
    refine getmeth_ok I1 h2 hc hM h6 ?_
    exact PySem.W.callWith_K0 (first := [.ref p]) I1.kIn hM.kp (run_fnS (E := WE W) (us := [.ref p]) (vs := [.ref p]) F hr hb (L2N.passAt g.takes σ) I1 (.cons rfl .nil) q)
/-- a new instance; what its __init__ raises is wished for at these slots -/
theorem run_makeS {CX : CXT} {kk : Nat} {f C : Addr} {fd : FuncData} {ps : List Str} {sp : Sp} {E : XK} {pins : List (Addr × Obj)} {σ : L2.St} {H : Hp} {s : Shared} {Q : VK} {us : List Value} {vs : List V} (M : Mk X.K C f) (F : FnOk X.prog X.w X.K X.mg X.base CX kk f fd ps sp) (hr : Room (kk + 1) X.A) (hb : Binds X.K fd ps [])
    (hx : PassesAt CX X σ E) (I : Inv X pins σ H s) (r : Vals vs us)
    (h : ∀ x dx, H x = none → H dx = none → dx ≠ x → sp (.ref x :: vs) (upd (upd H dx (.own x)) x (.ins C dx [])) (fun v H2 => v = .non ∧ Q (.ref x) H2) E) :
    wpAny (model X.prog X.w) X.A (PySem.call (.ref C) us) (EP X pins σ Q) X.xe s := by
  have hq := h (s.heap.objs.size + 1) s.heap.objs.size (I.hok.fresh (Nat.le_succ _)) (I.hok.fresh (Nat.le_refl _)) (Nat.ne_of_lt (Nat.lt_succ_self _))
  have I2 := Inv.made (C := C) I
  have r2 : Vals (V.ref (s.heap.objs.size + 1) :: vs) (Value.ref (s.heap.objs.size + 1) :: us) := .cons rfl r
  have hl : (Value.ref (s.heap.objs.size + 1) :: us ++ []).length = ps.length := by
    have e := r2.length
    rw [F.len _ _ _ _ hq] at e
    rw [List.append_nil]
    exact e.symm
  have hb2 := hb { s with heap := _, toks := _ } (Value.ref (s.heap.objs.size + 1) :: us) I2.kIn hl
  rw [List.append_nil] at hb2
  refine wpAny_call (make_map (f := f) I.kIn M.makes M.init (beq_iff_eq.mp M.fn) (codeAny_mono (F.run _ X.stack _ _ ⟨Value.ref (s.heap.objs.size + 1) :: us, []⟩ (Value.ref (s.heap.objs.size + 1) :: us) _ _ E (hr.make C us [])
    (I2.env0.make C us []) hb2 r2 hq) fun r s' hq' => ?_))
  cases r with
  | error e => exact hx pins _ _ e s' I2 hq'
  | ok fl =>
    cases fl with
    | ret u =>
      obtain ⟨v, H', I3, rv, ev, q3⟩ := I2.after hq'
      subst ev
      exact ⟨rv, ⟨V.ref (s.heap.objs.size + 1), H', I3, rfl, q3⟩⟩
    | next => exact False.elim hq'
    | brk => exact False.elim hq'
    | cont => exact False.elim hq'
theorem made_sp {K : PySem.W.Frag} {σ : L2.St} {μ : Mu} {H : Hp} {S : Hs} {ds : List D} {vs : List V} {Q : VK} {c gi : Nat} {C : Addr} (hc : A.cl c = some C) (hi : T.inits[c]? = some gi) (r : DRs K A μ H ds vs) (R : HR K A μ S H)
    (h : Post (ReD K A) K A W σ μ H Q (madeBy T (runFn T wf k) c ds S)) : ∀ x dx, H x = none → H dx = none → dx ≠ x → spOf T wf K A k gi (.ref x :: vs) (upd (upd H dx (.own x)) x (.ins C dx [])) (fun v H2 => v = .non ∧ Q (.ref x) H2) (WE W σ) := by
  intro x dx hx hd hne
  have m1 : Mo μ H μ (upd H dx (.own x)) := Mo.new hd
  have hx1 : upd H dx (.own x) x = none := by rw [upd_ne hne.symm]; exact hx
  have m2 : Mo μ (upd H dx (.own x)) (μ.add x) (upd (upd H dx (.own x)) x (.ins C dx [])) := Mo.place hx1
  have M := m1.trans m2
  have R2 := (R.new (o := .own x) hd).place (g := .ins c []) (o := .ins C dx []) hx1 (.ins hc .nil)
  have e0 : (μ.add x).tr[S.length]? = some x := Mu.add_at R
  refine ⟨.ref S.length :: ds, S ++ [.ins c []], μ.add x, .cons (.ref e0) (r.mono M), R2, ?_⟩
  unfold madeBy at h
  rw [hi] at h
  dsimp only at h
  cases e : runFn T wf k gi (.ref S.length :: ds) (S ++ [.ins c []]) with
  | stuck => rw [e] at h; exact h.elim
  | err c2 fs S' =>
    rw [e] at h
    exact fun cl dx2 μ' H' X1 R1 M1 => h cl dx2 μ' H' X1 R1 (M.trans M1)
  | ok d S' =>
    rw [e] at h
    cases d with
    | non =>
      intro v μ' H' r1 R1 M1
      cases r1
      exact ⟨rfl, h (.ref x) μ' H' (.ref (M1.get e0)) R1 (M.trans M1)⟩
    | _ => exact h.elim
theorem px_make (g : Gd T G wf A k X W) (hh : G.inH = false) {c : Nat} {x : Str} {es : List Expr} {p : Pos} (hf : G.clss[c]? = some x) (hx : isGl X.env.scope x = true) (hs : PA X (e :: es) (TAo X.K A W mas)) (hp : (e :: es).all plainE = true) :
    PE X (.Call (.Name x p) (e :: es) [] pos) (TEo X.K A W fun env s => (mas env s).bind fun ds s1 => madeBy T (runFn T wf k) c ds s1) := by
  obtain ⟨C, gi, a, hc, hm, hi, ha, M⟩ := g.kn.clss c x hf
  obtain ⟨fn, h3, ⟨fd, ps, hb, hl, F, _⟩, kp⟩ := g.kn.afn gi a ha
  obtain ⟨gx, dbg, _⟩ := isGl_ok hx
  rw [List.all_cons, Bool.and_eq_true] at hp
  refine ⟨fun pins s σ H Q I h => ?_⟩
  obtain ⟨env, S, μ, E, R, h⟩ := h
  refine wpAny_Call_Name_kw (ld_glob I gx hm ?_ dbg)
  refine PySem.W.callWith_K (h₀ := X.base) I.ok.mod.kin M.kp (thn (hs.run pos pins s σ H _ I (seq (k := fun vs H' => ∀ x dx, H' x = none → H' dx = none → dx ≠ x → spOf T wf X.K A k gi (.ref x :: vs) (upd (upd H' dx (.own x)) x (.ins C dx [])) (fun v H2 => v = .non ∧ Q (.ref x) H2) (WE W σ)) E R h fun ds S1 xs μ1 H1 _ r1 R1 E1 M1 h1 => made_sp hc hi r1 R1 h1)) fun us s1 hh => ?_) (starE hp.1) (plain_any hp.2)
  obtain ⟨vs, H1, I1, r, q⟩ := hh
  exact ⟨I1.kIn, run_makeS M F (g.cold hh).2 hb (L2N.passAt g.takes σ) I1 r q⟩
theorem px_make0 (g : Gd T G wf A k X W) (hh : G.inH = false) {c : Nat} {x : Str} {p : Pos} (hf : G.clss[c]? = some x) (hx : isGl X.env.scope x = true) :
    PE X (.Call (.Name x p) [] [] pos) (TEo X.K A W fun env s => madeBy T (runFn T wf k) c [] s) := by
  obtain ⟨C, gi, a, hc, hm, hi, ha, M⟩ := g.kn.clss c x hf
  obtain ⟨fn, h3, ⟨fd, ps, hb, hl, F, _⟩, kp⟩ := g.kn.afn gi a ha
  obtain ⟨gx, dbg, _⟩ := isGl_ok hx
  refine ⟨fun pins s σ H Q I h => ?_⟩
  obtain ⟨env, S, μ, E, R, h⟩ := h
  refine wpAny_Call_Name_kw (ld_glob I gx hm ?_ dbg)
  exact PySem.W.callWith_K0 I.kIn M.kp (run_makeS (us := []) M F (g.cold hh).2 hb (L2N.passAt g.takes σ) I .nil (made_sp hc hi .nil R h))
/-! ### built-in functions -/
theorem px_bi (g : Gd T G wf A k X W) {b : Bi} {f : Value} {x : Str} {es : List Expr} {p : Pos} (hc : CallR X f (rC X.K A b)) (hf : (∃ id, f = .builtin id) ∨ ∃ t, f = .type t) (hv : bootBuiltins x = some f) (hm : X.mg x = none) (hx : isGl X.env.scope x = true)
    (hs : PA X (e :: es) (TAo X.K A W mas)) (hp : (e :: es).all plainE = true) :
    PE X (.Call (.Name x p) (e :: es) [] pos) (TEo X.K A W fun env s => (mas env s).bind fun ds s1 => Res.of (bifun s1 b ds) s1) := by
  obtain ⟨gx, dbg, nm⟩ := isGl_ok hx
  rw [List.all_cons, Bool.and_eq_true] at hp
  have fin : ∀ σ H Q, TEo X.K A W (fun env s => (mas env s).bind fun ds s1 => Res.of (bifun s1 b ds) s1) σ H Q → tCB (rC X.K A b) (TAo X.K A W mas) σ H Q := fun σ H Q ⟨env, S, μ, E, R, h⟩ =>
    seq E R h fun ds S1 xs μ1 H1 _ r1 R1 E1 M1 h1 => by
      obtain ⟨d, e, q⟩ := Post.of h1
      exact ⟨μ1, S1, ds, d, r1, R1, e, q⟩
  rcases hf with ⟨id, rfl⟩ | ⟨t, rfl⟩
  · exact PE.imp (pe_callB hc gx hm hv hs nm dbg (starE hp.1) (plain_any hp.2)) fin
  · exact PE.imp (pe_callTy hc gx hm hv hs nm dbg (starE hp.1) (plain_any hp.2)) fin
end
end CN
set_option Elab.async false
set_option linter.all false
set_option maxRecDepth 100000
set_option maxHeartbeats 2000000
/-! CnExpr3: isinstance, methods of built-in objects, targets, what is walked. -/
namespace CN
open PySem PyProof.Rows L2

section
variable {X : Cx} {A : Ad} {W : WX} {a b e : Expr} {ma mb : CN.Env → Hs → Res D} {mas : CN.Env → Hs → Res (List D)} {pos : Pos} {T : Tb} {G : Gi} {wf k : Nat}
theorem boot_cl {cl : String} (h : cl ∈ ["int", "bool", "str", "tuple", "list"]) : bootBuiltins (Str.ofString cl) = some (.type cl) := by
  have z : ∀ c ∈ ["int", "bool", "str", "tuple", "list"], bootBuiltins (Str.ofString c) = some (.type c) := by decide +kernel
  exact z cl h
theorem cl_blt {cl : String} (h : cl ∈ ["int", "bool", "str", "tuple", "list"]) : Str.ofString cl ∈ (["len", "int", "tuple", "list", "all", "any", "sum", "max", "min", "abs", "isinstance", "range", "zip", "enumerate", "reversed", "bool", "str"] : List Str) := by
  have z : ∀ c ∈ ["int", "bool", "str", "tuple", "list"], Str.ofString c ∈ (["len", "int", "tuple", "list", "all", "any", "sum", "max", "min", "abs", "isinstance", "range", "zip", "enumerate", "reversed", "bool", "str"] : List Str) := by decide +kernel
  exact z cl h
theorem px_isi (g : Gd T G wf A k X W) {cl : String} (hc : cl ∈ ["int", "bool", "str", "tuple", "list"]) {p q : Pos} (hx : isGl X.env.scope "isinstance" = true) (hy : isGl X.env.scope (Str.ofString cl) = true) (ha : PE X a (TEo X.K A W ma)) (hp : plainE a = true) :
    PE X (.Call (.Name "isinstance" p) [a, .Name (Str.ofString cl) q] [] pos) (TEo X.K A W fun env s => (ma env s).bind fun d s1 => Res.of (bifun s1 (.isinst cl) [d]) s1) := by
  obtain ⟨gx, dbg, nm⟩ := isGl_ok hx
  obtain ⟨gy, dbg2, nm2⟩ := isGl_ok hy
  have hm : X.mg "isinstance" = none := g.kn.blt _ (by decide +kernel)
  have hm2 : X.mg (Str.ofString cl) = none := g.kn.blt _ (cl_blt hc)
  refine PE.imp (pe_callB (cR_isi (A := A) cl hc) gx hm boot_isinstance (pa_cons ha (pa_cons (pe_bltn (v := .ty cl) gy hm2 (boot_cl hc) rfl nm2 dbg2) pa_nil (by rfl)) (starE hp)) nm dbg (starE hp) (by rfl)) fun σ H Q ⟨env, S, μ, E, R, h⟩ => ?_
  show TEo X.K A W ma σ H fun x H1 => ∃ y ys, [x, V.ty cl] = [y, .ty cl] ∧ ys = [y] ∧ rC X.K A (.isinst cl) ys H1 Q
  exact seq E R h fun d S1 y μ1 H1 _ r1 R1 E1 M1 h1 => by
    obtain ⟨z, e, q⟩ := Post.of h1
    exact ⟨y, [y], rfl, rfl, μ1, S1, [d], z, .cons r1 .nil, R1, e, q⟩
/-- list(x) that gets a place -/
theorem px_listB (g : Gd T G wf A k X W) {es : List Expr} {p : Pos} (hx : isGl X.env.scope "list" = true) (hs : PA X (e :: es) (TAo X.K A W mas)) (hp : (e :: es).all plainE = true) :
    PE X (.Call (.Name "list" p) (e :: es) [] pos) (TEo X.K A W (boxed fun env s => (mas env s).bind fun ds s1 => Res.of (bifun s1 .list ds) s1)) := by
  obtain ⟨gx, dbg, nm⟩ := isGl_ok hx
  rw [List.all_cons, Bool.and_eq_true] at hp
  refine PE.imp (pe_callTy call_list_of gx (g.kn.blt _ (by decide +kernel)) boot_list hs nm dbg (starE hp.1) (plain_any hp.2)) fun σ H Q ⟨env, S, μ, E, R, h⟩ => ?_
  have e : boxed (fun env s => (mas env s).bind fun ds s1 => Res.of (bifun s1 .list ds) s1) env S = (mas env S).bind fun ds s1 => (Res.of (bifun s1 .list ds) s1).bind fun d s1 => match d with
      | .tl ds => .ok (.ref s1.length) (s1 ++ [.lst ds])
      | _ => .stuck := by
    unfold boxed
    dsimp only
    cases mas env S <;> rfl
  rw [e] at h
  exact seq E R h fun ds S1 xs μ1 H1 _ r1 R1 E1 M1 h1 => by
    cases eb : bifun S1 .list ds with
    | none => rw [eb] at h1; exact h1.elim
    | some d =>
      rw [eb] at h1
      unfold bifun at eb
      split at eb <;> try contradiction
      · rename_i d0 _ _
        obtain ⟨v, rfl, r⟩ := one_inv r1
        cases e1 : seqAt S1 d0 with
        | none => rw [e1] at eb; cases eb
        | some es =>
          rw [e1] at eb
          cases eb
          obtain ⟨a, vs, rfl, h2, h3⟩ := seq_sq R1 r e1
          exact ⟨a, vs, rfl, h2, fun p hp => box_fin R1 h3 hp h1⟩
      all_goals cases eb
/-! ### methods of built-in objects -/
theorem bmTy_list {m : Bm} (hm : m = .append ∨ m = .extend ∨ m = .index) {K : PySem.W.Frag} {μ : Mu} {H : Hp} {S : Hs} {d : D} {v : V} (R : HR K A μ S H) (r : DR K A μ H d v) (h : bmTy S m d = true) : tyV K "list" v H := by
  have z : (lstAt S d).isSome = true := by
    rcases hm with rfl | rfl | rfl <;> exact h
  cases e : lstAt S d with
  | none => rw [e] at z; cases z
  | some ds =>
    obtain ⟨a, vs, rfl, h1, _⟩ := lst_sq R r e
    exact .inl ⟨rfl, vs, .inl h1⟩
theorem bmTy_str {K : PySem.W.Frag} {μ : Mu} {H : Hp} {S : Hs} {d : D} {v : V} (r : DR K A μ H d v) (h : bmTy S .split d = true) : tyV K "str" v H := by
  cases d with
  | str z => cases r; rfl
  | _ => cases h
theorem bmTy_str2 {m : Bm} (hm : m = .join ∨ m = .startswith) {K : PySem.W.Frag} {μ : Mu} {H : Hp} {S : Hs} {d : D} {v : V} (r : DR K A μ H d v) (h : bmTy S m d = true) : tyV K "str" v H := by
  rcases hm with rfl | rfl <;> (cases d with
  | str z => cases r; rfl
  | _ => cases h)
theorem px_bm0 {m : Bm} {nm : Str} {Ty id : String} {es : List Expr} {apos : Pos} (pa : PlainAttrs Ty) (slot : Slot Ty nm id) (hty : typeOf (.builtin id) = pure (.type "method_descriptor")) (hm : MtR X id (rM X.K A m))
    (ht : ∀ {μ : Mu} {H : Hp} {S : Hs} {d : D} {v : V}, HR X.K A μ S H → DR X.K A μ H d v → bmTy S m d = true → tyV X.K Ty v H)
    (ha : PE X a (TEo X.K A W ma)) (hb : noSuper a = true) (hs : PA X (e :: es) (TAo X.K A W mas)) (hp : (e :: es).all plainE = true) (hn : (e :: es).length < 30) (hl : (apos.endLine == pos.line) = true) :
    PE X (.Call (.Attribute a nm apos) (e :: es) [] pos) (TEo X.K A W fun env s => (ma env s).bind fun x s1 => if bmTy s1 m x then (mas env s1).bind fun ds s2 => bmeth s2 m x ds else .stuck) := by
  have hfew : ((backTo pos (starEach (e :: es) X.env)).all (fun x => !x.1) && (backToKw pos (keywordEach [] X.env)).all (fun x => x.1.isSome)
      && decide ((e :: es).length + ([] : List Keyword).length + (if ([] : List Keyword).isEmpty then 0 else 1) < 30)) = true := by
    rw [all_star hp]
    show (true && true && decide ((e :: es).length + 0 + 0 < 30)) = true
    simpa using hn
  rw [List.all_cons, Bool.and_eq_true] at hp
  refine PE.imp (pe_bm pa slot hty hm ha hs (base_of hb) hfew hl (starE hp.1) (plain_any hp.2)) fun σ H Q ⟨env, S, μ, E, R, h⟩ => seq E R h fun d S1 y μ1 H1 _ r1 R1 E1 M1 h1 => ?_
  by_cases hbt : bmTy S1 m d = true
  · rw [if_pos hbt] at h1
    refine ⟨ht R1 r1 hbt, seq E1 R1 h1 fun ds S2 xs μ2 H2 _ r2 R2 E2 M2 h2 => ?_⟩
    cases eb : bmeth S2 m d ds with
    | stuck => rw [eb] at h2; exact h2.elim
    | err c fs S3 =>
      exfalso
      cases m <;> (unfold bmeth at eb; (repeat' (split at eb)) <;> cases eb)
    | ok d2 S3 =>
      rw [eb] at h2
      exact ⟨μ2, S2, S3, d, d2, ds, DR.mono M2 r1, r2, R2, eb, h2⟩
  · rw [if_neg hbt] at h1
    exact h1.elim
theorem px_bm {m : Bm} {es : List Expr} {apos : Pos} (hok : bmOk m = true) (ha : PE X a (TEo X.K A W ma)) (hb : noSuper a = true) (hs : PA X (e :: es) (TAo X.K A W mas)) (hp : (e :: es).all plainE = true) (hn : (e :: es).length < 30) (hl : (apos.endLine == pos.line) = true) :
    PE X (.Call (.Attribute a (bmName m) apos) (e :: es) [] pos) (TEo X.K A W fun env s => (ma env s).bind fun x s1 => if bmTy s1 m x then (mas env s1).bind fun ds s2 => bmeth s2 m x ds else .stuck) := by
  cases m with
  | append => exact px_bm0 PySem.F.plainAttrs_list PySem.F.slot_list_append PySem.F.type_list_append mR_append (bmTy_list (.inl rfl)) ha hb hs hp hn hl
  | extend => exact px_bm0 PySem.F.plainAttrs_list PySem.F.slot_list_extend PySem.F.type_list_extend mR_extend (bmTy_list (.inr (.inl rfl))) ha hb hs hp hn hl
  | index => exact px_bm0 PySem.F.plainAttrs_list PySem.F.slot_list_index PySem.F.type_list_index mR_index (bmTy_list (.inr (.inr rfl))) ha hb hs hp hn hl
  | split => exact px_bm0 PySem.F.plainAttrs_str PySem.F.slot_str_split PySem.F.type_str_split mR_split (fun _ r h => bmTy_str r h) ha hb hs hp hn hl
  | join => exact px_bm0 PySem.F.plainAttrs_str PySem.F.slot_str_join PySem.F.type_str_join mR_join (fun _ r h => bmTy_str2 (.inl rfl) r h) ha hb hs hp hn hl
  | startswith => exact px_bm0 PySem.F.plainAttrs_str PySem.F.slot_str_startswith PySem.F.type_str_startswith mR_startswith (fun _ r h => bmTy_str2 (.inr rfl) r h) ha hb hs hp hn hl
  | _ => cases hok

/-! ### targets -/
def tgIdx : Tg → List Nat
  | .nm i => [i]
  | .tp is => is
theorem wipe_set {σ : L2.St} {i : Nat} {x : Option V} : ∀ {own : List Nat}, i ∈ own → wipe (σ.set i x) own = wipe σ own
  | j :: own, h => by
    unfold wipe
    by_cases e : i ∈ own
    · rw [wipe_set e]
    · have ej : i = j := by
        rcases List.mem_cons.mp h with h | h
        · exact h
        · exact absurd h e
      subst ej
      have z : ∀ (l : List Nat) (σ : L2.St), i ∉ l → wipe (σ.set i x) l = (wipe σ l).set i x := by
        intro l
        induction l with
        | nil => intro σ _; rfl
        | cons v vs ih =>
          intro σ hv
          unfold wipe
          rw [ih σ fun q => hv (List.mem_cons_of_mem _ q), List.set_comm _ _ (fun q => hv (by rw [q]; exact List.mem_cons_self))]
      rw [z own σ e, List.set_set]
/-- the names of a target may be stored -/
def StoreOk (X : Cx) (x : Str) : Prop := Loc X.env.scope x ∧ (X.fn x = true ∨ X.env.scope.names.lookup x = some .local)
inductive TgsAt (X : Cx) : List Nat → List Expr → Prop where
  | nil : TgsAt X [] []
  | cons {i : Nat} {x : Str} {p : Pos} {is : List Nat} {es : List Expr} (hi : X.N[i]? = some x) (hs : StoreOk X x) (r : TgsAt X is es) : TgsAt X (i :: is) (.Name x p :: es)
inductive TgAt (X : Cx) : Tg → Expr → Prop where
  | nm {i : Nat} {x : Str} {p : Pos} (hi : X.N[i]? = some x) (hs : StoreOk X x) : TgAt X (.nm i) (.Name x p)
  | tp {is : List Nat} {es : List Expr} {k : Nat} {p : Pos} (r : TgsAt X is es) : TgAt X (.tp is) (.Tuple es k p)
/-- what a target's reading gives -/
def TgR (K : PySem.W.Frag) (A : Ad) (t : Tg) (g : TG) : Prop := ∀ (μ : Mu) (H : Hp) (env env' : CN.Env) (σ : L2.St) (d : D) (v : V) (Q : L2.St → Hp → Prop), ER K A μ H env σ → DR K A μ H d v → assignTg env t d = some env' →
  (∀ σ', ER K A μ H env' σ' → (∀ own : List Nat, (∀ i ∈ tgIdx t, i ∈ own) → wipe σ' own = wipe σ own) → Q σ' H) → g v σ H Q
def gsOf : List Nat → TGs
  | [] => gNil
  | i :: is => gCons (gName i) (gsOf is)
def gOf (K : PySem.W.Frag) : Tg → TG
  | .nm i => gName i
  | .tp is => gTup K is.length (gsOf is)
theorem pgs_of (hN : X.N.Nodup) : ∀ {is : List Nat} {es : List Expr}, TgsAt X is es → (assignEach es X.env).length = is.length ∧ (assignEach es X.env).findIdx? (·.1) = none ∧ PGs X es (gsOf is)
  | _, _, .nil => ⟨rfl, rfl, pgs_nil⟩
  | _, _, .cons (i := i) (x := x) (is := is) hi hs r => by
    obtain ⟨h1, h2, hg⟩ := pgs_of hN r
    refine ⟨by show _ + 1 = _ + 1; rw [h1], ?_, pgs_cons (pg_name hN hi hs.1 hs.2) hg rfl⟩
    show List.findIdx? _ ((false, assign (.Name x _) X.env) :: assignEach _ X.env) = none
    rw [List.findIdx?_cons, h2]
    rfl
theorem tgsR {K : PySem.W.Frag} {μ : Mu} {H : Hp} : ∀ {is : List Nat} {env env' : CN.Env} {σ : L2.St} {ds : List D} {vs : List V} {Q : L2.St → Hp → Prop}, ER K A μ H env σ → DRs K A μ H ds vs → setAll env is ds = some env' →
      (∀ σ', ER K A μ H env' σ' → (∀ own : List Nat, (∀ i ∈ is, i ∈ own) → wipe σ' own = wipe σ own) → Q σ' H) → gsOf is vs σ H Q
  | [], env, env', σ, ds, vs, Q, E, r, e, q => by
    cases ds with
    | nil =>
      cases r
      cases e
      exact ⟨rfl, q σ E fun _ _ => rfl⟩
    | cons => cases e
  | i :: is, env, env', σ, ds, vs, Q, E, rr, e, q => by
    cases ds with
    | nil => cases e
    | cons d ds =>
      cases rr with
      | cons rd rr =>
        refine ⟨_, _, rfl, ?_⟩
        show gsOf is _ (σ.set i (some _)) H Q
        refine tgsR (E.set rd) rr e fun σ' E' hw => q σ' E' fun own ho => ?_
        rw [hw own fun j hj => ho j (List.mem_cons_of_mem _ hj)]
        exact wipe_set (ho i List.mem_cons_self)
theorem setAll_len : ∀ {is : List Nat} {ds : List D} {env env' : CN.Env}, setAll env is ds = some env' → ds.length = is.length
  | [], [], _, _, _ => rfl
  | [], _ :: _, _, _, h => by cases h
  | _ :: _, [], _, _, h => by cases h
  | i :: is, d :: ds, env, env', h => by
    rw [List.length_cons, List.length_cons, setAll_len (is := is) (ds := ds) h]
theorem tgR {K : PySem.W.Frag} {t : Tg} : TgR K A t (gOf K t) := by
  intro μ H env env' σ d v Q E r e q
  cases t with
  | nm i =>
    cases e
    exact q _ (E.set r) fun own ho => wipe_set (ho i List.mem_cons_self)
  | tp is =>
    cases d with
    | tup ds =>
      cases r with
      | @tup _ a vs h r => exact ⟨a, vs, rfl, h.sq, by rw [r.length]; exact setAll_len e, tgsR E r e q⟩
    | _ => cases e
def nmTg : Tg → Bool
  | .nm _ => true
  | _ => false
theorem pg_of {t : Tg} (hc : nmTg t = false → X.calm = true) (hN : X.N.Nodup) {te : Expr} (h : TgAt X t te) : PG X te (gOf X.K t) := by
  cases h with
  | @nm i x p hi hs => exact pg_name hN hi hs.1 hs.2
  | @tp is es kk p r =>
    obtain ⟨h1, h2, hg⟩ := pgs_of hN r
    exact pg_tup (hc rfl) hg h1 h2
end
end CN
set_option Elab.async false
set_option linter.all false
set_option maxRecDepth 100000
set_option maxHeartbeats 2000000
/-! CnZip: zip of a tuple and a list. -/
namespace CZ
open PySem PySem.Spec PyProof.Rows L2
/-- true: a tuple, false: a list -/
def ItA (b : Bool) (h : Heap) (i l : Addr) (k : Nat) : Prop := match b with | true => h.IsTupleIter i l k | false => h.IsListIter i l k
def SrA (b : Bool) (h : Heap) (l : Addr) (xs : Array Value) : Prop := match b with | true => h.IsTuple l xs | false => h.IsList l xs
section
variable {b b1 b2 : Bool} {h h' : Heap} {i j l : Addr} {k : Nat} {xs : Array Value}
theorem ItA.ext (q : ItA b h i l k) (e : Heap.ExtBut j h h') (d : i ≠ j) : ItA b h' i l k := by
  cases b
  · exact Heap.IsListIter.extBut q e d
  · exact Heap.IsTupleIter.extBut q e d
theorem SrA.ext (q : SrA b h l xs) (e : Heap.ExtBut j h h') (d : l ≠ j) : SrA b h' l xs := by
  cases b
  · exact Heap.IsList.extBut q e d
  · exact Heap.IsTuple.extBut q e d
theorem ItA.to (q : ItA b h i l k) (e : ∀ o, h.get? i = some o → h'.get? i = some o) : ItA b h' i l k := by
  cases b
  · exact Heap.IsListIter.at q e
  · exact Heap.IsTupleIter.at q e
theorem ItA.some (q : ItA b h i l k) : ∃ o, h.get? i = some o ∧ ∀ v, o.data ≠ .cell v := by
  cases b
  · obtain ⟨o, e, _, d⟩ : h.IsListIter i l k := q
    exact ⟨o, e, fun v z => by rw [d] at z; cases z⟩
  · obtain ⟨o, e, _, d⟩ : h.IsTupleIter i l k := q
    exact ⟨o, e, fun v z => by rw [d] at z; cases z⟩
end
section
variable {prog : Program} {w : World} {A : Around} {E : Value → Shared → Prop} {s : Shared} {b b1 b2 : Bool}
theorem nx_item {i l : Addr} {k : Nat} {xs : Array Value} {x : Value} {Q : Value → Shared → Prop} (hi : ItA b s.heap i l k) (hl : SrA b s.heap l xs) (hx : xs[k]? = some x)
    (hq : ∀ h', ItA b h' i l (k + 1) → Heap.SameBut i s.heap h' → Q x { s with heap := h' }) : wpAny (model prog w) A (Builtin.SmallTypes.nextOf (.ref i)) Q E s := by
  cases b
  · exact wpAny_nextOf_list_item hi hl hx hq
  · exact RZ.nextOf_tuple_item hi hl hx hq
theorem nx_end {i l : Addr} {k : Nat} {xs : Array Value} {Q : Value → Shared → Prop} (hh : A.handled = none) (hi : ItA b s.heap i l k) (hl : SrA b s.heap l xs) (hx : xs[k]? = none)
    (hq : ∀ h' e, Heap.ExtBut i s.heap h' → (∃ o, h'.get? e = some o ∧ o.cls = .type "StopIteration") → E (.ref e) { s with heap := h' }) : wpAny (model prog w) A (Builtin.SmallTypes.nextOf (.ref i)) Q E s := by
  cases b
  · exact wpAny_nextOf_list_end hh hi hl hx hq
  · exact RZ.nextOf_tuple_end hh hi hl hx hq
variable {z ti to i1 i2 l1 l2 : Addr} {k1 k2 : Nat} {xs ys : Array Value} {x y u v : Value}
theorem z_item {Q : Value → Shared → Prop} (D : ZipApart z ti to i1 i2 l1 l2) (hz : IsZip s.heap z ti to .none) (hI : IsPair s.heap ti (.ref i1) (.ref i2)) (hO : IsPair s.heap to u v)
    (g1 : ItA b1 s.heap i1 l1 k1) (g2 : ItA b2 s.heap i2 l2 k2) (q1 : SrA b1 s.heap l1 xs) (q2 : SrA b2 s.heap l2 ys) (hx : xs[k1]? = some x) (hy : ys[k2]? = some y)
    (fin : ∀ h', IsZip h' z ti to (rawInt s.heap.objs.size) → IsPair h' to x y → ItA b1 h' i1 l1 (k1 + 1) → ItA b2 h' i2 l2 (k2 + 1) → IsPair h' s.heap.objs.size x y → h'.objs.size = s.heap.objs.size + 1 →
      (∀ c o, c ≠ z → c ≠ to → c ≠ i1 → c ≠ i2 → s.heap.get? c = some o → h'.get? c = some o) → Q (.ref s.heap.objs.size) { s with heap := h' }) :
    wpAny (model prog w) A (Builtin.«zip.__next__» ⟨[.ref z], []⟩) (fun r s' => ∃ t, r = .done (.ret t) ∧ Q t s') E s := by
  show wpAny _ _ (field (.ref z) 2 >>= _) _ _ _; refine wpAny_bind (wpAny_field hz rfl (x := .bool false) rfl ?_)
  show wpAny _ _ (field (.ref z) 3 >>= _) _ _ _; refine wpAny_bind (wpAny_field hz rfl (x := .ref ti) rfl (wpAny_bind (wpAny_seqItems hI rfl ?_)))
  show wpAny _ _ (Builtin.SmallTypes.ownedTupleIsFree (.ref z) >>= _) _ _ _; refine wpAny_bind ?_; unfold Builtin.SmallTypes.ownedTupleIsFree
  refine wpAny_bind (wpAny_field hz rfl (x := .none) rfl (wpAny_pure ?_)); simp only [if_true]
  refine wpAny_bind (wpAny_rule (wpAny_bind (wpAny_field hz rfl (x := .ref to) rfl (wpAny_bind (wpAny_setField_rec hz (by simp) fun m1 z1 e1 => ?_)))))
  replace z1 : IsZip m1 z ti to .ellipsis := z1
  refine wpAny_bind ?_; simp only [List.forIn_nil, List.forIn_cons, List.zipIdx_nil, List.zipIdx_cons]
  refine wpAny_bind (wpAny_bind (wpAny_onRaise ?_)); show wpAny _ _ (Builtin.SmallTypes.nextOf (.ref i1) >>= _) _ _ _
  refine wpAny_bind (nx_item (g1.ext e1.extBut D.i1z) (q1.ext e1.extBut D.l1z) hx fun m2 g1' e2 => wpAny_pure ?_)
  have o2 : IsPair m2 to u v := e2.extBut _ _ D.TOi1 (e1.extBut _ _ D.TOz hO)
  refine wpAny_bind (wpAny_seqItems o2 rfl (wpAny_bind (wpAny_updateSeq_pair o2 fun m3 o3 e3 => ?_)))
  replace o3 : IsPair m3 to x v := o3
  refine wpAny_bind (wpAny_letGo (wpAny_pure (wpAny_bind (wpAny_bind (wpAny_onRaise ?_))))); show wpAny _ _ (Builtin.SmallTypes.nextOf (.ref i2) >>= _) _ _ _
  refine wpAny_bind (nx_item (((g2.ext e1.extBut D.i2z).ext e2.extBut D.i12.symm).ext e3.extBut D.TOi2.symm) (((q2.ext e1.extBut D.l2z).ext e2.extBut D.l2i1).ext e3.extBut D.l2TO) hy fun m4 g2' e4 => wpAny_pure ?_)
  have o4 : IsPair m4 to x v := e4.extBut _ _ D.TOi2 o3
  refine wpAny_bind (wpAny_seqItems o4 rfl (wpAny_bind (wpAny_updateSeq_pair o4 fun m5 o5 e5 => ?_)))
  replace o5 : IsPair m5 to x y := o5
  refine wpAny_bind (wpAny_letGo (wpAny_pure (wpAny_pure (wpAny_bind (wpAny_seqItems o5 rfl (wpAny_bind (wpAny_newTuple ?_)))))))
  have sz : m5.objs.size = s.heap.objs.size := by rw [e5.1, e4.1, e3.1, e2.1, e1.1]
  have z5 : IsZip m5 z ti to .ellipsis := e5.extBut _ _ D.TOz.symm (e4.extBut _ _ D.i2z.symm (e3.extBut _ _ D.TOz.symm (e2.extBut _ _ D.i1z.symm z1)))
  have kp : ∀ c o, c ≠ z → c ≠ to → c ≠ i1 → c ≠ i2 → s.heap.get? c = some o → m5.get? c = some o := fun c o c1 c2 c3 c4 e => e5.extBut _ _ c2 (e4.extBut _ _ c4 (e3.extBut _ _ c2 (e2.extBut _ _ c3 (e1.extBut _ _ c1 e))))
  have w1 : ItA b1 m5 i1 l1 (k1 + 1) := ((g1'.ext e3.extBut D.TOi1.symm).ext e4.extBut D.i12).ext e5.extBut D.TOi1.symm
  have w2 : ItA b2 m5 i2 l2 (k2 + 1) := g2'.ext e5.extBut D.TOi2.symm
  have lz : z < m5.objs.size := Heap.lt_size z5
  show wpAny _ _ (Builtin.SmallTypes.ownedTupleHandOut (.ref z) (.ref m5.objs.size) >>= _) _ _ _; refine wpAny_bind ?_; unfold Builtin.SmallTypes.ownedTupleHandOut
  have z6 : IsZip (m5.push { cls := .type "tuple", data := .seq #[x, y] }) z ti to .ellipsis := Heap.get?_push_of_some _ z5
  refine wpAny_bind (wpAny_setField_rec z6 (by simp) fun m7 z7 e7 => ?_)
  replace z7 : IsZip m7 z ti to (rawInt m5.objs.size) := z7
  refine wpAny_setField_rec z7 (by simp) fun m8 z8 e8 => ?_
  replace z8 : IsZip m8 z ti to (rawInt m5.objs.size) := z8
  have up : ∀ c o, c ≠ z → m5.get? c = some o → m8.get? c = some o := fun c o c1 e => e8.extBut _ _ c1 (e7.extBut _ _ c1 (Heap.get?_push_of_some _ e))
  have t8 : IsPair m8 m5.objs.size x y := e8.extBut _ _ (Nat.ne_of_gt lz) (e7.extBut _ _ (Nat.ne_of_gt lz) (Heap.get?_push_size _ rfl))
  have s8 : m8.objs.size = m5.objs.size + 1 := by rw [e8.1, e7.1, Heap.size_push]
  rw [sz] at z8 t8 s8
  refine wpAny_pure ⟨_, rfl, ?_⟩
  show Q (.ref m5.objs.size) _
  rw [sz]
  exact fin m8 z8 (up _ _ D.TOz o5) (w1.to fun o e => up _ o D.i1z e) (w2.to fun o e => up _ o D.i2z e) t8 s8 fun c o c1 c2 c3 c4 e => up c o c1 (kp c o c1 c2 c3 c4 e)
theorem z_end {Q : Fin → Shared → Prop} (hh : A.handled = none) (D : ZipApart z ti to i1 i2 l1 l2) (hz : IsZip s.heap z ti to .none) (hI : IsPair s.heap ti (.ref i1) (.ref i2)) (hO : IsPair s.heap to u v)
    (g1 : ItA b1 s.heap i1 l1 k1) (g2 : ItA b2 s.heap i2 l2 k2) (q1 : SrA b1 s.heap l1 xs) (q2 : SrA b2 s.heap l2 ys) (he : xs[k1]? = none ∨ ys[k2]? = none)
    (fin : ∀ h' e, (∀ c o, c ≠ z → c ≠ to → c ≠ i1 → c ≠ i2 → s.heap.get? c = some o → h'.get? c = some o) → (∃ o, h'.get? e = some o ∧ o.cls = .type "StopIteration") → E (.ref e) { s with heap := h' }) :
    wpAny (model prog w) A (Builtin.«zip.__next__» ⟨[.ref z], []⟩) Q E s := by
  show wpAny _ _ (field (.ref z) 2 >>= _) _ _ _; refine wpAny_bind (wpAny_field hz rfl (x := .bool false) rfl ?_)
  show wpAny _ _ (field (.ref z) 3 >>= _) _ _ _; refine wpAny_bind (wpAny_field hz rfl (x := .ref ti) rfl (wpAny_bind (wpAny_seqItems hI rfl ?_)))
  show wpAny _ _ (Builtin.SmallTypes.ownedTupleIsFree (.ref z) >>= _) _ _ _; refine wpAny_bind ?_; unfold Builtin.SmallTypes.ownedTupleIsFree
  refine wpAny_bind (wpAny_field hz rfl (x := .none) rfl (wpAny_pure ?_)); simp only [if_true]
  refine wpAny_bind (wpAny_rule (wpAny_bind (wpAny_field hz rfl (x := .ref to) rfl (wpAny_bind (wpAny_setField_rec hz (by simp) fun m1 z1 e1 => ?_)))))
  replace z1 : IsZip m1 z ti to .ellipsis := z1
  refine wpAny_bind ?_; simp only [List.forIn_nil, List.forIn_cons, List.zipIdx_nil, List.zipIdx_cons]
  refine wpAny_bind (wpAny_bind (wpAny_onRaise ?_)); show wpAny _ _ (Builtin.SmallTypes.nextOf (.ref i1) >>= _) _ _ _
  cases hx : xs[k1]? with
  | none =>
    refine wpAny_bind (nx_end hh (g1.ext e1.extBut D.i1z) (q1.ext e1.extBut D.l1z) hx fun m2 e e2 st => ?_)
    obtain ⟨oe, p1, p2⟩ := st
    have z2 : IsZip m2 z ti to .ellipsis := e2 _ _ D.i1z.symm z1
    have ne : e ≠ z := fun q => by subst q; rw [z2] at p1; cases p1; simp at p2
    exact wpAny_setField_rec z2 (by simp) fun m3 _ e3 => fin m3 e (fun c o c1 _ c3 _ q => e3.extBut _ _ c1 (e2 _ _ c3 (e1.extBut _ _ c1 q))) ⟨oe, e3.extBut _ _ ne p1, p2⟩
  | some x =>
    have hy : ys[k2]? = none := he.resolve_left fun q => by rw [hx] at q; cases q
    refine wpAny_bind (nx_item (g1.ext e1.extBut D.i1z) (q1.ext e1.extBut D.l1z) hx fun m2 g1' e2 => wpAny_pure ?_)
    have o2 : IsPair m2 to u v := e2.extBut _ _ D.TOi1 (e1.extBut _ _ D.TOz hO)
    refine wpAny_bind (wpAny_seqItems o2 rfl (wpAny_bind (wpAny_updateSeq_pair o2 fun m3 o3 e3 => ?_)))
    refine wpAny_bind (wpAny_letGo (wpAny_pure (wpAny_bind (wpAny_bind (wpAny_onRaise ?_))))); show wpAny _ _ (Builtin.SmallTypes.nextOf (.ref i2) >>= _) _ _ _
    refine wpAny_bind (nx_end hh (((g2.ext e1.extBut D.i2z).ext e2.extBut D.i12.symm).ext e3.extBut D.TOi2.symm) (((q2.ext e1.extBut D.l2z).ext e2.extBut D.l2i1).ext e3.extBut D.l2TO) hy fun m4 e e4 st => ?_)
    obtain ⟨oe, p1, p2⟩ := st
    have z4 : IsZip m4 z ti to .ellipsis := e4 _ _ D.i2z.symm (e3.extBut _ _ D.TOz.symm (e2.extBut _ _ D.i1z.symm z1))
    have ne : e ≠ z := fun q => by subst q; rw [z4] at p1; cases p1; simp at p2
    exact wpAny_setField_rec z4 (by simp) fun m5 _ e5 => fin m5 e (fun c o c1 c2 c3 c4 q => e5.extBut _ _ c1 (e4 _ _ c4 (e3.extBut _ _ c2 (e2.extBut _ _ c3 (e1.extBut _ _ c1 q))))) ⟨oe, e5.extBut _ _ ne p1, p2⟩
theorem py_item {Q : Option Value → Shared → Prop} (D : ZipApart z ti to i1 i2 l1 l2) (hz : IsZip s.heap z ti to .none) (hI : IsPair s.heap ti (.ref i1) (.ref i2)) (hO : IsPair s.heap to u v)
    (g1 : ItA b1 s.heap i1 l1 k1) (g2 : ItA b2 s.heap i2 l2 k2) (q1 : SrA b1 s.heap l1 xs) (q2 : SrA b2 s.heap l2 ys) (hx : xs[k1]? = some x) (hy : ys[k2]? = some y)
    (fin : ∀ h', IsZip h' z ti to (rawInt s.heap.objs.size) → IsPair h' to x y → ItA b1 h' i1 l1 (k1 + 1) → ItA b2 h' i2 l2 (k2 + 1) → IsPair h' s.heap.objs.size x y → h'.objs.size = s.heap.objs.size + 1 →
      (∀ c o, c ≠ z → c ≠ to → c ≠ i1 → c ≠ i2 → s.heap.get? c = some o → h'.get? c = some o) → Q (some (.ref s.heap.objs.size)) { s with heap := h' }) : wpAny (model prog w) A (pyNext (.ref z)) Q E s := by
  have ty : s.TypeIs (.ref z) "zip" := ⟨_, hz, rfl⟩
  unfold pyNext
  exact wpAny_bind (wpAny_attempt (wpAny_callSpecial?_slot (name := Str.ofString "__next__") ty F.slot_zip_next (wpAny_call_entry F.slot_zip_next ty F.entry_zip_next
    (z_item D hz hI hO g1 g2 q1 q2 hx hy fun h' a1 a2 a3 a4 a5 a6 a7 => wpAny_pure (fin h' a1 a2 a3 a4 a5 a6 a7)) (F.args_zip_next_1 _))))
theorem py_end {Q : Option Value → Shared → Prop} (hh : A.handled = none) (D : ZipApart z ti to i1 i2 l1 l2) (hz : IsZip s.heap z ti to .none) (hI : IsPair s.heap ti (.ref i1) (.ref i2)) (hO : IsPair s.heap to u v)
    (g1 : ItA b1 s.heap i1 l1 k1) (g2 : ItA b2 s.heap i2 l2 k2) (q1 : SrA b1 s.heap l1 xs) (q2 : SrA b2 s.heap l2 ys) (he : xs[k1]? = none ∨ ys[k2]? = none)
    (fin : ∀ h', (∀ c o, c ≠ z → c ≠ to → c ≠ i1 → c ≠ i2 → s.heap.get? c = some o → h'.get? c = some o) → Q none { s with heap := h' }) : wpAny (model prog w) A (pyNext (.ref z)) Q E s := by
  have ty : s.TypeIs (.ref z) "zip" := ⟨_, hz, rfl⟩
  unfold pyNext
  refine wpAny_bind (wpAny_attempt (wpAny_callSpecial?_slot (name := Str.ofString "__next__") ty F.slot_zip_next (wpAny_call_entry F.slot_zip_next ty F.entry_zip_next
    (z_end hh D hz hI hO g1 g2 q1 q2 he fun h' e kp st => ?_) (F.args_zip_next_1 _))))
  obtain ⟨o, p1, p2⟩ := st
  exact wpAny_bind (wpAny_isInstance (T := "StopIteration") (b := true) ⟨o, p1, p2⟩ isSubtype_stop (wpAny_pure (fin _ kp)))
end
/-! the call -/
abbrev H1 (h : Heap) (l1 : Addr) : Heap := h.push { cls := .type "tuple_iterator", data := .fields #[.ref l1, .int 0 0] }
abbrev H2 (h : Heap) (l1 l2 : Addr) : Heap := (H1 h l1).push { cls := .type "list_iterator", data := .fields #[.ref l2, .int 0 0] }
abbrev H3 (h : Heap) (l1 l2 : Addr) : Heap := (H2 h l1 l2).push { cls := .type "tuple", data := .seq #[.ref h.objs.size, .ref (H1 h l1).objs.size] }
abbrev H4 (h : Heap) (l1 l2 : Addr) : Heap := (H3 h l1 l2).push { cls := .type "tuple", data := .seq #[.none, .none] }
abbrev H5 (h : Heap) (l1 l2 : Addr) : Heap := (H4 h l1 l2).push { cls := .type "zip", data := .fields #[.none, .bool false, .bool false, .ref (H2 h l1 l2).objs.size, .ref (H3 h l1 l2).objs.size] }
theorem meets_new (l1 l2 : Addr) (xs ys : Array Value) :
    Meets (Builtin.«zip.__new__» ⟨[.type "zip", .ref l1, .ref l2], []⟩) (fun _ R s => s.heap.IsTuple l1 xs ∧ s.heap.IsList l2 ys ∧ R (.ok (.ret (.ref (H4 s.heap l1 l2).objs.size))) { s with heap := H5 s.heap l1 l2 }) :=
  .of_wp fun prog w A R s h => by
    obtain ⟨hp, g, d, tk, os⟩ := s
    obtain ⟨q1, q2, h⟩ := h
    have hsub := sub_zip
    have L1 : Heap.IsTuple (Shared.heap ⟨hp, g, d, tk, os⟩) l1 xs := q1
    have L2 : Heap.IsList (Shared.heap ⟨hp.push { cls := .type "tuple_iterator", data := .fields #[.ref l1, .int 0 0] }, g, d, tk, os⟩) l2 ys := Heap.IsList.push q2 _
    wp_walk using wpAny_pyIter_tuple L1, wpAny_pyIter_list L2
    exact ⟨_, rfl, h⟩
section
variable {prog : Program} {w : World} {A : Around} {E : Value → Shared → Prop} {s : Shared}
theorem call_zipM {l1 l2 : Addr} {xs ys : Array Value} {Q : Value → Shared → Prop} (q1 : s.heap.IsTuple l1 xs) (q2 : s.heap.IsList l2 ys)
    (fin : ∀ h', IsZip h' (s.heap.objs.size + 4) (s.heap.objs.size + 2) (s.heap.objs.size + 3) .none → IsPair h' (s.heap.objs.size + 2) (.ref s.heap.objs.size) (.ref (s.heap.objs.size + 1)) →
      IsPair h' (s.heap.objs.size + 3) .none .none → ItA true h' s.heap.objs.size l1 0 → ItA false h' (s.heap.objs.size + 1) l2 0 → h'.objs.size = s.heap.objs.size + 5 →
      (∀ c o, s.heap.get? c = some o → h'.get? c = some o) → Q (.ref (s.heap.objs.size + 4)) { s with heap := h' }) :
    wpAny (model prog w) A (call (.type "zip") [.ref l1, .ref l2]) Q E s := by
  refine callType_new F.called_zip (by decide) (F.typeCall_zip_2 _ _) (F.newCall_zip_2 _ _) (fun obj => F.args_object_init_3 obj _ _) F.entry_zip_new (meets_new l1 l2 xs ys) ⟨q1, q2, ?_⟩
  have n1 : (H1 s.heap l1).objs.size = s.heap.objs.size + 1 := Heap.size_push ..
  have n2 : (H2 s.heap l1 l2).objs.size = s.heap.objs.size + 2 := by rw [Heap.size_push, n1]
  have n3 : (H3 s.heap l1 l2).objs.size = s.heap.objs.size + 3 := by rw [Heap.size_push, n2]
  have n4 : (H4 s.heap l1 l2).objs.size = s.heap.objs.size + 4 := by rw [Heap.size_push, n3]
  have n5 : (H5 s.heap l1 l2).objs.size = s.heap.objs.size + 5 := by rw [Heap.size_push, n4]
  have v5 : (H5 s.heap l1 l2).get? (H4 s.heap l1 l2).objs.size = some _ := Heap.get?_push_size _ rfl
  have v4 : (H5 s.heap l1 l2).get? (H3 s.heap l1 l2).objs.size = some _ := Heap.get?_push_of_some _ (Heap.get?_push_size _ rfl)
  have v3 : (H5 s.heap l1 l2).get? (H2 s.heap l1 l2).objs.size = some _ := Heap.get?_push_of_some _ (Heap.get?_push_of_some _ (Heap.get?_push_size _ rfl))
  have v2 : (H5 s.heap l1 l2).get? (H1 s.heap l1).objs.size = some _ := Heap.get?_push_of_some _ (Heap.get?_push_of_some _ (Heap.get?_push_of_some _ (Heap.get?_push_size _ rfl)))
  have v1 : (H5 s.heap l1 l2).get? s.heap.objs.size = some _ := Heap.get?_push_of_some _ (Heap.get?_push_of_some _ (Heap.get?_push_of_some _ (Heap.get?_push_of_some _ (Heap.get?_push_size _ rfl))))
  show _ ∧ _
  rw [n2, n3, n4] at v5
  rw [n1, n2] at v3
  rw [n3] at v4
  rw [n1] at v2
  rw [n4]
  exact ⟨⟨_, v5, rfl⟩, fin _ v5 v3 v4 ⟨_, v1, rfl, rfl⟩ ⟨_, v2, rfl, rfl⟩ n5 fun c o q => Heap.get?_push_of_some _ (Heap.get?_push_of_some _ (Heap.get?_push_of_some _ (Heap.get?_push_of_some _ (Heap.get?_push_of_some _ q))))⟩
end
/-- the tuple at a and the list at b as they stand at each turn -/
def ItzM (K : PySem.W.Frag) (a b : Addr) : L2.It :=
  ⟨fun i H => ∃ (xs ys : List V) (x y : V), SqT K H a xs ∧ SqL K H b ys ∧ xs[i]? = some x ∧ ys[i]? = some y,
    fun i H v H' => ∃ T x y, v = .ref T ∧ H T = none ∧ H' = upd H T (.tup [x, y]) ∧ (∀ xs, SqT K H a xs → xs[i]? = some x) ∧ ∀ ys, SqL K H b ys → ys[i]? = some y,
    fun i H => ∃ xs ys : List V, SqT K H a xs ∧ SqL K H b ys ∧ (xs.length ≤ i ∨ ys.length ≤ i)⟩
theorem turnM {P : Program} {w : World} {K : PySem.W.Frag} {elts : List Expr} {kk : Nat} {tpos : Pos} {a b z ti to i1 i2 : Addr} (D : ZipApart z ti to i1 i2 a b) :
    Turn P w K (.Tuple elts kk tpos) (ItzM K a b) [z, ti, to, i1, i2] z (fun i h => IsZip h z ti to .none ∧ IsPair h ti (.ref i1) (.ref i2) ∧ (∃ x y, IsPair h to x y) ∧ ItA true h i1 a i ∧ ItA false h i2 b i) where
  mem := by simp
  obj := fun i h st c hc => by
    obtain ⟨hz, hI, ⟨x, y, hO⟩, t1, t2⟩ := st
    have five : c = z ∨ c = ti ∨ c = to ∨ c = i1 ∨ c = i2 := by simpa using hc
    rcases five with q | q | q | q | q
    · exact q ▸ ⟨_, hz, fun v q => nomatch q⟩
    · exact q ▸ ⟨_, hI, fun v q => nomatch q⟩
    · exact q ▸ ⟨_, hO, fun v q => nomatch q⟩
    · exact q ▸ t1.some
    · exact q ▸ t2.some
  keep := fun i h h' st k => by
    obtain ⟨hz, hI, ⟨x, y, hO⟩, t1, t2⟩ := st
    exact ⟨k z (by simp) _ hz, k ti (by simp) _ hI, ⟨x, y, k to (by simp) _ hO⟩, t1.to fun o q => k i1 (by simp) o q, t2.to fun o q => k i2 (by simp) o q⟩
  item := by
    intro X hP hw hK hc i pins s σ H E I hf st hg
    subst hP hw hK
    obtain ⟨hz, hI, ⟨x0, y0, hO⟩, t1, t2⟩ := st
    obtain ⟨xs, ys, x, y, sx, sy, hx, hy⟩ := hg
    obtain ⟨its, rv, p, _⟩ := I.tuple sx
    obtain ⟨its2, rv2, p2, _⟩ := I.list sy
    obtain ⟨u, hu, ru⟩ := rv.get hx
    obtain ⟨u2, hu2, ru2⟩ := rv2.get hy
    have lz : z < s.heap.objs.size := Heap.lt_size hz
    refine py_item (b1 := true) (b2 := false) D hz hI hO t1 t2 (show s.heap.IsTuple a its.toArray from p) p2.isList (x := u) (y := u2) (by simpa using hu) (by simpa using hu2) fun h' z' o' t1' t2' hT sz kp => ?_
    refine ⟨_, rfl, wpAny_letOwnedTupleGo_zip (s := { s with heap := h' }) z' fun h'' z'' sb => ?_⟩
    have hT2 : h''.get? s.heap.objs.size = some { cls := .type "tuple", data := .seq #[u, u2] } := (sb.2 _ (Nat.ne_of_gt lz)).trans hT
    have nw : ObjOk X.prog X.w (upd H s.heap.objs.size (.tup [x, y])) h'' s.heap.objs.size (.tup [x, y]) := ⟨by show 2 ≤ sizeLine; decide, [u, u2], .cons ru (.cons ru2 .nil), ⟨_, hT2, rfl, _, rfl⟩⟩
    have I1 : Inv X pins σ (upd H s.heap.objs.size (.tup [x, y])) { s with heap := h'' } :=
      I.turnedNew (t' := s.toks) (ch := [z, ti, to, i1, i2]) (fun c o hb q => (sb.2 c (fun q' => hb (by simp [q']))).trans (kp c o (fun q' => hb (by simp [q'])) (fun q' => hb (by simp [q'])) (fun q' => hb (by simp [q'])) (fun q' => hb (by simp [q'])) q)) hf (Nat.le_refl _) nw
    refine ⟨.ref s.heap.objs.size, _, I1, rfl, ⟨_, x, y, rfl, I.hok.fresh (Nat.le_refl _), rfl, fun l hl => by rw [I.tuple_inj hl sx]; exact hx, fun l hl => by rw [I.list_inj hl sy]; exact hy⟩, ⟨z'', ?_, ⟨u, u2, ?_⟩, ?_, ?_⟩, fun c hcm => ?_⟩
    · exact (sb.2 _ D.TIz).trans (kp _ _ D.TIz D.TITO D.TIi1 D.TIi2 hI)
    · exact (sb.2 _ D.TOz).trans o'
    · exact t1'.to fun o q => (sb.2 _ D.i1z).trans q
    · exact t2'.to fun o q => (sb.2 _ D.i2z).trans q
    · have lt : c < s.heap.objs.size := by
        have five : c = z ∨ c = ti ∨ c = to ∨ c = i1 ∨ c = i2 := by simpa using hcm
        rcases five with q | q | q | q | q
        · exact q ▸ lz
        · exact q ▸ Heap.lt_size hI
        · exact q ▸ Heap.lt_size hO
        · obtain ⟨_, e1, _⟩ := t1.some; exact q ▸ Heap.lt_size e1
        · obtain ⟨_, e2, _⟩ := t2.some; exact q ▸ Heap.lt_size e2
      rw [upd_ne (Nat.ne_of_lt lt)]
      exact (hf c hcm).1
  done := by
    intro X hP hw hK hc i pins s σ H E I hf st hg
    subst hP hw hK
    obtain ⟨hz, hI, ⟨x0, y0, hO⟩, t1, t2⟩ := st
    obtain ⟨xs, ys, sx, sy, stop⟩ := hg
    obtain ⟨its, rv, p, _⟩ := I.tuple sx
    obtain ⟨its2, rv2, p2, _⟩ := I.list sy
    have n1 := rv.length
    have n2 := rv2.length
    have he : its.toArray[i]? = none ∨ its2.toArray[i]? = none := by
      rcases stop with q | q
      · exact .inl (by simp; omega)
      · exact .inr (by simp; omega)
    exact py_end (b1 := true) (b2 := false) (I.ok.hd hc) D hz hI hO t1 t2 (show s.heap.IsTuple a its.toArray from p) p2.isList he fun h' kp => ⟨rfl, I.turnedL (t' := s.toks) (ch := [z, ti, to, i1, i2]) (fun c o hb q =>
      kp c o (fun q' => hb (by simp [q'])) (fun q' => hb (by simp [q'])) (fun q' => hb (by simp [q'])) (fun q' => hb (by simp [q'])) q) hf⟩
  self := fun A i s Q E st h => wpAny_pyIter_zip st.1 h
/-- zip of two lists, two tuples, or a tuple and a list -/
def iZipM (K : PySem.W.Frag) (ta : TA) : TI := fun σ H R => ta σ H fun vs H1 => ∃ a b xs ys, vs = [.ref a, .ref b] ∧ ((SqL K H1 a xs ∧ SqL K H1 b ys ∧ R (Itz K a b) H1) ∨ (SqT K H1 a xs ∧ SqT K H1 b ys ∧ R (RZ.ItzT K a b) H1) ∨ (SqT K H1 a xs ∧ SqL K H1 b ys ∧ R (ItzM K a b) H1))
theorem pi_zipM {X : Cx} {e e2 : Expr} {ta : TA} {p pos tpos : Pos} {elts : List Expr} {kk : Nat} (hg : Gl X "zip") (hm : X.mg "zip" = none) (ha : PA X [e, e2] ta)
    (hs : starEach [e, e2] X.env = (false, eval e X.env) :: starEach [e2] X.env := by rfl) (hpl : (backTo pos (starEach [e2] X.env)).any (·.1) = false := by rfl) :
    PI X (.Tuple elts kk tpos) (.Call (.Name "zip" p) [e, e2] [] pos) (iZipM X.K ta) := by
  refine ⟨fun pins s σ H R I h => ?_⟩
  refine Call_ (ld_blt I hg hm PyProof.Rows.boot_zip (PyProof.Rows.callWith_type1 (thn (ha.run pos pins s σ H _ I h) fun us s1 ⟨vs, H1, I1, r1, q1⟩ => ?_) hs hpl))
  obtain ⟨a, b, xs, ys, ex, q1⟩ := q1
  subst ex
  cases r1 with
  | cons r rr =>
    cases rr with
    | cons r' rr =>
      cases rr
      cases r
      cases r'
      have fr : ∀ c, c ∈ [s1.heap.objs.size + 4, s1.heap.objs.size + 2, s1.heap.objs.size + 3, s1.heap.objs.size, s1.heap.objs.size + 1] → FpOk X pins H1 c := fun c hcm => by
        have hle : s1.heap.objs.size ≤ c := by
          simp only [List.mem_cons, List.not_mem_nil, or_false] at hcm
          omega
        exact I1.fpOk hle (I1.hok.fresh hle)
      rcases q1 with ⟨sx, sy, q⟩ | ⟨sx, sy, q⟩ | ⟨sx, sy, q⟩
      · obtain ⟨its, rv, p1, _⟩ := I1.list sx
        obtain ⟨its2, rv2, p2, _⟩ := I1.list sy
        refine call_zip_2 p1.isList p2.isList fun h' hz hI hO t1 t2 sz kp => wpAny_pyIter_zip hz ?_
        have I2 : Inv X pins σ H1 { s1 with heap := h' } := I1.kept (t' := s1.toks) kp
        exact ⟨s1.heap.objs.size + 4, [s1.heap.objs.size + 4, s1.heap.objs.size + 2, s1.heap.objs.size + 3, s1.heap.objs.size, s1.heap.objs.size + 1], _, _, H1, rfl, I2, turn_zip (PySem.W.ktu_apart s1.heap.objs.size a b p1.lt p2.lt), ⟨hz, hI, ⟨_, _, hO⟩, t1, t2⟩, fr, q⟩
      · obtain ⟨its, rv, p1, _⟩ := I1.tuple sx
        obtain ⟨its2, rv2, p2, _⟩ := I1.tuple sy
        obtain ⟨o1, ho1, _⟩ := id p1
        obtain ⟨o2, ho2, _⟩ := id p2
        refine RZ.call_zipT (show s1.heap.IsTuple a its.toArray from p1) (show s1.heap.IsTuple b its2.toArray from p2) fun h' hz hI hO t1 t2 sz kp => wpAny_pyIter_zip hz ?_
        have I2 : Inv X pins σ H1 { s1 with heap := h' } := I1.kept (t' := s1.toks) kp
        exact ⟨s1.heap.objs.size + 4, [s1.heap.objs.size + 4, s1.heap.objs.size + 2, s1.heap.objs.size + 3, s1.heap.objs.size, s1.heap.objs.size + 1], _, _, H1, rfl, I2, RZ.turn_zipT (PySem.W.ktu_apart s1.heap.objs.size a b (Heap.lt_size ho1) (Heap.lt_size ho2)), ⟨hz, hI, ⟨_, _, hO⟩, t1, t2⟩, fr, q⟩
      · obtain ⟨its, rv, p1, _⟩ := I1.tuple sx
        obtain ⟨its2, rv2, p2, _⟩ := I1.list sy
        obtain ⟨o1, ho1, _⟩ := id p1
        refine call_zipM (show s1.heap.IsTuple a its.toArray from p1) p2.isList fun h' hz hI hO t1 t2 sz kp => wpAny_pyIter_zip hz ?_
        have I2 : Inv X pins σ H1 { s1 with heap := h' } := I1.kept (t' := s1.toks) kp
        exact ⟨s1.heap.objs.size + 4, [s1.heap.objs.size + 4, s1.heap.objs.size + 2, s1.heap.objs.size + 3, s1.heap.objs.size, s1.heap.objs.size + 1], _, _, H1, rfl, I2, turnM (PySem.W.ktu_apart s1.heap.objs.size a b (Heap.lt_size ho1) p2.lt), ⟨hz, hI, ⟨_, _, hO⟩, t1, t2⟩, fr, q⟩
end CZ
set_option Elab.async false
set_option linter.all false
set_option maxRecDepth 100000
set_option maxHeartbeats 2000000
/-! CnExpr4: what is walked; comprehensions. -/
namespace CN
open PySem PyProof.Rows L2

/-- an iterator that gives ds, as long as St holds -/
structure ItR (K : PySem.W.Frag) (A : Ad) (J : L2.It) (ds : List D) (w : Option (Nat × List D)) (St : Mu → Hp → Prop) : Prop where
  mono : ∀ (μ : Mu) (H : Hp) (S' : Hs) (μ' : Mu) (H' : Hp), St μ H → Mg μ H μ' H' → HR K A μ' S' H' → stays w S' = true → St μ' H'
  go : ∀ (μ : Mu) (H : Hp) (S : Hs) (i : Nat) (d : D), St μ H → HR K A μ S H → ds[i]? = some d → J.go i H ∧ ∀ x H', J.yld i H x H' → DR K A μ H' d x ∧ HR K A μ S H' ∧ Mo μ H μ H'
  stop : ∀ (μ : Mu) (H : Hp) (i : Nat), St μ H → ds.length ≤ i → J.stop i H
abbrev ReIt (K : PySem.W.Frag) (A : Ad) : Rl (List D × Option (Nat × List D)) L2.It := fun μ H p J => ∃ St, ItR K A J p.1 p.2 St ∧ St μ H
abbrev TIo (K : PySem.W.Frag) (A : Ad) (W : WX) (m : CN.Env → Hs → Res (List D × Option (Nat × List D))) : TI := Rd1 (ReIt K A) K A W m

section
variable {K : PySem.W.Frag} {A : Ad}
theorem it_tup {a : Addr} {ds : List D} : ItR K A (Itt K a) ds none (fun μ H => ∃ vs, TupR K μ H a vs ∧ DRs K A μ H ds vs) where
  mono := fun μ H S' μ' H' ⟨vs, h, r⟩ m _ _ => ⟨vs, h.mono m, r.monog m⟩
  go := fun μ H S i d ⟨vs, h, r⟩ R e => by
    obtain ⟨v, h1, h2⟩ := r.get e
    refine ⟨⟨vs, v, h.sq, h1⟩, fun x H' hy => ?_⟩
    obtain ⟨rfl, hx⟩ := hy
    have := hx vs h.sq
    rw [h1] at this
    cases this
    exact ⟨h2, R, Mo.refl _ _⟩
  stop := fun μ H i ⟨vs, h, r⟩ hl => ⟨vs, h.sq, by rw [r.length]; exact hl⟩
theorem it_tl {a : Addr} {ds : List D} : ItR K A (Itl K a) ds none (fun μ H => ∃ vs, LstR μ H a vs ∧ DRs K A μ H ds vs) where
  mono := fun μ H S' μ' H' ⟨vs, h, r⟩ m _ _ => ⟨vs, h.mono m, r.monog m⟩
  go := fun μ H S i d ⟨vs, h, r⟩ R e => by
    obtain ⟨v, h1, h2⟩ := r.get e
    refine ⟨⟨vs, v, h.sq, h1⟩, fun x H' hy => ?_⟩
    obtain ⟨rfl, hx⟩ := hy
    have := hx vs h.sq
    rw [h1] at this
    cases this
    exact ⟨h2, R, Mo.refl _ _⟩
  stop := fun μ H i ⟨vs, h, r⟩ hl => ⟨vs, h.sq, by rw [r.length]; exact hl⟩
theorem it_kl {a : Addr} {ds : List D} : ItR K A (Itl K a) ds none (fun μ H => ∃ vs, KSeq K "list" a vs ∧ DRs K A μ H ds vs) where
  mono := fun μ H S' μ' H' ⟨vs, h, r⟩ m _ _ => ⟨vs, h, r.monog m⟩
  go := fun μ H S i d ⟨vs, h, r⟩ R e => by
    obtain ⟨v, h1, h2⟩ := r.get e
    refine ⟨⟨vs, v, h.sqL, h1⟩, fun x H' hy => ?_⟩
    obtain ⟨rfl, hx⟩ := hy
    have := hx vs h.sqL
    rw [h1] at this
    cases this
    exact ⟨h2, R, Mo.refl _ _⟩
  stop := fun μ H i ⟨vs, h, r⟩ hl => ⟨vs, h.sqL, by rw [r.length]; exact hl⟩
theorem it_ref {a : Addr} {n : Nat} {ds : List D} : ItR K A (Itl K a) ds (some (n, ds)) (fun μ H => ∃ vs, μ.tr[n]? = some a ∧ SqL K H a vs ∧ DRs K A μ H ds vs) where
  mono := fun μ H S' μ' H' ⟨vs, hn, h, r⟩ m R' hs => by
    have hs' : (match S'[n]? with | some (.lst es) => D.eqbs es ds | _ => false) = true := hs
    split at hs'
    · rename_i es he
      have := D.eqbs_eq hs'
      subst this
      have hn' := m.get n a hn
      obtain ⟨ho, h1, h2⟩ := R'.obj _ _ _ he hn'
      cases h2 with
      | lst r' => exact ⟨_, hn', SqL.of h1, r'⟩
    · cases hs'
  go := fun μ H S i d ⟨vs, hn, h, r⟩ R e => by
    obtain ⟨v, h1, h2⟩ := r.get e
    refine ⟨⟨vs, v, h, h1⟩, fun x H' hy => ?_⟩
    obtain ⟨rfl, hx⟩ := hy
    have := hx vs h
    rw [h1] at this
    cases this
    exact ⟨h2, R, Mo.refl _ _⟩
  stop := fun μ H i ⟨vs, hn, h, r⟩ hl => ⟨vs, h, by rw [r.length]; exact hl⟩
theorem it_str {z : Str} : ItR K A (Its z) (signs z) none (fun _ _ => True) where
  mono := fun _ _ _ _ _ h _ _ _ => h
  go := fun μ H S i d _ R e => by
    unfold signs at e
    rw [List.getElem?_map] at e
    cases e1 : z.cps.toList[i]? with
    | none => rw [e1] at e; cases e
    | some c =>
      rw [e1] at e
      cases e
      have hi : i < z.cps.size := by simpa using (List.getElem?_eq_some_iff.mp e1).1
      refine ⟨hi, fun x H' hy => ?_⟩
      obtain ⟨rfl, c', hc, rfl⟩ := hy
      rw [Array.getElem?_toList, hc] at e1
      cases e1
      exact ⟨.str _, R, Mo.refl _ _⟩
  stop := fun μ H i _ hl => by
    unfold signs at hl
    simp at hl
    exact hl
theorem rangeD_get {lo : Int} {n i : Nat} {d : D} (h : (rangeD lo n)[i]? = some d) : i < n ∧ d = .int (lo + (i : Nat)) := by
  unfold rangeD at h
  rw [List.getElem?_map] at h
  cases e1 : (List.range n)[i]? with
  | none => rw [e1] at h; cases h
  | some c =>
    rw [e1] at h
    obtain ⟨hi, e2⟩ := List.getElem?_eq_some_iff.mp e1
    rw [List.length_range] at hi
    rw [List.getElem_range] at e2
    subst e2
    cases h
    exact ⟨hi, rfl⟩
theorem it_range {lo : Int} {n : Nat} : ItR K A (Itr lo n) (rangeD lo n) none (fun _ _ => True) where
  mono := fun _ _ _ _ _ h _ _ _ => h
  go := fun μ H S i d _ R e => by
    obtain ⟨hi, rfl⟩ := rangeD_get e
    refine ⟨hi, fun x H' hy => ?_⟩
    obtain ⟨rfl, rfl⟩ := hy
    exact ⟨.int _, R, Mo.refl _ _⟩
  stop := fun μ H i _ hl => by
    unfold rangeD at hl
    simp at hl
    exact hl
theorem zipD_get : ∀ {xs ys : List D} {i : Nat} {d : D}, (zipD xs ys)[i]? = some d → ∃ x y, xs[i]? = some x ∧ ys[i]? = some y ∧ d = .tup [x, y]
  | [], ys, i, d, h => by simp [zipD] at h
  | x :: xs, [], i, d, h => by simp [zipD] at h
  | x :: xs, y :: ys, 0, d, h => by
    simp [zipD] at h
    exact ⟨x, y, rfl, rfl, h.symm⟩
  | x :: xs, y :: ys, i + 1, d, h => by
    have h' : (zipD xs ys)[i]? = some d := by simpa [zipD] using h
    obtain ⟨a, b, h1, h2, h3⟩ := zipD_get h'
    exact ⟨a, b, by simpa using h1, by simpa using h2, h3⟩
theorem zipD_len : ∀ {xs ys : List D} {i : Nat}, (zipD xs ys).length ≤ i → xs.length ≤ i ∨ ys.length ≤ i
  | [], ys, i, h => .inl (Nat.zero_le _)
  | x :: xs, [], i, h => .inr (Nat.zero_le _)
  | x :: xs, y :: ys, 0, h => by simp [zipD] at h
  | x :: xs, y :: ys, i + 1, h => by
    have h' : (zipD xs ys).length ≤ i := by simpa [zipD] using h
    rcases zipD_len h' with h | h
    · exact .inl (by simpa using h)
    · exact .inr (by simpa using h)
theorem it_zipT {a b : Addr} {xs ys : List D} : ItR K A (RZ.ItzT K a b) (zipD xs ys) none (fun μ H => ∃ vs us, TupR K μ H a vs ∧ TupR K μ H b us ∧ DRs K A μ H xs vs ∧ DRs K A μ H ys us) where
  mono := fun μ H S' μ' H' ⟨vs, us, h, h', r, r'⟩ m _ _ => ⟨vs, us, h.mono m, h'.mono m, r.monog m, r'.monog m⟩
  go := fun μ H S i d ⟨vs, us, h, h', r, r'⟩ R e => by
    obtain ⟨x, y, e1, e2, rfl⟩ := zipD_get e
    obtain ⟨v, h1, h2⟩ := r.get e1
    obtain ⟨u, h3, h4⟩ := r'.get e2
    refine ⟨⟨vs, us, v, u, h.sq, h'.sq, h1, h3⟩, fun z H' hy => ?_⟩
    obtain ⟨t, x', y', rfl, ht, rfl, hx, hy⟩ := hy
    have z1 := hx vs h.sq
    have z2 := hy us h'.sq
    rw [h1] at z1
    rw [h3] at z2
    cases z1
    cases z2
    exact new_tup R (.cons h2 (.cons h4 .nil)) ht
  stop := fun μ H i ⟨vs, us, h, h', r, r'⟩ hl => by
    refine ⟨vs, us, h.sq, h'.sq, ?_⟩
    rw [r.length, r'.length]
    exact zipD_len hl
theorem it_zipL {a b : Addr} {xs ys : List D} : ItR K A (Itz K a b) (zipD xs ys) none (fun μ H => ∃ vs us, LstR μ H a vs ∧ LstR μ H b us ∧ DRs K A μ H xs vs ∧ DRs K A μ H ys us) where
  mono := fun μ H S' μ' H' ⟨vs, us, h, h', r, r'⟩ m _ _ => ⟨vs, us, h.mono m, h'.mono m, r.monog m, r'.monog m⟩
  go := fun μ H S i d ⟨vs, us, h, h', r, r'⟩ R e => by
    obtain ⟨x, y, e1, e2, rfl⟩ := zipD_get e
    obtain ⟨v, h1, h2⟩ := r.get e1
    obtain ⟨u, h3, h4⟩ := r'.get e2
    refine ⟨⟨vs, us, v, u, h.sq, h'.sq, h1, h3⟩, fun z H' hy => ?_⟩
    obtain ⟨t, x', y', rfl, ht, rfl, hx, hy⟩ := hy
    have z1 := hx vs h.sq
    have z2 := hy us h'.sq
    rw [h1] at z1
    rw [h3] at z2
    cases z1
    cases z2
    exact new_tup R (.cons h2 (.cons h4 .nil)) ht
  stop := fun μ H i ⟨vs, us, h, h', r, r'⟩ hl => by
    refine ⟨vs, us, h.sq, h'.sq, ?_⟩
    rw [r.length, r'.length]
    exact zipD_len hl
theorem it_zipM {a b : Addr} {xs ys : List D} : ItR K A (CZ.ItzM K a b) (zipD xs ys) none (fun μ H => ∃ vs us, TupR K μ H a vs ∧ LstR μ H b us ∧ DRs K A μ H xs vs ∧ DRs K A μ H ys us) where
  mono := fun μ H S' μ' H' ⟨vs, us, h, h', r, r'⟩ m _ _ => ⟨vs, us, h.mono m, h'.mono m, r.monog m, r'.monog m⟩
  go := fun μ H S i d ⟨vs, us, h, h', r, r'⟩ R e => by
    obtain ⟨x, y, e1, e2, rfl⟩ := zipD_get e
    obtain ⟨v, h1, h2⟩ := r.get e1
    obtain ⟨u, h3, h4⟩ := r'.get e2
    refine ⟨⟨vs, us, v, u, h.sq, h'.sq, h1, h3⟩, fun z H' hy => ?_⟩
    obtain ⟨t, x', y', rfl, ht, rfl, hx, hy⟩ := hy
    have z1 := hx vs h.sq
    have z2 := hy us h'.sq
    rw [h1] at z1
    rw [h3] at z2
    cases z1
    cases z2
    exact new_tup R (.cons h2 (.cons h4 .nil)) ht
  stop := fun μ H i ⟨vs, us, h, h', r, r'⟩ hl => by
    refine ⟨vs, us, h.sq, h'.sq, ?_⟩
    rw [r.length, r'.length]
    exact zipD_len hl
theorem enumD_get : ∀ {xs : List D} {k i : Nat} {d : D}, (enumD k xs)[i]? = some d → ∃ x, xs[i]? = some x ∧ d = .tup [.int ((k + i : Nat) : Int), x]
  | [], k, i, d, h => by simp [enumD] at h
  | x :: xs, k, 0, d, h => by
    simp [enumD] at h
    exact ⟨x, rfl, h.symm⟩
  | x :: xs, k, i + 1, d, h => by
    have h' : (enumD (k + 1) xs)[i]? = some d := by simpa [enumD] using h
    obtain ⟨a, h1, h2⟩ := enumD_get h'
    refine ⟨a, by simpa using h1, ?_⟩
    rw [h2, show k + 1 + i = k + (i + 1) by omega]
theorem enumD_len : ∀ {xs : List D} {k : Nat}, (enumD k xs).length = xs.length
  | [], _ => rfl
  | x :: xs, k => by simp [enumD, enumD_len (xs := xs)]
theorem it_enum {a : Addr} {xs : List D} : ItR K A (Ite K a) (enumD 0 xs) none (fun μ H => ∃ vs, LstR μ H a vs ∧ DRs K A μ H xs vs) where
  mono := fun μ H S' μ' H' ⟨vs, h, r⟩ m _ _ => ⟨vs, h.mono m, r.monog m⟩
  go := fun μ H S i d ⟨vs, h, r⟩ R e => by
    obtain ⟨x, e1, rfl⟩ := enumD_get e
    obtain ⟨v, h1, h2⟩ := r.get e1
    refine ⟨⟨vs, v, h.sq, h1⟩, fun z H' hy => ?_⟩
    obtain ⟨t, x', rfl, ht, rfl, hx⟩ := hy
    have z1 := hx vs h.sq
    rw [h1] at z1
    cases z1
    rw [Nat.zero_add]
    exact new_tup R (.cons (.int _) (.cons h2 .nil)) ht
  stop := fun μ H i ⟨vs, h, r⟩ hl => ⟨vs, h.sq, by rw [enumD_len] at hl; rw [r.length]; exact hl⟩
theorem it_rev {a : Addr} {xs : List D} : ItR K A (Itv K a xs.length) xs.reverse none (fun μ H => ∃ vs, LstR μ H a vs ∧ DRs K A μ H xs vs) where
  mono := fun μ H S' μ' H' ⟨vs, h, r⟩ m _ _ => ⟨vs, h.mono m, r.monog m⟩
  go := fun μ H S i d ⟨vs, h, r⟩ R e => by
    have hi : i < xs.length := by simpa using (List.getElem?_eq_some_iff.mp e).1
    rw [List.getElem?_reverse hi] at e
    obtain ⟨v, h1, h2⟩ := r.get e
    refine ⟨⟨hi, vs, v, h.sq, h1⟩, fun z H' hy => ?_⟩
    obtain ⟨rfl, hx⟩ := hy
    have z1 := hx vs h.sq
    rw [h1] at z1
    cases z1
    exact ⟨h2, R, Mo.refl _ _⟩
  stop := fun μ H i _ hl => by
    rw [List.length_reverse] at hl
    exact hl
end

section
variable {X : Cx} {A : Ad} {W : WX} {a b e tg : Expr} {ma mb : CN.Env → Hs → Res D} {pos : Pos} {T : Tb} {G : Gi} {wf k : Nat}
theorem PI.by_ {iter : Expr} {t' : TI} (f : ∀ σ H R, t' σ H R → ∃ t, PI X tg iter t ∧ t σ H R) : PI X tg iter t' := ⟨fun pins s σ H R I q => by
  obtain ⟨t, h, z⟩ := f σ H R q
  exact h.run pins s σ H R I z⟩
theorem pi_seq (ha : PE X a (TEo X.K A W ma)) : PI X tg a (TIo X.K A W fun env s => (ma env s).bind seqI) := by
  refine PI.by_ fun σ H R' hq => ?_
  obtain ⟨env, S, μ, E, R, h⟩ := hq
  cases em : ma env S with
  | stuck =>
    dsimp only at h
    rw [em] at h
    exact h.elim
  | err c fs S1 =>
    refine ⟨_, pi_list ha, env, S, μ, E, R, ?_⟩
    dsimp only at h
    rw [em] at h ⊢
    exact h
  | ok d S1 =>
    have other : ∀ ds, lstAt S1 d = some ds → seqI d S1 = .ok (ds, watchOf d ds) S1 → ∃ t, PI X tg a t ∧ t σ H R' := fun ds hd hs => by
      refine ⟨_, pi_list ha, seq E R h fun d' S' x μ1 H1 e1 r1 R1 E1 M1 h1 => ?_⟩
      rw [em] at e1
      cases e1
      rw [hs] at h1
      cases d with
      | tl es =>
        cases hd
        cases r1 with
        | @tl _ p vs hl r => exact ⟨p, rfl, ⟨vs, hl.sq⟩, h1 _ μ1 H1 ⟨_, it_tl, vs, hl, r⟩ R1 (Mo.refl _ _)⟩
      | ref n =>
        cases r1 with
        | @ref _ p hn =>
          obtain ⟨ho, h2, h3⟩ := R1.obj _ _ _ (lstAt_ref hd) hn
          cases h3 with
          | @lst _ vs r => exact ⟨p, rfl, ⟨vs, SqL.of h2⟩, h1 _ μ1 H1 ⟨_, it_ref, vs, hn, SqL.of h2, r⟩ R1 (Mo.refl _ _)⟩
      | _ => cases hd
    cases d with
    | kl es =>
      refine ⟨_, pi_list ha, seq E R h fun d' S' x μ1 H1 e1 r1 R1 E1 M1 h1 => ?_⟩
      rw [em] at e1
      cases e1
      cases r1 with
      | @kl _ p vs hl r => exact ⟨p, rfl, ⟨vs, hl.sqL⟩, h1 _ μ1 H1 ⟨_, it_kl, vs, hl, r⟩ R1 (Mo.refl _ _)⟩
    | str z =>
      refine ⟨_, pi_str ha, seq E R h fun d' S' x μ1 H1 e1 r1 R1 E1 M1 h1 => ?_⟩
      rw [em] at e1
      cases e1
      cases r1
      exact ⟨z, rfl, h1 _ μ1 H1 ⟨_, it_str, trivial⟩ R1 (Mo.refl _ _)⟩
    | tup ds =>
      refine ⟨_, pi_tup ha, seq E R h fun d' S' x μ1 H1 e1 r1 R1 E1 M1 h1 => ?_⟩
      rw [em] at e1
      cases e1
      cases r1 with
      | @tup _ p vs ht r => exact ⟨p, rfl, ⟨vs, ht.sq⟩, h1 _ μ1 H1 ⟨_, it_tup, vs, ht, r⟩ R1 (Mo.refl _ _)⟩
    | tl ds => exact other ds rfl rfl
    | ref n =>
      cases el : lstAt S1 (.ref n) with
      | some ds =>
        refine other ds el ?_
        show (match lstAt S1 (.ref n) with | some ds => Res.ok (ds, watchOf (.ref n) ds) S1 | none => Res.stuck) = _
        rw [el]
      | none =>
        dsimp only at h
        rw [em] at h
        have : seqI (.ref n) S1 = .stuck := by
          show (match lstAt S1 (.ref n) with | some ds => Res.ok (ds, watchOf (.ref n) ds) S1 | none => Res.stuck) = _
          rw [el]
        simp only [Res.bind_ok, this] at h
        exact h.elim
    | _ =>
      dsimp only at h
      rw [em] at h
      exact h.elim
theorem pi_r1 (g : Gd T G wf A k X W) {p : Pos} (hx : isGl X.env.scope "range" = true) (ha : PE X a (TEo X.K A W ma)) (hp : plainE a = true) :
    PI X tg (.Call (.Name "range" p) [a] [] pos) (TIo X.K A W fun env s => (ma env s).bind range1I) := by
  obtain ⟨gx, _, _⟩ := isGl_ok hx
  refine PI.by_ fun σ H R' hq => ?_
  obtain ⟨env, S, μ, E, R, h⟩ := hq
  refine ⟨_, pi_range1 gx (g.kn.blt _ (by decide +kernel)) (pa_cons ha pa_nil (starE hp)) (starE hp), seq E R h fun d S1 x μ1 H1 e1 r1 R1 E1 M1 h1 => ?_⟩
  unfold range1I at h1
  split at h1
  · rename_i n
    split at h1
    · rename_i hb
      simp only [Bool.and_eq_true, decide_eq_true_eq] at hb
      cases r1
      exact ⟨n, rfl, hb.1, hb.2, h1 _ μ1 H1 ⟨_, it_range, trivial⟩ R1 (Mo.refl _ _)⟩
    · exact h1.elim
  · exact h1.elim
theorem PIH.by_ {iter : Expr} {t' : TI} (f : ∀ σ H R, t' σ H R → ∃ t, L2H.PIH X tg iter t ∧ t σ H R) : L2H.PIH X tg iter t' := ⟨fun pins s σ H R I q => by
  obtain ⟨t, h, z⟩ := f σ H R q
  exact h.run pins s σ H R I z⟩
theorem pi_r1H (g : Gd T G wf A k X W) {p : Pos} (hx : isGl X.env.scope "range" = true) (ha : PE X a (TEo X.K A W ma)) (hp : plainE a = true) :
    L2H.PIH X tg (.Call (.Name "range" p) [a] [] pos) (TIo X.K A W fun env s => (ma env s).bind range1I) := by
  obtain ⟨gx, _, _⟩ := isGl_ok hx
  refine PIH.by_ fun σ H R' hq => ?_
  obtain ⟨env, S, μ, E, R, h⟩ := hq
  refine ⟨_, L2H.pi_range1H gx (g.kn.blt _ (by decide +kernel)) (pa_cons ha pa_nil (starE hp)) (starE hp), seq E R h fun d S1 x μ1 H1 e1 r1 R1 E1 M1 h1 => ?_⟩
  unfold range1I at h1
  split at h1
  · rename_i n
    split at h1
    · rename_i hb
      simp only [Bool.and_eq_true, decide_eq_true_eq] at hb
      cases r1
      exact ⟨n, rfl, hb.1, hb.2, h1 _ μ1 H1 ⟨_, it_range, trivial⟩ R1 (Mo.refl _ _)⟩
    · exact h1.elim
  · exact h1.elim
theorem pi_r2 (g : Gd T G wf A k X W) {p : Pos} (hx : isGl X.env.scope "range" = true) (ha : PE X a (TEo X.K A W ma)) (hp : plainE a = true) (hb : PE X b (TEo X.K A W mb)) (hp2 : plainE b = true) :
    PI X tg (.Call (.Name "range" p) [a, b] [] pos) (TIo X.K A W fun env s => (ma env s).bind fun x s1 => (mb env s1).bind fun y s2 => range2I x y s2) := by
  obtain ⟨gx, _, _⟩ := isGl_ok hx
  refine PI.by_ fun σ H R' hq => ?_
  obtain ⟨env, S, μ, E, R, h⟩ := hq
  refine ⟨_, pi_range2 gx (g.kn.blt _ (by decide +kernel)) (pa_cons ha (pa_cons hb pa_nil (starE hp2)) (starE hp)) (by rw [starE hp, starE hp2]; rfl) (starE hp2), seq E R h fun d S1 x μ1 H1 e1 r1 R1 E1 M1 h1 => seq E1 R1 h1 fun d2 S2 y μ2 H2 e2 r2 R2 E2 M2 h2 => ?_⟩
  unfold range2I at h2
  split at h2
  · rename_i m n
    split at h2
    · rename_i hb
      simp only [Bool.and_eq_true, decide_eq_true_eq] at hb
      cases r1; cases r2
      exact ⟨m, n, rfl, ⟨hb.1.1.1, hb.1.1.2, hb.1.2, hb.2⟩, h2 _ μ2 H2 ⟨_, it_range, trivial⟩ R2 (Mo.refl _ _)⟩
    · exact h2.elim
  · exact h2.elim
theorem pi_z (g : Gd T G wf A k X W) {p p2 : Pos} {elts : List Expr} {kk : Nat} (hx : isGl X.env.scope "zip" = true) (ha : PE X a (TEo X.K A W ma)) (hp : plainE a = true) (hb : PE X b (TEo X.K A W mb)) (hp2 : plainE b = true) :
    PI X (.Tuple elts kk p2) (.Call (.Name "zip" p) [a, b] [] pos) (TIo X.K A W fun env s => (ma env s).bind fun x s1 => (mb env s1).bind fun y s2 => zipI x y s2) := by
  obtain ⟨gx, _, _⟩ := isGl_ok hx
  refine PI.by_ fun σ H R' hq => ?_
  obtain ⟨env, S, μ, E, R, h⟩ := hq
  refine ⟨_, CZ.pi_zipM gx (g.kn.blt _ (by decide +kernel)) (pa_cons ha (pa_cons hb pa_nil (starE hp2)) (starE hp)) (starE hp) (plain_any (by simp [hp2])), seq E R h fun d S1 x μ1 H1 e1 r1 R1 E1 M1 h1 => seq E1 R1 h1 fun d2 S2 y μ2 H2 e2 r2 R2 E2 M2 h2 => ?_⟩
  have r1' := DR.mono M2 r1
  unfold zipI at h2
  split at h2
  · cases r1' with
    | @tup _ a1 vs q1 w1 =>
      cases r2 with
      | @tup _ a2 us q2 w2 => exact ⟨a1, a2, vs, us, rfl, .inr (.inl ⟨q1.sq, q2.sq, h2 _ μ2 H2 ⟨_, it_zipT, vs, us, q1, q2, w1, w2⟩ R2 (Mo.refl _ _)⟩)⟩
  · cases r1' with
    | @tl _ a1 vs q1 w1 =>
      cases r2 with
      | @tl _ a2 us q2 w2 => exact ⟨a1, a2, vs, us, rfl, .inl ⟨q1.sq, q2.sq, h2 _ μ2 H2 ⟨_, it_zipL, vs, us, q1, q2, w1, w2⟩ R2 (Mo.refl _ _)⟩⟩
  · cases r1' with
    | @tup _ a1 vs q1 w1 =>
      cases r2 with
      | @tl _ a2 us q2 w2 => exact ⟨a1, a2, vs, us, rfl, .inr (.inr ⟨q1.sq, q2.sq, h2 _ μ2 H2 ⟨_, it_zipM, vs, us, q1, q2, w1, w2⟩ R2 (Mo.refl _ _)⟩)⟩
  · exact h2.elim
theorem pi_en (g : Gd T G wf A k X W) {p p2 : Pos} {elts : List Expr} {kk : Nat} (hx : isGl X.env.scope "enumerate" = true) (ha : PE X a (TEo X.K A W ma)) (hp : plainE a = true) :
    PI X (.Tuple elts kk p2) (.Call (.Name "enumerate" p) [a] [] pos) (TIo X.K A W fun env s => (ma env s).bind enumI) := by
  obtain ⟨gx, _, _⟩ := isGl_ok hx
  refine PI.by_ fun σ H R' hq => ?_
  obtain ⟨env, S, μ, E, R, h⟩ := hq
  refine ⟨_, pi_enum gx (g.kn.blt _ (by decide +kernel)) (pa_cons ha pa_nil (starE hp)) (starE hp), seq E R h fun d S1 x μ1 H1 e1 r1 R1 E1 M1 h1 => ?_⟩
  unfold enumI at h1
  split at h1
  · cases r1 with
    | @tl _ a1 vs q1 w1 => exact ⟨a1, vs, rfl, q1.sq, h1 _ μ1 H1 ⟨_, it_enum, vs, q1, w1⟩ R1 (Mo.refl _ _)⟩
  · exact h1.elim
theorem pi_rv (g : Gd T G wf A k X W) {p : Pos} (hx : isGl X.env.scope "reversed" = true) (ha : PE X a (TEo X.K A W ma)) (hp : plainE a = true) :
    PI X tg (.Call (.Name "reversed" p) [a] [] pos) (TIo X.K A W fun env s => (ma env s).bind revI) := by
  obtain ⟨gx, _, _⟩ := isGl_ok hx
  refine PI.by_ fun σ H R' hq => ?_
  obtain ⟨env, S, μ, E, R, h⟩ := hq
  refine ⟨_, pi_reversed gx (g.kn.blt _ (by decide +kernel)) (pa_cons ha pa_nil (starE hp)) (starE hp), seq E R h fun d S1 x μ1 H1 e1 r1 R1 E1 M1 h1 => ?_⟩
  unfold revI at h1
  split at h1
  · cases r1 with
    | @tl _ a1 vs q1 w1 => 
      refine ⟨a1, vs, rfl, q1.sq, ?_⟩
      rw [DRs.length w1]
      exact h1 _ μ1 H1 ⟨_, it_rev, vs, q1, w1⟩ R1 (Mo.refl _ _)
  · exact h1.elim
end
end CN
set_option Elab.async false
set_option linter.all false
set_option maxRecDepth 100000
set_option maxHeartbeats 2000000
/-! CnExpr5: comprehensions. -/
namespace CN
open PySem PyProof.Rows L2

abbrev W0 : WX := fun _ _ _ _ => False
theorem takesN {X : Cx} : L2N.Takes X (fun _ _ _ _ => False) := fun _ _ ⟨_, _, _, _, _, _, _, _, _, _, _, _, _, _, _, _, z⟩ => z.elim
section
variable {X : Cx} {A : Ad} {W : WX} {T : Tb} {G : Gi} {wf k : Nat}
theorem Gd.blk (g : Gd T G wf A k X W) (hn : G.inH = false) (s : Shared) (H : Hp) (scope : Scope) (C : Addr) (cl : List (Str × Addr)) (fp : List Addr) : Gd T G wf A k (X.blk s H scope (compEnvC scope cl C X.env) fp) W0 :=
  ⟨g.kn, g.un, g.cold, g.nd, takesN, PassesOwn.never, fun c a dd h => (by rw [g.nc hn] at h; cases h), g.nc, fun h => (by rw [hn] at h; cases h)⟩
theorem Gd.blkH (g : Gd T G wf A k X W) (s : Shared) (H : Hp) (scope : Scope) (C : Addr) (cl : List (Str × Addr)) (fp : List Addr) : Gd T G wf A k (CN.blkH X s H scope (compEnvC scope cl C X.env) fp) W0 :=
  ⟨g.kn, g.un, g.cold, g.nd, takesN, PassesOwn.never, g.cau, g.nc, g.hot⟩
theorem blk_scope (X : Cx) (s : Shared) (H : Hp) (scope : Scope) (C : Addr) (cl : List (Str × Addr)) (fp : List Addr) : (X.blk s H scope (compEnvC scope cl C X.env) fp).env.scope = relS scope X.env.scope := rfl
theorem wipe_sub {σ : L2.St} {own : List Nat} : ∀ {l : List Nat}, (∀ i ∈ l, i ∈ own) → wipe (wipe σ l) own = wipe σ own
  | [], _ => rfl
  | v :: vs, h => by
    show wipe ((wipe σ vs).set v none) own = _
    rw [wipe_set (h v List.mem_cons_self), wipe_sub fun i hi => h i (List.mem_cons_of_mem _ hi)]
theorem stepC_ok {own : List Nat} {t : Tg} {mc : CN.Env → Hs → Res Bool} {me : CN.Env → Hs → Res D} {env : CN.Env} {d : D} {s' : Hs} {o : Option D} {s2 : Hs} (h : stepC own t mc me env d s' = .ok o s2) :
    ∃ env', assignTg (wipeE env own) t d = some env' ∧ ((∃ s1 v, mc env' s' = .ok true s1 ∧ me env' s1 = .ok v s2 ∧ o = some v) ∨ (mc env' s' = .ok false s2 ∧ o = none)) := by
  unfold stepC at h
  split at h
  · rename_i env' he
    refine ⟨env', he, ?_⟩
    cases e1 : mc env' s' with
    | stuck => rw [e1] at h; cases h
    | err => rw [e1] at h; cases h
    | ok b s1 =>
      rw [e1] at h
      cases b with
      | false => cases h; exact .inr ⟨rfl, rfl⟩
      | true =>
        simp only [Res.bind_ok, if_true] at h
        cases e2 : me env' s1 with
        | stuck => rw [e2] at h; cases h
        | err => rw [e2] at h; cases h
        | ok v s3 =>
          rw [e2] at h
          cases h
          exact .inl ⟨s1, v, rfl, e2, rfl⟩
  · cases h
variable {K : PySem.W.Frag} {σ : L2.St} {env : CN.Env} {own : List Nat} {t : Tg} {mc : CN.Env → Hs → Res Bool} {me : CN.Env → Hs → Res D}
theorem Mo.sub {tr tr' pv pv0 : List Addr} {μ' : Mu} {H H' : Hp} (m : Mo ⟨tr, pv⟩ H μ' H') : Mo ⟨tr, pv0⟩ H ⟨μ'.tr, pv0⟩ H' := ⟨m.pre, rfl, m.keep, m.fresh⟩
theorem Mo.updNew {μ μ' : Mu} {H H' : Hp} {D : Addr} {o : HO} (m : Mo μ H μ' H') (h : H D = none) : Mo μ H μ' (upd H' D o) := ⟨m.pre, m.pv, fun a u e n => by rw [upd_ne (ne_of_none e h)]; exact m.keep a u e n, m.fresh⟩
theorem comp_read {J : L2.It} {ds : List D} {w : Option (Nat × List D)} {St : Mu → Hp → Prop} {μ1 : Mu} {H1 : Hp} {S1 : Hs} {Q : VK} (E1 : ER K A μ1 H1 env σ) (R1 : HR K A μ1 S1 H1) (I : ItR K A J ds w St) (st : St μ1 H1) (hst : stays w S1 = true) (ho : ∀ i ∈ tgIdx t, i ∈ own)
    (h : Post (ReD K A) K A W σ μ1 H1 Q ((loopComp (stepC own t mc me env) w ds [] S1).bind fun ds s2 => .ok (.tl ds) s2)) :
    ∀ D, H1 D = none → ∃ Wn : Nat → Nat → Hp → Prop, (∃ m, Wn 0 m (upd H1 D (.lst []))) ∧ ∀ i m H, Wn i m H →
      (J.stop i H ∧ Q (.ref D) H) ∨ (J.go i H ∧ ∃ Nx : Hp → Prop, (∀ H', Nx H' → ∃ m', m' < m ∧ Wn (i + 1) m' H') ∧ ∀ x H', J.yld i H x H' → gOf K t x (wipe σ own) H' fun σ2 H2 => wipe σ2 own = wipe σ own ∧ TTo K A W0 mc σ2 H2 fun b H3 =>
        if b = true then TEo K A W0 me σ2 H3 fun y H4 => ∃ acc, H4 D = some (.lst acc) ∧ acc.length < sizeLine ∧ Nx (upd H4 D (.lst (acc ++ [y]))) else Nx H3) := by
  intro Da hD
  have nD : Da ∉ μ1 := R1.nin hD
  refine ⟨fun i m H => m = ds.length - i ∧ i ≤ ds.length ∧ ∃ (tr : List Addr) (S : Hs) (acc : List D) (accV : List V), HR K A ⟨tr, Da :: μ1.pv⟩ S H ∧ Mo μ1 H1 ⟨tr, μ1.pv⟩ H ∧ H Da = some (.lst accV) ∧ DRs K A ⟨tr, Da :: μ1.pv⟩ H acc accV ∧ St ⟨tr, Da :: μ1.pv⟩ H ∧
      ER K A ⟨tr, Da :: μ1.pv⟩ H env σ ∧ Post (ReD K A) K A W σ μ1 H1 Q ((loopComp (stepC own t mc me env) w (ds.drop i) acc S).bind fun ds s2 => .ok (.tl ds) s2), ?_, ?_⟩
  · have Mh : Mg μ1 H1 (μ1.hide Da) (upd H1 Da (.lst [])) := Mg.hide hD
    have Rh : HR K A (μ1.hide Da) S1 (upd H1 Da (.lst [])) := R1.hide hD
    exact ⟨_, rfl, Nat.zero_le _, μ1.tr, S1, [], [], Rh, Mo.new hD, upd_same, .nil, I.mono _ _ _ _ _ st Mh Rh hst, E1.monog Mh, by simpa using h⟩
  · rintro i m H ⟨rfl, hi, tr, S, acc, accV, R, M, eD, ra, st, E, h⟩
    by_cases hl : i = ds.length
    · left
      refine ⟨I.stop _ _ _ st (by omega), ?_⟩
      rw [List.drop_of_length_le (by omega)] at h
      have z : DRs K A ⟨tr, μ1.pv⟩ H acc accV := ra.monog (Mg.show_ (μ := ⟨tr, μ1.pv⟩) (p := Da))
      refine h (.ref Da) ⟨tr, μ1.pv⟩ H (.tl ⟨.inl eD, ?_⟩ z) (HR.show_ (μ := ⟨tr, μ1.pv⟩) (p := Da) R) M
      rintro (q | q)
      · exact R.pvn Da List.mem_cons_self q
      · exact nD (.inr q)
    · right
      have hi' : i < ds.length := by omega
      have ed : ds[i]? = some ds[i] := List.getElem?_eq_getElem hi'
      obtain ⟨hgo, hy⟩ := I.go _ H S i ds[i] st R ed
      refine ⟨hgo, fun H' => ∃ m', m' < ds.length - i ∧ m' = ds.length - (i + 1) ∧ i + 1 ≤ ds.length ∧ ∃ (tr : List Addr) (S : Hs) (acc : List D) (accV : List V), HR K A ⟨tr, Da :: μ1.pv⟩ S H' ∧ Mo μ1 H1 ⟨tr, μ1.pv⟩ H' ∧ H' Da = some (.lst accV) ∧ DRs K A ⟨tr, Da :: μ1.pv⟩ H' acc accV ∧ St ⟨tr, Da :: μ1.pv⟩ H' ∧
        ER K A ⟨tr, Da :: μ1.pv⟩ H' env σ ∧ Post (ReD K A) K A W σ μ1 H1 Q ((loopComp (stepC own t mc me env) w (ds.drop (i + 1)) acc S).bind fun ds s2 => .ok (.tl ds) s2), fun H' hN => ?_, fun x H' hyl => ?_⟩
      · obtain ⟨m', h1, h2⟩ := hN
        exact ⟨m', h1, h2⟩
      · obtain ⟨rx, Rx, Mx⟩ := hy x H' hyl
        have edr : ds.drop i = ds[i] :: ds.drop (i + 1) := (List.drop_eq_getElem_cons hi')
        rw [edr] at h
        unfold loopComp at h
        cases es : stepC own t mc me env ds[i] S with
        | stuck => rw [es] at h; exact h.elim
        | err => rw [es] at h; exact h.elim
        | ok o S3 =>
          rw [es] at h
          dsimp only at h
          by_cases hs : stays w S3 = true
          · rw [if_pos hs] at h
            obtain ⟨env', he, hc⟩ := stepC_ok es
            have Eb : ER K A ⟨tr, Da :: μ1.pv⟩ H' (wipeE env own) (wipe σ own) := (E.mono Mx).wipe own
            have fin : ∀ (μ3 : Mu) (H3 : Hp), HR K A μ3 S3 H3 → Mo ⟨tr, Da :: μ1.pv⟩ H μ3 H3 → HR K A ⟨μ3.tr, Da :: μ1.pv⟩ S3 H3 ∧ Mo μ1 H1 ⟨μ3.tr, μ1.pv⟩ H3 ∧ H3 Da = some (.lst accV) ∧ DRs K A ⟨μ3.tr, Da :: μ1.pv⟩ H3 acc accV ∧ St ⟨μ3.tr, Da :: μ1.pv⟩ H3 ∧ ER K A ⟨μ3.tr, Da :: μ1.pv⟩ H3 env σ := by
              intro μ3 H3 R3 M3
              obtain ⟨tr3, pv3⟩ := μ3
              have hpv : pv3 = Da :: μ1.pv := M3.pv
              subst hpv
              exact ⟨R3, M.trans (Mo.sub (tr' := []) M3), M3.keep _ _ eD (R.pvn Da List.mem_cons_self), ra.mono M3, I.mono _ _ _ _ _ st M3.g R3 hs, E.mono M3⟩
            refine tgR _ _ _ _ _ _ _ _ Eb rx he fun σ2 E2 hw => ⟨(hw own ho).trans (wipe_sub fun _ z => z), env', S, ⟨tr, Da :: μ1.pv⟩, E2, Rx, ?_⟩
            rcases hc with ⟨s1, v, h1, h2, rfl⟩ | ⟨h1, rfl⟩
            · rw [h1]
              intro b μ2 H2 hb R2 M2
              obtain rfl : true = b := hb
              refine iteT ⟨env', s1, μ2, E2.mono M2, R2, ?_⟩
              rw [h2]
              intro y μ3 H3 ry R3 M3
              obtain ⟨R4, M4, e4, ra4, st4, E4⟩ := fin μ3 H3 R3 (Mx.trans (M2.trans M3))
              dsimp only at h
              by_cases hz : acc.length < sizeLine
              · rw [if_pos hz] at h
                have hpv : μ3.pv = Da :: μ1.pv := (Mx.trans (M2.trans M3)).pv
                have ry' : DR K A ⟨μ3.tr, Da :: μ1.pv⟩ H3 v y := by rw [← hpv]; exact ry
                have Mo1 : Mg ⟨μ3.tr, Da :: μ1.pv⟩ H3 ⟨μ3.tr, Da :: μ1.pv⟩ (upd H3 Da (.lst (accV ++ [y]))) := Mg.over List.mem_cons_self
                have R5 : HR K A ⟨μ3.tr, Da :: μ1.pv⟩ S3 (upd H3 Da (.lst (accV ++ [y]))) := R4.over List.mem_cons_self
                refine ⟨accV, e4, by rw [DRs.length ra4]; exact hz, _, (show ds.length - (i + 1) < ds.length - i by omega), rfl, hi', μ3.tr, S3, acc ++ [v], accV ++ [y], R5, M4.updNew hD, upd_same, (ra4.append (.cons ry' .nil)).monog Mo1, I.mono _ _ _ _ _ st4 Mo1 R5 hs, E4.monog Mo1, h⟩
              · rw [if_neg hz] at h
                exact h.elim
            · rw [h1]
              intro b μ2 H2 hb R2 M2
              obtain rfl : false = b := hb
              obtain ⟨R4, M4, e4, ra4, st4, E4⟩ := fin μ2 H2 R2 (Mx.trans M2)
              exact iteF ⟨_, (show ds.length - (i + 1) < ds.length - i by omega), rfl, hi', μ2.tr, S3, acc, accV, R4, M4, e4, ra4, st4, E4, h⟩
          · rw [if_neg hs] at h
            exact h.elim
theorem compB_read {J : L2.It} {ds : List D} {w : Option (Nat × List D)} {St : Mu → Hp → Prop} {μ1 : Mu} {H1 : Hp} {S1 : Hs} {Q : VK} (E1 : ER K A μ1 H1 env σ) (R1 : HR K A μ1 S1 H1) (I : ItR K A J ds w St) (st : St μ1 H1) (hst : stays w (S1 ++ [.lst []]) = true) (hw1 : ∀ n es, w = some (n, es) → n ≠ S1.length) (ho : ∀ i ∈ tgIdx t, i ∈ own)
    (h : Post (ReD K A) K A W σ μ1 H1 Q ((loopCompB (stepC own t mc me env) S1.length w ds [] (S1 ++ [.lst []])).bind fun _ s2 => .ok (.ref S1.length) s2)) :
    ∀ D, H1 D = none → ∃ Wn : Nat → Nat → Hp → Prop, (∃ m, Wn 0 m (upd H1 D (.lst []))) ∧ ∀ i m H, Wn i m H →
      (J.stop i H ∧ Q (.ref D) H) ∨ (J.go i H ∧ ∃ Nx : Hp → Prop, (∀ H', Nx H' → ∃ m', m' < m ∧ Wn (i + 1) m' H') ∧ ∀ x H', J.yld i H x H' → gOf K t x (wipe σ own) H' fun σ2 H2 => wipe σ2 own = wipe σ own ∧ TTo K A W0 mc σ2 H2 fun b H3 =>
        if b = true then TEo K A W0 me σ2 H3 fun y H4 => ∃ acc, H4 D = some (.lst acc) ∧ acc.length < sizeLine ∧ Nx (upd H4 D (.lst (acc ++ [y]))) else Nx H3) := by
  intro Da hD
  refine ⟨fun i m H => m = ds.length - i ∧ i ≤ ds.length ∧ ∃ (μ : Mu) (S : Hs) (acc : List D), HR K A μ S H ∧ Mo μ1 H1 μ H ∧ μ.tr[S1.length]? = some Da ∧ S[S1.length]? = some (.lst acc) ∧ St μ H ∧
      ER K A μ H env σ ∧ Post (ReD K A) K A W σ μ1 H1 Q ((loopCompB (stepC own t mc me env) S1.length w (ds.drop i) acc S).bind fun _ s2 => .ok (.ref S1.length) s2), ?_, ?_⟩
  · have Mp : Mo μ1 H1 (μ1.add Da) (upd H1 Da (.lst [])) := Mo.place hD
    have Rp : HR K A (μ1.add Da) (S1 ++ [.lst []]) (upd H1 Da (.lst [])) := R1.place (g := .lst []) hD (.lst .nil)
    exact ⟨_, rfl, Nat.zero_le _, μ1.add Da, S1 ++ [.lst []], [], Rp, Mp, Mu.add_at R1, by simp, I.mono _ _ _ _ _ st Mp.g Rp hst, E1.mono Mp, by simpa using h⟩
  · rintro i m H ⟨rfl, hi, μ, S, acc, R, M, eD, eS, st, E, h⟩
    obtain ⟨ho1, h2, h3⟩ := R.obj _ _ _ eS eD
    by_cases hl : i = ds.length
    · left
      refine ⟨I.stop _ _ _ st (by omega), ?_⟩
      rw [List.drop_of_length_le (by omega)] at h
      exact h (.ref Da) μ H (.ref eD) R M
    · right
      have hi' : i < ds.length := by omega
      have ed : ds[i]? = some ds[i] := List.getElem?_eq_getElem hi'
      obtain ⟨hgo, hy⟩ := I.go _ H S i ds[i] st R ed
      refine ⟨hgo, fun H' => ∃ m', m' < ds.length - i ∧ m' = ds.length - (i + 1) ∧ i + 1 ≤ ds.length ∧ ∃ (μ : Mu) (S : Hs) (acc : List D), HR K A μ S H' ∧ Mo μ1 H1 μ H' ∧ μ.tr[S1.length]? = some Da ∧ S[S1.length]? = some (.lst acc) ∧ St μ H' ∧
        ER K A μ H' env σ ∧ Post (ReD K A) K A W σ μ1 H1 Q ((loopCompB (stepC own t mc me env) S1.length w (ds.drop (i + 1)) acc S).bind fun _ s2 => .ok (.ref S1.length) s2), fun H' hN => ?_, fun x H' hyl => ?_⟩
      · obtain ⟨m', h1, h2⟩ := hN
        exact ⟨m', h1, h2⟩
      · obtain ⟨rx, Rx, Mx⟩ := hy x H' hyl
        have edr : ds.drop i = ds[i] :: ds.drop (i + 1) := (List.drop_eq_getElem_cons hi')
        rw [edr] at h
        unfold loopCompB at h
        cases es : stepC own t mc me env ds[i] S with
        | stuck => rw [es] at h; exact h.elim
        | err => rw [es] at h; exact h.elim
        | ok o S3 =>
          rw [es] at h
          dsimp only at h
          by_cases hs : (stays w S3 && stays (some (S1.length, acc)) S3) = true
          · rw [if_pos hs] at h
            rw [Bool.and_eq_true] at hs
            have eS3 : S3[S1.length]? = some (.lst acc) := by
              have hs' : (match S3[S1.length]? with | some (.lst es) => D.eqbs es acc | _ => false) = true := hs.2
              split at hs'
              · rename_i es he
                rw [he, D.eqbs_eq hs']
              · cases hs'
            obtain ⟨env', he, hc⟩ := stepC_ok es
            have Eb : ER K A μ H' (wipeE env own) (wipe σ own) := (E.mono Mx).wipe own
            refine tgR _ _ _ _ _ _ _ _ Eb rx he fun σ2 E2 hw => ⟨(hw own ho).trans (wipe_sub fun _ z => z), env', S, μ, E2, Rx, ?_⟩
            rcases hc with ⟨s1, v, h1, h2, rfl⟩ | ⟨h1, rfl⟩
            · rw [h1]
              intro b μ2 H2 hb R2 M2
              obtain rfl : true = b := hb
              refine iteT ⟨env', s1, μ2, E2.mono M2, R2, ?_⟩
              rw [h2]
              intro y μ3 H3 ry R3 M3
              have MM := Mx.trans (M2.trans M3)
              have eD3 := MM.get eD
              obtain ⟨ho3, h4, h5⟩ := R3.obj _ _ _ eS3 eD3
              cases h5 with
              | @lst _ accV ra =>
                dsimp only at h
                by_cases hz : acc.length < sizeLine
                · rw [if_pos hz] at h
                  have Mw : Mo μ3 H3 μ3 (upd H3 Da (.lst (accV ++ [y]))) := Mo.write (List.mem_of_getElem? eD3)
                  have R5 := R3.write (g := .lst (acc ++ [v])) eD3 (.lst (ra.append (.cons ry .nil)))
                  have hl3 : S1.length < S3.length := (List.getElem?_eq_some_iff.mp eS3).1
                  have hst5 : stays w (S3.set S1.length (.lst (acc ++ [v]))) = true := by
                    cases w with
                    | none => rfl
                    | some p =>
                      obtain ⟨n, es⟩ := p
                      have hn : n ≠ S1.length := hw1 n es rfl
                      show (match (S3.set S1.length (GO.lst (acc ++ [v])))[n]? with | some (.lst es') => D.eqbs es' es | _ => false) = true
                      rw [List.getElem?_set_ne (Ne.symm hn)]
                      exact hs.1
                  exact ⟨accV, h4, by rw [DRs.length ra]; exact hz, _, (show ds.length - (i + 1) < ds.length - i by omega), rfl, hi', μ3, _, acc ++ [v], R5, (M.trans MM).trans Mw, eD3, List.getElem?_set_self hl3, I.mono _ _ _ _ _ st (MM.trans Mw).g R5 hst5, (E.mono MM).mono Mw, h⟩
                · rw [if_neg hz] at h
                  exact h.elim
            · rw [h1]
              intro b μ2 H2 hb R2 M2
              obtain rfl : false = b := hb
              have MM := Mx.trans M2
              exact iteF ⟨_, (show ds.length - (i + 1) < ds.length - i by omega), rfl, hi', μ2, S3, acc, R2, M.trans MM, MM.get eD, eS3, I.mono _ _ _ _ _ st MM.g R2 hs.1, E.mono MM, h⟩
          · rw [if_neg hs] at h
            exact h.elim
theorem stays_watch {S : Hs} {d : D} {ds : List D} (e : lstAt S d = some ds) : stays (watchOf d ds) S = true ∧ ∀ n es, watchOf d ds = some (n, es) → n < S.length := by
  cases d with
  | ref n =>
    have h := lstAt_ref e
    refine ⟨?_, fun m es hm => ?_⟩
    · show (match S[n]? with | some (.lst es) => D.eqbs es ds | _ => false) = true
      rw [h]
      exact D.eqbs_refl ds
    · cases hm
      exact (List.getElem?_eq_some_iff.mp h).1
  | _ => exact ⟨rfl, fun _ _ h => by cases h⟩
/-- what is walked stays at first -/
def StayI (m : CN.Env → Hs → Res (List D × Option (Nat × List D))) : Prop := ∀ env S p S1, m env S = .ok p S1 → stays p.2 S1 = true ∧ ∀ n es, p.2 = some (n, es) → n < S1.length
theorem bind_inv {α β : Type} {r : Res α} {f : α → Hs → Res β} {b : β} {s : Hs} (h : r.bind f = .ok b s) : ∃ a s1, r = .ok a s1 ∧ f a s1 = .ok b s := by
  cases r with
  | stuck => cases h
  | err => cases h
  | ok a s1 => exact ⟨a, s1, rfl, h⟩
theorem none_stay {S1 : Hs} {ds : List D} : stays (ds, (none : Option (Nat × List D))).2 S1 = true ∧ ∀ n es, (ds, (none : Option (Nat × List D))).2 = some (n, es) → n < S1.length := ⟨rfl, fun _ _ h => by cases h⟩
theorem seqI_stay {x : D} {S S1 : Hs} {p : List D × Option (Nat × List D)} (h : seqI x S = .ok p S1) : stays p.2 S1 = true ∧ ∀ n es, p.2 = some (n, es) → n < S1.length := by
  unfold seqI at h
  split at h
  · cases h; exact none_stay
  · cases h; exact none_stay
  · cases h; exact none_stay
  · split at h
    · rename_i e
      cases h
      exact stays_watch e
    · cases h
theorem stayI (it : It) (call : Nat → List D → Hs → Res D) : StayI (evalI T call it) := by
  intro env S p S1 h
  cases it with
  | seq e => unfold evalI evI at h; obtain ⟨x, s1, _, h⟩ := bind_inv h; exact seqI_stay h
  | range1 a =>
    unfold evalI evI at h; obtain ⟨x, s1, _, h⟩ := bind_inv h
    unfold range1I at h
    split at h
    · split at h
      · cases h; exact none_stay
      · cases h
    · cases h
  | range2 a b =>
    unfold evalI evI at h; obtain ⟨x, s1, _, h⟩ := bind_inv h; obtain ⟨y, s2, _, h⟩ := bind_inv h
    unfold range2I at h
    split at h
    · split at h
      · cases h; exact none_stay
      · cases h
    · cases h
  | zip a b =>
    unfold evalI evI at h; obtain ⟨x, s1, _, h⟩ := bind_inv h; obtain ⟨y, s2, _, h⟩ := bind_inv h
    unfold zipI at h
    split at h
    · cases h; exact none_stay
    · cases h; exact none_stay
    · cases h; exact none_stay
    · cases h
  | enum a =>
    unfold evalI evI at h; obtain ⟨x, s1, _, h⟩ := bind_inv h
    unfold enumI at h
    split at h
    · cases h; exact none_stay
    · cases h
  | rev a =>
    unfold evalI evI at h; obtain ⟨x, s1, _, h⟩ := bind_inv h
    unfold revI at h
    split at h
    · cases h; exact none_stay
    · cases h
/-- a comprehension's if -/
abbrev TTs (K : PySem.W.Frag) (A : Ad) (m : CN.Env → Hs → Res Bool) : TT := TTo K A W0 m
theorem pts_no {X : Cx} {A : Ad} : PTs X [] (TTo X.K A W0 fun _ s => .ok true s) := ⟨fun pins s σ H Q I h => by
  obtain ⟨env, S, μ, E, R, h⟩ := h
  exact pts_nil.run pins s σ H Q I (h true μ H rfl R (Mo.refl _ _))⟩
theorem own_map {N : List Str} {own : List Nat} : (ownNames N own).map (·.2) = own := by
  unfold ownNames
  rw [List.map_map]
  exact List.map_id _
theorem notSet_ok {it : Expr} (h : notSet it = true) : ∀ (env : PySem.Env) (x : Value), foldedSetIterable it env x = pure x := by
  intro env x
  cases it <;> first | rfl | cases h
theorem px_comp (g : Gd T G wf A k X W) (hh : G.inH = false) {it : Expr} {ifs : List Expr} {csc : Scope} {own : List Nat} {tg : Tg} {te elt : Expr} {pos : Pos} {mi : CN.Env → Hs → Res (List D × Option (Nat × List D))} (hS : StayI mi) (ho : ∀ i ∈ tgIdx tg, i ∈ own)
    (hb : blkC X.N X.env.scope csc (ownNames X.N own) = true) (hi : PI X te it (TIo X.K A W mi)) (hn : notSet it = true)
    (ht : ∀ (s : Shared) (H : Hp) (C : Addr) (cl : List (Str × Addr)) (fp : List Addr), TgAt (X.blk s H csc (compEnvC csc cl C X.env) fp) tg te)
    (hc : ∀ (s : Shared) (H : Hp) (C : Addr) (cl : List (Str × Addr)) (fp : List Addr), PTs (X.blk s H csc (compEnvC csc cl C X.env) fp) ifs (TTo X.K A W0 mc))
    (he : ∀ (s : Shared) (H : Hp) (C : Addr) (cl : List (Str × Addr)) (fp : List Addr), PE (X.blk s H csc (compEnvC csc cl C X.env) fp) elt (TEo X.K A W0 me)) :
    PE X (.ListComp elt [⟨te, it, ifs, 0⟩] csc pos) (TEo X.K A W fun env s => (mi env s).bind fun p s1 => (loopComp (stepC own tg mc me env) p.2 p.1 [] s1).bind fun ds s2 => .ok (.tl ds) s2) := by
  refine PE.imp (pe_lc (g := gOf X.K tg) (g.cold hh).1 g.nd hi (blkOk_by hb) (fun s H C cl fp => pg_of (X := X.blk s H csc (compEnvC csc cl C X.env) fp) (fun _ => (g.cold hh).1) g.nd (ht s H C cl fp)) hc he (notSet_ok hn X.env)) fun σ H Q ⟨env, S, μ, E, R, h⟩ =>
    seq E R h fun p S1 J μ1 H1 e ⟨St, I, st⟩ R1 E1 M1 h1 => ?_
  rw [own_map]
  exact comp_read E1 R1 I st (hS _ _ _ _ e).1 ho h1
theorem px_compB (g : Gd T G wf A k X W) (hh : G.inH = false) {it : Expr} {ifs : List Expr} {csc : Scope} {own : List Nat} {tg : Tg} {te elt : Expr} {pos : Pos} {mi : CN.Env → Hs → Res (List D × Option (Nat × List D))} (hS : StayI mi) (ho : ∀ i ∈ tgIdx tg, i ∈ own)
    (hb : blkC X.N X.env.scope csc (ownNames X.N own) = true) (hi : PI X te it (TIo X.K A W mi)) (hn : notSet it = true)
    (ht : ∀ (s : Shared) (H : Hp) (C : Addr) (cl : List (Str × Addr)) (fp : List Addr), TgAt (X.blk s H csc (compEnvC csc cl C X.env) fp) tg te)
    (hc : ∀ (s : Shared) (H : Hp) (C : Addr) (cl : List (Str × Addr)) (fp : List Addr), PTs (X.blk s H csc (compEnvC csc cl C X.env) fp) ifs (TTo X.K A W0 mc))
    (he : ∀ (s : Shared) (H : Hp) (C : Addr) (cl : List (Str × Addr)) (fp : List Addr), PE (X.blk s H csc (compEnvC csc cl C X.env) fp) elt (TEo X.K A W0 me)) :
    PE X (.ListComp elt [⟨te, it, ifs, 0⟩] csc pos) (TEo X.K A W fun env s => (mi env s).bind fun p s1 => (loopCompB (stepC own tg mc me env) s1.length p.2 p.1 [] (s1 ++ [.lst []])).bind fun _ s2 => .ok (.ref s1.length) s2) := by
  refine PE.imp (pe_lc (g := gOf X.K tg) (g.cold hh).1 g.nd hi (blkOk_by hb) (fun s H C cl fp => pg_of (X := X.blk s H csc (compEnvC csc cl C X.env) fp) (fun _ => (g.cold hh).1) g.nd (ht s H C cl fp)) hc he (notSet_ok hn X.env)) fun σ H Q ⟨env, S, μ, E, R, h⟩ =>
    seq E R h fun p S1 J μ1 H1 e ⟨St, I, st⟩ R1 E1 M1 h1 => ?_
  rw [own_map]
  obtain ⟨h2, h3⟩ := hS _ _ _ _ e
  refine compB_read E1 R1 I st ?_ (fun n es hz => Nat.ne_of_lt (h3 n es hz)) ho h1
  cases hp : p.2 with
  | none => rfl
  | some q =>
    obtain ⟨n, es⟩ := q
    rw [hp] at h2
    have hl := h3 n es hp
    show (match (S1 ++ [GO.lst []])[n]? with | some (.lst es') => D.eqbs es' es | _ => false) = true
    rw [List.getElem?_append_left hl]
    exact h2
theorem px_compH (g : Gd T G wf A k X W) (hh : G.inH = true) {it : Expr} {ifs : List Expr} {csc : Scope} {own : List Nat} {tg : Tg} (hnm : nmTg tg = true) {te elt : Expr} {pos : Pos} {mi : CN.Env → Hs → Res (List D × Option (Nat × List D))} (hS : StayI mi) (ho : ∀ i ∈ tgIdx tg, i ∈ own)
    (hb : blkC X.N X.env.scope csc (ownNames X.N own) = true) (hi : L2H.PIH X te it (TIo X.K A W mi)) (hn : notSet it = true)
    (ht : ∀ (s : Shared) (H : Hp) (C : Addr) (cl : List (Str × Addr)) (fp : List Addr), TgAt (blkH X s H csc (compEnvC csc cl C X.env) fp) tg te)
    (hc : ∀ (s : Shared) (H : Hp) (C : Addr) (cl : List (Str × Addr)) (fp : List Addr), PTs (blkH X s H csc (compEnvC csc cl C X.env) fp) ifs (TTo X.K A W0 mc))
    (he : ∀ (s : Shared) (H : Hp) (C : Addr) (cl : List (Str × Addr)) (fp : List Addr), PE (blkH X s H csc (compEnvC csc cl C X.env) fp) elt (TEo X.K A W0 me)) :
    PE X (.ListComp elt [⟨te, it, ifs, 0⟩] csc pos) (TEo X.K A W fun env s => (mi env s).bind fun p s1 => (loopComp (stepC own tg mc me env) p.2 p.1 [] s1).bind fun ds s2 => .ok (.tl ds) s2) := by
  refine PE.imp (pe_lcH (g := gOf X.K tg) (g.hot hh).1 g.nd hi (blkOk_by hb) (fun s H C cl fp => pg_of (X := blkH X s H csc (compEnvC csc cl C X.env) fp) (fun z => by rw [hnm] at z; cases z) g.nd (ht s H C cl fp)) hc he (notSet_ok hn X.env)) fun σ H Q ⟨env, S, μ, E, R, h⟩ =>
    seq E R h fun p S1 J μ1 H1 e ⟨St, I, st⟩ R1 E1 M1 h1 => ?_
  rw [own_map]
  exact comp_read E1 R1 I st (hS _ _ _ _ e).1 ho h1
theorem px_compBH (g : Gd T G wf A k X W) (hh : G.inH = true) {it : Expr} {ifs : List Expr} {csc : Scope} {own : List Nat} {tg : Tg} (hnm : nmTg tg = true) {te elt : Expr} {pos : Pos} {mi : CN.Env → Hs → Res (List D × Option (Nat × List D))} (hS : StayI mi) (ho : ∀ i ∈ tgIdx tg, i ∈ own)
    (hb : blkC X.N X.env.scope csc (ownNames X.N own) = true) (hi : L2H.PIH X te it (TIo X.K A W mi)) (hn : notSet it = true)
    (ht : ∀ (s : Shared) (H : Hp) (C : Addr) (cl : List (Str × Addr)) (fp : List Addr), TgAt (blkH X s H csc (compEnvC csc cl C X.env) fp) tg te)
    (hc : ∀ (s : Shared) (H : Hp) (C : Addr) (cl : List (Str × Addr)) (fp : List Addr), PTs (blkH X s H csc (compEnvC csc cl C X.env) fp) ifs (TTo X.K A W0 mc))
    (he : ∀ (s : Shared) (H : Hp) (C : Addr) (cl : List (Str × Addr)) (fp : List Addr), PE (blkH X s H csc (compEnvC csc cl C X.env) fp) elt (TEo X.K A W0 me)) :
    PE X (.ListComp elt [⟨te, it, ifs, 0⟩] csc pos) (TEo X.K A W fun env s => (mi env s).bind fun p s1 => (loopCompB (stepC own tg mc me env) s1.length p.2 p.1 [] (s1 ++ [.lst []])).bind fun _ s2 => .ok (.ref s1.length) s2) := by
  refine PE.imp (pe_lcH (g := gOf X.K tg) (g.hot hh).1 g.nd hi (blkOk_by hb) (fun s H C cl fp => pg_of (X := blkH X s H csc (compEnvC csc cl C X.env) fp) (fun z => by rw [hnm] at z; cases z) g.nd (ht s H C cl fp)) hc he (notSet_ok hn X.env)) fun σ H Q ⟨env, S, μ, E, R, h⟩ =>
    seq E R h fun p S1 J μ1 H1 e ⟨St, I, st⟩ R1 E1 M1 h1 => ?_
  rw [own_map]
  obtain ⟨h2, h3⟩ := hS _ _ _ _ e
  refine compB_read E1 R1 I st ?_ (fun n es hz => Nat.ne_of_lt (h3 n es hz)) ho h1
  cases hp : p.2 with
  | none => rfl
  | some q =>
    obtain ⟨n, es⟩ := q
    rw [hp] at h2
    have hl := h3 n es hp
    show (match (S1 ++ [GO.lst []])[n]? with | some (.lst es') => D.eqbs es' es | _ => false) = true
    rw [List.getElem?_append_left hl]
    exact h2
/-! targets by the check -/
theorem tgsAt_of {X : Cx} {c : Bool} (hf : c = true → ∀ x, X.fn x = true) : ∀ {is : List Nat} {es : List Expr}, chkTgN c X.N X.env.scope is es = true → TgsAt X is es
  | [], [], _ => .nil
  | [], _ :: _, h => by cases h
  | i :: is, [], h => by cases h
  | i :: is, e :: es, h => by
    cases e with
    | Name x p =>
      have h' : (decide (X.N[i]? = some x) && (isLoc X.env.scope x || (c && decide (X.env.scope.names.lookup x = some .cell))) && chkTgN c X.N X.env.scope is es) = true := h
      simp only [Bool.and_eq_true, Bool.or_eq_true, decide_eq_true_eq, isLoc] at h'
      refine .cons h'.1.1 ?_ (tgsAt_of hf h'.2)
      rcases h'.1.2 with q | q
      · exact ⟨.inl q, .inr q⟩
      · exact ⟨.inr q.2, .inl (hf q.1 x)⟩
    | _ => cases h
theorem tgAt_of {X : Cx} {c : Bool} {t : Tg} {e : Expr} (hf : c = true → ∀ x, X.fn x = true) (h : chkTg c X.N X.env.scope t e = true) : TgAt X t e := by
  cases t with
  | nm i =>
    cases e with
    | Name x p =>
      have h' : (decide (X.N[i]? = some x) && (isLoc X.env.scope x || (c && decide (X.env.scope.names.lookup x = some .cell)))) = true := h
      simp only [Bool.and_eq_true, Bool.or_eq_true, decide_eq_true_eq, isLoc] at h'
      refine .nm h'.1 ?_
      rcases h'.2 with q | q
      · exact ⟨.inl q, .inr q⟩
      · exact ⟨.inr q.2, .inl (hf q.1 x)⟩
    | _ => cases h
  | tp is =>
    cases e with
    | Tuple es k p => exact .tp (tgsAt_of hf h)
    | _ => cases h
theorem tgOwn_ok {own : List Nat} {t : Tg} (h : tgOwn own t = true) : ∀ i ∈ tgIdx t, i ∈ own := by
  cases t with
  | nm i =>
    intro j hj
    simp only [tgIdx, List.mem_singleton] at hj
    subst hj
    simpa [tgOwn] using h
  | tp is =>
    intro j hj
    have h' := List.all_eq_true.mp (show is.all (fun i => decide (i ∈ own)) = true from h) j hj
    simpa using h'
end
end CN
set_option Elab.async false
set_option linter.all false
set_option maxRecDepth 100000
set_option maxHeartbeats 2000000
/-! CnPick: {k: v, ..}[i]. -/
namespace CN
open PySem PyProof.Rows L2

section
variable {T : Tb} {call : Nat → List D → Hs → Res D} {K : PySem.W.Frag} {A : Ad} {W : WX}
def esLen : Exs → Nat
  | .nil => 0
  | .cons _ es => esLen es + 1
/-- the readings of the pairs -/
def trsOf (T : Tb) (call : Nat → List D → Hs → Res D) (K : PySem.W.Frag) (A : Ad) (W : WX) : List Key → Exs → List (TE × TE)
  | k :: ks, .cons e es => (tC (kV k), TEo K A W (evP T call e).e) :: trsOf T call K A W ks es
  | _, _ => []
theorem XR.show_ {μ : Mu} {p : Addr} {H : Hp} {c : Nat} {fs : List (Nat × D)} {cl : Value} {dx : Option Addr} (h : XR K A (μ.hide p) H c fs cl dx) : XR K A μ H c fs cl dx := by
  obtain ⟨h1, h2, h3, r⟩ := h
  exact ⟨h1, h2, fun z => h3 (z.elim .inl fun q => .inr (List.mem_cons_of_mem _ q)), r.monog Mg.show_⟩
theorem bind_assoc {α β γ : Type} (r : Res α) (f : α → Hs → Res β) (g : β → Hs → Res γ) : (r.bind f).bind g = r.bind fun a s => (f a s).bind g := by cases r <;> rfl
theorem pairs_read {p : Addr} {μ1 : Mu} {H1 : Hp} {Q : VK} {σ : L2.St} {env : CN.Env} : ∀ (es : Exs) (ks : List Key), ks.length = esLen es → ∀ {H : Hp} {S : Hs} {tr : List Addr} {f : List D → Hs → Res D} {k : List (V × V) → Hp → Prop}, ER K A ⟨tr, p :: μ1.pv⟩ H env σ → HR K A ⟨tr, p :: μ1.pv⟩ S H →
    Mo μ1 H1 ⟨tr, μ1.pv⟩ H → H p = some (.dK []) → Post (ReD K A) K A W σ μ1 H1 Q (((evPs T call es).args env S).bind f) →
    (∀ ds S1 (vs : List V) tr1 H2, ks.length = ds.length → ER K A ⟨tr1, p :: μ1.pv⟩ H2 env σ → HR K A ⟨tr1, p :: μ1.pv⟩ S1 H2 → Mo μ1 H1 ⟨tr1, μ1.pv⟩ H2 → Mo ⟨tr, p :: μ1.pv⟩ H ⟨tr1, p :: μ1.pv⟩ H2 → H2 p = some (.dK []) → DRs K A ⟨tr1, p :: μ1.pv⟩ H2 ds vs → Post (ReD K A) K A W σ μ1 H1 Q (f ds S1) → k ((ks.zip vs).map fun q => (kV q.1, q.2)) H2) →
    tPairs (trsOf T call K A W ks es) σ H k
  | .nil, [], _, H, S, tr, f, k, E, R, M, hp, h, hk => hk [] S [] tr H rfl E R M (Mo.refl _ _) hp .nil h
  | .nil, _ :: _, hl, _, _, _, _, _, _, _, _, _, _, _ => by cases hl
  | .cons _ _, [], hl, _, _, _, _, _, _, _, _, _, _, _ => by cases hl
  | .cons e es, c :: ks, hl, H, S, tr, f, k, E, R, M, hp, h, hk => by
    have h' : Post (ReD K A) K A W σ μ1 H1 Q (((evP T call e).e env S).bind fun d s1 => (((evPs T call es).args env s1).bind fun ds s2 => f (d :: ds) s2)) := by
      have q : ((evPs T call (.cons e es)).args env S).bind f = (((evP T call e).e env S).bind fun d s1 => (((evPs T call es).args env s1).bind fun ds s2 => f (d :: ds) s2)) := by
        show (((evP T call e).e env S).bind fun d s1 => ((evPs T call es).args env s1).bind fun ds s2 => .ok (d :: ds) s2).bind f = _
        rw [bind_assoc]
        congr 1
        funext d s1
        rw [bind_assoc]
        rfl
      rw [← q]
      exact h
    show TEo K A W (evP T call e).e σ H fun y H2 => tPairs (trsOf T call K A W ks es) σ H2 fun ps H3 => k ((kV c, y) :: ps) H3
    refine ⟨env, S, ⟨tr, p :: μ1.pv⟩, E, R, ?_⟩
    cases ee : (evP T call e).e env S with
    | stuck => rw [ee] at h'; exact h'.elim
    | err c2 fs S2 =>
      rw [ee] at h'
      intro cl dx μ' H' x' R' M'
      obtain ⟨tr', pv'⟩ := μ'
      have hpv : pv' = p :: μ1.pv := M'.pv
      subst hpv
      exact h' cl dx ⟨tr', μ1.pv⟩ H' (XR.show_ (μ := ⟨tr', μ1.pv⟩) x') (HR.show_ (μ := ⟨tr', μ1.pv⟩) R') (M.trans (Mo.sub (tr' := []) M'))
    | ok d S2 =>
      rw [ee] at h'
      intro y μ' H' ry R' M'
      obtain ⟨tr', pv'⟩ := μ'
      have hpv : pv' = p :: μ1.pv := M'.pv
      subst hpv
      refine pairs_read es ks (by simpa [esLen] using hl) (E.mono M') R' (M.trans (Mo.sub (tr' := []) M')) (M'.keep _ _ hp (R.pvn p List.mem_cons_self)) h' fun ds S3 vs tr1 H3 l3 E3 R3 M3 M4 hp3 r3 h3 => ?_
      exact hk (d :: ds) S3 (y :: vs) tr1 H3 (by simp [l3]) E3 R3 M3 (M'.trans M4) hp3 (.cons (ry.mono M4) r3) h3
theorem mergeK_nodup : ∀ (kvs acc : List (Key × V)), (acc ++ kvs).map (·.1) |>.Nodup → mergeK acc kvs = acc ++ kvs
  | [], acc, _ => by simp [mergeK]
  | (k, v) :: r, acc, h => by
    show mergeK (putK acc k v) r = _
    have e : putK acc k v = acc ++ [(k, v)] := by
      unfold putK
      rw [if_neg]
      intro q
      obtain ⟨⟨k', v'⟩, h1, h2⟩ := List.any_eq_true.mp q
      have h2 := of_decide_eq_true h2
      rw [List.map_append, List.nodup_append] at h
      exact h.2.2 k' (List.mem_map.mpr ⟨_, h1, rfl⟩) k (by simp) h2
    rw [e, mergeK_nodup r (acc ++ [(k, v)]) (by simpa using h)]
    simp
theorem valV_zip {k : Key} : ∀ {ks : List Key} {ds : List D} {vs : List V} {μ : Mu} {H : Hp} {d : D}, DRs K A μ H ds vs → lookK k ks ds = some d → ∃ v, valV (ks.zip vs) k = some v ∧ DR K A μ H d v
  | [], _, _, _, _, _, _, h => by cases h
  | _ :: _, [], _, _, _, _, .nil, h => by cases h
  | c :: ks, d0 :: ds, v0 :: vs, μ, H, d, .cons r rs, h => by
    unfold lookK at h
    by_cases e : k = c
    · rw [if_pos e] at h
      cases h
      exact ⟨v0, valV_pos e.symm, r⟩
    · rw [if_neg e] at h
      obtain ⟨v, h1, h2⟩ := valV_zip rs h
      exact ⟨v, (valV_neg (Ne.symm e)).trans h1, h2⟩
variable {X : Cx} {i : Expr} {mi : ME} {pos p1 : Pos}
theorem px_pick (hu : X.A.units + 1 < cLine) {ks : List Key} {vs : Exs} {keys : List (Option Expr)} {values : List Expr} (hl : ks.length = esLen vs) (hnd : ks.Nodup) (h15 : ks.length ≤ 15)
    (hd : PE X (.Dict keys values p1) (tDisp (trsOf T call X.K A W ks vs))) (hi : PE X i (TEo X.K A W mi)) (hp : plainE i = true) : PE X (.Subscript (.Dict keys values p1) i pos) (TEo X.K A W (pickM ks (evPs T call vs).args mi)) := by
  refine PE.imp (pe_dget hu hd hi (plainIx hp)) fun σ H Q ⟨env, S, μ, E, R, h⟩ p hp => ?_
  have Rh := R.hide (o := .dK []) hp
  have Eh := E.monog (Mg.hide (μ := μ) (o := .dK []) hp)
  refine pairs_read (p := p) (μ1 := μ) (H1 := H) (tr := μ.tr) vs ks hl Eh Rh (Mo.new hp) upd_same h fun ds S1 xs tr1 H2 l2 E2 R2 M2 _ hp2 r2 h2 => ⟨hp2, ks.zip xs, rfl, ?_, ?_⟩
  · rw [List.length_zip]
    exact Nat.le_trans (Nat.min_le_left _ _) h15
  have em : mergeK [] (ks.zip xs) = ks.zip xs := by
    rw [mergeK_nodup _ _ (by
      rw [List.nil_append, List.map_fst_zip (by have := r2.length; omega)]
      exact hnd)]
    rfl
  rw [em]
  have R3 : HR X.K A ⟨tr1, p :: μ.pv⟩ S1 (upd H2 p (.dK (ks.zip xs))) := R2.over List.mem_cons_self
  have G3 : Mg ⟨tr1, p :: μ.pv⟩ H2 ⟨tr1, p :: μ.pv⟩ (upd H2 p (.dK (ks.zip xs))) := Mg.over List.mem_cons_self
  have M3 : Mo μ H ⟨tr1, μ.pv⟩ (upd H2 p (.dK (ks.zip xs))) := M2.updNew hp
  refine ⟨env, S1, ⟨tr1, p :: μ.pv⟩, E2.monog G3, R3, ?_⟩
  cases ei : mi env S1 with
  | stuck => rw [ei] at h2; exact h2.elim
  | err c fs S4 =>
    rw [ei] at h2
    intro cl dx μ' H' x' R' M'
    obtain ⟨tr', pv'⟩ := μ'
    have hpv : pv' = p :: μ.pv := M'.pv
    subst hpv
    exact h2 cl dx ⟨tr', μ.pv⟩ H' (XR.show_ (μ := ⟨tr', μ.pv⟩) x') (HR.show_ (μ := ⟨tr', μ.pv⟩) R') (M3.trans (Mo.sub (tr' := []) M'))
  | ok d S4 =>
    rw [ei] at h2
    intro y μ' H' ry R' M'
    obtain ⟨tr', pv'⟩ := μ'
    have hpv : pv' = p :: μ.pv := M'.pv
    subst hpv
    have h2' : Post (ReD X.K A) X.K A W σ μ H Q (Res.of (pickK ks ds d) S4) := h2
    obtain ⟨z, ez, q⟩ := Post.of h2'
    unfold pickK at ez
    have hp4 : H' p = some (.dK (ks.zip xs)) := M'.keep _ _ upd_same (R3.pvn p List.mem_cons_self)
    have key : ∃ k, y = kV k ∧ lookK k ks ds = some z := by
      cases d with
      | int n => cases ry; exact ⟨.inl n, rfl, ez⟩
      | str n => cases ry; exact ⟨.inr n, rfl, ez⟩
      | _ => cases ez
    obtain ⟨k, rfl, hk⟩ := key
    obtain ⟨v, e1, e2⟩ := valV_zip r2 hk
    refine ⟨p, v, rfl, ?_, ?_⟩
    · rw [← e1]
      exact DGet.k hp4
    · have r4 : DR X.K A ⟨tr', p :: μ.pv⟩ H' z v := (e2.monog G3).mono M'
      exact q v ⟨tr', μ.pv⟩ H' (r4.monog (Mg.show_ (μ := ⟨tr', μ.pv⟩) (p := p))) (HR.show_ (μ := ⟨tr', μ.pv⟩) R') (M3.trans (Mo.sub (tr' := []) M'))
end
end CN
set_option Elab.async false
set_option linter.all false
set_option maxRecDepth 100000
set_option maxHeartbeats 2000000
/-! CnExpr6: tests, and, or. -/
namespace CN
open PySem PyProof.Rows L2

section
variable {X : Cx} {A : Ad} {W : WX} {a b c e : Expr} {rest : List Expr} {ma mb mc m : CN.Env → Hs → Res D} {ta tb : CN.Env → Hs → Res Bool} {pos : Pos}
/-- its answers are bools -/
def BoolM (m : CN.Env → Hs → Res D) : Prop := ∀ env S d S1, m env S = .ok d S1 → ∃ b, d = .bl b
theorem tT_of {K : PySem.W.Frag} (hb : BoolM m) {σ : L2.St} {H : Hp} {Q : Bool → Hp → Prop} (h : TTo K A W (truly m) σ H Q) : TEo K A W m σ H fun x H' => ∃ k, x = .bl k ∧ Q k H' := by
  obtain ⟨env, S, μ, E, R, h⟩ := h
  refine seq E R h fun d S1 x μ1 H1 e r1 R1 E1 M1 h1 => ?_
  obtain ⟨b, rfl⟩ := hb _ _ _ _ e
  cases r1
  exact ⟨b, rfl, h1 b μ1 H1 rfl R1 (Mo.refl _ _)⟩
theorem map_bl {o : Option Bool} {S S1 : Hs} {d : D} (h : Res.of (o.map D.bl) S = .ok d S1) : ∃ b, d = .bl b := by
  cases o with
  | none => cases h
  | some b => cases h; exact ⟨b, rfl⟩
theorem cmpM_bool {T : Tb} {op : COp} : BoolM (cmpM T op ma mb) := by
  intro env S d S1 h
  obtain ⟨x, s1, _, h⟩ := bind_inv h
  obtain ⟨y, s2, _, h⟩ := bind_inv h
  exact map_bl h
theorem cmp_imp {K : PySem.W.Frag} {T : Tb} {op : COp} {σ : L2.St} {H : Hp} {Q : VK} (h : TEo K A W (cmpM T op ma mb) σ H Q) :
    tOp (fun x y H Q => ∃ (μ : Mu) (S : Hs) (dx dy : D) (b : Bool), DR K A μ H dx x ∧ DR K A μ H dy y ∧ HR K A μ S H ∧ cmpop T.tabs S op dx dy = some b ∧ Q (.bl b) H) (TEo K A W ma) (TEo K A W mb) σ H Q := by
  obtain ⟨env, S, μ, E, R, h⟩ := h
  exact seq E R h fun d S1 x μ1 H1 _ r1 R1 E1 M1 h1 => seq E1 R1 h1 fun d2 S2 y μ2 H2 _ r2 R2 E2 M2 h2 => by
      obtain ⟨z, e, q⟩ := Post.ofB R2 h2
      exact ⟨μ2, S2, d, d2, z, DR.mono M2 r1, r2, R2, e, q⟩
theorem pt_cmpM (T : Tb) (TT : Tabs T A X.K X.w) (hu : X.A.units + 64 < cLine) (op : COp) (ha : PE X a (TEo X.K A W ma)) (hb : PE X b (TEo X.K A W mb)) (hm : behindInMarks (pyCmp op) b = false) :
    PT X (.Compare a [pyCmp op] [b] pos) (TTo X.K A W (truly (cmpM T op ma mb))) :=
  PT.imp (pt_cmpR (opR_cmp T TT hu op) ha hb hm) fun σ H Q h => cmp_imp (tT_of cmpM_bool h)
theorem isNM_bool {neg : Bool} : BoolM (isNM neg ma) := by
  intro env S d S1 h
  obtain ⟨x, s1, _, h⟩ := bind_inv h
  cases h
  exact ⟨_, rfl⟩
theorem pt_isNM (neg : Bool) {k : Nat} {p : Pos} (ha : PE X a (TEo X.K A W ma)) : PT X (.Compare a [if neg then .IsNot else .Is] [.Constant .none k p] pos) (TTo X.K A W (truly (isNM neg ma))) := by
  cases neg with
  | false =>
    exact PT.imp (pt_cmp (pc_isN ha) rfl) fun σ H Q hh => by
      obtain ⟨env, S, μ, E, R, h⟩ := tT_of isNM_bool hh
      exact seq E R h fun d S1 x μ1 H1 _ r1 R1 E1 M1 h1 => by
        obtain ⟨k, e, q⟩ := h1 (.bl _) μ1 H1 (.bl _) R1 (Mo.refl _ _)
        rw [(isN_of r1).1] at e
        cases e
        exact ⟨_, rfl, q⟩
  | true =>
    exact PT.imp (pt_cmp (pc_notN ha) rfl) fun σ H Q hh => by
      obtain ⟨env, S, μ, E, R, h⟩ := tT_of isNM_bool hh
      exact seq E R h fun d S1 x μ1 H1 _ r1 R1 E1 M1 h1 => by
        obtain ⟨k, e, q⟩ := h1 (.bl _) μ1 H1 (.bl _) R1 (Mo.refl _ _)
        rw [(isN_of r1).2] at e
        cases e
        exact ⟨_, rfl, q⟩
theorem chainM_bool {T : Tb} {o p : COp} : BoolM (chainM T o p ma mb mc) := by
  intro env S d S1 h
  obtain ⟨x, s1, _, h⟩ := bind_inv h
  obtain ⟨y, s2, _, h⟩ := bind_inv h
  split at h
  · obtain ⟨z, s3, _, h⟩ := bind_inv h
    exact map_bl h
  · cases h; exact ⟨_, rfl⟩
  · cases h
theorem pt_chainM (T : Tb) (TT : Tabs T A X.K X.w) (hu : X.A.units + 64 < cLine) (o p : COp) (ha : PE X a (TEo X.K A W ma)) (hb : PE X b (TEo X.K A W mb)) (hc : PE X c (TEo X.K A W mc)) (hm : behindInMarks (pyCmp p) c = false) :
    PT X (.Compare a [pyCmp o, pyCmp p] [b, c] pos) (TTo X.K A W (truly (chainM T o p ma mb mc))) :=
  PT.imp (pt_chain (opR_cmp T TT hu o) (opR_cmp T TT hu p) ha hb hc hm) fun σ H Q hh => by
    obtain ⟨env, S, μ, E, R, h⟩ := tT_of chainM_bool hh
    exact seq E R h fun d S1 x μ1 H1 _ r1 R1 E1 M1 h1 => seq E1 R1 h1 fun d2 S2 y μ2 H2 _ r2 R2 E2 M2 h2 => by
      cases e : cmpop T.tabs S2 o d d2 with
      | none => rw [e] at h2; exact h2.elim
      | some k =>
        rw [e] at h2
        refine ⟨μ2, S2, d, d2, k, DR.mono M2 r1, r2, R2, e, k, rfl, ?_⟩
        cases k with
        | false => exact iteF (h2 (.bl false) μ2 H2 (.bl false) R2 (Mo.refl _ _))
        | true => exact iteT (seq E2 R2 h2 fun d3 S3 z μ3 H3 _ r3 R3 E3 M3 h3 => by
            obtain ⟨w, e, q⟩ := Post.ofB R3 h3
            exact ⟨μ3, S3, d2, d3, w, DR.mono M3 r2, r3, R3, e, q⟩)
theorem pt_notM (ha : PT X a (TTo X.K A W ta)) : PT X (.UnaryOp .Not a pos) (TTo X.K A W fun env s => (ta env s).bind fun b s1 => .ok (!b) s1) :=
  PT.imp (pt_not ha) fun σ H Q ⟨env, S, μ, E, R, h⟩ => seq E R h fun c S1 c' μ1 H1 _ r1 R1 E1 M1 h1 => by
    obtain rfl : c = c' := r1
    exact h1 (!c) μ1 H1 rfl R1 (Mo.refl _ _)
theorem pt_iteM {t : Expr} {tt : CN.Env → Hs → Res Bool} (ht : PT X t (TTo X.K A W tt)) (ha : PT X a (TTo X.K A W ta)) (hb : PT X b (TTo X.K A W tb)) : PT X (.IfExp t a b pos) (TTo X.K A W fun env s => (tt env s).bind fun c s1 => if c then ta env s1 else tb env s1) := by
  refine ⟨fun pins s σ H Q I hw => ?_⟩
  obtain ⟨env, S, μ, E, R, h⟩ := hw
  refine isTrue_IfExp (thn (ht.run pins s σ H _ I (seq (k := fun c H' => if c = true then TTo X.K A W ta σ H' Q else TTo X.K A W tb σ H' Q) E R h fun c S1 c' μ1 H1 _ r1 R1 E1 M1 h1 => ?_)) fun c s1 hh => ?_)
  · obtain rfl : c = c' := r1
    cases c with
    | true => exact iteT ⟨env, S1, μ1, E1, R1, h1⟩
    | false => exact iteF ⟨env, S1, μ1, E1, R1, h1⟩
  · obtain ⟨H1, I1, q1⟩ := hh
    cases c with
    | true => exact ha.run pins s1 σ H1 Q I1 (by simpa using q1)
    | false => exact hb.run pins s1 σ H1 Q I1 (by simpa using q1)
/-! and, or -/
theorem px_and2 (ha : PE X a (TEo X.K A W ma)) (hb : PE X (.BoolOp .And (b :: rest) pos) (TEo X.K A W mb)) : PE X (.BoolOp .And (a :: b :: rest) pos) (TEo X.K A W fun env s => (ma env s).bind fun x s1 => match x with
    | .bl true => mb env s1
    | .bl false => .ok (.bl false) s1
    | _ => .stuck) :=
  PE.imp (pe_and ha hb) fun σ H Q ⟨env, S, μ, E, R, h⟩ => seq E R h fun d S1 x μ1 H1 _ r1 R1 E1 M1 h1 => by
    cases d with
    | bl c =>
      cases r1
      cases c with
      | true => exact ⟨true, rfl, iteT ⟨env, S1, μ1, E1, R1, h1⟩⟩
      | false => exact ⟨false, rfl, iteF (h1 (.bl false) μ1 H1 (.bl false) R1 (Mo.refl _ _))⟩
    | _ => exact h1.elim
theorem px_or2 (ha : PE X a (TEo X.K A W ma)) (hb : PE X (.BoolOp .Or (b :: rest) pos) (TEo X.K A W mb)) : PE X (.BoolOp .Or (a :: b :: rest) pos) (TEo X.K A W fun env s => (ma env s).bind fun x s1 => match x with
    | .bl true => .ok (.bl true) s1
    | .bl false => mb env s1
    | _ => .stuck) :=
  PE.imp (pe_or ha hb) fun σ H Q ⟨env, S, μ, E, R, h⟩ => seq E R h fun d S1 x μ1 H1 _ r1 R1 E1 M1 h1 => by
    cases d with
    | bl c =>
      cases r1
      cases c with
      | true => exact ⟨true, rfl, iteT (h1 (.bl true) μ1 H1 (.bl true) R1 (Mo.refl _ _))⟩
      | false => exact ⟨false, rfl, iteF ⟨env, S1, μ1, E1, R1, h1⟩⟩
    | _ => exact h1.elim
theorem pw_and2 (ha : PT X a (TTo X.K A W ta)) (hb : PW X (.BoolOp .And (b :: rest) pos) (TTo X.K A W tb)) : PW X (.BoolOp .And (a :: b :: rest) pos) (TTo X.K A W fun env s => (ta env s).bind fun c s1 => if c then tb env s1 else .ok false s1) := by
  refine ⟨fun wh pins s σ H Q I hw => (pw_and ha hb).run wh pins s σ H Q I ?_⟩
  obtain ⟨env, S, μ, E, R, h⟩ := hw
  exact seq E R h fun c S1 c' μ1 H1 _ r1 R1 E1 M1 h1 => by
    obtain rfl : c = c' := r1
    cases c with
    | true => exact iteT ⟨env, S1, μ1, E1, R1, h1⟩
    | false => exact iteF (h1 false μ1 H1 rfl R1 (Mo.refl _ _))
theorem pw_or2 (ha : PT X a (TTo X.K A W ta)) (hb : PW X (.BoolOp .Or (b :: rest) pos) (TTo X.K A W tb)) : PW X (.BoolOp .Or (a :: b :: rest) pos) (TTo X.K A W fun env s => (ta env s).bind fun c s1 => if c then .ok true s1 else tb env s1) := by
  refine ⟨fun wh pins s σ H Q I hw => (pw_or ha hb).run wh pins s σ H Q I ?_⟩
  obtain ⟨env, S, μ, E, R, h⟩ := hw
  exact seq E R h fun c S1 c' μ1 H1 _ r1 R1 E1 M1 h1 => by
    obtain rfl : c = c' := r1
    cases c with
    | true => exact iteT (h1 true μ1 H1 rfl R1 (Mo.refl _ _))
    | false => exact iteF ⟨env, S1, μ1, E1, R1, h1⟩
end
end CN
set_option Elab.async false
set_option linter.all false
set_option maxRecDepth 100000
set_option maxHeartbeats 4000000
/-! CnMain: the interpreter is sound for expressions. -/
namespace CN
open PySem PyProof.Rows L2

section
variable {T : Tb} {G : Gi} {wf : Nat} {A : Ad} {k : Nat}
abbrev cl (T : Tb) (wf k : Nat) := runFn T wf k
theorem Gd.units {X : Cx} {W : WX} (g : Gd T G wf A k X W) : X.A.units + 64 < cLine := g.un
abbrev OkE (T : Tb) (wf k : Nat) (A : Ad) (X : Cx) (W : WX) (ex : Ex) (e : Expr) : Prop := PE X e (TEo X.K A W (evalE T (runFn T wf k) ex)) ∧ PT X e (TTo X.K A W (evalT T (runFn T wf k) ex))
theorem okE_of {X : Cx} {W : WX} {ex : Ex} {e : Expr} {m : CN.Env → Hs → Res D} (hm : evalE T (runFn T wf k) ex = m) (ht : evalT T (runFn T wf k) ex = truly m) (h : PE X e (TEo X.K A W m)) (he : ∀ whole, isTrue e X.env whole = (do let v ← whole; standAt e.pos; holding [v] (truthy v)) := by intro _; rfl) : OkE T wf k A X W ex e := by
  subst hm
  exact ⟨h, by rw [ht]; exact pt_ofE h he⟩
theorem okE_of2 {X : Cx} {W : WX} {ex : Ex} {e : Expr} {m : CN.Env → Hs → Res D} (hm : evalE T (runFn T wf k) ex = m) (ht : evalT T (runFn T wf k) ex = truly m) (h : PE X e (TEo X.K A W m)) (h2 : PT X e (TTo X.K A W (truly m))) : OkE T wf k A X W ex e := by
  subst hm
  exact ⟨h, by rw [ht]; exact h2⟩
abbrev OkEs (T : Tb) (wf k : Nat) (A : Ad) (X : Cx) (W : WX) (es : Exs) (xs : List Expr) : Prop :=
  PA X xs (TAo X.K A W (evalEs T (runFn T wf k) es)) ∧ xs.all plainE = true ∧ (xs.isEmpty = false → ∀ pos, PE X (.BoolOp .And xs pos) (TEo X.K A W ((evPs T (runFn T wf k) es).and)) ∧ PE X (.BoolOp .Or xs pos) (TEo X.K A W ((evPs T (runFn T wf k) es).or)) ∧
    PW X (.BoolOp .And xs pos) (TTo X.K A W ((evPs T (runFn T wf k) es).andT)) ∧ PW X (.BoolOp .Or xs pos) (TTo X.K A W ((evPs T (runFn T wf k) es).orT)))
theorem TTo.congr {K : PySem.W.Frag} {W : WX} {m m' : CN.Env → Hs → Res Bool} (h : m = m') : TTo K A W m = TTo K A W m' := by rw [h]
theorem bi_rest {X : Cx} {W : WX} {b : Bi} {nm x : Str} {args : Exs} {xs : List Expr} {p q : Pos} (hb : biName b = some nm) (ih : chkEs G X.N X.env.scope args xs = true → OkEs T wf k A X W args xs)
    (hp : ∀ {y : Expr} {ys : List Expr}, isGl X.env.scope nm = true → PA X (y :: ys) (TAo X.K A W (evalEs T (runFn T wf k) args)) → (y :: ys).all plainE = true → PE X (.Call (.Name nm p) (y :: ys) [] q) (TEo X.K A W (biM b (evalEs T (runFn T wf k) args))))
    (h : (decide (biName b = some x) && isGl X.env.scope x && chkEs G X.N X.env.scope args xs && !xs.isEmpty) = true) : OkE T wf k A X W (.bi b args) (.Call (.Name x p) xs [] q) := by
  simp only [Bool.and_eq_true, decide_eq_true_eq, Bool.not_eq_true'] at h
  obtain ⟨⟨⟨hx, hgl⟩, hs⟩, hne⟩ := h
  rw [hb] at hx
  cases hx
  cases xs with
  | nil => cases hne
  | cons y ys => exact okE_of rfl rfl (hp hgl (ih hs).1 (ih hs).2.1)

theorem hotIt_ok {it : It} {tg : Tg} (h : hotIt it tg = true) : ∃ a i, it = .range1 a ∧ tg = .nm i := by
  unfold hotIt at h
  split at h
  · exact ⟨_, _, rfl, rfl⟩
  · cases h
theorem keys_ok : ∀ {ks : List L2.Key} {es : List (Option Expr)}, chkKeys ks es = true → es.all (·.isSome) = true ∧ ks.length = es.length
  | [], [], _ => ⟨rfl, rfl⟩
  | .inl i :: ks, some (.Constant (.int j) _ _) :: es, h => by
    have h' : (decide (i = j) && chkKeys ks es) = true := h
    rw [Bool.and_eq_true] at h'
    obtain ⟨h1, h2⟩ := keys_ok h'.2
    exact ⟨by rw [List.all_cons, h1]; rfl, by simp [h2]⟩
  | .inr i :: ks, some (.Constant (.str j) _ _) :: es, h => by
    have h' : (decide (i = j) && chkKeys ks es) = true := h
    rw [Bool.and_eq_true] at h'
    obtain ⟨h1, h2⟩ := keys_ok h'.2
    exact ⟨by rw [List.all_cons, h1]; rfl, by simp [h2]⟩
theorem key_ok {X : Cx} {c : L2.Key} {o : Option Expr} {ks : List L2.Key} {es : List (Option Expr)} (h : chkKeys (c :: ks) (o :: es) = true) : (∃ e, o = some e ∧ PE X e (tC (kV c))) ∧ chkKeys ks es = true := by
  unfold chkKeys at h
  split at h
  · rename_i h1 _; cases h1
  · rename_i i ks' j n p es' h1 h2
    cases h1; cases h2
    rw [Bool.and_eq_true, decide_eq_true_eq] at h
    obtain ⟨rfl, h⟩ := h
    exact ⟨⟨_, rfl, pe_int⟩, h⟩
  · rename_i i ks' j n p es' h1 h2
    cases h1; cases h2
    rw [Bool.and_eq_true, decide_eq_true_eq] at h
    obtain ⟨rfl, h⟩ := h
    exact ⟨⟨_, rfl, pe_str⟩, h⟩
  · cases h
mutual
theorem soundE : ∀ (ex : Ex) {X : Cx} {W : WX} {e : Expr}, Gd T G wf A k X W → chkE G X.N X.env.scope ex e = true → OkE T wf k A X W ex e
  | .var i, X, W, e, g, h => by
    unfold chkE at h
    split at h
    · rename_i x p
      simp only [Bool.and_eq_true, decide_eq_true_eq] at h
      exact okE_of rfl rfl (px_var h.1 h.2)
    · cases h
  | .cst d, X, W, e, g, h => by
    unfold chkE at h
    split at h
    · simp only [decide_eq_true_eq] at h; subst h; exact okE_of rfl rfl (px_cst pe_int fun _ _ => .int _)
    · have h' := eq_of_beq h; subst h'; exact okE_of rfl rfl (px_cst pe_bl fun _ _ => .bl _)
    · simp only [decide_eq_true_eq] at h; subst h; exact okE_of rfl rfl (px_cst pe_str fun _ _ => .str _)
    · exact okE_of rfl rfl (px_cst pe_non fun _ _ => .non)
    · cases h
  | .glob i, X, W, e, g, h => by
    unfold chkE at h
    split at h
    · rename_i x p
      simp only [Bool.and_eq_true, decide_eq_true_eq] at h
      obtain ⟨d, hd⟩ := g.kn.constsL i x h.1
      obtain ⟨u, v, h1, h2, h3⟩ := g.kn.consts i x d h.1 hd
      obtain ⟨gx, dbg, _⟩ := isGl_ok h.2
      have e1 : evalE T (runFn T wf k) (.glob i) = fun _ s => .ok d s := by
        funext env s
        show Res.of T.consts[i]? s = _
        rw [hd]
        rfl
      refine okE_of e1 ?_ (px_cst (pe_glob gx h1 h2 dbg) h3)
      show truly (evalE T (runFn T wf k) (.glob i)) = _
      rw [e1]
    · cases h
  | .xf i f, X, W, e, g, h => by
    unfold chkE at h
    split at h
    · simp only [Bool.and_eq_true, decide_eq_true_eq] at h
      exact okE_of rfl rfl (px_xf g h.1.1 h.1.2 h.2)
    · cases h
  | .tup es, X, W, e, g, h => by
    unfold chkE at h
    split at h
    · exact okE_of rfl rfl (px_tup (soundEs es g h).1)
    · cases h
  | .lst es, X, W, e, g, h => by
    unfold chkE at h
    split at h
    · exact okE_of rfl rfl (px_lst (soundEs es g h).1)
    · cases h
  | .box (.lst es), X, W, e, g, h => by
    unfold chkE at h
    rw [Bool.and_eq_true] at h
    obtain ⟨_, h⟩ := h
    unfold chkE at h
    split at h
    · exact okE_of rfl rfl (px_lstB (soundEs es g h).1)
    · cases h
  | .box (.bi b es), X, W, e, g, h => by
    unfold chkE at h
    rw [Bool.and_eq_true] at h
    obtain ⟨hb, h⟩ := h
    cases b with
    | list =>
      unfold chkE at h
      split at h
      · rename_i x p xs p2
        dsimp only at h
        rw [Bool.and_eq_true] at h
        replace h := h.2
        simp only [Bool.and_eq_true, decide_eq_true_eq, Bool.not_eq_true'] at h
        obtain ⟨⟨⟨hx, hgl⟩, hs⟩, hne⟩ := h
        cases hx
        cases xs with
        | nil => cases hne
        | cons y ys =>
          have z := soundEs es g hs
          exact okE_of rfl rfl (px_listB g hgl z.1 z.2.1)
      · cases h
    | _ => cases hb
  | .box (.var _), X, W, e, g, h => by unfold chkE at h; cases h
  | .box (.cst _), X, W, e, g, h => by unfold chkE at h; cases h
  | .box (.glob _), X, W, e, g, h => by unfold chkE at h; cases h
  | .box (.xf _ _), X, W, e, g, h => by unfold chkE at h; cases h
  | .box (.tup _), X, W, e, g, h => by unfold chkE at h; cases h
  | .box (.box _), X, W, e, g, h => by unfold chkE at h; cases h
  | .box (.bin _ _ _), X, W, e, g, h => by unfold chkE at h; cases h
  | .box (.cmp _ _ _), X, W, e, g, h => by unfold chkE at h; cases h
  | .box (.isN _ _), X, W, e, g, h => by unfold chkE at h; cases h
  | .box (.chain _ _ _ _ _), X, W, e, g, h => by unfold chkE at h; cases h
  | .box (.and _), X, W, e, g, h => by unfold chkE at h; cases h
  | .box (.or _), X, W, e, g, h => by unfold chkE at h; cases h
  | .box (.not _), X, W, e, g, h => by unfold chkE at h; cases h
  | .box (.neg _), X, W, e, g, h => by unfold chkE at h; cases h
  | .box (.ite _ _ _), X, W, e, g, h => by unfold chkE at h; cases h
  | .box (.idx _ _), X, W, e, g, h => by unfold chkE at h; cases h
  | .box (.sl _ _ _), X, W, e, g, h => by unfold chkE at h; cases h
  | .box (.attr _ _), X, W, e, g, h => by unfold chkE at h; cases h
  | .box (.call _ _), X, W, e, g, h => by unfold chkE at h; cases h
  | .box (.callv _ _), X, W, e, g, h => by unfold chkE at h; cases h
  | .box (.make _ _), X, W, e, g, h => by unfold chkE at h; cases h
  | .box (.meth _ _ _), X, W, e, g, h => by unfold chkE at h; cases h
  | .box (.bm _ _ _), X, W, e, g, h => by unfold chkE at h; cases h
  | .box (.pick _ _ _), X, W, e, g, h => by unfold chkE at h; cases h
  | .box (.comp _ _ _ _ _), X, W, e, g, h => by unfold chkE at h; cases h
  | .box (.compB _ _ _ _ _), X, W, e, g, h => by unfold chkE at h; cases h
  | .bin op a b, X, W, e, g, h => by
    unfold chkE at h
    split at h
    · rename_i x o y p
      simp only [Bool.and_eq_true, decide_eq_true_eq] at h
      obtain ⟨⟨rfl, ha⟩, hb⟩ := h
      exact okE_of rfl rfl (px_bin op (soundE a g ha).1 (soundE b g hb).1)
    · cases h
  | .cmp op a b, X, W, e, g, h => by
    unfold chkE at h
    split at h
    · rename_i x o y p
      simp only [Bool.and_eq_true, decide_eq_true_eq, Bool.not_eq_true'] at h
      obtain ⟨⟨⟨rfl, hm⟩, ha⟩, hb⟩ := h
      have pa := (soundE a g ha).1
      have pb := (soundE b g hb).1
      exact okE_of2 (m := cmpM T op (evalE T (runFn T wf k) a) (evalE T (runFn T wf k) b)) rfl rfl (px_cmp T g.kn.tabs g.units op pa pb hm) (pt_cmpM T g.kn.tabs g.units op pa pb hm)
    · cases h
  | .isN neg a, X, W, e, g, h => by
    unfold chkE at h
    split at h
    · rename_i x o k2 p2 p
      simp only [Bool.and_eq_true, decide_eq_true_eq] at h
      obtain ⟨rfl, ha⟩ := h
      have pa := (soundE a g ha).1
      exact okE_of2 (m := isNM neg (evalE T (runFn T wf k) a)) rfl rfl (px_isN neg pa) (pt_isNM neg pa)
    · cases h
  | .chain o p a b c, X, W, e, g, h => by
    unfold chkE at h
    split at h
    · rename_i x o1 p1 y z pp
      simp only [Bool.and_eq_true, decide_eq_true_eq, Bool.not_eq_true'] at h
      obtain ⟨⟨⟨⟨⟨rfl, rfl⟩, hm⟩, ha⟩, hb⟩, hc⟩ := h
      have pa := (soundE a g ha).1
      have pb := (soundE b g hb).1
      have pc := (soundE c g hc).1
      exact okE_of2 (m := chainM T o p (evalE T (runFn T wf k) a) (evalE T (runFn T wf k) b) (evalE T (runFn T wf k) c)) rfl rfl (px_chain T g.kn.tabs g.units o p pa pb pc hm) (pt_chainM T g.kn.tabs g.units o p pa pb pc hm)
    · cases h
  | .and es, X, W, e, g, h => by
    unfold chkE at h
    split at h
    · rename_i xs p
      simp only [Bool.and_eq_true, Bool.not_eq_true'] at h
      have z := (soundEs es g h.1).2.2 h.2 p
      exact ⟨z.1, z.2.2.1.pt⟩
    · cases h
  | .or es, X, W, e, g, h => by
    unfold chkE at h
    split at h
    · rename_i xs p
      simp only [Bool.and_eq_true, Bool.not_eq_true'] at h
      have z := (soundEs es g h.1).2.2 h.2 p
      exact ⟨z.2.1, z.2.2.2.pt⟩
    · cases h
  | .not a, X, W, e, g, h => by
    unfold chkE at h
    split at h
    · rename_i x p
      have z := soundE a g h
      exact ⟨px_not z.1, pt_notM z.2⟩
    · cases h
  | .neg a, X, W, e, g, h => by
    unfold chkE at h
    split at h
    · exact okE_of rfl rfl (px_neg (soundE a g h).1)
    · cases h
  | .ite t a b, X, W, e, g, h => by
    unfold chkE at h
    split at h
    · rename_i u x y p
      simp only [Bool.and_eq_true] at h
      have zt := soundE t g h.1.1
      have za := soundE a g h.1.2
      have zb := soundE b g h.2
      exact ⟨px_ite zt.2 za.1 zb.1, pt_iteM zt.2 za.2 zb.2⟩
    · cases h
  | .idx a b, X, W, e, g, h => by
    unfold chkE at h
    split at h
    · rename_i x y p
      simp only [Bool.and_eq_true] at h
      exact okE_of rfl rfl (px_idx T g.kn.tabs (soundE a g h.1.2).1 (soundE b g h.2).1 h.1.1)
    · cases h
  | .sl a lo hi, X, W, e, g, h => by
    unfold chkE at h
    split at h
    · rename_i x l u p q
      simp only [Bool.and_eq_true] at h
      exact okE_of rfl rfl (px_sl (soundE a g h.1.1).1 (soundO lo g h.1.2) (soundO hi g h.2))
    · cases h
  | .attr a f, X, W, e, g, h => by
    unfold chkE at h
    split at h
    · rename_i x y p
      simp only [Bool.and_eq_true, decide_eq_true_eq] at h
      exact okE_of rfl rfl (px_attr g (soundE a g h.2).1 h.1.1 h.1.2)
    · cases h
  | .call f args, X, W, e, g, h => by
    unfold chkE at h
    split at h
    · rename_i x p xs kws q
      rw [Bool.and_eq_true] at h
      obtain ⟨h0, hs⟩ := h
      simp only [Bool.and_eq_true, Bool.or_eq_true, decide_eq_true_eq, Bool.not_eq_true'] at h0
      obtain ⟨⟨hh, hf⟩, hx⟩ := h0
      cases kws with
      | nil =>
        replace hs : chkEs G X.N X.env.scope args xs = true := hs
        cases args with
        | nil =>
          have hs' : xs.isEmpty = true := by unfold chkEs at hs; exact hs
          cases xs with
          | nil => exact okE_of (m := fun env s => runFn T wf k f [] s) (by funext env s; rfl) (by funext env s; rfl) (px_call0 g hh hf hx)
          | cons => cases hs'
        | cons a as =>
          cases xs with
          | nil => unfold chkEs at hs; cases hs
          | cons y ys =>
            have z := soundEs (.cons a as) g hs
            exact okE_of rfl rfl (px_call g hh hf hx z.1 z.2.1)
      | cons kw kws =>
        replace hs : (xs.isEmpty && !G.inH && decide (G.kwf.lookup f = kwNames (kw :: kws)) && (kwNames (kw :: kws)).isSome && chkEs G X.N X.env.scope args ((kw :: kws).map (·.value))) = true := hs
        simp only [Bool.and_eq_true, decide_eq_true_eq, Bool.not_eq_true'] at hs
        obtain ⟨⟨⟨⟨hxs, hq⟩, hl⟩, hn⟩, hc⟩ := hs
        obtain ⟨ks, hks⟩ := Option.isSome_iff_exists.mp hn
        rw [hks] at hl
        cases xs with
        | nil => exact okE_of rfl rfl (px_callk g hq hf hx hl hks (soundKs args g hc))
        | cons => cases hxs
    · cases h
  | .callv i args, X, W, e, g, h => by
    unfold chkE at h
    split at h
    · rename_i x p xs q
      simp only [Bool.and_eq_true, decide_eq_true_eq, Bool.not_eq_true'] at h
      obtain ⟨⟨⟨⟨hh, hi⟩, hx⟩, hs⟩, hne⟩ := h
      cases xs with
      | nil => cases hne
      | cons y ys =>
        have z := soundEs args g hs
        exact okE_of rfl rfl (px_callv g hh hi hx z.1 z.2.1)
    · cases h
  | .make c args, X, W, e, g, h => by
    unfold chkE at h
    split at h
    · rename_i x p xs q
      simp only [Bool.and_eq_true, decide_eq_true_eq, Bool.not_eq_true'] at h
      obtain ⟨⟨⟨hh, hf⟩, hx⟩, hs⟩ := h
      cases args with
      | nil =>
        have hs' : xs.isEmpty = true := by unfold chkEs at hs; exact hs
        cases xs with
        | nil => exact okE_of (m := fun env s => madeBy T (runFn T wf k) c [] s) (by funext env s; rfl) (by funext env s; rfl) (px_make0 g hh hf hx)
        | cons => cases hs'
      | cons a as =>
        cases xs with
        | nil => unfold chkEs at hs; cases hs
        | cons y ys =>
          have z := soundEs (.cons a as) g hs
          exact okE_of (m := fun env s => (evalEs T (runFn T wf k) (.cons a as) env s).bind fun ds s1 => madeBy T (runFn T wf k) c ds s1) (by funext env s; rfl) (by funext env s; rfl) (px_make g hh hf hx z.1 z.2.1)
    · cases h
  | .meth m a args, X, W, e, g, h => by
    unfold chkE at h
    split at h
    · rename_i o y ap xs p
      simp only [Bool.and_eq_true, decide_eq_true_eq, Bool.not_eq_true'] at h
      obtain ⟨⟨⟨⟨⟨⟨hh, hm⟩, hl⟩, hn⟩, hb⟩, ha⟩, hs⟩ := h
      have pa := (soundE a g ha).1
      cases args with
      | nil =>
        have hs' : xs.isEmpty = true := by unfold chkEs at hs; exact hs
        cases xs with
        | nil => exact okE_of (by funext env s; rfl) (by funext env s; rfl) (px_meth0 g hh hm pa hb hl)
        | cons => cases hs'
      | cons b bs =>
        cases xs with
        | nil => unfold chkEs at hs; cases hs
        | cons y ys =>
          have z := soundEs (.cons b bs) g hs
          exact okE_of rfl rfl (px_meth g hh hm pa hb z.1 z.2.1 hn hl)
    · cases h
  | .bi b args, X, W, e, g, h => by
    unfold chkE at h
    split at h
    · rename_i x p xs q
      cases b with
      | isinst c =>
        dsimp only at h
        split at h
        · rename_i u y p2
          simp only [Bool.and_eq_true, decide_eq_true_eq] at h
          obtain ⟨⟨⟨⟨⟨rfl, hx⟩, hy⟩, rfl⟩, hc⟩, hs⟩ := h
          cases args with
          | nil => unfold chkEs at hs; cases hs
          | cons a as =>
            cases as with
            | cons b bs =>
              have hs' : (plainE u && chkE G X.N X.env.scope a u && chkEs G X.N X.env.scope (.cons b bs) []) = true := hs
              have z : chkEs G X.N X.env.scope (.cons b bs) [] = false := rfl
              rw [z, Bool.and_false] at hs'
              cases hs'
            | nil =>
              have hs' : (plainE u && chkE G X.N X.env.scope a u && true) = true := hs
              simp only [Bool.and_eq_true] at hs'
              have em : evalE T (runFn T wf k) (.bi (.isinst c) (.cons a .nil)) = fun env s => ((evP T (runFn T wf k) a).e env s).bind fun d s1 => Res.of (bifun s1 (.isinst c) [d]) s1 := by
                funext env s
                show ((((evP T (runFn T wf k) a).e env s).bind fun d s1 => Res.ok [d] s1).bind fun ds s1 => Res.of (bifun s1 (.isinst c) ds) s1) = _
                cases (evP T (runFn T wf k) a).e env s <;> rfl
              exact okE_of em (by rw [← em]; rfl) (px_isi g hc hx hy (soundE a g hs'.1.2).1 hs'.1.1)
        · cases h
      | len =>
        rw [Bool.and_eq_true] at h
        replace h := h.2
        exact bi_rest (nm := "len") rfl (soundEs args g) (fun z hs hp => px_bi (x := "len") g cR_len (.inl ⟨_, rfl⟩) rfl (g.kn.blt _ (by decide)) z hs hp) h
      | int =>
        rw [Bool.and_eq_true] at h
        replace h := h.2
        exact bi_rest (nm := "int") rfl (soundEs args g) (fun z hs hp => px_bi (x := "int") g cR_int (.inr ⟨_, rfl⟩) rfl (g.kn.blt _ (by decide)) z hs hp) h
      | tuple =>
        rw [Bool.and_eq_true] at h
        replace h := h.2
        exact bi_rest (nm := "tuple") rfl (soundEs args g) (fun z hs hp => px_bi (x := "tuple") g cR_tuple (.inr ⟨_, rfl⟩) rfl (g.kn.blt _ (by decide)) z hs hp) h
      | list =>
        rw [Bool.and_eq_true] at h
        replace h := h.2
        exact bi_rest (nm := "list") rfl (soundEs args g) (fun z hs hp => px_bi (x := "list") g cR_list (.inr ⟨_, rfl⟩) rfl (g.kn.blt _ (by decide)) z hs hp) h
      | all =>
        rw [Bool.and_eq_true] at h
        have hh : G.inH = false := by have q := h.1; unfold quietBi at q; simpa using q
        replace h := h.2
        exact bi_rest (nm := "all") rfl (soundEs args g) (fun z hs hp => px_bi (x := "all") g (cR_all (g.cold hh).1) (.inl ⟨_, rfl⟩) rfl (g.kn.blt _ (by decide)) z hs hp) h
      | any =>
        rw [Bool.and_eq_true] at h
        have hh : G.inH = false := by have q := h.1; unfold quietBi at q; simpa using q
        replace h := h.2
        exact bi_rest (nm := "any") rfl (soundEs args g) (fun z hs hp => px_bi (x := "any") g (cR_any (g.cold hh).1) (.inl ⟨_, rfl⟩) rfl (g.kn.blt _ (by decide)) z hs hp) h
      | sum =>
        rw [Bool.and_eq_true] at h
        have hh : G.inH = false := by have q := h.1; unfold quietBi at q; simpa using q
        replace h := h.2
        exact bi_rest (nm := "sum") rfl (soundEs args g) (fun z hs hp => px_bi (x := "sum") g (cR_sum (g.cold hh).1) (.inl ⟨_, rfl⟩) rfl (g.kn.blt _ (by decide)) z hs hp) h
      | max2 =>
        rw [Bool.and_eq_true] at h
        have hh : G.inH = false := by have q := h.1; unfold quietBi at q; simpa using q
        replace h := h.2
        exact bi_rest (nm := "max") rfl (soundEs args g) (fun z hs hp => px_bi (x := "max") g (cR_max2 (g.cold hh).1) (.inl ⟨_, rfl⟩) rfl (g.kn.blt _ (by decide)) z hs hp) h
      | min2 =>
        rw [Bool.and_eq_true] at h
        have hh : G.inH = false := by have q := h.1; unfold quietBi at q; simpa using q
        replace h := h.2
        exact bi_rest (nm := "min") rfl (soundEs args g) (fun z hs hp => px_bi (x := "min") g (cR_min2 (g.cold hh).1) (.inl ⟨_, rfl⟩) rfl (g.kn.blt _ (by decide)) z hs hp) h
      | abs =>
        rw [Bool.and_eq_true] at h
        replace h := h.2
        exact bi_rest (nm := "abs") rfl (soundEs args g) (fun z hs hp => px_bi (x := "abs") g cR_abs (.inl ⟨_, rfl⟩) rfl (g.kn.blt _ (by decide)) z hs hp) h
      | str =>
        rw [Bool.and_eq_true] at h
        replace h := h.2
        exact bi_rest (nm := "str") rfl (soundEs args g) (fun z hs hp => px_bi (x := "str") g cR_str (.inr ⟨_, rfl⟩) rfl (g.kn.blt _ (by decide)) z hs hp) h
    · cases h
  | .bm m a args, X, W, e, g, h => by
    unfold chkE at h
    split at h
    · rename_i o y ap xs p
      simp only [Bool.and_eq_true, decide_eq_true_eq] at h
      obtain ⟨⟨⟨⟨⟨⟨hok, rfl⟩, hb⟩, hn⟩, hl⟩, ha⟩, hs⟩ := h
      have pa := (soundE a g ha).1
      cases xs with
      | nil => cases hn
      | cons y ys =>
        have z := soundEs args g hs
        exact okE_of rfl rfl (px_bm hok pa hb z.1 z.2.1 (by rw [hn]; decide) hl)
    · cases h
  | .pick ks vs i, X, W, e, g, h => by
    unfold chkE at h
    split at h
    · rename_i keys values pd j pos
      simp only [Bool.and_eq_true, decide_eq_true_eq, Bool.not_eq_true'] at h
      obtain ⟨⟨⟨⟨⟨⟨⟨hk, hl⟩, hne⟩, h15⟩, hnd⟩, hp⟩, hv⟩, hi⟩ := h
      obtain ⟨k1, k2⟩ := keys_ok hk
      obtain ⟨q1, q2⟩ := soundPs vs g (pos := pd) hk hl hv
      have hne' : keys ≠ [] := by
        intro z
        subst z
        cases ks with
        | nil => cases hne
        | cons => simp at k2
      exact okE_of rfl rfl (px_pick (T := T) (call := runFn T wf k) (by have := g.units; omega) q2 hnd h15 (pe_disp q1 k1 hl hne' (by rw [← k2]; exact h15)) (soundE i g hi).1 hp)
    · cases h
  | .comp elt tg own it cond, X, W, e, g, h => by
    unfold chkE at h
    split at h
    · rename_i x t i fs csc p
      simp only [Bool.and_eq_true, Bool.or_eq_true, Bool.not_eq_true'] at h
      obtain ⟨⟨⟨⟨⟨⟨hh, hb⟩, ht⟩, hi⟩, hc⟩, he⟩, ho⟩ := h
      cases hq : G.inH with
      | true =>
        rw [hq] at hh
        have hx := hh.elim (fun z => by cases z) id
        obtain ⟨a, j, rfl, rfl⟩ := hotIt_ok hx
        have z := soundIH a g hi
        exact okE_of rfl rfl (px_compH g hq rfl (stayI (.range1 a) _) (tgOwn_ok ho) hb z.1 z.2 (fun s H C cl fp => tgAt_of (c := false) (fun q => by cases q) ht) (fun s H C cl fp => soundC cond (g.blkH s H csc C cl fp) hc) (fun s H C cl fp => (soundE elt (g.blkH s H csc C cl fp) he).1))
      | false =>
      replace hh := hq
      have z := soundI it g hi
      exact okE_of rfl rfl (px_comp g hh (stayI it _) (tgOwn_ok ho) hb z.1 z.2 (fun s H C cl fp => tgAt_of (c := false) (fun q => by cases q) ht) (fun s H C cl fp => soundC cond (g.blk hh s H csc C cl fp) hc) (fun s H C cl fp => (soundE elt (g.blk hh s H csc C cl fp) he).1))
    · cases h
  | .compB elt tg own it cond, X, W, e, g, h => by
    unfold chkE at h
    split at h
    · rename_i x t i fs csc p
      simp only [Bool.and_eq_true, Bool.or_eq_true, Bool.not_eq_true'] at h
      obtain ⟨⟨⟨⟨⟨⟨hh, hb⟩, ht⟩, hi⟩, hc⟩, he⟩, ho⟩ := h
      cases hq : G.inH with
      | true =>
        rw [hq] at hh
        have hx := hh.elim (fun z => by cases z) id
        obtain ⟨a, j, rfl, rfl⟩ := hotIt_ok hx
        have z := soundIH a g hi
        exact okE_of rfl rfl (px_compBH g hq rfl (stayI (.range1 a) _) (tgOwn_ok ho) hb z.1 z.2 (fun s H C cl fp => tgAt_of (c := false) (fun q => by cases q) ht) (fun s H C cl fp => soundC cond (g.blkH s H csc C cl fp) hc) (fun s H C cl fp => (soundE elt (g.blkH s H csc C cl fp) he).1))
      | false =>
      replace hh := hq
      have z := soundI it g hi
      exact okE_of rfl rfl (px_compB g hh (stayI it _) (tgOwn_ok ho) hb z.1 z.2 (fun s H C cl fp => tgAt_of (c := false) (fun q => by cases q) ht) (fun s H C cl fp => soundC cond (g.blk hh s H csc C cl fp) hc) (fun s H C cl fp => (soundE elt (g.blk hh s H csc C cl fp) he).1))
    · cases h
theorem soundEs : ∀ (es : Exs) {X : Cx} {W : WX} {xs : List Expr}, Gd T G wf A k X W → chkEs G X.N X.env.scope es xs = true → OkEs T wf k A X W es xs
  | .nil, X, W, xs, g, h => by
    unfold chkEs at h
    cases xs with
    | nil => exact ⟨px_nil, rfl, fun z => by cases z⟩
    | cons => cases h
  | .cons a as, X, W, xs, g, h => by
    unfold chkEs at h
    split at h
    · rename_i x r
      simp only [Bool.and_eq_true] at h
      have za := soundE a g h.1.2
      have zs := soundEs as g h.2
      refine ⟨px_cons za.1 h.1.1 zs.1, by rw [List.all_cons, h.1.1, zs.2.1]; rfl, fun _ pos => ?_⟩
      cases as with
      | nil =>
        cases r with
        | nil => exact ⟨pe_one za.1, pe_one za.1, pw_and1 za.2, pw_or1 za.2⟩
        | cons => unfold chkEs at h; cases h.2
      | cons b bs =>
        cases r with
        | nil => unfold chkEs at h; cases h.2
        | cons y ys =>
          have q := zs.2.2 rfl pos
          exact ⟨px_and2 za.1 q.1, px_or2 za.1 q.2.1, pw_and2 za.2 q.2.2.1, pw_or2 za.2 q.2.2.2⟩
    · cases h
theorem soundKs : ∀ (es : Exs) {X : Cx} {W : WX} {kws : List Keyword}, Gd T G wf A k X W → chkEs G X.N X.env.scope es (kws.map (·.value)) = true → PK X kws (TAo X.K A W (evalEs T (runFn T wf k) es))
  | .nil, X, W, kws, g, h => by
    unfold chkEs at h
    cases kws with
    | nil => exact pxk_nil
    | cons => cases h
  | .cons a as, X, W, kws, g, h => by
    cases kws with
    | nil => unfold chkEs at h; cases h
    | cons kw r =>
      have h' : (plainE kw.value && chkE G X.N X.env.scope a kw.value && chkEs G X.N X.env.scope as (r.map (·.value))) = true := by unfold chkEs at h; exact h
      simp only [Bool.and_eq_true] at h'
      obtain ⟨nm, v, p⟩ := kw
      exact pxk_cons (soundE a g h'.1.2).1 (soundKs as g h'.2)
theorem soundPs : ∀ (es : Exs) {X : Cx} {W : WX} {ks : List L2.Key} {keys : List (Option Expr)} {values : List Expr} {pos : Pos}, Gd T G wf A k X W → chkKeys ks keys = true → keys.length = values.length → chkEs G X.N X.env.scope es values = true → PPs X pos keys values (trsOf T (runFn T wf k) X.K A W ks es) ∧ ks.length = esLen es
  | .nil, X, W, ks, keys, values, pos, g, hk, hl, h => by
    unfold chkEs at h
    cases values with
    | nil =>
      cases keys with
      | nil =>
        cases ks with
        | nil => exact ⟨pps_nil, rfl⟩
        | cons => have := (keys_ok hk).2; cases this
      | cons => cases hl
    | cons => cases h
  | .cons a as, X, W, ks, keys, values, pos, g, hk, hl, h => by
    cases values with
    | nil => unfold chkEs at h; cases h
    | cons v vs =>
      have h' : (plainE v && chkE G X.N X.env.scope a v && chkEs G X.N X.env.scope as vs) = true := by unfold chkEs at h; exact h
      simp only [Bool.and_eq_true] at h'
      cases keys with
      | nil => cases hl
      | cons o keys =>
        cases ks with
        | nil => have := (keys_ok hk).2; cases this
        | cons c ks =>
          obtain ⟨⟨e, rfl, pe⟩, hk'⟩ := key_ok (X := X) hk
          obtain ⟨q1, q2⟩ := soundPs as (pos := pos) g hk' (by simpa using hl) h'.2
          exact ⟨pps_cons pe (soundE a g h'.1.2).1 q1, by simp [esLen, q2]⟩
theorem soundO : ∀ (o : Exo) {X : Cx} {W : WX} {oe : Option Expr}, Gd T G wf A k X W → chkO G X.N X.env.scope o oe = true → PO X oe (TOo X.K A W (evalO T (runFn T wf k) o))
  | .no, X, W, oe, g, h => by
    unfold chkO at h
    cases oe with
    | none => exact px_no
    | some _ => cases h
  | .so a, X, W, oe, g, h => by
    unfold chkO at h
    split at h
    · exact px_so (soundE a g h).1
    · cases h
theorem soundC : ∀ (o : Exo) {X : Cx} {xs : List Expr}, Gd T G wf A k X W0 → chkC G X.N X.env.scope o xs = true → PTs X xs (TTo X.K A W0 (evalC T (runFn T wf k) o))
  | .no, X, xs, g, h => by
    unfold chkC at h
    cases xs with
    | nil => exact pts_no
    | cons => cases h
  | .so a, X, xs, g, h => by
    unfold chkC at h
    split at h
    · exact pts_one (soundE a g h).2
    · cases h
theorem soundI : ∀ (it : It) {X : Cx} {W : WX} {e t : Expr}, Gd T G wf A k X W → chkI G X.N X.env.scope it e t = true → PI X t e (TIo X.K A W (evalI T (runFn T wf k) it)) ∧ notSet e = true
  | .seq a, X, W, e, t, g, h => by
    unfold chkI at h
    simp only [Bool.and_eq_true] at h
    exact ⟨pi_seq (soundE a g h.2).1, h.1.2⟩
  | .range1 a, X, W, e, t, g, h => by
    unfold chkI at h
    split at h
    · simp only [Bool.and_eq_true, decide_eq_true_eq] at h
      obtain ⟨⟨⟨rfl, hx⟩, hp⟩, ha⟩ := h
      exact ⟨pi_r1 g hx (soundE a g ha).1 hp, rfl⟩
    · cases h
  | .range2 a b, X, W, e, t, g, h => by
    unfold chkI at h
    split at h
    · simp only [Bool.and_eq_true, decide_eq_true_eq] at h
      obtain ⟨⟨⟨⟨⟨rfl, hx⟩, hp⟩, hp2⟩, ha⟩, hb⟩ := h
      exact ⟨pi_r2 g hx (soundE a g ha).1 hp (soundE b g hb).1 hp2, rfl⟩
    · cases h
  | .zip a b, X, W, e, t, g, h => by
    unfold chkI at h
    split at h
    · simp only [Bool.and_eq_true, decide_eq_true_eq] at h
      obtain ⟨⟨⟨⟨⟨⟨rfl, hx⟩, hp⟩, hp2⟩, ha⟩, hb⟩, ht⟩ := h
      cases t with
      | Tuple => exact ⟨pi_z g hx (soundE a g ha).1 hp (soundE b g hb).1 hp2, rfl⟩
      | _ => cases ht
    · cases h
  | .enum a, X, W, e, t, g, h => by
    unfold chkI at h
    split at h
    · simp only [Bool.and_eq_true, decide_eq_true_eq] at h
      obtain ⟨⟨⟨⟨rfl, hx⟩, hp⟩, ha⟩, ht⟩ := h
      cases t with
      | Tuple => exact ⟨pi_en g hx (soundE a g ha).1 hp, rfl⟩
      | _ => cases ht
    · cases h
  | .rev a, X, W, e, t, g, h => by
    unfold chkI at h
    split at h
    · simp only [Bool.and_eq_true, decide_eq_true_eq] at h
      obtain ⟨⟨⟨rfl, hx⟩, hp⟩, ha⟩ := h
      exact ⟨pi_rv g hx (soundE a g ha).1 hp, rfl⟩
    · cases h
theorem soundIH : ∀ (a : Ex) {X : Cx} {W : WX} {e t : Expr}, Gd T G wf A k X W → chkI G X.N X.env.scope (.range1 a) e t = true → L2H.PIH X t e (TIo X.K A W (evalI T (runFn T wf k) (.range1 a))) ∧ notSet e = true
  | a, X, W, e, t, g, h => by
    unfold chkI at h
    split at h
    · simp only [Bool.and_eq_true, decide_eq_true_eq] at h
      obtain ⟨⟨⟨rfl, hx⟩, hp⟩, ha⟩ := h
      exact ⟨pi_r1H g hx (soundE a g ha).1 hp, rfl⟩
    · cases h
end
end
end CN
set_option Elab.async false
set_option linter.all false
set_option maxRecDepth 100000
set_option maxHeartbeats 2000000
/-! CnStm: statements - the check, the readings, the rules. -/
namespace CN
open PySem PyProof.Rows L2

def isComp : Expr → Bool
  | .ListComp _ _ _ _ => true
  | .SetComp _ _ _ _ => true
  | .DictComp _ _ _ _ _ => true
  | _ => false
def notSD : Expr → Bool
  | .SetComp _ _ _ _ => false
  | .DictComp _ _ _ _ _ => false
  | _ => true
def isTupE : Expr → Option (List Expr)
  | .Tuple vs _ _ => some vs
  | _ => none
/-- does a comprehension stored to a name keep its block's own way? -/
def swapB (sc : Scope) : Expr → Expr → Bool
  | .ListComp _ _ s p, .Name t pos => decide (sc.names.lookup t = some .local) && (pos.line == p.line) && !(s.names.any fun (n, k) => n == t && (k == .local || k == .cell))
  | _, _ => false
/-- a, b = x, y: stored from the right -/
def parOk (ts vs : List Expr) : Bool := vs.all plainE && !(vs.all (foldedForSure 8)) && !(vs.all (constantsAlone 8)) && match ts with
  | [.Name x px, .Name y py] => (px.line == py.line) && decide ([x, y].eraseDups.length = 2) && decide (x ≠ y)
  | [.Name x px, .Name y py, .Name z pz] => (px.line == py.line) && (px.line == pz.line) && decide ([x, y, z].eraseDups.length = 3) && decide (x ≠ y) && decide (x ≠ z) && decide (y ≠ z)
  | _ => false
/-- two names, not both the frame's plain own: stored from the left -/
def cellPar (sc : Scope) (ts vs : List Expr) : Bool := match ts, vs with
  | [.Name x _, .Name y _], [_, _] => !(decide (sc.names.lookup x = some .local) && decide (sc.names.lookup y = some .local))
  | _, _ => false
def compE : Ex → Bool
  | .comp _ _ _ _ _ => true
  | .compB _ _ _ _ _ => true
  | _ => false
def augOk : BOp → Bool
  | .add => true
  | .sub => true
  | _ => false
mutual
def chkS (G : Gi) (N : List Str) (sc : Scope) : CN.St → Stmt → Bool
  | .asg t e, st => match st with
    | .Assign [tg] v _ => chkTg true N sc t tg && chkE G N sc e v && notSD v && (!G.inH || nmTg t) && (match tg with | .Tuple ts _ _ => !isComp v && (match isTupE v with | some vs => cellPar sc ts vs | none => true) | .Name _ _ => !swapB sc v tg || (compE e && !G.inH) | _ => false)
    | _ => false
  | .sub o i e, st => match st with
    | .Assign [.Subscript x y _] v _ => plainE y && chkE G N sc o x && chkE G N sc i y && chkE G N sc e v
    | _ => false
  | .fld o f e, st => match st with
    | .Assign [.Attribute x y _] v _ => decide (G.flds[f]? = some y) && chkE G N sc o x && chkE G N sc e v
    | _ => false
  | .par is es, st => match st with
    | .Assign [.Tuple ts _ _] (.Tuple vs _ _) _ => !G.inH && chkTgN false N sc is ts && chkEs G N sc es vs && parOk ts vs && decide (is.length = vs.length)
    | _ => false
  | .aug i op e, st => match st with
    | .AugAssign (.Name x _) o v _ => decide (N[i]? = some x) && isLoc sc x && decide (o = pyOp op) && augOk op && chkE G N sc e v
    | _ => false
  | .augf o f op e, st => match st with
    | .AugAssign (.Attribute x y _) p v _ => decide (G.flds[f]? = some y) && decide (p = pyOp op) && augOk op && chkE G N sc o x && chkE G N sc e v
    | _ => false
  | .expr e, st => match st with
    | .Expr v _ => !isComp v && chkE G N sc e v
    | _ => false
  | .ret e, st => match st with
    | .Return (some v) _ => chkE G N sc e v
    | _ => false
  | .retN, st => match st with
    | .Return none _ => true
    | _ => false
  | .ite t a b, st => match st with
    | .If c x y _ => chkE G N sc t c && chkSs G N sc a x && chkSs G N sc b y
    | _ => false
  | .whl t b, st => match st with
    | .While c x [] _ => chkE G N sc t c && chkSs G N sc b x
    | _ => false
  | .for_ tg it b, st => match st with
    | .For t i x [] _ => (!G.inH || hotIt it tg) && chkTg true N sc tg t && chkI G N sc it i t && chkSs G N sc b x
    | _ => false
  | .pass, st => match st with
    | .Pass _ => true
    | _ => false
  | .brk, st => match st with
    | .Break _ => true
    | _ => false
  | .cont, st => match st with
    | .Continue _ => true
    | _ => false
  | .raise c es, st => match st with
    | .Raise (some (.Call (.Name x _) xs [] _)) none _ => !G.inH && decide (G.excs[c]? = some x) && isGl sc x && chkEs G N sc es xs && !xs.isEmpty
    | _ => false
  | .thru b, st => match st with
    | .Try x (_ :: _) [] [] _ => chkSs G N sc b x
    | _ => false
  | .try_ b hs, st => match st with
    | .Try x (hd :: hds) [] [] _ => !G.inH && chkSs G N sc b x && chkHs G N sc hs (hd :: hds)
    | _ => false
  | .never, _ => true
def chkSs (G : Gi) (N : List Str) (sc : Scope) : Sts → List Stmt → Bool
  | .nil, xs => xs.isEmpty
  | .cons a as, xs => match xs with
    | x :: r => chkS G N sc a x && chkSs G N sc as r
    | [] => false
def chkHs (G : Gi) (N : List Str) (sc : Scope) : Hds → List ExceptHandler → Bool
  | .nil, hs => hs.isEmpty
  | .cons c i b r, hs => match hs with
    | .ExceptHandler (some (.Name x _)) nm (b0 :: bs) _ :: hr => decide (G.excs[c]? = some x) && isGl sc x && (match nm with | some n => decide (N[i]? = some n) && isLoc sc n | none => decide (N.length ≤ i)) && chkSs { G with inH := true } N sc b (b0 :: bs) && chkHs G N sc r hr
    | _ => false
end

/-- what an answer asks of the ends -/
def PostS (K : PySem.W.Frag) (A : Ad) (W : WX) (μ : Mu) (H : Hp) (D : Ends) : Res CN.Flow → Prop
  | .ok (.next e) S => ∀ σ' μ' H', ER K A μ' H' e σ' → HR K A μ' S H' → Mo μ H μ' H' → D.nx σ' H'
  | .ok (.brk e) S => ∀ σ' μ' H', ER K A μ' H' e σ' → HR K A μ' S H' → Mo μ H μ' H' → D.bk σ' H'
  | .ok (.cont e) S => ∀ σ' μ' H', ER K A μ' H' e σ' → HR K A μ' S H' → Mo μ H μ' H' → D.ct σ' H'
  | .ok (.ret d) S => ∀ v μ' H', DR K A μ' H' d v → HR K A μ' S H' → Mo μ H μ' H' → D.rt v H'
  | .ok (.exc e c fs) S => ∀ cl dx σ' μ' H', ER K A μ' H' e σ' → XR K A μ' H' c fs cl dx → HR K A μ' S H' → Mo μ H μ' H' → W cl dx σ' H'
  | _ => False
theorem PostS.base {K : PySem.W.Frag} {A : Ad} {W : WX} {μ μ' : Mu} {H H' : Hp} {D : Ends} {r : Res CN.Flow} (m : Mo μ H μ' H') (h : PostS K A W μ H D r) : PostS K A W μ' H' D r := by
  unfold PostS at h ⊢
  split
  · exact fun σ2 μ2 H2 r R M => h σ2 μ2 H2 r R (m.trans M)
  · exact fun σ2 μ2 H2 r R M => h σ2 μ2 H2 r R (m.trans M)
  · exact fun σ2 μ2 H2 r R M => h σ2 μ2 H2 r R (m.trans M)
  · exact fun σ2 μ2 H2 r R M => h σ2 μ2 H2 r R (m.trans M)
  · exact fun cl dx σ2 μ2 H2 e r R M => h cl dx σ2 μ2 H2 e r R (m.trans M)
  · rename_i x n1 n2 n3 n4 n5
    split at h
    · exact absurd rfl (n1 _ _)
    · exact absurd rfl (n2 _ _)
    · exact absurd rfl (n3 _ _)
    · exact absurd rfl (n4 _ _)
    · exact absurd rfl (n5 _ _ _ _)
    · exact h
/-- other ends -/
theorem PostS.imp {K : PySem.W.Frag} {A : Ad} {W : WX} {μ : Mu} {H : Hp} {D D' : Ends} {r : Res CN.Flow} (h : PostS K A W μ H D r) (hn : ∀ σ H, D.nx σ H → D'.nx σ H) (hb : ∀ σ H, D.bk σ H → D'.bk σ H) (hc : ∀ σ H, D.ct σ H → D'.ct σ H) (hr : ∀ v H, D.rt v H → D'.rt v H) : PostS K A W μ H D' r := by
  cases r with
  | stuck => exact h
  | err => exact h
  | ok f S =>
    cases f with
    | next e => exact fun σ2 μ2 H2 r R M => hn _ _ (h σ2 μ2 H2 r R M)
    | ret d => exact fun σ2 μ2 H2 r R M => hr _ _ (h σ2 μ2 H2 r R M)
    | brk e => exact fun σ2 μ2 H2 r R M => hb _ _ (h σ2 μ2 H2 r R M)
    | cont e => exact fun σ2 μ2 H2 r R M => hc _ _ (h σ2 μ2 H2 r R M)
    | exc e c fs => exact h
abbrev TSo (K : PySem.W.Frag) (A : Ad) (W : WX) (m : CN.Env → Hs → Res CN.Flow) : TS := fun D σ H => ∃ (env : CN.Env) (S : Hs) (μ : Mu), ER K A μ H env σ ∧ HR K A μ S H ∧ PostS K A W μ H D (m env S)
structure GdS (T : Tb) (G : Gi) (wf : Nat) (A : Ad) (k : Nat) (X : Cx) (W : WX) : Prop extends Gd T G wf A k X W where
  fn : ∀ x, X.fn x = true
  bk : X.env.blockKind = .function
  stk : X.stack = X.env :: X.outer
  frm : X.env.frame = some X.env.locals
section
variable {K : PySem.W.Frag} {A : Ad} {W : WX} {σ : L2.St} {μ : Mu} {H : Hp} {env : CN.Env} {S : Hs}
theorem sseq {α β : Type} {Re : Rl α β} {m : CN.Env → Hs → Res α} {f : α → Hs → Res CN.Flow} {D : Ends} {k : β → Hp → Prop} (E : ER K A μ H env σ) (R : HR K A μ S H) (h : PostS K A W μ H D ((m env S).bs env f))
    (hk : ∀ a S1 b μ1 H1, m env S = .ok a S1 → Re μ1 H1 a b → HR K A μ1 S1 H1 → ER K A μ1 H1 env σ → Mo μ H μ1 H1 → PostS K A W μ1 H1 D (f a S1) → k b H1) : Rd1 Re K A W m σ H k := by
  refine ⟨env, S, μ, E, R, ?_⟩
  cases e : m env S with
  | stuck => rw [e] at h; exact h
  | ok a S1 =>
    rw [e] at h
    exact fun b μ1 H1 r R1 M => hk a S1 b μ1 H1 e r R1 (E.mono M) M (h.base M)
  | err c fs S1 =>
    rw [e] at h
    exact fun cl dx μ1 H1 x R1 M => h cl dx σ μ1 H1 (E.mono M) x R1 M
theorem PostS.of {D : Ends} {o : Option CN.Flow} {S : Hs} (h : PostS K A W μ H D (Res.of o S)) : ∃ f, o = some f ∧ PostS K A W μ H D (.ok f S) := by
  cases o with
  | none => exact h.elim
  | some f => exact ⟨f, rfl, h⟩
end
section
variable {X : Cx} {A : Ad} {W : WX} {st : Stmt}
theorem PS.imp {t t' : TS} (h : PS X st t) (f : ∀ D σ H, t' D σ H → t D σ H) : PS X st t' := ⟨fun pins s σ H D I q => h.run pins s σ H D I (f D σ H q)⟩
theorem PSs.imp {sts : List Stmt} {t t' : TS} (h : PSs X sts t) (f : ∀ D σ H, t' D σ H → t D σ H) : PSs X sts t' := ⟨fun pins s σ H D I q => h.run pins s σ H D I (f D σ H q)⟩
variable {m : CN.Env → Hs → Res D} {e : Expr} {pos : Pos}
theorem map_next {env : CN.Env} {t : Tg} {d : D} {K : PySem.W.Frag} {μ : Mu} {H : Hp} {D : Ends} {S : Hs} (h : PostS K A W μ H D (Res.of ((assignTg env t d).map .next) S)) : ∃ env', assignTg env t d = some env' ∧ PostS K A W μ H D (.ok (.next env') S) := by
  cases e : assignTg env t d with
  | none => rw [e] at h; exact h.elim
  | some env' => rw [e] at h; exact ⟨env', rfl, h⟩
theorem asg_read {K : PySem.W.Frag} {t : Tg} {D : Ends} {σ : L2.St} {H : Hp} (h : TSo K A W (asgM t m) D σ H) : tAsg (TEo K A W m) (gOf K t) D σ H := by
  obtain ⟨env, S, μ, E, R, h⟩ := h
  exact sseq E R h fun d S1 x μ1 H1 _ r1 R1 E1 M1 h1 => by
    obtain ⟨env', e, q⟩ := map_next h1
    exact tgR _ _ _ _ _ _ _ _ E1 r1 e fun σ' E' _ => q σ' μ1 H1 E' R1 (Mo.refl _ _)
theorem swap_no {v : Expr} {t : Option Expr} {l : Nat} {env : PySem.Env} (h : isComp v = false) : swapsWith v t l env = pure false := by
  cases v <;> first | rfl | cases h
theorem swap_nm {v t : Expr} {l : Nat} {env : PySem.Env} (hb : env.blockKind = .function) (h : ∀ x p, t = .Name x p → swapB env.scope v t = false) (hn : notSD v = true) : swapsWith v (some t) l env = pure false := by
  cases v with
  | ListComp a b s p =>
    cases t with
    | Name x q =>
      have h' := h x q rfl
      have e : swapsWith (.ListComp a b s p) (some (.Name x q)) l env = pure (env.blockKind == .function && env.kindOf x == some .local && q.line == p.line && !(s.names.any fun (n, k) => n == x && (k == .local || k == .cell))) := rfl
      rw [e, hb]
      have h2 : (decide (env.scope.names.lookup x = some .local) && (q.line == p.line) && !(s.names.any fun (n, k) => n == x && (k == .local || k == .cell))) = false := h'
      have e2 : (env.kindOf x == some NameKind.local) = decide (env.scope.names.lookup x = some .local) := by
        show (env.scope.names.lookup x == some NameKind.local) = _
        by_cases q : env.scope.names.lookup x = some .local
        · simp [q]
        · simp [q]
      rw [e2, show ((ScopeKind.function == ScopeKind.function) : Bool) = true from rfl, Bool.true_and, h2]
    | _ => rfl
  | SetComp => cases hn
  | DictComp => cases hn
  | _ => rfl
theorem ps_asgN (g : GdS T G wf A k X W) {t : Tg} (hc : nmTg t = false → G.inH = false) {te : Expr} (hs : swapsWith e (some te) pos.line X.env = pure false) (hw : swappedStores [te] e X.env = pure none) (ht : TgAt X t te) (he : PE X e (TEo X.K A W m)) : PS X (.Assign [te] e pos) (TSo X.K A W (asgM t m)) := by
  refine PS.imp (ps_asg he (pg_of (fun z => (g.cold (hc z)).1) g.nd ht) hs hw ?_) fun D σ H h => asg_read h
  cases ht <;> rfl
end
end CN
set_option Elab.async false
set_option linter.all false
set_option maxRecDepth 100000
set_option maxHeartbeats 2000000
/-! CnStm2: the rules of the statements. -/
namespace CN
open PySem PyProof.Rows L2

section
variable {X : Cx} {A : Ad} {W : WX} {T : Tb} {G : Gi} {wf k : Nat} {st : Stmt} {m mo mi : ME} {o i e : Expr} {pos p2 : Pos}
/-- a comprehension stored the block's own way -/
theorem ps_asgLc (g : GdS T G wf A k X W) (hh : G.inH = false) {n : Nat} {y : Str} {py : Pos} {it : Expr} {ifs : List Expr} {csc : Scope} {own : List Nat} {tg : Tg} {te elt : Expr} {mi : CN.Env → Hs → Res (List D × Option (Nat × List D))} {mc : MT} {me : ME} (hS : StayI mi) (ho : ∀ i ∈ tgIdx tg, i ∈ own)
    (hy : X.N[n]? = some y) (hyl : X.env.scope.names.lookup y = some .local) (hsw : swapB X.env.scope (.ListComp elt [⟨te, it, ifs, 0⟩] csc p2) (.Name y py) = true)
    (hb : blkC X.N X.env.scope csc (ownNames X.N own) = true) (hi : PI X te it (TIo X.K A W mi)) (hn : notSet it = true)
    (ht : ∀ (s : Shared) (H : Hp) (C : Addr) (cl : List (Str × Addr)) (fp : List Addr), TgAt (X.blk s H csc (compEnvC csc cl C X.env) fp) tg te)
    (hc : ∀ (s : Shared) (H : Hp) (C : Addr) (cl : List (Str × Addr)) (fp : List Addr), PTs (X.blk s H csc (compEnvC csc cl C X.env) fp) ifs (TTo X.K A W0 mc))
    (he : ∀ (s : Shared) (H : Hp) (C : Addr) (cl : List (Str × Addr)) (fp : List Addr), PE (X.blk s H csc (compEnvC csc cl C X.env) fp) elt (TEo X.K A W0 me)) :
    PS X (.Assign [.Name y py] (.ListComp elt [⟨te, it, ifs, 0⟩] csc p2) pos) (TSo X.K A W (asgM (.nm n) (compM own tg mi mc me))) ∧
    PS X (.Assign [.Name y py] (.ListComp elt [⟨te, it, ifs, 0⟩] csc p2) pos) (TSo X.K A W (asgM (.nm n) (compBM own tg mi mc me))) := by
  have hsw' : swapsWith (.ListComp elt [⟨te, it, ifs, 0⟩] csc p2) (some (.Name y py)) pos.line X.env = pure true := by
    have e : swapsWith (.ListComp elt [⟨te, it, ifs, 0⟩] csc p2) (some (.Name y py)) pos.line X.env = pure (X.env.blockKind == .function && X.env.kindOf y == some .local && py.line == p2.line && !(csc.names.any fun (n, k) => n == y && (k == .local || k == .cell))) := rfl
    have h2 : (decide (X.env.scope.names.lookup y = some .local) && (py.line == p2.line) && !(csc.names.any fun (n, k) => n == y && (k == .local || k == .cell))) = true := hsw
    have e2 : (X.env.kindOf y == some NameKind.local) = decide (X.env.scope.names.lookup y = some .local) := by
      show (X.env.scope.names.lookup y == some NameKind.local) = _
      simp [hyl]
    rw [e, g.bk, e2, show ((ScopeKind.function == ScopeKind.function) : Bool) = true from rfl, Bool.true_and, h2]
  have base := ps_setLc (g := gOf X.K tg) (spos := pos) (g.cold hh).1 g.nd hy hyl hsw' hi (blkOk_by hb) (fun s H C cl fp => pg_of (X := X.blk s H csc (compEnvC csc cl C X.env) fp) (fun _ => (g.cold hh).1) g.nd (ht s H C cl fp)) hc he (notSet_ok hn X.env)
  rw [own_map] at base
  constructor
  · refine PS.imp base fun D σ H h => ?_
    obtain ⟨env, S, μ, E, R, h⟩ := asg_read h
    exact seq E R h fun p S1 J μ1 H1 e ⟨St, I, st⟩ R1 E1 M1 h1 => comp_read E1 R1 I st (hS _ _ _ _ e).1 ho h1
  · refine PS.imp base fun D σ H h => ?_
    obtain ⟨env, S, μ, E, R, h⟩ := asg_read h
    refine seq E R h fun p S1 J μ1 H1 e ⟨St, I, st⟩ R1 E1 M1 h1 => ?_
    obtain ⟨h2, h3⟩ := hS _ _ _ _ e
    refine compB_read E1 R1 I st ?_ (fun n es hz => Nat.ne_of_lt (h3 n es hz)) ho h1
    cases hp : p.2 with
    | none => rfl
    | some q =>
      obtain ⟨n, es⟩ := q
      rw [hp] at h2
      have hl := h3 n es hp
      show (match (S1 ++ [GO.lst []])[n]? with | some (.lst es') => CN.D.eqbs es' es | _ => false) = true
      rw [List.getElem?_append_left hl]
      exact h2
theorem ps_subN (ho : PE X o (TEo X.K A W mo)) (hi : PE X i (TEo X.K A W mi)) (he : PE X e (TEo X.K A W m)) (hp : plainE i = true) : PS X (.Assign [.Subscript o i p2] e pos) (TSo X.K A W (subM mo mi m)) := by
  refine PS.imp (ps_asg he (pg_sub ho hi set_list (by intro v; cases i <;> first | rfl | cases hp)) (by cases e <;> rfl) (by cases e <;> rfl) (by cases i <;> first | rfl | cases hp)) fun D σ H ⟨env, S, μ, E, R, h⟩ => ?_
  refine sseq E R h fun d S1 x μ1 H1 _ r1 R1 E1 M1 h1 => sseq E1 R1 h1 fun a S2 ov μ2 H2 _ r2 R2 E2 M2 h2 => sseq E2 R2 h2 fun b S3 iv μ3 H3 _ r3 R3 E3 M3 h3 => ?_
  cases a with
  | ref n =>
    dsimp only at h3
    split at h3
    · rename_i ds kk hs hm
      split at h3
      · rename_i j hj
        cases r3
        cases r2 with
        | ref hn =>
          have hn3 := M3.get hn
          obtain ⟨ho, h4, h5⟩ := R3.obj _ _ _ hs hn3
          cases h5 with
          | @lst _ vs ra =>
            have Mw : Mo μ3 H3 μ3 (upd H3 _ (.lst (vs.set j x))) := Mo.write (List.mem_of_getElem? hn3)
            have ra2 : DRs X.K A μ3 H3 (ds.set j d) (vs.set j x) := ra.set j (DR.mono (M2.trans M3) r1)
            refine ⟨_, vs, kk, j, rfl, rfl, h4, by rw [DRs.length ra]; exact hj, h3 σ μ3 _ (E3.mono Mw) (R3.write (g := .lst (ds.set j d)) hn3 (.lst ra2)) Mw⟩
      · exact h3.elim
    · exact h3.elim
  | _ => exact h3.elim
theorem ps_fldN (g : GdS T G wf A k X W) {f : Nat} {y : Str} (hf : G.flds[f]? = some y) (ho : PE X o (TEo X.K A W mo)) (he : PE X e (TEo X.K A W m)) : PS X (.Assign [.Attribute o y p2] e pos) (TSo X.K A W (fldM mo f m)) := by
  refine PS.imp (ps_fld ho he (by cases e <;> rfl)) fun D σ H ⟨env, S, μ, E, R, h⟩ => ?_
  refine sseq E R h fun d S1 x μ1 H1 _ r1 R1 E1 M1 h1 => sseq E1 R1 h1 fun a S2 ov μ2 H2 _ r2 R2 E2 M2 h2 => ?_
  cases a with
  | ref n =>
    dsimp only at h2
    split at h2
    · rename_i c fs hs
      split at h2
      · rename_i hl
        cases r2 with
        | ref hn =>
          obtain ⟨ho, h4, h5⟩ := R2.obj _ _ _ hs hn
          cases h5 with
          | @ins _ C dx _ vs hc r =>
            have hx := g.kn.fld f y hf
            subst hx
            have r' := r.put g.kn.inj (f := f) (DR.mono M2 r1)
            have Mw : Mo μ2 H2 μ2 (upd H2 _ (.ins C dx (putF (A.fld f) x vs))) := Mo.write (List.mem_of_getElem? hn)
            exact ⟨_, C, dx, vs, rfl, h4, g.kn.cls c C hc, g.kn.noat c C f _ hc hf, by rw [r.length]; exact hl, h2 σ μ2 _ (E2.mono Mw) (R2.write (g := .ins c (putN f d fs)) hn (.ins hc r')) Mw⟩
      · exact h2.elim
    · exact h2.elim
  | _ => exact h2.elim
theorem aug_add {d1 d2 z : CN.D} (h : augop .add d1 d2 = some z) : ∃ i j, d1 = .int i ∧ d2 = .int j ∧ z = .int (i + j) := by
  unfold augop at h
  split at h
  · cases h; exact ⟨_, _, rfl, rfl, rfl⟩
  · rename_i q; cases q
  · cases h
theorem aug_sub {d1 d2 z : CN.D} (h : augop .sub d1 d2 = some z) : ∃ i j, d1 = .int i ∧ d2 = .int j ∧ z = .int (i - j) := by
  unfold augop at h
  split at h
  · rename_i q; cases q
  · cases h; exact ⟨_, _, rfl, rfl, rfl⟩
  · cases h
theorem aug_read {K : PySem.W.Frag} {n : Nat} {op : BOp} {z : Int → Int → Int} (hz : ∀ d1 d2 d3, augop op d1 d2 = some d3 → ∃ i j, d1 = .int i ∧ d2 = .int j ∧ d3 = .int (z i j)) {D : Ends} {σ : L2.St} {H : Hp} (h : TSo K A W (augM n op m) D σ H) : tAug n (TEo K A W m) (ipI z) D σ H := by
  obtain ⟨env, S, μ, E, R, h⟩ := h
  unfold augM at h
  split at h
  · rename_i a ha
    obtain ⟨v, h4, r⟩ := E.at_ n a ha
    refine ⟨v, h4, sseq E R h fun b S1 y μ1 H1 _ r1 R1 E1 M1 h1 => ?_⟩
    split at h1
    · rename_i d3 e3
      obtain ⟨i, j, rfl, rfl, rfl⟩ := hz _ _ _ e3
      cases r; cases r1
      exact ⟨i, j, rfl, rfl, h1 _ μ1 H1 (E1.set (.int _)) R1 (Mo.refl _ _)⟩
    · exact h1.elim
  · exact h.elim
theorem ps_augN (g : GdS T G wf A k X W) {n : Nat} {x : Str} {op : BOp} (hi : X.N[n]? = some x) (hx : X.env.scope.names.lookup x = some .local) (hop : augOk op = true) (he : PE X e (TEo X.K A W m)) : PS X (.AugAssign (.Name x p2) (pyOp op) e pos) (TSo X.K A W (augM n op m)) := by
  cases op with
  | add => exact PS.imp (ps_aug g.nd hi (.inl hx) he ip_add (.inr hx)) fun D σ H h => aug_read (fun _ _ _ => aug_add) h
  | sub => exact PS.imp (ps_aug g.nd hi (.inl hx) he ip_sub (.inr hx)) fun D σ H h => aug_read (fun _ _ _ => aug_sub) h
  | _ => cases hop
/-- the class of an instance stays -/
theorem augf_read (g : GdS T G wf A k X W) {f : Nat} {op : BOp} {D : Ends} {σ : L2.St} {H : Hp} {rd : V → V → Hp → VK → Prop} {z : Int → Int → Int} (hz : ∀ d1 d2 d3, augop op d1 d2 = some d3 → ∃ i j, d1 = .int i ∧ d2 = .int j ∧ d3 = .int (z i j))
    (hrd : ∀ i j H Q, Q (.int (z i j)) H → rd (.int i) (.int j) H Q) {y : Str} (hf : G.flds[f]? = some y) (h : TSo X.K A W (augfM mo f op m) D σ H) : sFldAug X.K (TEo X.K A W mo) (TEo X.K A W m) rd y D σ H := by
  obtain ⟨env, S, μ, E, R, h⟩ := h
  refine sseq E R h fun a S1 ov μ1 H1 _ r1 R1 E1 M1 h1 => ?_
  cases a with
  | ref n =>
    dsimp only at h1
    split at h1
    · rename_i c fs hs
      split at h1
      · rename_i va hl
        cases r1 with
        | ref hn =>
          obtain ⟨ho, h4, h5⟩ := R1.obj _ _ _ hs hn
          cases h5 with
          | @ins _ C dx _ vs hc r =>
            have hx := g.kn.fld f y hf
            subst hx
            obtain ⟨v, e2, r2⟩ := r.look g.kn.inj hl
            refine ⟨_, C, dx, vs, v, rfl, h4, g.kn.cls c C hc, g.kn.noat c C f _ hc hf, e2, sseq E1 R1 h1 fun b S2 w μ2 H2 _ r3 R2 E2 M2 h2 => ?_⟩
            have hn2 := M2.get hn
            split at h2
            · rename_i c2 fs2 d3 hs2 e3
              obtain ⟨i, j, rfl, rfl, rfl⟩ := hz _ _ _ e3
              cases r2; cases r3
              split at h2
              · rename_i hl2
                obtain ⟨rfl, hl2⟩ := hl2
                obtain ⟨ho2, h6, h7⟩ := R2.obj _ _ _ hs2 hn2
                cases h7 with
                | @ins _ C2 dx2 _ vs2 hc2 r7 =>
                  have hC : C2 = C := Option.some.inj (hc2.symm.trans hc)
                  subst hC
                  have r' := r7.put g.kn.inj (f := f) (DR.int (z i j))
                  have Mw : Mo μ2 H2 μ2 (upd H2 _ (.ins C2 dx2 (putF (A.fld f) (.int (z i j)) vs2))) := Mo.write (List.mem_of_getElem? hn2)
                  exact hrd i j _ _ ⟨dx2, vs2, h6, by rw [r7.length]; exact hl2, h2 σ μ2 _ (E2.mono Mw) (R2.write (g := .ins c2 (putN f (.int (z i j)) fs2)) hn2 (.ins hc2 r')) Mw⟩
              · exact h2.elim
            · exact h2.elim
      · exact h1.elim
    · exact h1.elim
  | _ => exact h1.elim
theorem ps_augfN (g : GdS T G wf A k X W) {f : Nat} {y : Str} {op : BOp} (hf : G.flds[f]? = some y) (hop : augOk op = true) (ho : PE X o (TEo X.K A W mo)) (he : PE X e (TEo X.K A W m)) : PS X (.AugAssign (.Attribute o y p2) (pyOp op) e pos) (TSo X.K A W (augfM mo f op m)) := by
  cases op with
  | add => exact PS.imp (ps_fldaug ho he in_add) fun D σ H h => augf_read g (fun _ _ _ => aug_add) (fun i j H Q q => ⟨i, j, rfl, rfl, q⟩) hf h
  | sub => exact PS.imp (ps_fldaug ho he in_sub) fun D σ H h => augf_read g (fun _ _ _ => aug_sub) (fun i j H Q q => ⟨i, j, rfl, rfl, q⟩) hf h
  | _ => cases hop
end
end CN
set_option Elab.async false
set_option linter.all false
set_option maxRecDepth 100000
set_option maxHeartbeats 4000000
/-! CnStm3: loops, pairs, and: the interpreter is sound for statements. -/
namespace CN
open PySem PyProof.Rows L2

section
variable {X : Cx} {A : Ad} {W : WX} {T : Tb} {G : Gi} {wf k : Nat} {m : ME} {mt : MT} {mb : MS} {o i e : Expr} {pos p2 : Pos}
/-- the ends of a loop's body -/
theorem while_read {K : PySem.W.Frag} {n : Nat} {D : Ends} {σ : L2.St} {H : Hp} (h : TSo K A W (loopWhl mt mb n) D σ H) : tWhile (TTo K A W mt) (TSo K A W mb) D σ H := by
  obtain ⟨env, S, μ0, E, R, h⟩ := h
  refine ⟨fun j σ' H' => ∃ (env : CN.Env) (S : Hs) (μ : Mu), ER K A μ H' env σ' ∧ HR K A μ S H' ∧ Mo μ0 H μ H' ∧ PostS K A W μ0 H D (loopWhl mt mb j env S), ⟨n, env, S, μ0, E, R, Mo.refl _ _, h⟩, ?_⟩
  rintro j σ1 H1 ⟨env1, S1, μ1, E1, R1, M1, h1⟩
  cases j with
  | zero => exact h1.elim
  | succ j =>
    unfold loopWhl at h1
    refine sseq E1 R1 (h1.base M1) fun c S2 c' μ2 H2 _ r2 R2 E2 M2 h2 => ?_
    obtain rfl : c = c' := r2
    cases c with
    | false => exact iteF (h2 σ1 μ2 H2 E2 R2 (Mo.refl _ _))
    | true =>
      refine iteT ⟨fun σ' H' => ∃ j', j' < j + 1 ∧ ∃ (env : CN.Env) (S : Hs) (μ : Mu), ER K A μ H' env σ' ∧ HR K A μ S H' ∧ Mo μ0 H μ H' ∧ PostS K A W μ0 H D (loopWhl mt mb j' env S), fun σ' H' h => h, env1, S2, μ2, E2, R2, ?_⟩
      have h3 : PostS K A W μ2 H2 D ((mb env1 S2).bind fun f s' => match f with
        | .next env' => loopWhl mt mb j env' s'
        | .cont env' => loopWhl mt mb j env' s'
        | .brk env' => .ok (.next env') s'
        | f => .ok f s') := h2
      have h1' := h1
      rename_i hm
      -- the answer of the whole, at the start
      have h0 : PostS K A W μ0 H D ((mb env1 S2).bind fun f s' => match f with
        | .next env' => loopWhl mt mb j env' s'
        | .cont env' => loopWhl mt mb j env' s'
        | .brk env' => .ok (.next env') s'
        | f => .ok f s') := by
        rw [hm] at h1'
        exact h1'
      cases eb : mb env1 S2 with
      | stuck => rw [eb] at h3; exact h3
      | err => rw [eb] at h3; exact h3
      | ok f S3 =>
        rw [eb] at h3 h0
        cases f with
        | next e3 => exact fun σ3 μ3 H3 E3 R3 M3 => ⟨j, Nat.lt_succ_self _, e3, S3, μ3, E3, R3, M1.trans (M2.trans M3), h0⟩
        | cont e3 => exact fun σ3 μ3 H3 E3 R3 M3 => ⟨j, Nat.lt_succ_self _, e3, S3, μ3, E3, R3, M1.trans (M2.trans M3), h0⟩
        | brk e3 => exact h3
        | ret d => exact h3
        | exc e3 c fs => exact h3
theorem for_read {K : PySem.W.Frag} {t : Tg} {mi : CN.Env → Hs → Res (List D × Option (Nat × List D))} (hS : StayI mi) {D : Ends} {σ : L2.St} {H : Hp} (h : TSo K A W (forM t mi mb) D σ H) : tFor (TIo K A W mi) (gOf K t) (TSo K A W mb) D σ H := by
  obtain ⟨env, S, μ, E, R, h⟩ := h
  refine sseq E R h fun p S1 J μ1 H1 ep ⟨St, I, st⟩ R1 E1 M1 h1 => ?_
  obtain ⟨ds, w⟩ := p
  have hst := (hS _ _ _ _ ep).1
  refine ⟨fun i j σ' H' => j = ds.length - i ∧ i ≤ ds.length ∧ ∃ (env : CN.Env) (S : Hs) (μ : Mu), ER K A μ H' env σ' ∧ HR K A μ S H' ∧ Mo μ1 H1 μ H' ∧ St μ H' ∧ PostS K A W μ1 H1 D (loopFor (forStep t mb) w (ds.drop i) env S), ⟨_, rfl, Nat.zero_le _, env, S1, μ1, E1, R1, Mo.refl _ _, st, h1⟩, ?_⟩
  rintro i j σ2 H2 ⟨rfl, hi, env2, S2, μ2, E2, R2, M2, st2, h2⟩
  by_cases hl : i = ds.length
  · left
    rw [List.drop_of_length_le (by omega)] at h2
    exact ⟨I.stop _ _ _ st2 (by show ds.length ≤ i; omega), h2 σ2 μ2 H2 E2 R2 M2⟩
  · right
    have hi' : i < ds.length := by omega
    have ed : ds[i]? = some ds[i] := List.getElem?_eq_getElem hi'
    obtain ⟨hgo, hy⟩ := I.go _ H2 S2 i ds[i] st2 R2 ed
    refine ⟨hgo, fun σ' H' => ∃ j', j' < ds.length - i ∧ j' = ds.length - (i + 1) ∧ i + 1 ≤ ds.length ∧ ∃ (env : CN.Env) (S : Hs) (μ : Mu), ER K A μ H' env σ' ∧ HR K A μ S H' ∧ Mo μ1 H1 μ H' ∧ St μ H' ∧ PostS K A W μ1 H1 D (loopFor (forStep t mb) w (ds.drop (i + 1)) env S), fun σ' H' hN => ?_, fun x H' hyl => ?_⟩
    · obtain ⟨j', q1, q2⟩ := hN
      exact ⟨j', q1, q2⟩
    · obtain ⟨rx, Rx, Mx⟩ := hy x H' hyl
      have edr : ds.drop i = ds[i] :: ds.drop (i + 1) := (List.drop_eq_getElem_cons hi')
      rw [edr] at h2
      unfold loopFor at h2
      cases es : assignTg env2 t ds[i] with
      | none =>
        have e0 : forStep t mb ds[i] env2 S2 = .stuck := by unfold forStep; rw [es]
        rw [e0] at h2
        exact h2.elim
      | some env3 =>
        have e0 : forStep t mb ds[i] env2 S2 = mb env3 S2 := by unfold forStep; rw [es]
        rw [e0] at h2
        refine tgR _ _ _ _ _ _ _ _ (E2.mono Mx) rx es fun σ3 E3 _ => ⟨env3, S2, μ2, E3, Rx, ?_⟩
        cases eb : mb env3 S2 with
        | stuck => rw [eb] at h2; exact h2
        | err => rw [eb] at h2; exact h2
        | ok f S3 =>
          rw [eb] at h2
          have again : ∀ {e4 : CN.Env}, PostS K A W μ1 H1 D (if stays w S3 then loopFor (forStep t mb) w (ds.drop (i + 1)) e4 S3 else .stuck) → ∀ σ4 μ4 H4, ER K A μ4 H4 e4 σ4 → HR K A μ4 S3 H4 → Mo μ2 H' μ4 H4 →
              ∃ j', j' < ds.length - i ∧ j' = ds.length - (i + 1) ∧ i + 1 ≤ ds.length ∧ ∃ (env : CN.Env) (S : Hs) (μ : Mu), ER K A μ H4 env σ4 ∧ HR K A μ S H4 ∧ Mo μ1 H1 μ H4 ∧ St μ H4 ∧ PostS K A W μ1 H1 D (loopFor (forStep t mb) w (ds.drop (i + 1)) env S) := by
            intro e4 q σ4 μ4 H4 E4 R4 M4
            by_cases hs : stays w S3 = true
            · rw [if_pos hs] at q
              exact ⟨_, (show ds.length - (i + 1) < ds.length - i by omega), rfl, hi', e4, S3, μ4, E4, R4, M2.trans (Mx.trans M4), I.mono _ _ _ _ _ st2 (Mx.trans M4).g R4 hs, q⟩
            · rw [if_neg hs] at q
              exact q.elim
          have hb : PostS K A W μ1 H1 D (.ok (.next env3) S3) → True := fun _ => trivial
          cases f with
          | next e4 => exact again h2
          | cont e4 => exact again h2
          | brk e4 => exact fun σ4 μ4 H4 E4 R4 M4 => h2 σ4 μ4 H4 E4 R4 (M2.trans (Mx.trans M4))
          | ret d => exact fun v μ4 H4 r4 R4 M4 => h2 v μ4 H4 r4 R4 (M2.trans (Mx.trans M4))
          | exc e4 c fs => exact fun cl dx σ4 μ4 H4 E4 x4 R4 M4 => h2 cl dx σ4 μ4 H4 E4 x4 R4 (M2.trans (Mx.trans M4))
theorem whole_seq {K : PySem.W.Frag} {ma mr : MS} {D : Ends} {σ : L2.St} {H : Hp} (h : TSo K A W (fun env s => (ma env s).bind fun f s1 => match f with
    | .next env' => mr env' s1
    | f => .ok f s1) D σ H) : tSeq (TSo K A W ma) (TSo K A W mr) D σ H := by
  obtain ⟨env, S, μ, E, R, h⟩ := h
  refine ⟨env, S, μ, E, R, ?_⟩
  dsimp only at h
  cases eb : ma env S with
  | stuck => rw [eb] at h; exact h
  | err => rw [eb] at h; exact h
  | ok f S3 =>
    rw [eb] at h
    cases f with
    | next e4 => exact fun σ4 μ4 H4 E4 R4 M4 => ⟨e4, S3, μ4, E4, R4, PostS.base M4 h⟩
    | cont e4 => exact h
    | brk e4 => exact h
    | ret d => exact h
    | exc e4 c fs => exact h
theorem thru_read {K : PySem.W.Frag} {D : Ends} {σ : L2.St} {H : Hp} (h : TSo K A W (thruM mb) D σ H) : TSo K A W0 mb D σ H := by
  obtain ⟨env, S, μ, E, R, h⟩ := h
  refine ⟨env, S, μ, E, R, ?_⟩
  unfold thruM at h
  cases eb : mb env S with
  | stuck => rw [eb] at h; exact h
  | err => rw [eb] at h; exact h
  | ok f S3 =>
    rw [eb] at h
    cases f with
    | next e4 => exact h
    | cont e4 => exact h
    | brk e4 => exact h
    | ret d => exact h
    | exc e4 c fs => exact h.elim
/-! pairs, triples -/
theorem beq_self_loc : (some NameKind.local == some NameKind.local) = true := by decide
theorem swapped2 {env : PySem.Env} {x y : Str} {px py pt pt2 : Pos} {kt k2 : Nat} {a b : Expr} (hb : env.blockKind = .function) (hx : env.kindOf x = some .local) (hy : env.kindOf y = some .local) (h : parOk [.Name x px, .Name y py] [a, b] = true) :
    swappedStores [.Tuple [.Name x px, .Name y py] kt pt] (.Tuple [a, b] k2 pt2) env = pure (some [x, y]) := by
  unfold parOk at h
  simp only [Bool.and_eq_true, Bool.not_eq_true', decide_eq_true_eq] at h
  obtain ⟨⟨⟨hp, hf⟩, hc⟩, ⟨hl, hd⟩, hne⟩ := h
  have hp' : plainE a = true ∧ plainE b = true := by simpa using hp
  have hl' : (py.line == px.line) = true := by
    rw [beq_iff_eq] at hl ⊢
    exact hl.symm
  have e1 : ([Expr.Name x px, Expr.Name y py].filterMap fun
    | .Name id pos => if env.kindOf id == some .local && pos.line == px.line then some id else none
    | _ => none) = [x, y] := by
    simp only [List.filterMap, hx, hy, hl', beq_self_eq_true, Bool.and_self, beq_self_loc, if_true]
  have e2 : ([a, b].any fun | .Starred .. => true | _ => false) = false := by
    simp only [List.any_cons, List.any_nil, Bool.or_false, Bool.or_eq_false_iff]
    constructor
    · have q := hp'.1; clear e1 hp' hp hf hc; cases a <;> first | rfl | cases q
    · have q := hp'.2; clear e1 hp' hp hf hc; cases b <;> first | rfl | cases q
  show (show Sem (Option (List Str)) from do
    if !(([Expr.Name x px, Expr.Name y py]).length == 2 || ([Expr.Name x px, Expr.Name y py]).length == 3) || [a, b].length != ([Expr.Name x px, Expr.Name y py]).length || env.blockKind != ScopeKind.function then return none
    if [a, b].any fun | .Starred .. => true | _ => false then return none
    let names := [Expr.Name x px, Expr.Name y py].filterMap fun
      | .Name id pos => if env.kindOf id == some .local && pos.line == px.line then some id else none
      | _ => none
    if names.length != ([Expr.Name x px, Expr.Name y py]).length || names.eraseDups.length != names.length then return none
    if [a, b].all (foldedForSure 8) then return none
    if [a, b].all (constantsAlone 8) then unsupported "assign.tuple-of-constant-expressions:order-of-the-stores"
    return some names) = _
  rw [hb]
  simp only [e1, e2, hd, hf, hc]
  rfl
theorem swapped3 {env : PySem.Env} {x y z : Str} {px py pz pt pt2 : Pos} {kt k2 : Nat} {a b c : Expr} (hb : env.blockKind = .function) (hx : env.kindOf x = some .local) (hy : env.kindOf y = some .local) (hz : env.kindOf z = some .local) (h : parOk [.Name x px, .Name y py, .Name z pz] [a, b, c] = true) :
    swappedStores [.Tuple [.Name x px, .Name y py, .Name z pz] kt pt] (.Tuple [a, b, c] k2 pt2) env = pure (some [x, y, z]) := by
  unfold parOk at h
  simp only [Bool.and_eq_true, Bool.not_eq_true', decide_eq_true_eq] at h
  obtain ⟨⟨⟨hp, hf⟩, hc⟩, ⟨⟨⟨⟨hl, hl2⟩, hd⟩, hne⟩, hne2⟩, hne3⟩ := h
  have hp' : plainE a = true ∧ plainE b = true ∧ plainE c = true := by simpa using hp
  have hl' : (py.line == px.line) = true := by
    rw [beq_iff_eq] at hl ⊢
    exact hl.symm
  have hl2' : (pz.line == px.line) = true := by
    rw [beq_iff_eq] at hl2 ⊢
    exact hl2.symm
  have e1 : ([Expr.Name x px, Expr.Name y py, Expr.Name z pz].filterMap fun
    | .Name id pos => if env.kindOf id == some .local && pos.line == px.line then some id else none
    | _ => none) = [x, y, z] := by
    simp only [List.filterMap, hx, hy, hz, hl', hl2', beq_self_eq_true, Bool.and_self, beq_self_loc, if_true]
  have e2 : ([a, b, c].any fun | .Starred .. => true | _ => false) = false := by
    simp only [List.any_cons, List.any_nil, Bool.or_false, Bool.or_eq_false_iff]
    refine ⟨?_, ?_, ?_⟩
    · have q := hp'.1; clear e1 hp' hp hf hc; cases a <;> first | rfl | cases q
    · have q := hp'.2.1; clear e1 hp' hp hf hc; cases b <;> first | rfl | cases q
    · have q := hp'.2.2; clear e1 hp' hp hf hc; cases c <;> first | rfl | cases q
  show (show Sem (Option (List Str)) from do
    if !(([Expr.Name x px, Expr.Name y py, Expr.Name z pz]).length == 2 || ([Expr.Name x px, Expr.Name y py, Expr.Name z pz]).length == 3) || [a, b, c].length != ([Expr.Name x px, Expr.Name y py, Expr.Name z pz]).length || env.blockKind != ScopeKind.function then return none
    if [a, b, c].any fun | .Starred .. => true | _ => false then return none
    let names := [Expr.Name x px, Expr.Name y py, Expr.Name z pz].filterMap fun
      | .Name id pos => if env.kindOf id == some .local && pos.line == px.line then some id else none
      | _ => none
    if names.length != ([Expr.Name x px, Expr.Name y py, Expr.Name z pz]).length || names.eraseDups.length != names.length then return none
    if [a, b, c].all (foldedForSure 8) then return none
    if [a, b, c].all (constantsAlone 8) then unsupported "assign.tuple-of-constant-expressions:order-of-the-stores"
    return some names) = _
  rw [hb]
  simp only [e1, e2, hd, hf, hc]
  rfl
theorem swapped2c {env : PySem.Env} {x y : Str} {px py pt pt2 : Pos} {kt k2 : Nat} {a b : Expr} (hb : env.blockKind = .function) (h : ¬ (env.kindOf x = some .local ∧ env.kindOf y = some .local)) :
    swappedStores [.Tuple [.Name x px, .Name y py] kt pt] (.Tuple [a, b] k2 pt2) env = pure none := by
  have e1 : ([Expr.Name x px, Expr.Name y py].filterMap fun
    | .Name id pos => if env.kindOf id == some .local && pos.line == px.line then some id else none
    | _ => none).length < 2 := by
    simp only [List.filterMap]
    by_cases hx : env.kindOf x = some .local
    · have hy : ¬ env.kindOf y = some .local := fun q => h ⟨hx, q⟩
      have hy' : (env.kindOf y == some NameKind.local) = false := by simpa using hy
      simp only [hy', Bool.false_and, Bool.false_eq_true, if_false]
      split <;> simp
    · have hx' : (env.kindOf x == some NameKind.local) = false := by simpa using hx
      simp only [hx', Bool.false_and, Bool.false_eq_true, if_false]
      split <;> simp
  show (show Sem (Option (List Str)) from do
    if !(([Expr.Name x px, Expr.Name y py]).length == 2 || ([Expr.Name x px, Expr.Name y py]).length == 3) || [a, b].length != ([Expr.Name x px, Expr.Name y py]).length || env.blockKind != ScopeKind.function then return none
    if [a, b].any fun | .Starred .. => true | _ => false then return none
    let names := [Expr.Name x px, Expr.Name y py].filterMap fun
      | .Name id pos => if env.kindOf id == some .local && pos.line == px.line then some id else none
      | _ => none
    if names.length != ([Expr.Name x px, Expr.Name y py]).length || names.eraseDups.length != names.length then return none
    if [a, b].all (foldedForSure 8) then return none
    if [a, b].all (constantsAlone 8) then unsupported "assign.tuple-of-constant-expressions:order-of-the-stores"
    return some names) = _
  rw [hb]
  generalize ([Expr.Name x px, Expr.Name y py].filterMap fun
    | .Name id pos => if env.kindOf id == some .local && pos.line == px.line then some id else none
    | _ => none) = L at e1 ⊢
  have e2 : (L.length != ([Expr.Name x px, Expr.Name y py]).length || L.eraseDups.length != L.length) = true := by
    have q : ¬ L.length = 2 := by omega
    have q2 : (L.length != ([Expr.Name x px, Expr.Name y py]).length) = true := by
      rw [bne_iff_ne]
      exact q
    rw [q2, Bool.true_or]
  simp only [e2, if_true]
  split
  · rfl
  · split <;> rfl
theorem loc_of {sc : Scope} {x : Str} (h : isLoc sc x = true) : sc.names.lookup x = some .local := by simpa [isLoc] using h
theorem ne_ix {N : List Str} {i j : Nat} {x y : Str} (hi : N[i]? = some x) (hj : N[j]? = some y) (h : x ≠ y) : i ≠ j := by
  rintro rfl
  exact h (Option.some.inj (hi.symm.trans hj))
theorem par_two {K : PySem.W.Frag} {i j : Nat} {ms : CN.Env → Hs → Res (List CN.D)} {D : Ends} {σ : L2.St} {H : Hp} (h : TSo K A W (parM [i, j] ms) D σ H) : tPar i j (TAo K A W ms) D σ H := by
  obtain ⟨env, S, μ, E, R, h⟩ := h
  refine sseq E R h fun ds S1 vs μ1 H1 _ r1 R1 E1 M1 h1 => ?_
  match ds, r1, h1 with
  | [], _, h1 => exact h1.elim
  | [_], _, h1 => exact h1.elim
  | _ :: _ :: _ :: _, _, h1 => exact h1.elim
  | [d, d2], r1, h1 =>
    cases r1 with
    | cons ra rr =>
      cases rr with
      | cons rb rr =>
        cases rr
        exact ⟨_, _, rfl, h1 _ μ1 H1 ((E1.set ra).set rb) R1 (Mo.refl _ _)⟩
theorem par_three {K : PySem.W.Frag} {i j l : Nat} {ms : CN.Env → Hs → Res (List CN.D)} {D : Ends} {σ : L2.St} {H : Hp} (h : TSo K A W (parM [i, j, l] ms) D σ H) : tPar3 i j l (TAo K A W ms) D σ H := by
  obtain ⟨env, S, μ, E, R, h⟩ := h
  refine sseq E R h fun ds S1 vs μ1 H1 _ r1 R1 E1 M1 h1 => ?_
  match ds, r1, h1 with
  | [], _, h1 => exact h1.elim
  | [_], _, h1 => exact h1.elim
  | [_, _], _, h1 => exact h1.elim
  | _ :: _ :: _ :: _ :: _, _, h1 => exact h1.elim
  | [d, d2, d3], r1, h1 =>
    cases r1 with
    | cons ra rr =>
      cases rr with
      | cons rb rr =>
        cases rr with
        | cons rc rr =>
          cases rr
          exact ⟨_, _, _, rfl, h1 _ μ1 H1 (((E1.set ra).set rb).set rc) R1 (Mo.refl _ _)⟩
theorem tgN_len {c : Bool} {N : List Str} {sc : Scope} : ∀ {is : List Nat} {ts : List Expr}, chkTgN c N sc is ts = true → is.length = ts.length
  | [], [], _ => rfl
  | [], _ :: _, h => by cases h
  | _ :: _, [], h => by cases h
  | i :: is, e :: es, h => by
    cases e with
    | Name x p =>
      have h' : (decide (N[i]? = some x) && (isLoc sc x || (c && decide (sc.names.lookup x = some .cell))) && chkTgN c N sc is es) = true := h
      simp only [Bool.and_eq_true] at h'
      rw [List.length_cons, List.length_cons, tgN_len h'.2]
    | _ => cases h
theorem ps_parN (g : GdS T G wf A k X W) (hh : G.inH = false) {is : List Nat} {ts vs : List Expr} {kt k2 : Nat} {pt pt2 : Pos} {ms : CN.Env → Hs → Res (List CN.D)} (ht : chkTgN false X.N X.env.scope is ts = true) (hp : parOk ts vs = true) (hv : is.length = vs.length) (ha : PA X vs (TAo X.K A W ms)) :
    PS X (.Assign [.Tuple ts kt pt] (.Tuple vs k2 pt2) pos) (TSo X.K A W (parM is ms)) := by
  have hp0 := hp
  have hl := tgN_len ht
  unfold parOk at hp
  split at hp
  · rename_i x px y py
    obtain ⟨i, j, rfl⟩ : ∃ i j, is = [i, j] := by
      match is, hl with
      | [i, j], _ => exact ⟨i, j, rfl⟩
    obtain ⟨a, b, rfl⟩ : ∃ a b, vs = [a, b] := by
      match vs, hv with
      | [a, b], _ => exact ⟨a, b, rfl⟩
    have ht' : (decide (X.N[i]? = some x) && (isLoc X.env.scope x || false) && (decide (X.N[j]? = some y) && (isLoc X.env.scope y || false) && true)) = true := ht
    simp only [Bool.and_eq_true, decide_eq_true_eq, Bool.or_false] at ht' hp
    obtain ⟨⟨hi, hx⟩, ⟨hj, hy⟩, _⟩ := ht'
    exact PS.imp (ps_par (g.cold hh).1 g.nd hi hj (ne_ix hi hj hp.2.2) (loc_of hx) (loc_of hy) ha (swapped2 g.bk (loc_of hx) (loc_of hy) hp0)) fun D σ H h => par_two h
  · rename_i x px y py z pz
    obtain ⟨i, j, l, rfl⟩ : ∃ i j l, is = [i, j, l] := by
      match is, hl with
      | [i, j, l], _ => exact ⟨i, j, l, rfl⟩
    obtain ⟨a, b, c, rfl⟩ : ∃ a b c, vs = [a, b, c] := by
      match vs, hv with
      | [a, b, c], _ => exact ⟨a, b, c, rfl⟩
    have ht' : (decide (X.N[i]? = some x) && (isLoc X.env.scope x || false) && (decide (X.N[j]? = some y) && (isLoc X.env.scope y || false) && (decide (X.N[l]? = some z) && (isLoc X.env.scope z || false) && true))) = true := ht
    simp only [Bool.and_eq_true, decide_eq_true_eq, Bool.or_false] at ht' hp
    obtain ⟨⟨hi, hx⟩, ⟨hj, hy⟩, ⟨hl, hz⟩, _⟩ := ht'
    obtain ⟨_, ⟨⟨⟨_, n1⟩, n2⟩, n3⟩⟩ := hp
    exact PS.imp (ps_par3 (g.cold hh).1 g.nd hi hj hl (ne_ix hi hj n1) (ne_ix hi hl n2) (ne_ix hj hl n3) (loc_of hx) (loc_of hy) (loc_of hz) ha (swapped3 g.bk (loc_of hx) (loc_of hy) (loc_of hz) hp0)) fun D σ H h => par_three h
  · simp at hp
end
end CN
set_option Elab.async false
set_option linter.all false
set_option maxRecDepth 100000
set_option maxHeartbeats 4000000
/-! CnHand: raise and try, as the interpreter says them. -/
namespace CN
open PySem PyProof.Rows L2

section
variable {K : PySem.W.Frag} {A : Ad} {μ : Mu} {H : Hp}
theorem FR.zip : ∀ {fl : List Nat} {ds : List D} {vs : List V}, DRs K A μ H ds vs → FR K A μ H (fl.zip ds) ((fl.map A.fld).zip vs)
  | [], _, _, _ => by simp; exact .nil
  | _ :: _, [], _, .nil => by simp; exact .nil
  | f :: fl, _ :: _, _ :: _, .cons h r => .cons h (FR.zip r)
theorem DRs.reverse {ds : List D} {vs : List V} (r : DRs K A μ H ds vs) : DRs K A μ H ds.reverse vs.reverse := by
  induction ds generalizing vs with
  | nil => cases r; exact .nil
  | cons d ds ih =>
    cases r with
    | cons h r =>
      rw [List.reverse_cons, List.reverse_cons]
      exact (ih r).append (.cons h .nil)
end
section
variable {X : Cx} {A : Ad} {W : WX} {T : Tb} {G : Gi} {wf k : Nat} {e : Expr} {es : List Expr} {mas : CN.Env → Hs → Res (List D)}
theorem passN {X : Cx} : Passes (L2N.CX X.prog X.w) X (fun _ _ _ => False) := fun _ _ _ _ _ _ _ ⟨_, _, _, _, _, _, _, _, _, _, _, _, z⟩ => z.elim
theorem ps_raiseN (g : GdS T G wf A k X W) (hh : G.inH = false) {c : Nat} {x : Str} {p pos pos' : Pos} (hc : G.excs[c]? = some x) (hx : isGl X.env.scope x = true) (hs : PA X (e :: es) (TAo X.K A W mas)) (hp : (e :: es).all plainE = true) :
    PS X (.Raise (some (.Call (.Name x p) (e :: es) [] pos)) none pos') (TSo X.K A W (raiseM T c mas)) := by
  obtain ⟨C, hC, hm⟩ := g.kn.exc c x hc
  obtain ⟨gx, dbg, _⟩ := isGl_ok hx
  rw [List.all_cons, Bool.and_eq_true] at hp
  refine ⟨fun pins s σ H D I h => ?_⟩
  obtain ⟨env, S, μ, E, R, h⟩ := h
  unfold raiseM at h
  split at h
  · rename_i f fl hf
    obtain ⟨T', fI, fd, ps, ini, tI, hb, F1⟩ := g.kn.mkx c C (f :: fl) hC hf (by simp)
    refine (L2N.ps_raise (g.cold hh).1 g.takes (pmkX (pos := pos) (p := p) T' ini tI F1 ((g.cold hh).2.mono (by omega)) hb passN gx hm hs dbg (starE hp.1) (plain_any hp.2))).run pins s σ H D I ?_
    refine sseq E R h fun ds S1 xs μ1 H1 _ r1 R1 E1 M1 h1 => ?_
    split at h1
    · rename_i q
      refine ⟨by rw [r1.length, List.length_map, q.1], by rw [r1.length]; exact q.2, fun d hd => ?_⟩
      have M2 := Mo.new (μ := μ1) (o := .xd (((f :: fl).map A.fld).zip xs.reverse)) hd
      exact h1 (.ref C) (some d) σ μ1 _ (E1.mono M2) (.mk hC upd_same (R1.nin hd) (FR.zip (r1.reverse.mono M2))) (R1.new hd) M2
    · exact h1.elim
  · exact h.elim
end
/-! ### another handled exception beside the same facts -/
section
variable {K : PySem.W.Frag} {A : Ad} {w : World} {c c' : Option (Nat × Addr × Addr)}
theorem KD.with {d : D} {v : V} (h : KD K (A.with c) d v) : KD K (A.with c') d v := fun μ H => (h μ H).with
theorem TbR.with : ∀ {es : List DictEntry} {kvs : List (Str × D)}, TbR K (A.with c) es kvs → TbR K (A.with c') es kvs
  | _, _, .nil => .nil
  | _, _, .cons hk hv r => .cons hk (by obtain ⟨v, h1, h2⟩ := hv; exact ⟨v, h1, h2.with⟩) (TbR.with r)
theorem XR.with {μ : Mu} {H : Hp} {n : Nat} {fs : List (Nat × D)} {cl : Value} {dx : Option Addr} (h : XR K (A.with c) μ H n fs cl dx) : XR K (A.with c') μ H n fs cl dx := by
  obtain ⟨h1, h2, h3, r⟩ := h
  exact ⟨h1, h2, h3, r.with⟩
theorem Post.with {W : WX} {σ : L2.St} {μ : Mu} {H : Hp} {Q : VK} {r : Res D} (h : Post (ReD K (A.with c)) K (A.with c) W σ μ H Q r) : Post (ReD K (A.with c')) K (A.with c') W σ μ H Q r := by
  cases r with
  | stuck => exact h
  | ok a S => exact fun b μ' H' r R M => h b μ' H' r.with R.with M
  | err n fs S => exact fun cl dx μ' H' x R M => h cl dx μ' H' x.with R.with M
theorem spOf.with {T : Tb} {wf k g : Nat} {vs : List V} {H : Hp} {Q : VK} {E : XK} (h : spOf T wf K (A.with c) k g vs H Q E) : spOf T wf K (A.with c') k g vs H Q E := by
  obtain ⟨ds, S, μ, r, R, q⟩ := h
  exact ⟨ds, S, μ, r.with, R.with, q.with⟩
variable {T : Tb} {G : Gi} {wf k : Nat} {P : Program} {mg : Str → Option Value} {base : Heap}
theorem FnH.imp {CX : CXT} {j : Nat} {f : Addr} {fd : FuncData} {ps : List Str} {sp sp' : Sp} (F : L2H.FnH P w K mg base CX j f fd ps sp) (h : ∀ vs H Q E, sp' vs H Q E → sp vs H Q E) : L2H.FnH P w K mg base CX j f fd ps sp' :=
  ⟨fun vs H Q E q => F.len vs H Q E (h vs H Q E q), fun A' outer s H args us vs Q E p r1 r2 r3 r4 r5 r6 q => F.run A' outer s H args us vs Q E p r1 r2 r3 r4 r5 r6 (h vs H Q E q)⟩
theorem Known.with (kn : Known T G wf (A.with c) P w K mg base k) : Known T G wf (A.with c') P w K mg base k where
  tabs := fun t kvs a h1 h2 => by
    obtain ⟨es, n, h3, h4, h5, h6⟩ := kn.tabs t kvs a h1 h2
    exact ⟨es, n, h3, h4, h5, h6.with⟩
  consts := fun i x d h1 h2 => by
    obtain ⟨u, v, h3, h4, h5⟩ := kn.consts i x d h1 h2
    exact ⟨u, v, h3, h4, h5.with⟩
  constsL := kn.constsL
  afn := fun g a h => by
    obtain ⟨f, h1, ⟨fd, ps, hb, hl, F, hw⟩, kp⟩ := kn.afn g a h
    exact ⟨f, h1, ⟨fd, ps, hb, hl, F.imp fun vs H Q E h => h.with, hw⟩, kp⟩
  glob := kn.glob
  clss := kn.clss
  meth := kn.meth
  cls := kn.cls
  noat := kn.noat
  fld := kn.fld
  inj := kn.inj
  mfld := kn.mfld
  exc := kn.exc
  mkx := kn.mkx
  xfc := kn.xfc
  sup := kn.sup
  kwf := kn.kwf
  kwc := kn.kwc
  hfn := fun g a hg h => by
    obtain ⟨kp, fd, ps, hb, F⟩ := kn.hfn g a hg h
    exact ⟨kp, fd, ps, hb, FnH.imp F fun vs H Q E h => h.with⟩
  blt := kn.blt
theorem Known.inH (b : Bool) (kn : Known T G wf A P w K mg base k) : Known T { G with inH := b } wf A P w K mg base k :=
  ⟨kn.tabs, kn.consts, kn.constsL, kn.afn, kn.glob, kn.clss, kn.meth, kn.cls, kn.noat, kn.fld, kn.inj, kn.mfld, kn.exc, kn.mkx, kn.xfc, kn.sup, kn.kwf, kn.kwc, kn.hfn, kn.blt⟩
end
/-! ### the clauses -/
section
variable {X : Cx} {A : Ad} {W : WX} {T : Tb} {G : Gi} {wf k : Nat} {K : PySem.W.Frag}
/-- a suite, as the interpreter says it -/
def suiteT (K : PySem.W.Frag) (A : Ad) (m : MS) : Addr → Value → Option Addr → TS := fun a cls d D σ H => ∃ (n : Nat) (C dd : Addr), cls = .ref C ∧ d = some dd ∧ A.xc n = some C ∧ TSo K (A.with (some (n, a, dd))) W0 m D σ H
def clausesOf (T : Tb) (wf : Nat) (call : Nat → List D → Hs → Res D) (K : PySem.W.Frag) (A : Ad) : Hds → List Clause
  | .nil => []
  | .cons c i b r => (.ref ((A.xc c).getD 0), i, suiteT K A (evalSs T wf call b)) :: clausesOf T wf call K A r
theorem Ad.none_eq {A : Ad} (h : A.cau = none) : A.with none = A := by
  cases A
  subst h
  rfl
theorem gone_read {μ μ' : Mu} {H H' : Hp} {D : Ends} {i : Nat} {q : Option (Nat × Addr × Addr)} (hA : A.cau = none) (M : Mo μ H μ' H') {r : Res CN.Flow}
    (h : PostS K A W μ H D (r.bind fun f s1 => match f with | .exc _ _ _ => .stuck | f => .ok (goneF i f) s1)) : PostS K (A.with q) W0 μ' H' (goneD D i) r := by
  have e : A.with none = A := Ad.none_eq hA
  have cv : ∀ {E : CN.Env} {σ : L2.St} {μ2 : Mu} {H2 : Hp}, ER K (A.with q) μ2 H2 E σ → ER K A μ2 H2 (clr (E.set i .no)) (σ.set i none) := fun E2 => by
    have z := (E2.unset i).clr (c' := none)
    rwa [e] at z
  have cr : ∀ {S : Hs} {μ2 : Mu} {H2 : Hp}, HR K (A.with q) μ2 S H2 → HR K A μ2 S H2 := fun R => by
    have z := R.with (c' := none)
    rwa [e] at z
  have cd : ∀ {d : CN.D} {v : V} {μ2 : Mu} {H2 : Hp}, DR K (A.with q) μ2 H2 d v → DR K A μ2 H2 d v := fun R => by
    have z := R.with (c' := none)
    rwa [e] at z
  cases r with
  | stuck => exact h.elim
  | err => exact h.elim
  | ok f S =>
    cases f with
    | next E => exact fun σ2 μ2 H2 E2 R2 M2 => h _ μ2 H2 (cv E2) (cr R2) (M.trans M2)
    | brk E => exact fun σ2 μ2 H2 E2 R2 M2 => h _ μ2 H2 (cv E2) (cr R2) (M.trans M2)
    | cont E => exact fun σ2 μ2 H2 E2 R2 M2 => h _ μ2 H2 (cv E2) (cr R2) (M.trans M2)
    | ret d => exact fun v μ2 H2 r2 R2 M2 => h v μ2 H2 (cd r2) (cr R2) (M.trans M2)
    | exc E c fs => exact h.elim
def hdCls : Hds → List Nat
  | .nil => []
  | .cons c _ _ r => c :: hdCls r
theorem hs_read {D : Ends} {μ μ' : Mu} {H H' : Hp} {e : CN.Env} {c : Nat} {fs : List (Nat × CN.D)} {s1 : Hs} {cl : Value} {dx : Option Addr} {σ' : L2.St} {P : Program} {w : World} {mg : Str → Option Value} {base : Heap} {call : Nat → List CN.D → Hs → Res CN.D} (kn : Known T G wf A P w K mg base k) (hA : A.cau = none)
    (E : ER K A μ' H' e σ') (x : XR K A μ' H' c fs cl dx) (R : HR K A μ' s1 H') (M : Mo μ H μ' H') : ∀ hs : Hds, (∀ hc ∈ hdCls hs, ∃ HC, A.xc hc = some HC) → PostS K A W μ H D (evalHs T wf call hs e c fs s1) → wHs K W D (clausesOf T wf call K A hs) cl dx σ' H'
  | .nil, _, h => h cl dx σ' μ' H' E x R M
  | .cons hc i b r, hk, h => by
    obtain ⟨HC, hHC⟩ := hk hc List.mem_cons_self
    obtain ⟨hC, hd, hn, rf⟩ := x
    rename_i C d vs
    have h' : PostS K A W μ H D (nextHd (T.xsup.getD c []) hc i (evalSs T wf call b) (evalHs T wf call r) e c fs s1) := h
    unfold nextHd at h'
    refine ⟨decide (hc ∈ T.xsup.getD c []), by rw [hHC]; exact kn.sup c hc C HC hC hHC, fun y a ha => ?_, fun y => ?_⟩
    · rw [if_pos (of_decide_eq_true y)] at h'
      have e0 : A.with none = A := Ad.none_eq hA
      have E' : ER K (A.with none) μ' H' e σ' := by rw [e0]; exact E
      have R' : HR K (A.with none) μ' s1 H' := by rw [e0]; exact R
      have rf' : FR K (A.with none) μ' H' fs vs := by rw [e0]; exact rf
      exact ⟨c, C, d, rfl, rfl, hC, e.set i (.xc c fs), s1, μ', (E'.with0 (c' := some (c, a, d))).setS ⟨a, d, vs, rfl, rfl, hd, hn, rf'.with⟩, R'.with, gone_read hA M h'⟩
    · rw [if_neg (of_decide_eq_false y)] at h'
      exact hs_read kn hA E ⟨hC, hd, hn, rf⟩ R M r (fun q hq => hk q (List.mem_cons_of_mem _ hq)) h'
theorem try_read {D : Ends} {σ : L2.St} {H : Hp} {P : Program} {w : World} {mg : Str → Option Value} {base : Heap} {call : Nat → List CN.D → Hs → Res CN.D} (kn : Known T G wf A P w K mg base k) (hA : A.cau = none) {b : Sts} {hs : Hds} (hk : ∀ hc ∈ hdCls hs, ∃ HC, A.xc hc = some HC)
    (h : TSo K A W (tryM (evalSs T wf call b) (evalHs T wf call hs)) D σ H) : TSo K A (wHs K W D (clausesOf T wf call K A hs)) (evalSs T wf call b) D σ H := by
  obtain ⟨env, S, μ, E, R, h⟩ := h
  refine ⟨env, S, μ, E, R, ?_⟩
  unfold tryM at h
  cases e : evalSs T wf call b env S with
  | stuck => rw [e] at h; exact h.elim
  | err => rw [e] at h; exact h.elim
  | ok f s1 =>
    rw [e] at h
    cases f with
    | next E => exact h
    | brk E => exact h
    | cont E => exact h
    | ret d => exact h
    | exc e2 c fs => exact fun cl dx σ' μ' H' E' x' R' M' => hs_read kn hA E' x' R' M' hs hk h
end
end CN
set_option Elab.async false
set_option linter.all false
set_option maxRecDepth 100000
set_option maxHeartbeats 4000000
/-! CnStm4: the interpreter is sound for statements. -/
namespace CN
open PySem PyProof.Rows L2

section
variable {T : Tb} {G : Gi} {wf : Nat} {A : Ad} {k : Nat}
theorem GdS.nox {X : Cx} {W : WX} (g : GdS T G wf A k X W) : GdS T G wf A k X.nox W0 := ⟨⟨g.kn, g.un, g.cold, g.nd, takesN, PassesOwn.never, g.cau, g.nc, g.hot⟩, g.fn, g.bk, g.stk, g.frm⟩
theorem GdS.tr {X : Cx} {W W' : WX} {pn : List (Addr × Obj)} {xe : Value → Shared → Prop} (g : GdS T G wf A k X W) (hh : G.inH = false) (hA : A.cau = none) (tk : L2N.Takes (X.tr pn xe) W') (pw : PassesOwn (model X.prog X.w) X.A X.env xe) : GdS T G wf A k (X.tr pn xe) W' :=
  ⟨⟨g.kn, g.un, g.cold, g.nd, tk, pw, fun c a dd h => (by rw [hA] at h; cases h), g.nc, fun h => (by rw [hh] at h; cases h)⟩, g.fn, g.bk, g.stk, g.frm⟩
theorem GdS.suite {X : Cx} {W : WX} (g : GdS T G wf A k X W) (hh : G.inH = false) (hA : A.cau = none) {a dd C : Addr} {oe : Obj} {pn : List (Addr × Obj)} {n : Nat} (hz : L2N.Zn (.ref C) (some dd) oe) (hv : ∃ vs, oe.data = .fields vs) (hC : A.xc n = some C) :
    GdS T { G with inH := true } wf (A.with (some (n, a, dd))) k (X.suite a ((a, oe) :: pn)) W0 := by
  have kn : Known T G wf (A.with none) X.prog X.w X.K X.mg X.base k := by rw [Ad.none_eq hA]; exact g.kn
  refine ⟨⟨kn.with.inH true, g.un, (fun h => by cases h), g.nd, takesN, PassesOwn.never, fun c a' dd' h => ?_, (fun h => by cases h), fun _ => ⟨?_, ?_⟩⟩, g.fn, g.bk, g.stk, g.frm⟩
  rotate_left
  · obtain ⟨vs, e⟩ := hv
    exact ⟨(a, oe), ⟨rfl, vs, e, hz.2.2 vs e⟩, List.mem_cons_self⟩
  · have r := (g.cold hh).2
    exact ⟨r.dp, r.un⟩
  cases h
  exact ⟨C, oe, hC, (g.kn.xfc n C hC).1, (g.kn.xfc n C hC).2, List.mem_cons_self, hz.1, hz.2.1, hv⟩
abbrev OkS (T : Tb) (wf k : Nat) (A : Ad) (X : Cx) (W : WX) (st : CN.St) (s : Stmt) : Prop := PS X s (TSo X.K A W (evalS T wf (runFn T wf k) st))
abbrev OkSs (T : Tb) (wf k : Nat) (A : Ad) (X : Cx) (W : WX) (st : Sts) (s : List Stmt) : Prop := PSs X s (TSo X.K A W (evalSs T wf (runFn T wf k) st))
theorem ps_exprN {X : Cx} {W : WX} {e : Expr} {pos : Pos} {m : ME} (hc : isComp e = false) (he : PE X e (TEo X.K A W m)) : PS X (.Expr e pos) (TSo X.K A W fun env s => (m env s).bs env fun _ s1 => .ok (.next env) s1) :=
  PS.imp (ps_expr he (swap_no hc)) fun D σ H ⟨env, S, μ, E, R, h⟩ => sseq E R h fun d S1 x μ1 H1 _ r1 R1 E1 M1 h1 => h1 σ μ1 H1 E1 R1 (Mo.refl _ _)
theorem ps_retE {X : Cx} {W : WX} {e : Expr} {pos : Pos} {m : ME} (he : PE X e (TEo X.K A W m)) : PS X (.Return (some e) pos) (TSo X.K A W fun env s => (m env s).bs env fun d s1 => .ok (.ret d) s1) :=
  PS.imp (ps_ret he) fun D σ H ⟨env, S, μ, E, R, h⟩ => sseq E R h fun d S1 x μ1 H1 _ r1 R1 E1 M1 h1 => h1 x μ1 H1 r1 R1 (Mo.refl _ _)
theorem ps_iteN {X : Cx} {W : WX} {c : Expr} {x y : List Stmt} {pos : Pos} {mt : MT} {ma mb : MS} (hc : PT X c (TTo X.K A W mt)) (ha : PSs X x (TSo X.K A W ma)) (hb : PSs X y (TSo X.K A W mb)) : PS X (.If c x y pos) (TSo X.K A W fun env s => (mt env s).bs env fun c s1 => if c then ma env s1 else mb env s1) :=
  PS.imp (ps_if hc ha hb) fun D σ H ⟨env, S, μ, E, R, h⟩ => sseq E R h fun c S1 c' μ1 H1 _ r1 R1 E1 M1 h1 => by
    obtain rfl : c = c' := r1
    cases c with
    | true => exact iteT ⟨env, S1, μ1, E1, R1, h1⟩
    | false => exact iteF ⟨env, S1, μ1, E1, R1, h1⟩
theorem sound_asg {X : Cx} {W : WX} (g : GdS T G wf A k X W) {t : Tg} {e : Ex} {tg v : Expr} {p : Pos} (h : (chkTg true X.N X.env.scope t tg && chkE G X.N X.env.scope e v && notSD v && (!G.inH || nmTg t) && (match tg with | .Tuple ts _ _ => !isComp v && (match isTupE v with | some vs => cellPar X.env.scope ts vs | none => true) | .Name _ _ => !swapB X.env.scope v tg || (compE e && !G.inH) | _ => false)) = true) :
    PS X (.Assign [tg] v p) (TSo X.K A W (asgM t (evalE T (runFn T wf k) e))) := by
  simp only [Bool.and_eq_true] at h
  obtain ⟨⟨⟨⟨ht, he⟩, hn⟩, hq⟩, h4⟩ := h
  have hcn : nmTg t = false → G.inH = false := fun z => by rw [z] at hq; simpa using hq
  have tt := tgAt_of (X := X) (fun _ => g.fn) ht
  have pe := (soundE e g.toGd he).1
  cases tg with
  | Tuple es kk pp =>
    have h4' : (!isComp v && (match isTupE v with | some vs => cellPar X.env.scope es vs | none => true)) = true := h4
    simp only [Bool.and_eq_true, Bool.not_eq_true'] at h4'
    refine ps_asgN g hcn (swap_no h4'.1) ?_ tt pe
    cases v with
    | Tuple vs k3 p3 =>
      have hc : cellPar X.env.scope es vs = true := h4'.2
      unfold cellPar at hc
      split at hc
      · rename_i x px y py a b
        simp only [Bool.not_eq_true', Bool.and_eq_false_iff, decide_eq_false_iff_not] at hc
        exact swapped2c g.bk fun q => hc.elim (fun z => z q.1) fun z => z q.2
      · cases hc
    | _ => rfl
  | Name x px =>
    have h4' : (!swapB X.env.scope v (.Name x px) || (compE e && !G.inH)) = true := h4
    cases hs : swapB X.env.scope v (.Name x px) with
    | false =>
      refine ps_asgN g hcn (swap_nm g.bk (fun y q hy => by cases hy; exact hs) hn) ?_ tt pe
      cases v <;> rfl
    | true =>
      rw [hs] at h4'
      have h4q : (compE e && !G.inH) = true := h4'
      rw [Bool.and_eq_true, Bool.not_eq_true'] at h4q
      obtain ⟨hce, hnh⟩ := h4q
      cases t with
      | tp is => cases tt
      | nm n =>
        have hy : X.N[n]? = some x := by
          cases tt with
          | nm hi _ => exact hi
        cases v with
        | ListComp elt gs csc p2 =>
          have hyl : X.env.scope.names.lookup x = some .local := by
            have h2 : (decide (X.env.scope.names.lookup x = some .local) && (px.line == p2.line) && !(csc.names.any fun (n, k) => n == x && (k == .local || k == .cell))) = true := hs
            simp only [Bool.and_eq_true, decide_eq_true_eq] at h2
            exact h2.1.1
          cases e with
          | comp ce tg own it cond =>
            unfold chkE at he
            split at he
            · rename_i x2 t2 i2 fs2 csc2 pp hv
              cases hv
              simp only [Bool.and_eq_true, Bool.not_eq_true'] at he
              obtain ⟨⟨⟨⟨⟨⟨_, hb⟩, ht⟩, hi⟩, hc⟩, he⟩, ho⟩ := he
              have hh := hnh
              have z := soundI it g.toGd hi
              exact (ps_asgLc g hh (stayI it _) (tgOwn_ok ho) hy hyl hs hb z.1 z.2 (fun s H C cl fp => tgAt_of (c := false) (fun q => by cases q) ht) (fun s H C cl fp => soundC cond (g.toGd.blk hh s H _ C cl fp) hc) (fun s H C cl fp => (soundE ce (g.toGd.blk hh s H _ C cl fp) he).1)).1
            · cases he
          | compB ce tg own it cond =>
            unfold chkE at he
            split at he
            · rename_i x2 t2 i2 fs2 csc2 pp hv
              cases hv
              simp only [Bool.and_eq_true, Bool.not_eq_true'] at he
              obtain ⟨⟨⟨⟨⟨⟨_, hb⟩, ht⟩, hi⟩, hc⟩, he⟩, ho⟩ := he
              have hh := hnh
              have z := soundI it g.toGd hi
              exact (ps_asgLc g hh (stayI it _) (tgOwn_ok ho) hy hyl hs hb z.1 z.2 (fun s H C cl fp => tgAt_of (c := false) (fun q => by cases q) ht) (fun s H C cl fp => soundC cond (g.toGd.blk hh s H _ C cl fp) hc) (fun s H C cl fp => (soundE ce (g.toGd.blk hh s H _ C cl fp) he).1)).2
            · cases he
          | _ => cases hce
        | _ => cases hs
  | _ => cases h4

mutual
theorem soundS : ∀ (st : CN.St) {G : Gi} {A : Ad} {X : Cx} {W : WX} {s : Stmt}, GdS T G wf A k X W → chkS G X.N X.env.scope st s = true → OkS T wf k A X W st s
  | .asg t e, G, A, X, W, s, g, h => by
    unfold chkS at h
    split at h
    · exact sound_asg g h
    · cases h
  | .sub o i e, G, A, X, W, s, g, h => by
    unfold chkS at h
    split at h
    · simp only [Bool.and_eq_true] at h
      exact ps_subN (soundE o g.toGd h.1.1.2).1 (soundE i g.toGd h.1.2).1 (soundE e g.toGd h.2).1 h.1.1.1
    · cases h
  | .fld o f e, G, A, X, W, s, g, h => by
    unfold chkS at h
    split at h
    · simp only [Bool.and_eq_true, decide_eq_true_eq] at h
      exact ps_fldN g h.1.1 (soundE o g.toGd h.1.2).1 (soundE e g.toGd h.2).1
    · cases h
  | .par is es, G, A, X, W, s, g, h => by
    unfold chkS at h
    split at h
    · simp only [Bool.and_eq_true, decide_eq_true_eq, Bool.not_eq_true'] at h
      exact ps_parN g h.1.1.1.1 h.1.1.1.2 h.1.2 h.2 (soundEs es g.toGd h.1.1.2).1
    · cases h
  | .aug i op e, G, A, X, W, s, g, h => by
    unfold chkS at h
    split at h
    · simp only [Bool.and_eq_true, decide_eq_true_eq] at h
      obtain ⟨⟨⟨⟨hi, hx⟩, rfl⟩, hop⟩, he⟩ := h
      exact ps_augN g hi (loc_of hx) hop (soundE e g.toGd he).1
    · cases h
  | .augf o f op e, G, A, X, W, s, g, h => by
    unfold chkS at h
    split at h
    · simp only [Bool.and_eq_true, decide_eq_true_eq] at h
      obtain ⟨⟨⟨⟨hf, rfl⟩, hop⟩, ho⟩, he⟩ := h
      exact ps_augfN g hf hop (soundE o g.toGd ho).1 (soundE e g.toGd he).1
    · cases h
  | .expr e, G, A, X, W, s, g, h => by
    unfold chkS at h
    split at h
    · simp only [Bool.and_eq_true, Bool.not_eq_true'] at h
      exact ps_exprN h.1 (soundE e g.toGd h.2).1
    · cases h
  | .ret e, G, A, X, W, s, g, h => by
    unfold chkS at h
    split at h
    · exact ps_retE (soundE e g.toGd h).1
    · cases h
  | .retN, G, A, X, W, s, g, h => by
    unfold chkS at h
    split at h
    · exact PS.imp ps_retN fun D σ H ⟨env, S, μ, E, R, h⟩ => h .non μ H .non R (Mo.refl _ _)
    · cases h
  | .ite t a b, G, A, X, W, s, g, h => by
    unfold chkS at h
    split at h
    · simp only [Bool.and_eq_true] at h
      exact ps_iteN (soundE t g.toGd h.1.1).2 (soundSs a g h.1.2) (soundSs b g h.2)
    · cases h
  | .whl t b, G, A, X, W, s, g, h => by
    unfold chkS at h
    split at h
    · simp only [Bool.and_eq_true] at h
      exact PS.imp (ps_while g.pass (soundE t g.toGd h.1).2 (soundSs b g h.2)) fun D σ H h => while_read h
    · cases h
  | .for_ tg it b, G, A, X, W, s, g, h => by
    unfold chkS at h
    split at h
    · simp only [Bool.and_eq_true, Bool.or_eq_true, Bool.not_eq_true'] at h
      cases hq : G.inH with
      | true =>
        have hx := h.1.1.1.elim (fun z => by rw [hq] at z; cases z) id
        obtain ⟨a, j, rfl, rfl⟩ := hotIt_ok hx
        have z := soundIH a g.toGd h.1.2
        exact PS.imp (L2H.ps_forH g.pass (g.hot hq).1 z.1 (pg_of (fun y => by cases y) g.nd (tgAt_of (fun _ => g.fn) h.1.1.2)) (soundSs b g h.2) (notSet_ok z.2 X.env)) fun D σ H h => for_read (stayI (.range1 a) _) h
      | false =>
      have z := soundI it g.toGd h.1.2
      have cm := (g.cold hq).1
      exact PS.imp (ps_for g.pass cm z.1 (pg_of (fun _ => cm) g.nd (tgAt_of (fun _ => g.fn) h.1.1.2)) (soundSs b g h.2) (notSet_ok z.2 X.env)) fun D σ H h => for_read (stayI it _) h
    · cases h
  | .pass, G, A, X, W, s, g, h => by
    unfold chkS at h
    split at h
    · exact PS.imp ps_pass fun D σ H ⟨env, S, μ, E, R, h⟩ => h σ μ H E R (Mo.refl _ _)
    · cases h
  | .brk, G, A, X, W, s, g, h => by
    unfold chkS at h
    split at h
    · exact PS.imp ps_break fun D σ H ⟨env, S, μ, E, R, h⟩ => h σ μ H E R (Mo.refl _ _)
    · cases h
  | .cont, G, A, X, W, s, g, h => by
    unfold chkS at h
    split at h
    · exact PS.imp ps_continue fun D σ H ⟨env, S, μ, E, R, h⟩ => h σ μ H E R (Mo.refl _ _)
    · cases h
  | .raise c es, G, A, X, W, s, g, h => by
    unfold chkS at h
    split at h
    · rename_i x p xs q q2
      simp only [Bool.and_eq_true, decide_eq_true_eq, Bool.not_eq_true'] at h
      obtain ⟨⟨⟨⟨hh, hc⟩, hx⟩, hs⟩, hne⟩ := h
      cases xs with
      | nil => cases hne
      | cons y ys =>
        have z := soundEs es g.toGd hs
        exact ps_raiseN g hh hc hx z.1 z.2.1
    · cases h
  | .thru b, G, A, X, W, s, g, h => by
    unfold chkS at h
    split at h
    · exact PS.imp (ps_try_thru0 (soundSs b g.nox h)) fun D σ H h => thru_read h
    · cases h
  | .try_ b hs, G, A, X, W, s, g, h => by
    unfold chkS at h
    split at h
    · simp only [Bool.and_eq_true, Bool.not_eq_true'] at h
      have hA := g.nc h.1.1
      obtain ⟨cl, hk⟩ := soundHs hs g h.1.1 hA h.2
      exact PS.imp (ps_try_hs (tb := fun W' => TSo X.K A W' (evalSs T wf (runFn T wf k) b)) g.stk g.frm g.nd g.takes (fun W' pn xe tk pw => soundSs b (g.tr h.1.1 hA tk pw) h.1.2) cl) fun D σ H h => try_read g.kn hA hk h
    · cases h
  | .never, G, A, X, W, s, g, h => PS.imp ps_never fun D σ H ⟨env, S, μ, E, R, h⟩ => h
theorem soundSs : ∀ (sts : Sts) {G : Gi} {A : Ad} {X : Cx} {W : WX} {ss : List Stmt}, GdS T G wf A k X W → chkSs G X.N X.env.scope sts ss = true → OkSs T wf k A X W sts ss
  | .nil, G, A, X, W, ss, g, h => by
    unfold chkSs at h
    cases ss with
    | nil => exact PSs.imp pss_nil fun D σ H ⟨env, S, μ, E, R, h⟩ => h σ μ H E R (Mo.refl _ _)
    | cons => cases h
  | .cons a as, G, A, X, W, ss, g, h => by
    unfold chkSs at h
    split at h
    · simp only [Bool.and_eq_true] at h
      exact PSs.imp (pss_cons (soundS a g h.1) (soundSs as g h.2)) fun D σ H h => whole_seq h
    · cases h
theorem soundHs : ∀ (hs : Hds) {G : Gi} {A : Ad} {X : Cx} {W : WX} {hds : List ExceptHandler}, GdS T G wf A k X W → G.inH = false → A.cau = none → chkHs G X.N X.env.scope hs hds = true → Clauses X hds (clausesOf T wf (runFn T wf k) X.K A hs) ∧ ∀ c ∈ hdCls hs, ∃ HC, A.xc c = some HC
  | .nil, G, A, X, W, hds, g, hh, hA, h => by
    unfold chkHs at h
    cases hds with
    | nil => exact ⟨.nil, fun c z => by cases z⟩
    | cons => cases h
  | .cons c i b r, G, A, X, W, hds, g, hh, hA, h => by
    unfold chkHs at h
    split at h
    · rename_i x p nm b0 bs q hr
      simp only [Bool.and_eq_true, decide_eq_true_eq] at h
      obtain ⟨⟨⟨⟨hc, hx⟩, hn⟩, hb⟩, hr'⟩ := h
      obtain ⟨cr, hk⟩ := soundHs r g hh hA hr'
      obtain ⟨C, hC, hm⟩ := g.kn.exc c x hc
      obtain ⟨gx, dbg, _⟩ := isGl_ok hx
      have nms : Names X x (.ref ((A.xc c).getD 0)) := by
        rw [hC]
        exact ⟨gx, dbg, .inl hm⟩
      have su : SuiteOk X (b0 :: bs) (suiteT X.K A (evalSs T wf (runFn T wf k) b)) := fun a oe cls d pn hz hv => ⟨fun pins s σ H D I ⟨n, C', dd, e1, e2, hxc, t⟩ => by
        subst e1 e2
        exact (soundSs b (g.suite hh hA hz hv hxc) hb).run pins s σ H D I t⟩
      refine ⟨?_, fun c' z => ?_⟩
      · cases nm with
        | none => exact .bare nms (of_decide_eq_true hn) su cr
        | some n =>
          have hn' : (decide (X.N[i]? = some n) && isLoc X.env.scope n) = true := hn
          rw [Bool.and_eq_true, decide_eq_true_eq] at hn'
          exact .named nms hn'.1 (loc_of hn'.2) su cr
      · rcases List.mem_cons.mp z with rfl | z
        · exact ⟨C, hC⟩
        · exact hk c' z
    · cases h
end
end
end CN
set_option Elab.async false
set_option linter.all false
set_option maxRecDepth 100000
set_option maxHeartbeats 4000000
/-! CnTok: return (.., e.replace('..', '..')) in a function that has a parameter. -/
namespace CN
open PySem PyProof.Rows L2

/-- e.replace of two written texts -/
def replE (G : Gi) (N : List Str) (sc : Scope) : Ex → Expr → Bool
  | .bm .replace o (.cons (.cst (.str y)) (.cons (.cst (.str z)) .nil)), .Call (.Attribute x m ap) [.Constant (.str y') _ _, .Constant (.str z') _ _] [] p =>
    decide (m = "replace") && decide (y = y') && decide (z = z') && !(y == z) && noSuper x && (ap.endLine == p.line) && chkE G N sc o x
  | _, _ => false
def chkTs (G : Gi) (N : List Str) (sc : Scope) : Exs → List Expr → Bool
  | .nil, [] => true
  | .cons a as, x :: r => plainE x && (chkE G N sc a x || replE G N sc a x) && chkTs G N sc as r
  | _, _ => false
def lastT (G : Gi) (N : List Str) (sc : Scope) : CN.St → Stmt → Bool
  | .ret (.tup es), .Return (some (.Tuple xs _ _)) _ => chkTs G N sc es xs
  | _, _ => false
def endT (G : Gi) (N : List Str) (sc : Scope) (a : CN.St) (x : Stmt) : Sts → List Stmt → Bool
  | .nil, [] => lastT G N sc a x
  | _, _ => false
def chkT (G : Gi) (N : List Str) (sc : Scope) : Sts → List Stmt → Bool
  | .cons a as, x :: r => endT G N sc a x as r || (chkS G N sc a x && chkT G N sc as r)
  | _, _ => false
section
variable {X : Cx} {A : Ad} {W : WX} {e : Expr} {pos : Pos}
theorem PET.imp {t t' : TE} (h : PET X e t) (f : ∀ σ H Q, t' σ H Q → t σ H Q) : PET X e t' := fun pins s σ H Q h0 I q => h pins s σ H Q h0 I (f σ H Q q)
theorem PAT.imp {es : List Expr} {t t' : TA} (h : PAT X es t) (f : ∀ σ H Q, t' σ H Q → t σ H Q) : PAT X es t' := fun pos pins s σ H Q h0 I q => h pos pins s σ H Q h0 I (f σ H Q q)
theorem PSsT.imp {ss : List Stmt} {t t' : TS} (h : PSsT X ss t) (f : ∀ D σ H, t' D σ H → t D σ H) : PSsT X ss t' := fun pins s σ H D h0 I q => h pins s σ H D h0 I (f D σ H q)
theorem pet_tup {es : List Expr} {ta : TA} {k : Nat} (h : PAT X es ta) : PET X (.Tuple es k pos) (tTup ta) := by
  intro pins s σ H Q h0 I hq
  refine wpAny_Tuple_spliced (thn (h pos pins s σ H _ h0 I hq) fun us s1 ⟨xs, H1, I1, r, z, q⟩ => ⟨by rw [← r.length]; exact z, ?_⟩)
  have hf : H1 s1.heap.objs.size = none := I1.hok.fresh (Nat.le_refl _)
  refine ⟨.ref s1.heap.objs.size, upd H1 s1.heap.objs.size (.tup xs), I1.laid (t' := s1.toks) (fun b u e => Heap.get?_push_of_some _ e) (Nat.le_refl _) ?_, rfl, q _ hf⟩
  exact ⟨z, us, r, ⟨_, Heap.get?_push_size _ rfl, rfl, _, rfl⟩⟩
variable {T : Tb} {G : Gi} {wf k : Nat}
theorem pet_repl {o : Ex} {x : Expr} {y z : Str} {j1 j2 : Nat} {c1 c2 ap p : Pos} {ma : ME} (ho : PE X x (TEo X.K A W ma)) (hb : noSuper x = true) (hl : (ap.endLine == p.line) = true) (hyz : (y == z) = false) :
    PET X (.Call (.Attribute x "replace" ap) [.Constant (.str y) j1 c1, .Constant (.str z) j2 c2] [] p) (TEo X.K A W (bmM .replace ma fun _ s => .ok [.str y, .str z] s)) := by
  refine PET.imp (CwR.pet_replC ho hyz rfl (base_of hb) hl) fun σ H Q ⟨env, S, μ, E, R, h⟩ => seq E R h fun d S1 v μ1 H1 _ r1 R1 E1 M1 h1 => ?_
  cases d with
  | str w =>
    cases r1
    replace h1 : Post (ReD X.K A) X.K A W σ μ1 H1 Q (if w.length + (w.length + 1) * z.length ≤ 16777216 then .ok (.str (Txt.replace w y z)) S1 else .stuck) := h1
    split at h1
    · rename_i hz
      exact ⟨w, rfl, hz, h1 _ μ1 H1 (.str _) R1 (Mo.refl _ _)⟩
    · exact h1.elim
  | _ => exact h1.elim
theorem soundTs : ∀ (es : Exs) {xs : List Expr}, Gd T G wf A k X W → chkTs G X.N X.env.scope es xs = true → PAT X xs (TAo X.K A W (evalEs T (runFn T wf k) es))
  | .nil, [], g, h => PAT.imp pat_nil fun σ H Q ⟨env, S, μ, E, R, h⟩ => h [] μ H .nil R (Mo.refl _ _)
  | .nil, _ :: _, g, h => by cases h
  | .cons a as, [], g, h => by cases h
  | .cons a as, x :: r, g, h => by
    have h' : (plainE x && (chkE G X.N X.env.scope a x || replE G X.N X.env.scope a x) && chkTs G X.N X.env.scope as r) = true := h
    simp only [Bool.and_eq_true, Bool.or_eq_true] at h'
    obtain ⟨⟨hp, hx⟩, hr⟩ := h'
    have pe : PET X x (TEo X.K A W (evalE T (runFn T wf k) a)) := by
      rcases hx with hx | hx
      · exact CwR.PET.of (soundE a g hx).1
      · unfold replE at hx
        split at hx
        · rename_i o y z b m ap y' j1 c1 z' j2 c2 p
          simp only [Bool.and_eq_true, decide_eq_true_eq, Bool.not_eq_true'] at hx
          obtain ⟨⟨⟨⟨⟨⟨rfl, rfl⟩, rfl⟩, hyz⟩, hb⟩, hl⟩, ho⟩ := hx
          exact pet_repl (o := o) (soundE o g ho).1 hb hl hyz
        · cases hx
    exact PAT.imp (pat_cons pe (soundTs as g hr) (starE hp)) fun σ H Q ⟨env, S, μ, E, R, h⟩ =>
      seq E R h fun d S1 x μ1 H1 _ r1 R1 E1 M1 h1 => seq E1 R1 h1 fun ds S2 xs μ2 H2 _ r2 R2 E2 M2 h2 => h2 (x :: xs) μ2 H2 (.cons (DR.mono M2 r1) r2) R2 (Mo.refl _ _)
theorem soundT : ∀ (sts : Sts) {ss : List Stmt}, GdS T G wf A k X W → chkT G X.N X.env.scope sts ss = true → PSsT X ss (TSo X.K A W (evalSs T wf (runFn T wf k) sts))
  | .nil, ss, g, h => by unfold chkT at h; cases h
  | .cons a as, [], g, h => by cases h
  | .cons a as, x :: r, g, h => by
    have h' : (endT G X.N X.env.scope a x as r || (chkS G X.N X.env.scope a x && chkT G X.N X.env.scope as r)) = true := h
    rw [Bool.or_eq_true] at h'
    rcases h' with h' | h'
    · unfold endT at h'
      split at h'
      · unfold lastT at h'
        split at h'
        · rename_i es xs k1 p1 p2
          have pt := soundTs es g.toGd h'
          have pe : PET X (.Tuple xs k1 p1) (TEo X.K A W (evalE T (runFn T wf k) (.tup es))) := by
            refine PET.imp (pet_tup pt) fun σ H Q ⟨env, S, μ, E, R, h⟩ => seq E R h fun ds S1 xs μ1 H1 _ r1 R1 E1 M1 h1 => ?_
            by_cases hl : lenOk ds.length = true
            · rw [if_pos hl] at h1
              refine ⟨by rw [DRs.length r1]; exact lenOk_le hl, fun p hp => ?_⟩
              obtain ⟨z1, z2, z3⟩ := new_tup R1 r1 hp
              exact h1 _ _ _ z1 z2 z3
            · rw [if_neg hl] at h1
              exact h1.elim
          have ps : PST X (.Return (some (.Tuple xs k1 p1)) p2) (TSo X.K A W (evalS T wf (runFn T wf k) (.ret (.tup es)))) := fun pins s σ H D h0 I ⟨env, S, μ, E, R, h⟩ =>
            CwR.pst_ret pe pins s σ H D h0 I (sseq E R h fun d S1 x μ1 H1 _ r1 R1 E1 M1 h1 => h1 x μ1 H1 r1 R1 (Mo.refl _ _))
          exact PSsT.imp (psst_cons ps (PSsT.of (soundSs .nil g rfl))) fun D σ H h => whole_seq h
        · cases h'
      · cases h'
    · rw [Bool.and_eq_true] at h'
      exact PSsT.imp (psst_cons (PST.of (soundS a g h'.1)) (soundT as g h'.2)) fun D σ H h => whole_seq h
end
end CN
set_option Elab.async false
set_option linter.all false
set_option maxRecDepth 100000
set_option maxHeartbeats 4000000
/-! CnFun: a function of the program answers as the interpreter says, at every level. -/
namespace CN
open PySem PyProof.Rows L2

section
variable {K : PySem.W.Frag} {A : Ad} {μ μ' : Mu} {H H' : Hp}
mutual
theorem DR.below_ : ∀ {d : D} {v : V}, DR K A μ H d v → below μ.tr.length d = true
  | _, _, .non => rfl
  | _, _, .bl b => rfl
  | _, _, .int i => rfl
  | _, _, .str x => rfl
  | _, _, .tup h r => DRs.below_ r
  | _, _, .tl h r => DRs.below_ r
  | _, _, .kl h r => DRs.below_ r
  | _, _, .ref h => by
    show decide _ = true
    exact decide_eq_true (List.getElem?_eq_some_iff.mp h).1
  | _, _, .fn h => rfl
  | _, _, .cls h => rfl
  | _, _, .ty n => rfl
  | _, _, .tab h => rfl
theorem DRs.below_ : ∀ {ds : List D} {vs : List V}, DRs K A μ H ds vs → belows μ.tr.length ds = true
  | _, _, .nil => rfl
  | _, _, .cons h r => by
    show (below _ _ && belows _ _) = true
    rw [DR.below_ h, DRs.below_ r]
    rfl
end
mutual
theorem noRef_below {n : Nat} : ∀ {d : D}, noRef d = true → below n d = true
  | .non, _ => rfl
  | .bl _, _ => rfl
  | .int _, _ => rfl
  | .str _, _ => rfl
  | .tup ds, h => noRefs_below (show noRefs ds = true from h)
  | .tl ds, h => noRefs_below (show noRefs ds = true from h)
  | .kl ds, h => noRefs_below (show noRefs ds = true from h)
  | .ref _, h => by cases h
  | .fn _, _ => rfl
  | .cls _, _ => rfl
  | .ty _, _ => rfl
  | .tab _, _ => rfl
theorem noRefs_below {n : Nat} : ∀ {ds : List D}, noRefs ds = true → belows n ds = true
  | [], _ => rfl
  | d :: ds, h => by
    have h' : (noRef d && noRefs ds) = true := h
    rw [Bool.and_eq_true] at h'
    show (below n d && belows n ds) = true
    rw [noRef_below h'.1, noRefs_below h'.2]
    rfl
end
variable {l : List Addr}
theorem mem_of_pre (hp : μ'.tr = μ.tr ++ l) (hv : μ'.pv = μ.pv) {a : Addr} (h : a ∈ μ) : a ∈ μ' := by
  rcases h with h | h
  · left; rw [hp]; exact List.mem_append_left _ h
  · right; rw [hv]; exact h
mutual
theorem DR.shrink (hp : μ'.tr = μ.tr ++ l) (hv : μ'.pv = μ.pv) : ∀ {d : D} {v : V}, DR K A μ' H d v → below μ.tr.length d = true → DR K A μ H d v
  | _, _, .non, _ => .non
  | _, _, .bl b, _ => .bl b
  | _, _, .int i, _ => .int i
  | _, _, .str x, _ => .str x
  | _, _, .tup h r, b => .tup (by
      rcases h with ⟨h, n⟩ | h
      · exact .inl ⟨h, fun q => n (mem_of_pre hp hv q)⟩
      · exact .inr h) (DRs.shrink hp hv r b)
  | _, _, .tl h r, b => .tl ⟨h.1, fun q => h.2 (mem_of_pre hp hv q)⟩ (DRs.shrink hp hv r b)
  | _, _, .kl h r, b => .kl h (DRs.shrink hp hv r b)
  | _, _, .ref (n := n) h, b => .ref (by
      have hn : n < μ.tr.length := of_decide_eq_true b
      rw [hp, List.getElem?_append_left hn] at h
      exact h)
  | _, _, .fn h, _ => .fn h
  | _, _, .cls h, _ => .cls h
  | _, _, .ty n, _ => .ty n
  | _, _, .tab h, _ => .tab h
theorem DRs.shrink (hp : μ'.tr = μ.tr ++ l) (hv : μ'.pv = μ.pv) : ∀ {ds : List D} {vs : List V}, DRs K A μ' H ds vs → belows μ.tr.length ds = true → DRs K A μ H ds vs
  | _, _, .nil, _ => .nil
  | _, _, .cons (d := d) (ds := ds) h r, b => by
    have b' : (below μ.tr.length d && belows μ.tr.length ds) = true := b
    rw [Bool.and_eq_true] at b'
    exact .cons (DR.shrink hp hv h b'.1) (DRs.shrink hp hv r b'.2)
end
theorem FR.shrink (hp : μ'.tr = μ.tr ++ l) (hv : μ'.pv = μ.pv) : ∀ {fs : List (Nat × D)} {vs : List (Str × V)}, FR K A μ' H fs vs → (fs.all fun p => CN.below μ.tr.length p.2) = true → FR K A μ H fs vs
  | _, _, .nil, _ => .nil
  | _, _, .cons h r, b => by
    rw [List.all_cons, Bool.and_eq_true] at b
    exact .cons (h.shrink hp hv b.1) (FR.shrink hp hv r b.2)
theorem KR.shrink (hp : μ'.tr = μ.tr ++ l) (hv : μ'.pv = μ.pv) : ∀ {fs : List (Key × D)} {vs : List (Key × V)}, KR K A μ' H fs vs → (fs.all fun p => CN.below μ.tr.length p.2) = true → KR K A μ H fs vs
  | _, _, .nil, _ => .nil
  | _, _, .cons h r, b => by
    rw [List.all_cons, Bool.and_eq_true] at b
    exact .cons (h.shrink hp hv b.1) (KR.shrink hp hv r b.2)
theorem OR.shrink (hp : μ'.tr = μ.tr ++ l) (hv : μ'.pv = μ.pv) {g : GO} {o : HO} (r : OR K A μ' H g o) (b : belowG μ.tr.length g = true) : OR K A μ H g o := by
  cases r with
  | lst r => exact .lst (r.shrink hp hv b)
  | ins h r => exact .ins h (r.shrink hp hv b)
  | dct r => exact .dct (r.shrink hp hv b)
theorem FR.below_ : ∀ {fs : List (Nat × D)} {vs : List (Str × V)}, FR K A μ H fs vs → (fs.all fun p => CN.below μ.tr.length p.2) = true
  | _, _, .nil => rfl
  | _, _, .cons h r => by rw [List.all_cons, h.below_, FR.below_ r]; rfl
theorem KR.below_ : ∀ {fs : List (Key × D)} {vs : List (Key × V)}, KR K A μ H fs vs → (fs.all fun p => CN.below μ.tr.length p.2) = true
  | _, _, .nil => rfl
  | _, _, .cons h r => by rw [List.all_cons, h.below_, KR.below_ r]; rfl
theorem OR.below_ {g : GO} {o : HO} (r : OR K A μ H g o) : belowG μ.tr.length g = true := by
  cases r with
  | lst r => exact r.below_
  | ins h r => exact r.below_
  | dct r => exact r.below_
theorem HR.below_ {S : Hs} (R : HR K A μ S H) : S.all (belowG S.length) = true := by
  rw [List.all_eq_true]
  intro g hg
  obtain ⟨n, hn, e⟩ := List.mem_iff_getElem.mp hg
  have hn2 : n < μ.tr.length := by rw [R.len]; exact hn
  obtain ⟨o, _, r⟩ := R.obj n g μ.tr[n] (by rw [List.getElem?_eq_getElem hn, e]) (List.getElem?_eq_getElem hn2)
  rw [← R.len]
  exact r.below_
/-- what was made is dropped -/
theorem HR.shrink {S S1 : Hs} (R : HR K A μ S H) (R1 : HR K A μ' S1 H') (M : Mo μ H μ' H') (b : (S1.take S.length).all (belowG S.length) = true) : HR K A μ (S1.take S.length) H' := by
  obtain ⟨l, hp⟩ := M.pre
  have hl : S1.length = S.length + l.length := by rw [← R1.len, hp, List.length_append, R.len]
  refine ⟨R.nd, by rw [List.length_take, R.len]; omega, fun n o a h1 h2 => ?_, fun a ha => ?_, R.pvn⟩
  · have hn : n < S.length := by rw [← R.len]; exact (List.getElem?_eq_some_iff.mp h2).1
    have h1' : S1[n]? = some o := by rw [List.getElem?_take] at h1; rw [if_pos hn] at h1; exact h1
    obtain ⟨ho, h3, h4⟩ := R1.obj n o a h1' (M.get h2)
    have bo := List.all_eq_true.mp b o (List.mem_of_getElem? h1)
    exact ⟨ho, h3, h4.shrink hp M.pv (by rw [R.len]; exact bo)⟩
  · exact R1.pvt a (by rw [M.pv]; exact ha)
theorem Mo.shrink (M : Mo μ H μ' H') : Mo μ H μ H' := ⟨⟨[], by simp⟩, rfl, M.keep, fun _ h n => absurd h n⟩
/-- a call's end -/
theorem back_ok {W : WX} {σ : L2.St} {S S1 : Hs} {d : D} {v : V} {flag : Nat} {Q : VK} (h : Post (ReD K A) K A W σ μ H Q (back flag S d S1)) (R : HR K A μ S H) (r : DR K A μ' H' d v) (R1 : HR K A μ' S1 H') (M : Mo μ H μ' H') : Q v H' := by
  obtain ⟨l, hp⟩ := M.pre
  unfold back at h
  split at h
  · exact h v μ' H' r R1 M
  · split at h
    · split at h
      · rename_i hb
        rw [Bool.and_eq_true] at hb
        have e := eqHs_eq hb.2
        have R2 : HR K A μ (S1.take S.length) H' := R.shrink R1 M (by rw [e]; exact R.below_)
        rw [e] at R2
        exact h v μ H' (r.shrink hp M.pv (noRef_below hb.1)) R2 M.shrink
      · exact h.elim
    · split at h
      · split at h
        · rename_i n
          split at h
          · rename_i ds hs
            split at h
            · rename_i hb
              simp only [Bool.and_eq_true, decide_eq_true_eq] at hb
              have e := eqHs_eq hb.2
              have R2 : HR K A μ (S1.take S.length) H' := R.shrink R1 M (by rw [e]; exact R.below_)
              rw [e] at R2
              cases r with
              | @ref _ a hn =>
                obtain ⟨ho, h1, h2⟩ := R1.obj _ _ _ hs hn
                cases h2 with
                | @lst _ vs rl =>
                  have hna : a ∉ μ.tr := fun q => by
                    obtain ⟨j, hj, ej⟩ := List.mem_iff_getElem.mp q
                    have e1 : μ'.tr[j]? = some a := M.get (by rw [List.getElem?_eq_getElem hj, ej])
                    have := nd_ix R1.nd e1 hn
                    have hl := R.len
                    omega
                  have hnp : a ∉ μ.pv := fun q => R1.pvn a (by rw [M.pv]; exact q) (List.mem_of_getElem? hn)
                  exact h (.ref a) μ H' (.tl ⟨.inl h1, fun q => q.elim hna hnp⟩ (rl.shrink hp M.pv (noRefs_below hb.1.2))) R2 M.shrink
            · exact h.elim
          · exact h.elim
        · exact h.elim
      · split at h
        · rename_i hb
          simp only [Bool.and_eq_true, decide_eq_true_eq] at hb
          exact h v μ H' (r.shrink hp M.pv (by rw [R.len]; exact hb.1.2)) (R.shrink R1 M hb.2) M.shrink
        · exact h.elim
mutual
theorem DR.sub {μ1 μ2 : Mu} (hs : ∀ a, a ∈ μ2 → a ∈ μ1) : ∀ {d : D} {v : V}, noRef d = true → DR K A μ1 H d v → DR K A μ2 H d v
  | _, _, _, .non => .non
  | _, _, _, .bl b => .bl b
  | _, _, _, .int i => .int i
  | _, _, _, .str x => .str x
  | _, _, n, .tup h r => .tup (by
      rcases h with ⟨h, q⟩ | h
      · exact .inl ⟨h, fun z => q (hs _ z)⟩
      · exact .inr h) (DRs.sub hs n r)
  | _, _, n, .tl h r => .tl ⟨h.1, fun z => h.2 (hs _ z)⟩ (DRs.sub hs n r)
  | _, _, n, .kl h r => .kl h (DRs.sub hs n r)
  | _, _, n, .ref _ => by cases n
  | _, _, _, .fn h => .fn h
  | _, _, _, .cls h => .cls h
  | _, _, _, .ty n => .ty n
  | _, _, _, .tab h => .tab h
theorem DRs.sub {μ1 μ2 : Mu} (hs : ∀ a, a ∈ μ2 → a ∈ μ1) : ∀ {ds : List D} {vs : List V}, noRefs ds = true → DRs K A μ1 H ds vs → DRs K A μ2 H ds vs
  | _, _, _, .nil => .nil
  | d :: ds, _ :: _, n, .cons h r => by
    have n' : (noRef d && noRefs ds) = true := n
    rw [Bool.and_eq_true] at n'
    exact .cons (DR.sub hs n'.1 h) (DRs.sub hs n'.2 r)
end
theorem FR.sub {μ1 μ2 : Mu} (hs : ∀ a, a ∈ μ2 → a ∈ μ1) : ∀ {fs : List (Nat × D)} {vs : List (Str × V)}, (fs.all fun p => noRef p.2) = true → FR K A μ1 H fs vs → FR K A μ2 H fs vs
  | _, _, _, .nil => .nil
  | _ :: _, _ :: _, n, .cons h r => by
    rw [List.all_cons, Bool.and_eq_true] at n
    exact .cons (h.sub hs n.1) (FR.sub hs n.2 r)
def Mu.hideAll (μ : Mu) : Mu := ⟨[], μ.tr ++ μ.pv⟩
theorem hideAll_mem {a : Addr} : a ∈ μ.hideAll ↔ a ∈ μ := by
  constructor
  · rintro (h | h)
    · cases h
    · rcases List.mem_append.mp h with h | h
      · exact .inl h
      · exact .inr h
  · rintro (h | h)
    · exact .inr (List.mem_append_left _ h)
    · exact .inr (List.mem_append_right _ h)
theorem HR.hideAll {S : Hs} (R : HR K A μ S H) : HR K A μ.hideAll [] H := ⟨List.nodup_nil, rfl, fun n o a h => by simp at h, fun a h => R.there (hideAll_mem.mp (.inr h)), fun a h q => by cases q⟩
theorem Mo.unhide (M : Mo μ.hideAll H μ' H') : Mo μ H μ H' := ⟨⟨[], by simp⟩, rfl, fun a o e _ => M.keep a o e (by intro q; cases q), fun _ h n => absurd h n⟩
theorem Mo.sub_un (M : Mo μ.hideAll H μ' H') : ∀ a, a ∈ μ → a ∈ μ' := fun a h => .inr (by rw [M.pv]; exact (hideAll_mem.mpr h).elim (fun q => by cases q) id)
theorem HR.unhide {S : Hs} (R : HR K A μ S H) (M : Mo μ.hideAll H μ' H') : HR K A μ S H' := ⟨R.nd, R.len, fun n o a h1 h2 => by
  obtain ⟨ho, h3, h4⟩ := R.obj n o a h1 h2
  exact ⟨ho, M.keep a ho h3 (by intro q; cases q), h4.mono M.unhide⟩, fun a h => by
  obtain ⟨o, e⟩ := R.pvt a h
  exact ⟨o, M.keep a o e (by intro q; cases q)⟩, R.pvn⟩
theorem ER.start {N : List Str} {n : Nat} {ds : List D} {vs : List V} (r : DRs K A μ H ds vs) (hn : N.length = n) : ER K A μ H (startE n ds) (L2.start N vs) := by
  have hl := r.length
  refine ⟨by simp [startE, L2.start, hl, hn], fun i x e => ?_⟩
  unfold startE at e
  by_cases hi : i < ds.length
  · rw [List.getElem?_append_left (by simpa using hi), List.getElem?_map] at e
    cases ed : ds[i]? with
    | none => rw [ed] at e; cases e
    | some d2 =>
      rw [ed] at e
      cases e
      obtain ⟨v, h1, h2⟩ := r.get ed
      refine ⟨some v, ?_, v, rfl, h2⟩
      unfold L2.start
      rw [List.getElem?_append_left (by rw [List.length_map, hl]; exact hi), List.getElem?_map, h1]
      rfl
  · rw [List.getElem?_append_right (by simpa using hi)] at e
    rw [List.getElem?_replicate] at e
    split at e
    · rename_i hj
      cases e
      refine ⟨none, ?_, True.intro⟩
      unfold L2.start
      rw [List.getElem?_append_right (by rw [List.length_map, hl]; omega), List.getElem?_replicate, if_pos (by rw [List.length_map] at *; omega)]
    · cases e
end

def noCell (sc : Scope) : Bool := sc.names.all fun y => !decide (y.2 = .cell)
/-- a body's text -/
def chkB (G : Gi) (N : List Str) (sc : Scope) (f : Fn) (body : List Stmt) : Bool := chkSs G N sc f.body body || (!G.inH && decide (1 ≤ f.params) && noCell sc && chkT G N sc f.body body)
/-- a function's text is read -/
structure FnAt (T : Tb) (G : Gi) (K : PySem.W.Frag) (f : Fn) (a : Addr) : Prop where
  ex : ∃ (x qual : Str) (pa : Arguments) (body : List Stmt) (sc : Scope) (fd : FuncData) (ps N : List Str), FunD K x qual pa body sc [] [] a fd ∧ Binds K fd ps [] ∧ ps.length = f.params ∧ FnScope N ps sc ∧ N.length = f.slots ∧ chkB G N sc f body = true ∧ KwOk K f fd ps
/-- the program's file, and that super is nobody's -/
def POk (T : Tb) (P : Program) : Prop := ((P.main.file : Str) == T.file) = true ∧ (P.main.scope.names.lookup ("super" : Str)).isSome = false
/-- what stands at every level -/
structure Stat (T : Tb) (G : Gi) (A : Ad) (w : World) (K : PySem.W.Frag) (mg : Str → Option Value) : Prop where
  tabs : Tabs T A K w
  consts : ∀ (i : Nat) (x : Str) (d : D), G.consts[i]? = some x → T.consts[i]? = some d → ∃ u v, mg x = some u ∧ RelV v u ∧ KD K A d v
  constsL : ∀ (i : Nat) (x : Str), G.consts[i]? = some x → ∃ d, T.consts[i]? = some d
  afn : ∀ (g : Nat) (a : Addr), A.fn g = some a → ∃ f, T.fns[g]? = some f ∧ FnAt T G K f a
  glob : ∀ (g : Nat) (x : Str), G.fns[g]? = some x → ∃ a, A.fn g = some a ∧ mg x = some (.ref a)
  clss : ∀ (c : Nat) (x : Str), G.clss[c]? = some x → ∃ C g a, A.cl c = some C ∧ mg x = some (.ref C) ∧ T.inits[c]? = some g ∧ A.fn g = some a ∧ Mk K C a
  meth : ∀ (c : Nat) (C : Addr) (ms : List (Nat × Nat)) (m g : Nat) (x : Str), A.cl c = some C → T.clss[c]? = some ms → ms.lookup m = some g → G.meths[m]? = some x → ∃ a, A.fn g = some a ∧ Meth K C x a
  cls : ∀ (c : Nat) (C : Addr), A.cl c = some C → Cls K C
  noat : ∀ (c : Nat) (C : Addr) (f : Nat) (x : Str), A.cl c = some C → G.flds[f]? = some x → NoAttr K C x
  fld : ∀ (f : Nat) (x : Str), G.flds[f]? = some x → A.fld f = x
  inj : ∀ (f g : Nat), A.fld f = A.fld g → f = g
  mfld : ∀ (m : Nat) (x : Str), G.meths[m]? = some x → ∀ f : Nat, A.fld f ≠ x
  exc : ∀ (c : Nat) (x : Str), G.excs[c]? = some x → ∃ C, A.xc c = some C ∧ mg x = some (.ref C)
  mkx : ∀ (c : Nat) (C : Addr) (fl : List Nat), A.xc c = some C → T.excs[c]? = some fl → fl ≠ [] → ∀ (P : Program) (base : Heap), POk T P → XMk P w K mg base C (fl.map A.fld)
  xfc : ∀ (c : Nat) (C : Addr), A.xc c = some C → XfC K C ∧ ∀ (f : Nat) (x : Str), G.flds[f]? = some x → PySem.W.findIn K (.ref C) x = some none
  sup : ∀ (c h : Nat) (C HC : Addr), A.xc c = some C → A.xc h = some HC → PySem.W.exmOne K (.ref C) (.ref HC) = some (decide (h ∈ T.xsup.getD c []))
  kwf : ∀ (g : Nat) (ks : List Str), G.kwf.lookup g = some ks → ks ≠ [] ∧ ∃ f, T.fns[g]? = some f ∧ f.kws = ks ∧ f.params = ks.length
  kwc : ∀ (c : Nat) (ks : List Str), G.kwc.lookup c = some ks → ks ≠ [] ∧ ∃ g f, T.inits[c]? = some g ∧ T.fns[g]? = some f ∧ f.kws = ks ∧ f.params = ks.length + 1
  hfn : ∀ (g : Nat) (a : Addr), g ∈ G.hotf → A.fn g = some a → ∃ f, T.fns[g]? = some f ∧ FnAt T { G with inH := true } K f a
  cold : G.inH = false
  nocau : A.cau = none
  blt : ∀ x : Str, x ∈ (["len", "int", "tuple", "list", "all", "any", "sum", "max", "min", "abs", "isinstance", "range", "zip", "enumerate", "reversed", "bool", "str"] : List Str) → mg x = none
section
variable {T : Tb} {G : Gi} {wf : Nat} {A : Ad} {P : Program} {w : World} {K : PySem.W.Frag} {mg : Str → Option Value} {base : Heap}
theorem Stat.known (s : Stat T G A w K mg) (hP : POk T P) {k : Nat} (h : ∀ (g : Nat) (f : Fn) (a : Addr), A.fn g = some a → T.fns[g]? = some f → FF T wf A P w K mg base k g f a) (hq : ∀ (g : Nat) (a : Addr), g ∈ G.hotf → A.fn g = some a → FHot T wf A P w K mg base k g a) : Known T G wf A P w K mg base k :=
  ⟨s.tabs, s.consts, s.constsL, fun g a ha => by
    obtain ⟨f, hf, _⟩ := s.afn g a ha
    exact ⟨f, hf, h g f a ha hf⟩, s.glob, s.clss, s.meth, s.cls, s.noat, s.fld, s.inj, s.mfld, s.exc, fun c C fl h1 h2 h3 => s.mkx c C fl h1 h2 h3 P base hP, s.xfc, s.sup, s.kwf, s.kwc, hq, s.blt⟩
theorem isNeFun {sc : ScopeKind} (h : sc = .function) : (if sc.isAnnotationScope then ScopeKind.function else sc) = .function := by
  subst h
  rfl
/-- a body, as the promise has it -/
theorem body_of {X : Cx} {E : XK} {k g : Nat} {f : Fn} {vs : List V} {H : Hp} {Q : VK} (hf : T.fns[g]? = some f) (hN : X.N.length = f.slots) (hsp : spOf T wf X.K A (k + 1) g vs H Q E) :
    TSo X.K A (noSt E) (evalSs T wf (runFn T wf k) f.body) { nx := fun _ H' => Q .non H', rt := Q } (L2.start X.N vs) H := by
  obtain ⟨ds, S0, μ, r, R, q⟩ := hsp
  unfold runFn at q
  rw [hf] at q
  dsimp only at q
  split at q
  · by_cases h4 : 4 ≤ f.flag
    · rw [if_pos h4] at q
      split at q
      · rename_i hn
        have r0 : DRs X.K A μ.hideAll H ds vs := r.sub (fun a h => hideAll_mem.mp h) hn
        refine ⟨startE f.slots ds, [], μ.hideAll, ER.start r0 hN, R.hideAll, ?_⟩
        cases eb : evalSs T wf (runFn T wf k) f.body (startE f.slots ds) [] with
        | stuck => rw [eb] at q; exact q.elim
        | err => rw [eb] at q; exact q.elim
        | ok fl S1 =>
          rw [eb] at q
          cases fl with
          | next e => exact fun σ' μ' H' E' R' M' => q .non μ H' .non (R.unhide M') M'.unhide
          | ret d =>
            intro v μ' H' r' R' M'
            unfold backF at q
            dsimp only at q
            split at q
            · rename_i hd
              exact q v μ H' (r'.sub M'.sub_un hd) (R.unhide M') M'.unhide
            · split at q
              · split at q
                · rename_i n _ _
                  split at q
                  · rename_i ls hs
                    split at q
                    · rename_i hl
                      cases r' with
                      | @ref _ a hn' =>
                        obtain ⟨ho, g1, g2⟩ := R'.obj _ _ _ hs hn'
                        cases g2 with
                        | @lst _ us rl =>
                          have hna : a ∉ μ := fun z => by
                            obtain ⟨o, e⟩ := R.there z
                            have := M'.fresh a (List.mem_of_getElem? hn') (by intro y; cases y)
                            rw [e] at this
                            cases this
                          exact q (.ref a) μ H' (.tl ⟨.inl g1, hna⟩ (rl.sub M'.sub_un hl)) (R.unhide M') M'.unhide
                    · exact q.elim
                  · exact q.elim
                · exact q.elim
              · exact q.elim
          | brk e => exact q.elim
          | cont e => exact q.elim
          | exc e c fs =>
            intro cl dx σ' μ' H' E' x' R' M'
            unfold backF at q
            dsimp only at q
            split at q
            · rename_i hfs
              cases x' with
              | mk hc' hd' hn' rf' => exact q _ _ μ H' (.mk hc' hd' (fun z => hn' (M'.sub_un _ z)) (rf'.sub M'.sub_un hfs)) (R.unhide M') M'.unhide
            · exact q.elim
      · exact q.elim
    · rw [if_neg h4] at q
      refine ⟨startE f.slots ds, S0, μ, ER.start r hN, R, ?_⟩
      cases eb : evalSs T wf (runFn T wf k) f.body (startE f.slots ds) S0 with
      | stuck => rw [eb] at q; exact q.elim
      | err => rw [eb] at q; exact q.elim
      | ok fl S1 =>
        rw [eb] at q
        cases fl with
        | next e => exact fun σ' μ' H' E' R' M' => back_ok q R .non R' M'
        | ret d => exact fun v μ' H' r' R' M' => back_ok q R r' R' M'
        | brk e => exact q.elim
        | cont e => exact q.elim
        | exc e c fs => exact fun cl dx σ' μ' H' E' x' R' M' => q cl dx μ' H' x' R' M'
  · exact q.elim
theorem sp_len {k g : Nat} {f : Fn} {vs : List V} {H : Hp} {Q : VK} {E : XK} (hf : T.fns[g]? = some f) (h : spOf T wf K A (k + 1) g vs H Q E) : vs.length = f.params := by
  obtain ⟨ds, S0, μ, r, R, q⟩ := h
  rw [r.length]
  unfold runFn at q
  rw [hf] at q
  dsimp only at q
  split at q
  · assumption
  · exact q.elim
/-- every function, at every level; where an exception is handled, too -/
theorem Stat.both (s : Stat T G A w K mg) (hP : POk T P) : ∀ k : Nat, (∀ (g : Nat) (f : Fn) (a : Addr), A.fn g = some a → T.fns[g]? = some f → FF T wf A P w K mg base k g f a) ∧ (∀ (g : Nat) (a : Addr), g ∈ G.hotf → A.fn g = some a → FHot T wf A P w K mg base k g a)
  | 0 => by
    constructor
    · intro g f a ha hf
      obtain ⟨f', hf', ⟨x, qual, pa, body, sc, fd, ps, N, F, hb, hl, S, hN, hc, hw⟩⟩ := s.afn g a ha
      rw [hf] at hf'
      cases hf'
      exact ⟨⟨fd, ps, hb, hl, ⟨fun vs H Q E ⟨ds, S0, μ, r, R, q⟩ => q.elim, fun _ _ _ _ _ _ _ _ _ _ _ _ _ ⟨ds, S0, μ, r, R, q⟩ => q.elim⟩, hw⟩, F.kp⟩
    · intro g a hg ha
      obtain ⟨f', hf', ⟨x, qual, pa, body, sc, fd, ps, N, F, hb, hl, S, hN, hc, hw⟩⟩ := s.hfn g a hg ha
      exact ⟨F.kp, fd, ps, hb, ⟨fun vs H Q E ⟨ds, S0, μ, r, R, q⟩ => q.elim, fun _ _ _ _ _ _ _ _ _ _ _ _ _ _ _ _ ⟨ds, S0, μ, r, R, q⟩ => q.elim⟩⟩
  | k + 1 => by
    obtain ⟨ih1, ih2⟩ := Stat.both s hP k
    have kn : Known T G wf A P w K mg base k := s.known hP ih1 ih2
    constructor
    · intro g f a ha hf
      obtain ⟨f', hf', ⟨x, qual, pa, body, sc, fd, ps, N, F, hb, hl, S, hN, hc, hw⟩⟩ := s.afn g a ha
      rw [hf] at hf'
      cases hf'
      have gd : ∀ (cdv : Value) (A' : Around) (outer : List PySem.Env) (s0 : Shared) (H : Hp) (E : XK), Room (2 * k + 3) (A'.deeper (envOfC qual sc s0.heap.objs.size a cdv)) → GdS T G wf A k (cxOf (L2N.CX P w) P w K mg base N qual sc a cdv A' outer s0 H E) (noSt E) := fun cdv A' outer s0 H E hr =>
        ⟨⟨kn, hr.units, fun _ => ⟨rfl, hr⟩, S.nd, L2N.takes_of (X := cxOf (L2N.CX P w) P w K mg base N qual sc a cdv A' outer s0 H E) rfl rfl rfl rfl, passes_of (X := cxOf (L2N.CX P w) P w K mg base N qual sc a cdv A' outer s0 H E) rfl, fun c a' dd h => (by rw [s.nocau] at h; cases h), fun _ => s.nocau, fun h => (by rw [s.cold] at h; cases h)⟩, fun _ => rfl, isNeFun S.kind, rfl, rfl⟩
      have hc' : chkSs G N sc f.body body = true ∨ (1 ≤ f.params ∧ noCell sc = true ∧ chkT G N sc f.body body = true) := by
        unfold chkB at hc
        simp only [Bool.or_eq_true, Bool.and_eq_true, decide_eq_true_eq] at hc
        exact hc.elim .inl fun z => .inr ⟨z.1.1.2, z.1.2, z.2⟩
      rcases hc' with hc | ⟨h1, hnc, hc⟩
      · refine ⟨⟨fd, ps, hb, hl, F.ok (CX := L2N.CX P w) (k := 2 * k + 3) S (fun vs H Q E h => (sp_len hf h).trans hl.symm) fun cdv A' outer s0 H vs Q E hr hsp => ?_, hw⟩, F.kp⟩
        exact ⟨_, soundSs f.body (gd cdv A' outer s0 H E hr) hc, body_of (X := cxOf (L2N.CX P w) P w K mg base N qual sc a cdv A' outer s0 H E) hf hN hsp⟩
      · obtain ⟨oc, od, dV, kV, doc, pm, an, cdv, ct, osl, hfd, lk, hcd, _, _⟩ := F.ex
        subst hfd
        refine ⟨⟨_, ps, hb, hl, fn_ofT (CX := L2N.CX P w) (k := 2 * k + 3) lk hcd S (fun y hy e => ?_) (by rw [hl]; exact h1) (fun vs H Q E h => (sp_len hf h).trans hl.symm) fun A' outer s0 H vs Q E hr hsp => ?_, hw⟩, F.kp⟩
        · have z := List.all_eq_true.mp hnc y hy
          simp [e] at z
        · exact ⟨_, soundT f.body (gd cdv A' outer s0 H E hr) hc, body_of (X := cxOf (L2N.CX P w) P w K mg base N qual sc a cdv A' outer s0 H E) hf hN hsp⟩
    · intro g a hg ha
      obtain ⟨f, hf, ⟨x, qual, pa, body, sc, fd, ps, N, F, hb, hl, S, hN, hc, hw⟩⟩ := s.hfn g a hg ha
      obtain ⟨oc, od, dV, kV, doc, pm, an, cdv, ct, osl, rfl, lk, hcd, _, _⟩ := F.ex
      refine ⟨F.kp, _, ps, hb, L2H.fn_ofH (k := 2 * k + 3) lk hcd S (fun vs H Q E h => (sp_len hf h).trans hl.symm) fun A' outer s0 H vs Q E p hp hr hsp => ?_⟩
      have hq : L2H.HotC (L2H.cxH (L2N.CX P w) P w K mg base N qual sc a cdv A' outer s0 H E p) := ⟨p, hp, List.mem_singleton_self p⟩
      have gd : GdS T { G with inH := true } wf A k (L2H.cxH (L2N.CX P w) P w K mg base N qual sc a cdv A' outer s0 H E p) (noSt E) :=
        ⟨⟨kn.inH true, by have := hr.un; show A'.units + 3 + 64 < _; have e : (A'.deeper (envOfC qual sc s0.heap.objs.size a cdv)).units = A'.units + 3 := rfl; rw [e] at this; omega, (fun h => by cases h), S.nd,
          L2N.takes_of (X := L2H.cxH (L2N.CX P w) P w K mg base N qual sc a cdv A' outer s0 H E p) rfl rfl rfl rfl, passes_of (X := L2H.cxH (L2N.CX P w) P w K mg base N qual sc a cdv A' outer s0 H E p) rfl, fun c a' dd h => (by rw [s.nocau] at h; cases h), (fun h => by cases h), fun _ => ⟨hq, hr⟩⟩, fun _ => rfl, isNeFun S.kind, rfl, rfl⟩
      have hc' : chkSs { G with inH := true } N sc f.body body = true := by
        unfold chkB at hc
        simpa using hc
      exact ⟨_, soundSs f.body gd hc', body_of (X := L2H.cxH (L2N.CX P w) P w K mg base N qual sc a cdv A' outer s0 H E p) hf hN hsp⟩
theorem Stat.kn (s : Stat T G A w K mg) (hP : POk T P) (k : Nat) : Known T G wf A P w K mg base k := s.known hP (s.both hP k).1 (s.both hP k).2
end
end CN
set_option Elab.async false
set_option linter.all false
set_option maxRecDepth 100000
set_option maxHeartbeats 4000000
/-! CnLaw: what the top has written, by the names; a law by its interpreter's answer. -/
namespace CN
open PySem PyProof.Rows L2

/-- an exception class of the program's that is raised: its number, its name, its __init__ -/
structure XiD where
  ix : Nat
  cls : Str
  name : Str
  qual : Str
  params : Arguments
  body : List Stmt
  scope : Scope
/-- a law's data -/
structure LawD where
  fn : List He.DefD
  T : Tb
  G : Gi
  tabs : List Str
  xi : List XiD
/-- far names for the fields that there aren't -/
def farName (f : Nat) : Str := ⟨(List.replicate (f + 200) (122 : Nat)).toArray⟩
def fldName (fl : List Str) (f : Nat) : Str := match fl[f]? with
  | some x => x
  | none => farName f
def LawD.ad (D : LawD) (K : PySem.W.Frag) : Ad where
  fn := fun g => (D.fn[g]?).map fun d => He.fAd K d.at_
  cl := fun c => (D.G.clss[c]?).map (He.ga K)
  tb := fun t => (D.tabs[t]?).map (He.ga K)
  fld := fldName D.G.flds
  xc := fun c => (D.G.excs[c]?).map (He.ga K)
  cau := none
/-! values by their text -/
mutual
def kdB (K : PySem.W.Frag) (A : Ad) : D → Value → Bool
  | .non, u => (match u with | .none => true | _ => false)
  | .bl b, u => (match u with | .bool c => b == c | _ => false)
  | .int i, u => (match u with | .int j _ => decide (i = j) | _ => false)
  | .str x, u => (match u with | .str y _ => decide (x = y) | _ => false)
  | .tup ds, u => (match u with
    | .ref a => (match K.lookup a with
      | some ⟨.type c, none, .seq its _, _⟩ => decide (c = "tuple") && (decide (its.size ≤ sizeLine) && kdsB K A ds its.toList)
      | _ => false)
    | _ => false)
  | .fn g, u => (match u with | .ref a => decide (A.fn g = some a) | _ => false)
  | .tab t, u => (match u with | .ref a => decide (A.tb t = some a) | _ => false)
  | _, _ => false
def kdsB (K : PySem.W.Frag) (A : Ad) : List D → List Value → Bool
  | [], us => us.isEmpty
  | d :: ds, us => (match us with
    | u :: us => kdB K A d u && kdsB K A ds us
    | [] => false)
end
mutual
theorem kdB_ok {K : PySem.W.Frag} {A : Ad} : ∀ {d : D} {u : Value}, kdB K A d u = true → ∃ v, RelV v u ∧ KD K A d v
  | .non, u, h => by
    unfold kdB at h
    split at h
    · exact ⟨.non, rfl, fun _ _ => .non⟩
    · cases h
  | .bl b, u, h => by
    unfold kdB at h
    split at h
    · have := eq_of_beq h
      subst this
      exact ⟨.bl b, rfl, fun _ _ => .bl b⟩
    · cases h
  | .int i, u, h => by
    unfold kdB at h
    split at h
    · have := of_decide_eq_true h
      subst this
      exact ⟨.int i, ⟨_, rfl⟩, fun _ _ => .int i⟩
    · cases h
  | .str x, u, h => by
    unfold kdB at h
    split at h
    · have := of_decide_eq_true h
      subst this
      exact ⟨.str x, ⟨_, rfl⟩, fun _ _ => .str x⟩
    · cases h
  | .tup ds, u, h => by
    unfold kdB at h
    split at h
    · rename_i a
      split at h
      · rename_i c its n sl hk
        simp only [Bool.and_eq_true, decide_eq_true_eq] at h
        obtain ⟨rfl, hz, hs⟩ := h
        obtain ⟨vs, r, k⟩ := kdsB_ok hs
        exact ⟨.ref a, rfl, fun μ H => .tup (.inr ⟨_, its, n, hk, rfl, rfl, rfl, hz, r⟩) (k μ H)⟩
      · cases h
    · cases h
  | .fn g, u, h => by
    unfold kdB at h
    split at h
    · exact ⟨.ref _, rfl, fun μ H => .fn (of_decide_eq_true h)⟩
    · cases h
  | .tab g, u, h => by
    unfold kdB at h
    split at h
    · exact ⟨.ref _, rfl, fun μ H => .tab (of_decide_eq_true h)⟩
    · cases h
  | .tl _, u, h => by unfold kdB at h; cases h
  | .kl _, u, h => by unfold kdB at h; cases h
  | .ref _, u, h => by unfold kdB at h; cases h
  | .cls _, u, h => by unfold kdB at h; cases h
  | .ty _, u, h => by unfold kdB at h; cases h
theorem kdsB_ok {K : PySem.W.Frag} {A : Ad} : ∀ {ds : List D} {us : List Value}, kdsB K A ds us = true → ∃ vs, Vals vs us ∧ ∀ μ H, DRs K A μ H ds vs
  | [], us, h => by
    unfold kdsB at h
    cases us with
    | nil => exact ⟨[], .nil, fun _ _ => .nil⟩
    | cons => cases h
  | d :: ds, us, h => by
    unfold kdsB at h
    split at h
    · rw [Bool.and_eq_true] at h
      obtain ⟨v, r, k⟩ := kdB_ok h.1
      obtain ⟨vs, rs, ks⟩ := kdsB_ok h.2
      exact ⟨v :: vs, .cons r rs, fun μ H => .cons (k μ H) (ks μ H)⟩
    · cases h
end
def tbB (K : PySem.W.Frag) (A : Ad) : List DictEntry → List (Str × D) → Bool
  | [], [] => true
  | e :: es, (x, d) :: kvs => (match e.key with | .str y _ => decide (y = x) | _ => false) && (kdB K A d e.val && tbB K A es kvs)
  | _, _ => false
theorem tbB_ok {K : PySem.W.Frag} {A : Ad} : ∀ {es : List DictEntry} {kvs : List (Str × D)}, tbB K A es kvs = true → TbR K A es kvs
  | [], [], _ => .nil
  | e :: es, (x, d) :: kvs, h => by
    unfold tbB at h
    simp only [Bool.and_eq_true] at h
    obtain ⟨hk, hv, hr⟩ := h
    refine .cons ?_ (kdB_ok hv) (tbB_ok hr)
    split at hk
    · rename_i y t hy
      have := of_decide_eq_true hk
      subst this
      exact ⟨t, hy⟩
    · cases hk
  | [], _ :: _, h => by cases h
  | _ :: _, [], h => by cases h
/-! ### exception classes -/
/-- an exception class over ValueError, by others of the program's -/
def oexB (K : PySem.W.Frag) (C : Addr) : Bool := match K.lookup C with
  | some ⟨.type c, _, .cls cd, sl⟩ => decide (c = "type") && (cd.hasDict && !cd.hasDel && (match cd.mro with
    | .ref C' :: bm => decide (C' = C) && PySem.HandSPX.refsVE bm
    | _ => false)) && ((match sl.toList with
    | [_, _, _, _, some (.builtin i), _] => decide (i = "ValueError.__new__")
    | _ => false) && (decide (PySem.W.findIn K (.ref C) "__setattr__" = some (some (.builtin "object.__setattr__"))) && (decide (PySem.W.subIn K (.ref C) (.type "BaseException") = some true) && (decide (PySem.W.typeIn K (.ref C) = some (.type "type")) && PySem.W.keepIn K (.ref C)))))
  | _ => false
theorem oexB_ok {K : PySem.W.Frag} {C : Addr} (h : oexB K C = true) : OexC K C := by
  unfold oexB at h
  split at h
  · rename_i c dd cd sl hk
    simp only [Bool.and_eq_true, Bool.not_eq_true', decide_eq_true_eq] at h
    obtain ⟨⟨rfl, ⟨hd, hl⟩, hm⟩, hs, h1, h2, h3, h4⟩ := h
    refine ⟨?_, h1, h2, h3, h4⟩
    obtain ⟨nm, bs, mro, N, q, hdct, sn, sub, ab, col, hdel⟩ := cd
    dsimp only at hd hl hm
    split at hm
    · rename_i C' bm
      simp only [Bool.and_eq_true, decide_eq_true_eq] at hm
      obtain ⟨rfl, hm⟩ := hm
      split at hs
      · rename_i k0 k1 k2 k3 i k5 hsl
        have hs := of_decide_eq_true hs
        subst hs hd hl
        have e : sl = #[k0, k1, k2, k3, some (.builtin "ValueError.__new__"), k5] := by
          apply Array.ext'
          exact hsl
        subst e
        exact ⟨nm, q, N, bs, bm, sn, sub, ab, col, dd, k0, k1, k2, k3, k5, hk, hm⟩
      · cases hs
    · cases hm
  · cases h
abbrev FnZ : Type := Option (Str × Str × Arguments × FuncBody × Scope × Addr × Addr)
def XiD.at_ (K : PySem.W.Frag) (d : XiD) : Addr := He.ma K (He.ga K d.cls) "__init__"
def fnZ (K : PySem.W.Frag) (d : XiD) : FnZ := match K.lookup (d.at_ K) with
  | some ⟨_, _, .func fd, _⟩ => some (fd.name, fd.qualname, fd.params, fd.body, fd.scope, fd.globals, fd.builtins)
  | _ => none
def XiD.val (d : XiD) : FnZ := some (d.name, d.qual, d.params, .stmts d.body, d.scope, mainGlobals, builtinsNs)
/-- its class's cell, no defaults, its code's file -/
def closB (K : PySem.W.Frag) (C : Addr) (file : Str) (fd : FuncData) : Bool :=
  (match fd.closure with
    | [(y, cc)] => decide (y = "__class__") && (match K.lookup cc with
      | some ⟨_, _, .cell (some (.ref C')), _⟩ => decide (C' = C)
      | _ => false)
    | _ => false) &&
  ((match fd.defaults with | .none => true | _ => false) && (match fd.code with
    | .ref c => (match K.lookup c with
      | some ⟨_, _, .fields vs, _⟩ => (match (vs[2]? : Option Value) with
        | some (Value.str f _) => decide (f = file)
        | _ => false)
      | _ => false)
    | _ => false))
def xiB (K : PySem.W.Frag) (file : Str) (d : XiD) : Bool :=
  oexB K (He.ga K d.cls) && (decide (PySem.W.findIn K (.ref (He.ga K d.cls)) "__init__" = some (some (.ref (d.at_ K)))) && (decide (PySem.W.typeIn K (.ref (d.at_ K)) = some (.type "function")) &&
  ((match K.lookup (d.at_ K) with | some ⟨_, _, .func fd, _⟩ => PySem.W.codeIn K fd.code d.qual && closB K (He.ga K d.cls) file fd | _ => false) && (decide (PySem.W.mroIn K (He.ga K d.cls) (.ref (He.ga K d.cls)) = some true) &&
  (decide (PySem.W.nsIn K mainGlobals "super" = some none) && (decide (PySem.W.ks_superIn K (He.ga K d.cls) (He.ga K d.cls) "__init__" = some (some (.builtin "ValueError.__init__"))) &&
  (decide (PySem.W.nsIn K cStatics "thirdparty.any" = some none) && decide (PySem.W.subIn K (.ref (He.ga K d.cls)) (.type "ValueError") = some true))))))))
def nf (d : XiD) (cc c : Addr) : NdefX.NF := ⟨d.name, d.qual, d.params, d.body, d.scope, [("__class__", cc)], c⟩
theorem xi_ok {P : Program} {K : PySem.W.Frag} {file : Str} {d : XiD} (e : fnZ K d = d.val) (h : xiB K file d = true) (hP : ((P.main.file : Str) == file) = true ∧ (P.main.scope.names.lookup ("super" : Str)).isSome = false) :
    ∃ cc c fd, ExI P K (He.ga K d.cls) (d.at_ K) cc (nf d cc c) fd ∧ ∃ kV doc pm an ct, fd = PySem.W.fnX d.name d.qual d.params d.body d.scope [("__class__", cc)] .none kV doc pm an (.ref c) ct := by
  unfold xiB at h
  simp only [Bool.and_eq_true, decide_eq_true_eq] at h
  obtain ⟨h1, h2, h3, h4, h5, h6, h7, h8, h9⟩ := h
  split at h4
  · rename_i oc od fd osl hk
    unfold fnZ at e
    rw [hk] at e
    obtain ⟨n1, n2, n3, n4, n5, n6, n7, n8, n9, n10, n11, n12, n13, n14, n15⟩ := fd
    have e2 : (some (n1, n2, n3, n4, n5, n6, n15) : FnZ) = some (d.name, d.qual, d.params, .stmts d.body, d.scope, mainGlobals, builtinsNs) := e
    simp only [Option.some.injEq, Prod.mk.injEq] at e2
    obtain ⟨rfl, rfl, rfl, rfl, rfl, rfl, rfl⟩ := e2
    dsimp only at h4
    rw [Bool.and_eq_true] at h4
    obtain ⟨hc, hcl⟩ := h4
    unfold closB at hcl
    simp only [Bool.and_eq_true] at hcl
    obtain ⟨g1, g2, g3⟩ := hcl

    split at g1
    · rename_i y cc
      rw [Bool.and_eq_true] at g1
      obtain ⟨gy, g1⟩ := g1
      have gy := of_decide_eq_true gy
      subst gy
      split at g1
      · rename_i a b C' s hcc
        have g1 := of_decide_eq_true g1
        subst g1
        split at g2
        · split at g3
          · rename_i c
            split at g3
            · rename_i ca cb vs csl hco
              split at g3
              · rename_i f ft hv
                have g3 := of_decide_eq_true g3
                subst g3
                exact ⟨cc, c, _, ⟨oexB_ok h1, h2, h3, ⟨oc, od, osl, hk⟩, ⟨_, _, _, _, _, _, rfl⟩, rfl, hc, ⟨ca, cb, vs, csl, _, ft, hco, hv, hP.1⟩, ⟨a, b, s, hcc⟩, h5, h6, h7, h8, h9, hP.2⟩, _, _, _, _, _, rfl⟩
              · cases g3
            · cases g3
          · cases g3
        · cases g2
      · cases g1
    · cases g1
  · cases h4
/-- one field stored behind super().__init__('..') -/
def x1B (G : Gi) (d : XiD) (slf p : Str) (n : Nat) : Bool := (match d.body with
    | [.Expr (.Call (.Attribute (.Call (.Name s _) [] [] _) i p2) [.Constant (.str _) _ _] [] p4) _, .Assign [.Attribute (.Name a _) f _] (.Name b _) _] => decide (s = "super") && decide (i = "__init__") && (p2.endLine == p4.line) && decide (a = slf) && decide (b = p) && decide (G.flds[n]? = some f)
    | _ => false) &&
  (NdefX.nscB [slf, p, "__class__"] [slf, p] ["__class__"] d.scope && (decide (d.scope.names.lookup ("super" : Str) = some .globalImplicit) && ((match d.params.posonlyargs ++ d.params.args with | ar :: _ => decide (ar.arg = slf) | [] => false) && (plainNm slf && plainNm p))))
/-- two fields -/
def x2B (G : Gi) (d : XiD) (slf p p' : Str) (n n' : Nat) : Bool := (match d.body with
    | [.Expr (.Call (.Attribute (.Call (.Name s _) [] [] _) i p2) [.Constant (.str _) _ _] [] p4) _, .Assign [.Attribute (.Name a _) f _] (.Name b _) _, .Assign [.Attribute (.Name a' _) f' _] (.Name b' _) _] => decide (s = "super") && decide (i = "__init__") && (p2.endLine == p4.line) && decide (a = slf) && decide (b = p) && decide (G.flds[n]? = some f) && decide (a' = slf) && decide (b' = p') && decide (G.flds[n']? = some f')
    | _ => false) &&
  (NdefX.nscB [slf, p, p', "__class__"] [slf, p, p'] ["__class__"] d.scope && (decide (d.scope.names.lookup ("super" : Str) = some .globalImplicit) && ((match d.params.posonlyargs ++ d.params.args with | ar :: _ => decide (ar.arg = slf) | [] => false) && (plainNm slf && (plainNm p && plainNm p')))))
def XBinds (d : XiD) (ps : List Str) : Prop := ∀ (cl : List (Str × Addr)) (kV doc pm : Value) (an : Option Addr) (c : Addr) (ct : Value) (us : List Value), us.length = ps.length → bindArgs (PySem.W.fnX d.name d.qual d.params d.body d.scope cl .none kV doc pm an (.ref c) ct) ⟨us, []⟩ = pure (ps.zip us)
inductive XC (G : Gi) (d : XiD) : List Nat → Prop
  | one (slf p : Str) (n : Nat) (h : x1B G d slf p n = true) (b : XBinds d [slf, p]) : XC G d [n]
  | two (slf p p' : Str) (n n' : Nat) (h : x2B G d slf p p' n n' = true) (b : XBinds d [slf, p, p']) : XC G d [n', n]
theorem xc_ok {G : Gi} {d : XiD} {fl : List Nat} {P : Program} {w : World} {K : PySem.W.Frag} {mg : Str → Option Value} {base : Heap} {file : Str} {A : Ad} (x : XC G d fl) (hf : ∀ (f : Nat) (y : Str), G.flds[f]? = some y → A.fld f = y) (hno : ∀ (f : Nat) (y : Str), G.flds[f]? = some y → PySem.W.findIn K (.ref (He.ga K d.cls)) y = some none) (hm : mg "super" = none)
    (e : fnZ K d = d.val) (h : xiB K file d = true) (hP : ((P.main.file : Str) == file) = true ∧ (P.main.scope.names.lookup ("super" : Str)).isSome = false) : XMk P w K mg base (He.ga K d.cls) (fl.map A.fld) := by
  obtain ⟨cc, c, fd, E, kV, doc, pm, an, ct, hfd⟩ := xi_ok e h hP
  refine ⟨E.oex, d.at_ K, fd, ?_⟩
  cases x with
  | one slf p n hx hb =>
    refine ⟨[slf, p], E.ini, E.tI, .all fun us hl => by rw [hfd]; exact hb _ _ _ _ _ _ _ us hl, ?_⟩
    unfold x1B at hx
    simp only [Bool.and_eq_true] at hx
    obtain ⟨h1, h2, h3, h4, h5, h6⟩ := hx
    split at h1
    · rename_i s p0 p1 i p2 m j p3 p4 p5 a q1 f q2 b q3 q4 hbody
      simp only [Bool.and_eq_true, decide_eq_true_eq] at h1
      obtain ⟨⟨⟨⟨⟨rfl, rfl⟩, hpos⟩, rfl⟩, rfl⟩, hn⟩ := h1
      have n1 := plainNm_ne h5
      have n2 := plainNm_ne h6
      have hpa : ∃ ar, (d.params.posonlyargs ++ d.params.args).head? = some ar ∧ ar.arg = a := by
        cases z : d.params.posonlyargs ++ d.params.args with
        | nil => rw [z] at h4; cases h4
        | cons ar r => rw [z] at h4; exact ⟨ar, rfl, of_decide_eq_true h4⟩
      have ef : List.map A.fld [n] = [f] := by rw [List.map_cons, hf n f hn]; rfl
      rw [ef]
      exact init1 (k := 0) E (NdefX.nscope_by h2) hbody (of_decide_eq_true h3) hpa hm hpos ⟨n1.1, n1.2.1, n2.1, n2.2.1⟩ (hno n f hn)
    · cases h1
  | two slf p p' n n' hx hb =>
    refine ⟨[slf, p, p'], E.ini, E.tI, .all fun us hl => by rw [hfd]; exact hb _ _ _ _ _ _ _ us hl, ?_⟩
    unfold x2B at hx
    simp only [Bool.and_eq_true] at hx
    obtain ⟨h1, h2, h3, h4, h5, h6, h7⟩ := hx
    split at h1
    · rename_i s p0 p1 i p2 m j p3 p4 p5 a q1 f q2 b q3 q4 a' r1 f' r2 b' r3 r4 hbody
      simp only [Bool.and_eq_true, decide_eq_true_eq] at h1
      obtain ⟨⟨⟨⟨⟨⟨⟨⟨rfl, rfl⟩, hpos⟩, rfl⟩, rfl⟩, hn⟩, rfl⟩, rfl⟩, hn'⟩ := h1
      have n1 := plainNm_ne h5
      have n2 := plainNm_ne h6
      have n3 := plainNm_ne h7
      have hpa : ∃ ar, (d.params.posonlyargs ++ d.params.args).head? = some ar ∧ ar.arg = a' := by
        cases z : d.params.posonlyargs ++ d.params.args with
        | nil => rw [z] at h4; cases h4
        | cons ar r => rw [z] at h4; exact ⟨ar, rfl, of_decide_eq_true h4⟩
      have ef : List.map A.fld [n', n] = [f', f] := by rw [List.map_cons, List.map_cons, hf n f hn, hf n' f' hn']; rfl
      rw [ef]
      exact init2 (k := 0) E (NdefX.nscope_by h2) hbody (of_decide_eq_true h3) hpa hm hpos ⟨n1.1, n1.2.1, n2.1, n2.2.1⟩ ⟨n3.1, n3.2.1⟩ (hno n f hn) (hno n' f' hn')
    · cases h1
/-- all about exception classes -/
def LawD.xB (D : LawD) (K : PySem.W.Frag) : Bool :=
  (D.G.excs.all fun x => xfB K (He.ga K x) && D.G.flds.all fun f => decide (PySem.W.findIn K (.ref (He.ga K x)) f = some none)) &&
  ((D.G.excs.zipIdx.all fun p => D.G.excs.zipIdx.all fun q => decide (PySem.W.exmOne K (.ref (He.ga K p.1)) (.ref (He.ga K q.1)) = some (decide (q.2 ∈ D.T.xsup.getD p.2 [])))) && D.xi.all fun d => xiB K D.T.file d)
def XCs (G : Gi) (excs : List (List Nat)) : List XiD → Prop
  | [] => True
  | d :: ds => XC G d (excs.getD d.ix []) ∧ XCs G excs ds
theorem XCs.get {G : Gi} {excs : List (List Nat)} : ∀ {ds : List XiD} {d : XiD}, XCs G excs ds → d ∈ ds → XC G d (excs.getD d.ix [])
  | e :: ds, d, h, m => by
    rcases List.mem_cons.mp m with rfl | m
    · exact h.1
    · exact XCs.get h.2 m
/-- the constants, the tables -/
def LawD.ex (D : LawD) (K : PySem.W.Frag) : Bool :=
  ((D.G.consts.zip D.T.consts).all fun q => match PySem.W.nsIn K mainGlobals q.1 with
    | some (some u) => kdB K (D.ad K) q.2 u
    | _ => false) &&
  ((D.tabs.zip D.T.tabs).all fun q => match K.lookup (He.ga K q.1) with
    | some ⟨.type _, none, .dict es _, _⟩ => tbB K (D.ad K) es.toList q.2
    | _ => false) && D.xB K
def blts : List Str := ["len", "int", "tuple", "list", "all", "any", "sum", "max", "min", "abs", "isinstance", "range", "zip", "enumerate", "reversed", "bool", "str"]
def LawD.fa (D : LawD) : List He.Fa :=
  D.G.fns.map .glo ++ (D.G.clss.flatMap fun x => [.glo x, .cls x, .mkr x] ++ D.G.flds.map (.noat x)) ++ ((D.G.clss.zip D.T.clss).flatMap fun q => q.2.map fun p => .meth q.1 (D.G.meths.getD p.1 Str.empty)) ++ blts.map .free ++ (D.G.excs.map .glo ++ [.free "super"])
def LawD.ts (D : LawD) : List He.Tab := (D.tabs.zip D.T.tabs).map fun q => (fun K => He.ga K q.1, q.2.map (·.1))
/-! ### what the top's end is asked -/
abbrev AlY : Type := He.AlT × Bool × List FnZ
def obsK (D : LawD) (K : PySem.W.Frag) : AlY := (He.obsT D.fa D.fn D.ts K, D.ex K, D.xi.map (fnZ K))
def LawD.obs (D : LawD) (n : Nat) (g : Addr → Option Obj) : AlY := obsK D (He.frT g (cStatics :: He.asD g n))
def LawD.val (D : LawD) (w : World) : AlY := (He.valT D.fn D.ts w, true, D.xi.map XiD.val)
/-- what is told -/
structure Says (D : LawD) (w : World) (h : Heap) (K : PySem.W.Frag) : Prop where
  x : He.SaysX D.fa D.fn D.ts [] D.ex w h K
  xi : ∀ d ∈ D.xi, fnZ K d = d.val
theorem map_at {α β : Type} {f g : α → β} : ∀ {l : List α}, l.map f = l.map g → ∀ a ∈ l, f a = g a
  | a :: l, h, b, m => by
    simp only [List.map_cons, List.cons.injEq] at h
    rcases List.mem_cons.mp m with rfl | m
    · exact h.1
    · exact map_at h.2 b m
theorem says_of {D : LawD} {w : World} {h : Heap} {K : PySem.W.Frag} (e : obsK D K = D.val w) : Says D w h K :=
  ⟨⟨congrArg (fun z : AlY => z.1) e, congrArg (fun z : AlY => z.2.1) e, fun p hp => (nomatch hp), fun p hp => (nomatch hp), fun p hp => (nomatch hp)⟩, map_at (congrArg (fun z : AlY => z.2.2) e)⟩
def LawD.hook (D : LawD) (n : Nat) : PySem.W.Hook where
  α := AlY
  obs := fun s => D.obs n s.heap.get?
  val := fun w => D.val w
  says := fun w h => ∃ K : PySem.W.Frag, K.In h ∧ obsK D K = D.val w
  of := fun _ _ e => ⟨_, He.frT_in, e⟩
  keeps := fun _ _ _ ⟨K, hK, c⟩ k => ⟨K, PySem.W.Frag.In.keeps hK k, c⟩
theorem LawD.obs_eq (D : LawD) {n : Nat} {g : Addr → Option Obj} {s : Shared} (h : ∀ a, g a = s.heap.get? a) : D.obs n g = (D.hook n).obs s := by
  have e : g = s.heap.get? := funext h
  rw [e] <;> rfl
/-- what can be seen without the heap -/
def LawD.good (D : LawD) : Bool :=
  decide (D.G.consts.length ≤ D.T.consts.length) && decide (D.tabs.length ≤ D.T.tabs.length) && decide (D.fn.length ≤ D.T.fns.length) &&
  decide ((D.fn.take D.G.fns.length).map (·.at_) = D.G.fns.map fun x => (x, none)) && decide (D.G.clss.length ≤ D.T.inits.length) && decide (D.G.clss.length ≤ D.T.clss.length) &&
  ((D.G.clss.zip D.T.inits).all fun q => decide ((D.fn[q.2]?).map (·.at_) = some (q.1, some ("__init__" : Str)))) &&
  ((D.G.clss.zip D.T.clss).all fun q => q.2.all fun p => decide (p.1 < D.G.meths.length) && decide ((D.fn[p.2]?).map (·.at_) = some (q.1, some (D.G.meths.getD p.1 Str.empty)))) &&
  decide D.G.flds.Nodup && (D.G.flds.all fun x => decide (x.length < 200)) && (D.G.meths.all fun x => decide (x.length < 200) && decide (x ∉ D.G.flds)) && !D.G.inH &&
  (D.T.excs.zipIdx.all fun q => q.1.isEmpty || D.xi.any fun d => decide (d.ix = q.2) && decide (D.G.excs[q.2]? = some d.cls)) &&
  (D.G.kwf.all fun q => !q.2.isEmpty && decide ((D.T.fns[q.1]?).map (fun f => (f.kws, f.params)) = some (q.2, q.2.length))) &&
  (D.G.kwc.all fun q => !q.2.isEmpty && decide (((D.T.inits[q.1]?).bind (D.T.fns[·]?)).map (fun f => (f.kws, f.params)) = some (q.2, q.2.length + 1)))
/-- what is called with keywords -/
def KwC (f : Fn) (d : He.DefD) (ps : List Str) : Prop := f.kws = [] ∨ ∀ (kV doc pm : Value) (an : Option Addr) (cdv ct : Value) (us ws : List Value), us.length + f.kws.length = ps.length → ws.length = f.kws.length →
  bindArgs (PySem.W.fnOf d.name d.qual d.params d.body d.scope .none kV doc pm an cdv ct) ⟨us, f.kws.zip ws⟩ = pure (ps.zip (us ++ ws))
theorem KwC.ok {K : PySem.W.Frag} {f : Fn} {d : He.DefD} {ps : List Str} {a : Addr} {fd : FuncData} (h : KwC f d ps) (F : FunD K d.name d.qual d.params d.body d.scope [] [] a fd) : KwOk K f fd ps := by
  intro hne s us ws _ hu hw
  obtain ⟨oc, od, dV, kV, doc, pm, an, cdv, ct, osl, rfl, lk, hcd, hD, hK⟩ := F.ex
  rcases hD with ⟨_, rfl⟩ | ⟨e, _⟩
  · exact .of_eq (h.elim (fun z => absurd z hne) fun z => z kV doc pm an cdv ct us ws hu hw)
  · exact absurd rfl e
/-- a def's text is as the interpreter's -/
def FnC (G : Gi) (f : Fn) (d : He.DefD) : Prop := d.dfl = [] ∧ d.kwd = [] ∧ ∃ (ps N : List Str), (∀ (kV doc pm : Value) (an : Option Addr) (cdv ct : Value) (us : List Value), us.length = ps.length → bindArgs (PySem.W.fnOf d.name d.qual d.params d.body d.scope .none kV doc pm an cdv ct) ⟨us, []⟩ = pure (ps.zip us)) ∧
  (decide (ps.length = f.params) && C8.scC N ps d.scope && decide (N.length = f.slots) && chkB G N d.scope f d.body) = true ∧ KwC f d ps
def AllC (G : Gi) : List Fn → List He.DefD → Prop
  | f :: fs, d :: ds => FnC G f d ∧ AllC G fs ds
  | _, [] => True
  | [], _ :: _ => False
theorem AllC.get {G : Gi} : ∀ {fs : List Fn} {ds : List He.DefD} {g : Nat} {d : He.DefD}, AllC G fs ds → ds[g]? = some d → ∃ f, fs[g]? = some f ∧ FnC G f d
  | f :: fs, d :: ds, 0, d', h, e => by
    cases e
    exact ⟨f, rfl, h.1⟩
  | f :: fs, d :: ds, g + 1, d', h, e => AllC.get (g := g) h.2 (by simpa using e)
  | _, [], g, d', _, e => by simp at e
  | [], _ :: _, g, d', h, e => h.elim
theorem far_len (f : Nat) : (farName f).length = f + 200 := by
  show (List.replicate (f + 200) (122 : Nat)).toArray.size = _
  simp
theorem fld_inj {fl : List Str} (hd : fl.Nodup) (hl : ∀ x ∈ fl, x.length < 200) (f g : Nat) (e : fldName fl f = fldName fl g) : f = g := by
  unfold fldName at e
  cases hf : fl[f]? with
  | some x =>
    rw [hf] at e
    cases hg : fl[g]? with
    | some y =>
      rw [hg] at e
      have e' : x = y := e
      subst e'
      exact nd_ix hd hf hg
    | none =>
      rw [hg] at e
      have e' : x = farName g := e
      have := hl x (List.mem_of_getElem? hf)
      rw [e', far_len] at this
      omega
  | none =>
    rw [hf] at e
    cases hg : fl[g]? with
    | some y =>
      rw [hg] at e
      have e' : farName f = y := e
      have := hl y (List.mem_of_getElem? hg)
      rw [← e', far_len] at this
      omega
    | none =>
      rw [hg] at e
      have e' : farName f = farName g := e
      have := congrArg Str.length e'
      rw [far_len, far_len] at this
      omega
theorem lookup_memN {β : Type} {m : Nat} {g : β} : ∀ {ms : List (Nat × β)}, ms.lookup m = some g → (m, g) ∈ ms
  | [], h => by simp at h
  | (a, b) :: ms, h => by
    by_cases e : m = a
    · subst e
      simp at h
      subst h
      exact List.mem_cons_self
    · have e' : (m == a) = false := by simpa using e
      rw [List.lookup, e'] at h
      exact List.mem_cons_of_mem _ (lookup_memN h)
theorem zip_mem {α β : Type} {as : List α} {bs : List β} {i : Nat} {a : α} {b : β} (ha : as[i]? = some a) (hb : bs[i]? = some b) : (a, b) ∈ as.zip bs := by
  refine List.mem_of_getElem? (i := i) ?_
  rw [List.getElem?_zip_eq_some]
  exact ⟨ha, hb⟩
theorem at_of_len {α β : Type} {as : List α} {bs : List β} {i : Nat} {a : α} (ha : as[i]? = some a) (h : as.length ≤ bs.length) : ∃ b, bs[i]? = some b :=
  ⟨bs[i]'(Nat.lt_of_lt_of_le (List.getElem?_eq_some_iff.mp ha).1 h), List.getElem?_eq_getElem _⟩
/-- the functions that are called where an exception is handled -/
def AllHot (G : Gi) (T : Tb) (fn : List He.DefD) : List Nat → Prop
  | [] => True
  | g :: r => (∃ f d, T.fns[g]? = some f ∧ fn[g]? = some d ∧ FnC { G with inH := true } f d) ∧ AllHot G T fn r
theorem AllHot.get {G : Gi} {T : Tb} {fn : List He.DefD} : ∀ {l : List Nat} {g : Nat}, AllHot G T fn l → g ∈ l → ∃ f d, T.fns[g]? = some f ∧ fn[g]? = some d ∧ FnC { G with inH := true } f d
  | a :: l, g, h, m => by
    rcases List.mem_cons.mp m with rfl | m
    · exact h.1
    · exact AllHot.get h.2 m
theorem fnAt_of {G : Gi} {K : PySem.W.Frag} {fa : List He.Fa} {fn : List He.DefD} {d : He.DefD} {f : Fn} {T : Tb} (c : He.SaysD fa fn K) (hd : d ∈ fn) (hc : FnC G f d) : FnAt T G K f (He.fAd K d.at_) := by
  obtain ⟨h1, h2, ps, N', hb, hc, hw⟩ := hc
  obtain ⟨fd, F⟩ := He.SaysD.defs c hd
  have e1 : d.dvs K = [] := by unfold He.DefD.dvs; rw [h1]; rfl
  have e2 : d.kws K = [] := by unfold He.DefD.kws; rw [h2]; rfl
  rw [e1, e2] at F
  simp only [Bool.and_eq_true, decide_eq_true_eq] at hc
  exact ⟨d.name, d.qual, d.params, d.body, d.scope, fd, ps, N', F, F.bindsN hb, hc.1.1.1, C8.fnScope_by hc.1.1.2, hc.1.2, hc.2, hw.ok F⟩
section
variable {D : LawD} {w : World} {h : Heap} {K : PySem.W.Frag} {mg : Str → Option Value}
theorem stat_of (gd : D.good = true) (fc : AllC D.G D.T.fns D.fn) (fh : AllHot D.G D.T D.fn D.G.hotf) (xc : XCs D.G D.T.excs D.xi) (X : K.In h) (N : h.Ns mainGlobals mg) (cx : Says D w h K) : Stat D.T D.G (D.ad K) w K mg := by
  have c := cx.x
  unfold LawD.good at gd
  simp only [Bool.and_eq_true, decide_eq_true_eq, List.all_eq_true] at gd
  obtain ⟨⟨⟨⟨⟨⟨⟨⟨⟨⟨⟨⟨⟨⟨g1, g2⟩, g3⟩, g4⟩, g5⟩, g6⟩, g7⟩, g8⟩, g9⟩, g10⟩, g11⟩, g12⟩, g13⟩, g14⟩, g15⟩ := gd
  have ex := c.more
  unfold LawD.ex at ex
  rw [Bool.and_eq_true] at ex
  obtain ⟨ex, ex3⟩ := ex
  simp only [Bool.and_eq_true, List.all_eq_true] at ex
  obtain ⟨ex1, ex2⟩ := ex
  unfold LawD.xB at ex3
  rw [Bool.and_eq_true, Bool.and_eq_true] at ex3
  obtain ⟨x1, x2, x3⟩ := ex3
  have fact : ∀ {f : He.Fa}, f ∈ D.fa → f.ok K = true := fun hf => He.SaysD.facts c.t.d hf
  have f1 : ∀ {x : Str}, x ∈ D.G.fns → He.Fa.glo x ∈ D.fa := fun hx => List.mem_append_left _ (List.mem_append_left _ (List.mem_append_left _ (List.mem_append_left _ (List.mem_map_of_mem hx))))
  have f2 : ∀ {x : Str} {f : He.Fa}, x ∈ D.G.clss → f ∈ ([.glo x, .cls x, .mkr x] ++ D.G.flds.map (.noat x) : List He.Fa) → f ∈ D.fa := fun hx hf => List.mem_append_left _ (List.mem_append_left _ (List.mem_append_left _ (List.mem_append_right _ (List.mem_flatMap.mpr ⟨_, hx, hf⟩))))
  have f3 : ∀ {q : Str × List (Nat × Nat)} {p : Nat × Nat}, q ∈ D.G.clss.zip D.T.clss → p ∈ q.2 → He.Fa.meth q.1 (D.G.meths.getD p.1 Str.empty) ∈ D.fa := fun hq hp => List.mem_append_left _ (List.mem_append_left _ (List.mem_append_right _ (List.mem_flatMap.mpr ⟨_, hq, List.mem_map.mpr ⟨_, hp, rfl⟩⟩)))
  have f4 : ∀ {x : Str}, x ∈ blts → He.Fa.free x ∈ D.fa := fun hx => List.mem_append_left _ (List.mem_append_right _ (List.mem_map_of_mem hx))
  have f5 : ∀ {x : Str}, x ∈ D.G.excs → He.Fa.glo x ∈ D.fa := fun hx => List.mem_append_right _ (List.mem_append_left _ (List.mem_map_of_mem hx))
  have f6 : He.Fa.free "super" ∈ D.fa := List.mem_append_right _ (List.mem_append_right _ List.mem_cons_self)
  have xcl : ∀ {i : Nat} {C : Addr}, (D.ad K).xc i = some C → ∃ x, D.G.excs[i]? = some x ∧ C = He.ga K x := fun {i C} e => by
    have e' : (D.G.excs[i]?).map (He.ga K) = some C := e
    cases hx : D.G.excs[i]? with
    | none => rw [hx] at e'; cases e'
    | some x => rw [hx] at e'; cases e'; exact ⟨x, rfl, rfl⟩
  have cl : ∀ {i : Nat} {C : Addr}, (D.ad K).cl i = some C → ∃ x, D.G.clss[i]? = some x ∧ C = He.ga K x := fun {i C} e => by
    have e' : (D.G.clss[i]?).map (He.ga K) = some C := e
    cases hx : D.G.clss[i]? with
    | none => rw [hx] at e'; cases e'
    | some x => rw [hx] at e'; cases e'; exact ⟨x, rfl, rfl⟩
  have fnAt : ∀ {g : Nat} {p : Str × Option Str}, (D.fn[g]?).map (·.at_) = some p → (D.ad K).fn g = some (He.fAd K p) := fun {g p} e => by
    show (D.fn[g]?).map _ = _
    cases hd : D.fn[g]? with
    | none => rw [hd] at e; cases e
    | some d => rw [hd] at e; cases e; rfl
  have hfld : ∀ (f : Nat) (x : Str), D.G.flds[f]? = some x → (D.ad K).fld f = x := fun f x hx => by
    show fldName _ _ = _
    unfold fldName
    rw [hx]
  have hno : ∀ (x : Str), x ∈ D.G.excs → XfC K (He.ga K x) ∧ ∀ (f : Nat) (y : Str), D.G.flds[f]? = some y → PySem.W.findIn K (.ref (He.ga K x)) y = some none := fun x hx => by
    have q := List.all_eq_true.mp x1 x hx
    rw [Bool.and_eq_true] at q
    exact ⟨xfB_ok q.1, fun f y hy => of_decide_eq_true (List.all_eq_true.mp q.2 y (List.mem_of_getElem? hy))⟩
  refine ⟨?_, ?_, ?_, ?_, ?_, ?_, ?_, ?_, ?_, hfld, ?_, ?_, ?_, ?_, ?_, ?_, ?_, ?_, ?_, ?_, rfl, ?_⟩
  · intro t kvs a ht ha
    have ha' : (D.tabs[t]?).map (He.ga K) = some a := ha
    cases hx : D.tabs[t]? with
    | none => rw [hx] at ha'; cases ha'
    | some x =>
      rw [hx] at ha'
      cases ha'
      have hz := zip_mem hx ht
      have hts : D.ts[t]? = some (fun K => He.ga K x, kvs.map (·.1)) := by
        show ((D.tabs.zip D.T.tabs).map _)[t]? = _
        rw [List.getElem?_map, (List.getElem?_zip_eq_some (z := (x, kvs))).mpr ⟨hx, ht⟩]
        rfl
      obtain ⟨es, n, kd⟩ := He.SaysT.tab c.t t hts
      have q := ex2 _ hz
      have lk := kd.at_
      dsimp only at q lk
      rw [lk] at q
      exact ⟨es, n, lk, kd.lit, kd.low, tbB_ok q⟩
  · intro i x d hx hd
    have q := ex1 _ (zip_mem hx hd)
    dsimp only at q
    split at q
    · rename_i u hu
      obtain ⟨v, r, k⟩ := kdB_ok q
      exact ⟨u, v, PySem.W.mg_of X N hu, r, k⟩
    · cases q
  · intro i x hx
    exact at_of_len hx g1
  · intro g a ha
    have ha' : (D.fn[g]?).map (fun d => He.fAd K d.at_) = some a := ha
    cases hd : D.fn[g]? with
    | none => rw [hd] at ha'; cases ha'
    | some d =>
      rw [hd] at ha'
      cases ha'
      obtain ⟨f, hf, hc⟩ := fc.get hd
      exact ⟨f, hf, fnAt_of c.t.d (List.mem_of_getElem? hd) hc⟩
  · intro g x hx
    have hm : (D.fn[g]?).map (·.at_) = some (x, none) := by
      have e : ((D.fn.take D.G.fns.length).map (·.at_))[g]? = (D.G.fns.map fun x => (x, none))[g]? := by rw [g4]
      rw [List.getElem?_map, List.getElem?_map, hx, List.getElem?_take, if_pos (List.getElem?_eq_some_iff.mp hx).1] at e
      exact e
    exact ⟨_, fnAt hm, He.glo_ok X N (fact (f1 (List.mem_of_getElem? hx)))⟩
  · intro i x hx
    obtain ⟨g, hg⟩ := at_of_len hx g5
    have hm := g7 _ (zip_mem hx hg)
    have hx' := List.mem_of_getElem? hx
    refine ⟨He.ga K x, g, He.ma K (He.ga K x) "__init__", by show (D.G.clss[i]?).map _ = _; rw [hx]; rfl, He.glo_ok X N (fact (f2 hx' (by simp))), hg, fnAt hm, He.mkr_ok (fact (f2 hx' (by simp)))⟩
  · intro i C ms m g x hC hms hl hx
    obtain ⟨y, hy, rfl⟩ := cl hC
    have hz := zip_mem hy hms
    have hp : (m, g) ∈ ms := lookup_memN hl
    have q := g8 _ hz _ hp
    simp only [Bool.and_eq_true, decide_eq_true_eq] at q
    have ex : D.G.meths.getD m Str.empty = x := by
      rw [List.getD_eq_getElem?_getD, hx]
      rfl
    have hf := fact (f3 hz hp)
    dsimp only at hf q
    rw [ex] at hf q
    exact ⟨_, fnAt q.2, He.meth_ok hf⟩
  · intro i C hC
    obtain ⟨y, hy, rfl⟩ := cl hC
    exact He.cls_ok (fact (f2 (List.mem_of_getElem? hy) (by simp)))
  · intro i C f x hC hf
    obtain ⟨y, hy, rfl⟩ := cl hC
    exact He.noat_ok (fact (f2 (List.mem_of_getElem? hy) (List.mem_append_right _ (List.mem_map_of_mem (List.mem_of_getElem? hf)))))
  · exact fld_inj g9 g10
  · intro m x hx f e
    have q := g11 x (List.mem_of_getElem? hx)
    have e' : fldName D.G.flds f = x := e
    unfold fldName at e'
    cases hf : D.G.flds[f]? with
    | some y =>
      rw [hf] at e'
      have e2 : y = x := e'
      subst e2
      exact q.2 (List.mem_of_getElem? hf)
    | none =>
      rw [hf] at e'
      have e2 : farName f = x := e'
      have := q.1
      rw [← e2, far_len] at this
      omega
  · intro i x hx
    exact ⟨He.ga K x, by show (D.G.excs[i]?).map _ = _; rw [hx]; rfl, He.glo_ok X N (fact (f5 (List.mem_of_getElem? hx)))⟩
  · intro i C fl hC hfl hne P base hP
    obtain ⟨x, hx, rfl⟩ := xcl hC
    have q := g13 (fl, i) (List.mem_zipIdx_iff_getElem?.mpr hfl)
    rw [Bool.or_eq_true] at q
    rcases q with q | q
    · exact absurd (List.isEmpty_iff.mp q) hne
    · obtain ⟨d, hd, q⟩ := List.any_eq_true.mp q
      simp only [Bool.and_eq_true, decide_eq_true_eq] at q
      obtain ⟨q1, q2⟩ := q
      rw [hx] at q2
      cases q2
      have z := XCs.get xc hd
      rw [q1, List.getD_eq_getElem?_getD, hfl] at z
      exact xc_ok (P := P) (base := base) z hfld (hno _ (List.mem_of_getElem? hx)).2 (He.free_ok X N (fact f6)) (cx.xi d hd) (List.all_eq_true.mp x3 d hd) hP
  · intro i C hC
    obtain ⟨x, hx, rfl⟩ := xcl hC
    exact hno x (List.mem_of_getElem? hx)
  · intro i j C HC hC hHC
    obtain ⟨x, hx, rfl⟩ := xcl hC
    obtain ⟨y, hy, rfl⟩ := xcl hHC
    have q := List.all_eq_true.mp (List.all_eq_true.mp x2 (x, i) (List.mem_zipIdx_iff_getElem?.mpr hx)) (y, j) (List.mem_zipIdx_iff_getElem?.mpr hy)
    exact of_decide_eq_true q
  · intro g ks hk
    have q := g14 (g, ks) (lookup_memN hk)
    dsimp only at q
    obtain ⟨q1, q2⟩ := q
    refine ⟨fun z => (by rw [z] at q1; cases q1), ?_⟩
    cases e : D.T.fns[g]? with
    | none => rw [e] at q2; cases q2
    | some f =>
      rw [e] at q2
      have q3 := Option.some.inj q2
      simp only [Prod.mk.injEq] at q3
      exact ⟨f, rfl, q3.1, q3.2⟩
  · intro c ks hk
    have q := g15 (c, ks) (lookup_memN hk)
    dsimp only at q
    obtain ⟨q1, q2⟩ := q
    refine ⟨fun z => (by rw [z] at q1; cases q1), ?_⟩
    cases e : D.T.inits[c]? with
    | none => rw [e] at q2; cases q2
    | some g =>
      rw [e] at q2
      cases e2 : D.T.fns[g]? with
      | none => simp [e2] at q2
      | some f =>
        simp only [Option.bind_some, e2, Option.map_some, Option.some.injEq, Prod.mk.injEq] at q2
        exact ⟨g, f, rfl, e2, q2.1, q2.2⟩
  · intro g a hg ha
    obtain ⟨f, d, hf, hd, hc⟩ := AllHot.get fh hg
    have ha' : (D.fn[g]?).map (fun d => He.fAd K d.at_) = some a := ha
    rw [hd] at ha'
    cases ha'
    exact ⟨f, hf, fnAt_of c.t.d (List.mem_of_getElem? hd) hc⟩
  · simpa using g12
  · intro x hx
    exact He.free_ok X N (fact (f4 hx))
/-- the script, as the interpreter takes it -/
def spLaw (K : PySem.W.Frag) : Sp := fun vs H Q _ => ∃ (a : Addr) (ns : List Int), vs = [.ref a] ∧ SqL K H a (ns.map V.int) ∧ ns.length ≤ 63 ∧ ∀ H', Q (.bl true) H'
theorem ints_drs {A : Ad} {μ : Mu} {H : Hp} : ∀ ns : List Int, DRs K A μ H (ns.map CN.D.int) (ns.map V.int)
  | [] => .nil
  | n :: ns => .cons (.int n) (ints_drs ns)
/-- what is to be shown of a law: whatever the script -/
def LawRuns (T : Tb) (wf k g : Nat) : Prop := ∀ ns : List Int, ns.length ≤ 63 → ∀ d, d = CN.D.tl (ns.map CN.D.int) ∨ d = CN.D.kl (ns.map CN.D.int) → ∃ s, runFn T wf (k + 1) g [d] [] = .ok (.bl true) s
theorem law_fn {P : Program} {base : Heap} {wf k g : Nat} (st : Stat D.T D.G (D.ad K) w K mg) (hP : POk D.T P) {d : He.DefD} {f : Fn} {fd : FuncData} (hd : D.fn[g]? = some d) (hf : D.T.fns[g]? = some f) (F : FunD K d.name d.qual d.params d.body d.scope [] [] (He.fAd K d.at_) fd) {N : List Str}
    (hc : (decide (f.params = 1) && C8.scC N ["script"] d.scope && decide (N.length = f.slots) && chkSs D.G N d.scope f.body d.body) = true) (hfl : f.flag = 0) (run : LawRuns D.T wf k g) : FnOk P w K mg base CX0 (2 * k + 4) (He.fAd K d.at_) fd ["script"] (spLaw K) := by
  simp only [Bool.and_eq_true, decide_eq_true_eq] at hc
  obtain ⟨⟨⟨h1, S⟩, h3⟩, h4⟩ := hc
  have S := C8.fnScope_by S
  have kn : Known D.T D.G wf (D.ad K) P w K mg base k := st.kn hP k
  refine F.ok (k := 2 * k + 3) S (fun vs H Q E ⟨a, ns, e, _⟩ => by rw [e]; rfl) fun cdv A' outer s0 H vs Q E hr hsp => ?_
  obtain ⟨a, ns, rfl, hS, hl, hQ⟩ := hsp
  have gd : GdS D.T D.G wf (D.ad K) k (cxOf CX0 P w K mg base N d.qual d.scope (He.fAd K d.at_) cdv A' outer s0 H E) W0 :=
    ⟨⟨kn, hr.units, fun _ => ⟨rfl, hr⟩, S.nd, takesN, passes_of (X := cxOf CX0 P w K mg base N d.qual d.scope (He.fAd K d.at_) cdv A' outer s0 H E) rfl, fun c a' dd h => (by rw [st.nocau] at h; cases h), fun _ => st.nocau, fun h => (by rw [st.cold] at h; cases h)⟩, fun _ => rfl, isNeFun S.kind, rfl, rfl⟩
  have R0 : HR K (D.ad K) ⟨[], []⟩ [] H := ⟨List.nodup_nil, rfl, fun n o a h => by simp at h, fun a h => by simp at h, fun a h => by simp at h⟩
  obtain ⟨dd, hdd, rd⟩ : ∃ dd, (dd = CN.D.tl (ns.map CN.D.int) ∨ dd = CN.D.kl (ns.map CN.D.int)) ∧ DR K (D.ad K) ⟨[], []⟩ H dd (.ref a) := by
    rcases hS with h | ⟨o, its, n, q1, q2, q3, q4, q5, q6⟩
    · exact ⟨_, .inl rfl, .tl ⟨h, fun q => by rcases q with q | q <;> cases q⟩ (ints_drs ns)⟩
    · exact ⟨_, .inr rfl, .kl ⟨o, its, n, q1, q2, q3, q4, q5, q6⟩ (ints_drs ns)⟩
  obtain ⟨sf, hrun⟩ := run ns hl dd hdd
  refine ⟨_, soundSs f.body gd h4, startE f.slots [dd], [], ⟨[], []⟩, ER.start (.cons rd .nil) h3, R0, ?_⟩
  unfold runFn at hrun
  rw [hf] at hrun
  dsimp only at hrun
  rw [if_pos (show [dd].length = f.params by rw [h1]; rfl), if_neg (show ¬ 4 ≤ f.flag by rw [hfl]; decide)] at hrun
  cases eb : evalSs D.T wf (runFn D.T wf k) f.body (startE f.slots [dd]) [] with
  | stuck => rw [eb] at hrun; cases hrun
  | err => rw [eb] at hrun; cases hrun
  | ok fl S1 =>
    rw [eb] at hrun
    cases fl with
    | next e =>
      have q : back f.flag [] .non S1 = .ok (.bl true) sf := hrun
      unfold back at q
      rw [if_pos hfl] at q
      cases q
    | ret dv =>
      have q : back f.flag [] dv S1 = .ok (.bl true) sf := hrun
      unfold back at q
      rw [if_pos hfl] at q
      cases q
      intro v μ' H' r' R' M'
      cases r'
      exact hQ H'
    | brk e => cases hrun
    | cont e => cases hrun
    | exc e c fs => cases hrun
end
end CN
set_option Elab.async false
set_option linter.all false
set_option maxRecDepth 100000
set_option maxHeartbeats 4000000
/-! LwBase: rules of the evaluator, for plain laws. -/
namespace CN
section
variable {T : Tb} {wf k : Nat}
/-- a call's end -/
def fin (flag : Nat) (s : Hs) : Res Flow → Res D
  | .ok (.next _) s1 => back flag s .non s1
  | .ok (.ret d) s1 => back flag s d s1
  | .ok (.exc _ c fs) s1 => .err c fs s1
  | _ => .stuck
theorem rf {k g : Nat} {f : Fn} {ds : List D} {s : Hs} (hf : T.fns[g]? = some f) (hl : ds.length = f.params) (h4 : ¬ 4 ≤ f.flag := by decide) : runFn T wf (k + 1) g ds s = fin f.flag s (evalSs T wf (runFn T wf k) f.body (startE f.slots ds) s) := by
  unfold runFn
  rw [hf]
  dsimp only
  rw [if_pos hl, if_neg h4]
  cases evalSs T wf (runFn T wf k) f.body (startE f.slots ds) s with
  | stuck => rfl
  | err => rfl
  | ok fl s1 => cases fl <;> rfl
@[simp] theorem eqD_int (s : Hs) (i j : Int) : eqD s (.int i) (.int j) = some (decide (i = j)) := by
  show (if (PySem.SeqAt.shaped (.int i) && PySem.SeqAt.shaped (.int j)) = true then some (PySem.PyData.eqv (.int i) (.int j)) else none) = _
  have h1 : PySem.SeqAt.shaped (.int i) = true := rfl
  have h2 : PySem.SeqAt.shaped (.int j) = true := rfl
  rw [h1, h2]
  by_cases h : i = j
  · subst h; simp [PySem.PyData.eqv]
  · simp [PySem.PyData.eqv, h]
theorem eqD_str (s : Hs) (i j : PySem.Str) (hi : PySem.PyData.strOk i = true) (hj : PySem.PyData.strOk j = true) : eqD s (.str i) (.str j) = some (decide (i = j)) := by
  show (if (PySem.SeqAt.shaped (.str i) && PySem.SeqAt.shaped (.str j)) = true then some (PySem.PyData.eqv (.str i) (.str j)) else none) = _
  have h1 : PySem.SeqAt.shaped (.str i) = true := by simp [PySem.SeqAt.shaped, PySem.PyData.canLay0, PySem.PyData.depth, hi]
  have h2 : PySem.SeqAt.shaped (.str j) = true := by simp [PySem.SeqAt.shaped, PySem.PyData.canLay0, PySem.PyData.depth, hj]
  rw [h1, h2]
  by_cases h : i = j
  · subst h; simp [PySem.PyData.eqv]
  · simp [PySem.PyData.eqv, h]
@[simp] theorem eqD_bl (s : Hs) (i j : Bool) : eqD s (.bl i) (.bl j) = some (decide (i = j)) := by
  cases i <;> cases j <;> rfl
theorem rf4 {k g : Nat} {f : Fn} {ds : List D} {s : Hs} (hf : T.fns[g]? = some f) (hl : ds.length = f.params) (hn : noRefs ds = true) (h4 : 4 ≤ f.flag := by decide) : runFn T wf (k + 1) g ds s = backF f.flag s (evalSs T wf (runFn T wf k) f.body (startE f.slots ds) []) := by
  unfold runFn
  rw [hf]
  dsimp only
  rw [if_pos hl, if_pos h4, if_pos hn]
/-- a comprehension over plain items -/
theorem comp_map {step : D → Hs → Res (Option D)} {f : D → D} {s : Hs} : ∀ (ds acc : List D), (∀ d ∈ ds, step d s = .ok (some (f d)) s) → acc.length + ds.length ≤ PySem.sizeLine → loopComp step none ds acc s = .ok (acc ++ ds.map f) s
  | [], acc, _, _ => by simp [loopComp]
  | d :: ds, acc, h, hl => by
    rw [List.length_cons] at hl
    unfold loopComp
    rw [h d List.mem_cons_self]
    have h2 : acc.length < PySem.sizeLine := by omega
    simp only [stays, if_true, if_pos h2]
    rw [comp_map ds (acc ++ [f d]) (fun x hx => h x (List.mem_cons_of_mem _ hx)) (by simp; omega)]
    simp
/-- a comprehension whose walk makes nothing -/
theorem compM_map {own : List Nat} {tg : Tg} {mi : CN.Env → Hs → Res (List D × Option (Nat × List D))} {mc : MT} {me : ME} {env : CN.Env} {s s1 : Hs} {ds : List D} {w : Option (Nat × List D)} (f : D → D) (hi : mi env s = .ok (ds, w) s1) (hw : stays w s1 = true) (h : ∀ d ∈ ds, stepC own tg mc me env d s1 = .ok (some (f d)) s1) (hl : ds.length ≤ PySem.sizeLine) :
    compM own tg mi mc me env s = .ok (.tl (ds.map f)) s1 := by
  unfold compM
  rw [hi]
  rw [Res.bind_ok]
  have z : ∀ (xs acc : List D), (∀ d ∈ xs, d ∈ ds) → acc.length + xs.length ≤ PySem.sizeLine → loopComp (stepC own tg mc me env) w xs acc s1 = .ok (acc ++ xs.map f) s1 := by
    intro xs
    induction xs with
    | nil => intro acc _ _; simp [loopComp]
    | cons x xs ih =>
      intro acc hx hl
      rw [List.length_cons] at hl
      unfold loopComp
      rw [h x (hx x List.mem_cons_self)]
      have h2 : acc.length < PySem.sizeLine := by omega
      simp only [hw, if_true, if_pos h2]
      rw [ih (acc ++ [f x]) (fun y hy => hx y (List.mem_cons_of_mem _ hy)) (by simp; omega)]
      simp
  rw [z ds [] (fun _ q => q) (by simpa using hl)]
  rfl
theorem bools_true (n : Nat) : bools? (List.replicate n (D.bl true)) = some (List.replicate n true) := by
  induction n with
  | zero => rfl
  | succ n ih => simp [List.replicate_succ, bools?, ih]
theorem small5 {n : Nat} (h : n ≤ 5000) : n ≤ PySem.sizeLine := Nat.le_trans h (by decide)
theorem ixN_nat {n j : Nat} (hj : j < n) : L2.ixN n (j : Int) = some j := by
  unfold L2.ixN
  have h1 : (0 : Int) ≤ (j : Int) := by omega
  have h2 : (j : Int) < (n : Int) := by omega
  rw [if_pos h1, if_pos h2]
  simp
theorem atI_nat {α : Type} (xs : List α) (j : Nat) (h : j < xs.length) : L2.atI xs (j : Int) = xs[j]? := by
  unfold L2.atI
  rw [ixN_nat h]
  rfl
@[simp] theorem ix0 {α : Type} (x : α) (xs : List α) : L2.ixN (x :: xs).length 0 = some 0 := ixN_nat (j := 0) (by simp)
theorem ix4 (j : Nat) (hj : j < 4) : L2.ixN 4 (j : Int) = some j := ixN_nat hj
theorem ix41 : L2.ixN 4 1 = some 1 := rfl
theorem ix42 : L2.ixN 4 2 = some 2 := rfl
theorem ix43 : L2.ixN 4 3 = some 3 := rfl
theorem range1_len {n : Nat} (hl : n ≤ 5000) (s : Hs) : range1I (.int (n : Int)) s = .ok (rangeD 0 n, none) s := by
  unfold range1I
  dsimp only
  have z1 : (-(4611686018427387904) : Int) ≤ (n : Int) := by omega
  have z2 : (n : Int) < 4611686018427387904 := by omega
  have e : ((2 : Int) ^ 62) = 4611686018427387904 := by decide
  rw [e, decide_eq_true z1, decide_eq_true z2, Bool.and_self, if_pos rfl, Int.toNat_natCast]
theorem evI_range1 {c : Nat → List D → Hs → Res D} {a : Ex} {env : CN.Env} {s s' : Hs} {n : Nat} (h : (evP T c a).e env s = .ok (.int (n : Int)) s') (hn : n ≤ 5000) : evI T c (.range1 a) env s = .ok (rangeD 0 n, none) s' := by
  rw [evI]
  dsimp only
  rw [h, Res.bind_ok, range1_len hn]
end
section
variable {T : Tb} {wf : Nat} {c : Nat → List D → Hs → Res D} {env env' : Env} {s s' s1 : Hs} {d : D} {e : Ex} {st : CN.St} {sts : Sts}
theorem nx (h : evalS T wf c st env s = .ok (.next env') s') : evalSs T wf c (.cons st sts) env s = evalSs T wf c sts env' s' := by
  rw [evalSs]
  dsimp only
  rw [h, Res.bind_ok]
theorem rt (h : evalS T wf c st env s = .ok (.ret d) s') : evalSs T wf c (.cons st sts) env s = .ok (.ret d) s' := by
  rw [evalSs]
  dsimp only
  rw [h, Res.bind_ok]
theorem asg_ok {i : Nat} (h : (evP T c e).e env s = .ok d s') : evalS T wf c (.asg (.nm i) e) env s = .ok (.next (env.set i (.has d))) s' := by
  rw [evalS]
  unfold asgM
  rw [show evalE T c e env s = _ from h, Res.bs_ok]
  rfl
theorem expr_ok (h : (evP T c e).e env s = .ok d s') : evalS T wf c (.expr e) env s = .ok (.next env) s' := by
  rw [evalS]
  dsimp only
  rw [show evalE T c e env s = _ from h, Res.bs_ok]
theorem ret_ok (h : (evP T c e).e env s = .ok d s') : evalS T wf c (.ret e) env s = .ok (.ret d) s' := by
  rw [evalS]
  dsimp only
  rw [show evalE T c e env s = _ from h, Res.bs_ok]
theorem ite_f {t : Ex} {a : Sts} (h : (evP T c t).t env s = .ok false s') : evalS T wf c (.ite t a .nil) env s = .ok (.next env) s' := by
  rw [evalS]
  dsimp only
  rw [show evalT T c t env s = _ from h, Res.bs_ok, if_neg (by decide), evalSs]
theorem ite_t {t : Ex} {a b : Sts} (h : (evP T c t).t env s = .ok true s1) (ha : evalSs T wf c a env s1 = .ok (.ret d) s') : evalS T wf c (.ite t a b) env s = .ok (.ret d) s' := by
  rw [evalS]
  dsimp only
  rw [show evalT T c t env s = _ from h, Res.bs_ok, if_pos rfl, ha]
theorem ite_tn {t : Ex} {a b : Sts} {r : Res Flow} (h : (evP T c t).t env s = .ok true s1) (ha : evalSs T wf c a env s1 = r) : evalS T wf c (.ite t a b) env s = r := by
  rw [evalS]
  dsimp only
  rw [show evalT T c t env s = _ from h, Res.bs_ok, if_pos rfl, ha]
theorem ite_fn {t : Ex} {a b : Sts} {r : Res Flow} (h : (evP T c t).t env s = .ok false s1) (ha : evalSs T wf c b env s1 = r) : evalS T wf c (.ite t a b) env s = r := by
  rw [evalS]
  dsimp only
  rw [show evalT T c t env s = _ from h, Res.bs_ok, if_neg (by decide), ha]
theorem for_ok {tg : Tg} {it : It} {b : Sts} {p : List D × Option (Nat × List D)} {r : Res Flow} (h : evI T c it env s = .ok p s1) (hl : loopFor (forStep tg (evalSs T wf c b)) p.2 p.1 env s1 = r) : evalS T wf c (.for_ tg it b) env s = r := by
  rw [evalS]
  unfold forM
  rw [show evalI T c it env s = _ from h, Res.bs_ok]
  exact hl
theorem loopFor_nx {body : D → Env → Hs → Res Flow} {x : D} {xs : List D} {w : Option (Nat × List D)} (h : body x env s = .ok (.next env') s') (hw : stays w s' = true) : loopFor body w (x :: xs) env s = loopFor body w xs env' s' := by
  rw [loopFor, h, Res.bind_ok]
  dsimp only
  rw [if_pos hw]
theorem loopFor_nil {body : D → Env → Hs → Res Flow} {w : Option (Nat × List D)} : loopFor body w [] env s = .ok (.next env) s := rfl
theorem forStep_nm {i : Nat} {b : MS} {x : D} : forStep (.nm i) b x env s = b (env.set i (.has x)) s := rfl
end
section
variable {T : Tb} {wf k : Nat}
@[simp] theorem idx_ref (tabs : List (List (PySem.Str × D))) (s : Hs) (n : Nat) (i : Int) (ds : List D) (h : s[n]? = some (.lst ds)) : idxop tabs s (.ref n) (.int i) = L2.atI ds i := by
  show (match s[n]?, D.int i with | some (.lst ds), .int i => L2.atI ds i | _, _ => none) = _
  rw [h]
@[simp] theorem idx_tup (tabs : List (List (PySem.Str × D))) (s : Hs) (i : Int) (ds : List D) : idxop tabs s (.tup ds) (.int i) = L2.atI ds i := rfl
@[simp] theorem idx_tl (tabs : List (List (PySem.Str × D))) (s : Hs) (i : Int) (ds : List D) : idxop tabs s (.tl ds) (.int i) = L2.atI ds i := rfl
@[simp] theorem at0 {α : Type} (x : α) (xs : List α) : L2.atI (x :: xs) 0 = some x := atI_nat (x :: xs) 0 (by simp)
@[simp] theorem at1 {α : Type} (x y : α) (xs : List α) : L2.atI (x :: y :: xs) 1 = some y := atI_nat (x :: y :: xs) 1 (by simp)
@[simp] theorem at2 {α : Type} (x y z : α) (xs : List α) : L2.atI (x :: y :: z :: xs) 2 = some z := atI_nat (x :: y :: z :: xs) 2 (by simp)
@[simp] theorem at3 {α : Type} (x y z u : α) (xs : List α) : L2.atI (x :: y :: z :: u :: xs) 3 = some u := atI_nat (x :: y :: z :: u :: xs) 3 (by simp)
@[simp] theorem ce_ii (tabs : List (List (PySem.Str × D))) (s : Hs) (i j : Int) : cmpop tabs s .eq (.int i) (.int j) = some (decide (i = j)) := eqD_int s i j
@[simp] theorem cl_ii (tabs : List (List (PySem.Str × D))) (s : Hs) (i j : Int) : cmpop tabs s .lt (.int i) (.int j) = some (decide (i < j)) := rfl
@[simp] theorem cle_ii (tabs : List (List (PySem.Str × D))) (s : Hs) (i j : Int) : cmpop tabs s .le (.int i) (.int j) = some (decide (i ≤ j)) := rfl
@[simp] theorem cge_ii (tabs : List (List (PySem.Str × D))) (s : Hs) (i j : Int) : cmpop tabs s .ge (.int i) (.int j) = some (decide (j ≤ i)) := rfl
@[simp] theorem cgt_ii (tabs : List (List (PySem.Str × D))) (s : Hs) (i j : Int) : cmpop tabs s .gt (.int i) (.int j) = some (decide (j < i)) := rfl
@[simp] theorem cn_ii (tabs : List (List (PySem.Str × D))) (s : Hs) (i j : Int) : cmpop tabs s .ne (.int i) (.int j) = some (!decide (i = j)) := by
  show (eqD s (.int i) (.int j)).map (!·) = _
  rw [eqD_int]
  rfl
@[simp] theorem ce_bb (tabs : List (List (PySem.Str × D))) (s : Hs) (i j : Bool) : cmpop tabs s .eq (.bl i) (.bl j) = some (decide (i = j)) := eqD_bl s i j
@[simp] theorem cn_bb (tabs : List (List (PySem.Str × D))) (s : Hs) (i j : Bool) : cmpop tabs s .ne (.bl i) (.bl j) = some (!decide (i = j)) := by
  show (eqD s (.bl i) (.bl j)).map (!·) = _
  rw [eqD_bl]
  rfl
theorem notin_true (n : Nat) (s : Hs) : cmpop T.tabs s .notin (.bl false) (.tl (List.replicate n (.bl true))) = some true := by
  show (inD T.tabs s (.bl false) (.tl (List.replicate n (.bl true)))).map (!·) = some true
  have e : inD T.tabs s (.bl false) (.tl (List.replicate n (.bl true))) = some false := by
    show (if flatD (.bl false) && (List.replicate n (D.bl true)).all flatD then some ((List.replicate n (D.bl true)).any fun d => eqF d (.bl false)) else none) = some false
    have h1 : (List.replicate n (D.bl true)).all flatD = true := by
      rw [List.all_eq_true]
      intro x hx
      rw [(List.mem_replicate.mp hx).2]
      rfl
    have h2 : ((List.replicate n (D.bl true)).any fun d => eqF d (.bl false)) = false := by
      rw [List.any_eq_false]
      intro x hx
      rw [(List.mem_replicate.mp hx).2]
      decide
    rw [h1, h2]
    rfl
  rw [e]
  rfl
theorem isin_true (n : Nat) (s : Hs) : cmpop T.tabs s .isin (.bl false) (.tl (List.replicate n (.bl true))) = some false := by
  have h := notin_true (T := T) n s
  have h' : (inD T.tabs s (.bl false) (.tl (List.replicate n (.bl true)))).map (!·) = some true := h
  show inD T.tabs s (.bl false) (.tl (List.replicate n (.bl true))) = some false
  cases e : inD T.tabs s (.bl false) (.tl (List.replicate n (.bl true))) with
  | none => rw [e] at h'; cases h'
  | some b => rw [e] at h'; cases b <;> simp_all
theorem pures_ints : ∀ xs : List Int, pures? (xs.map D.int) = some (xs.map PySem.PyData.int)
  | [] => rfl
  | x :: xs => by
    show (match pure? (D.int x), pures? (xs.map D.int) with | some a, some b => some (a :: b) | _, _ => none) = _
    rw [pures_ints xs]
    rfl
theorem lay_ints : ∀ xs : List Int, PySem.PyData.canLayAll0 (xs.map PySem.PyData.int) = true ∧ PySem.PyData.depthAll (xs.map PySem.PyData.int) = 0 ∧ PySem.PyData.eqvAll (xs.map PySem.PyData.int) (xs.map PySem.PyData.int) = true
  | [] => ⟨rfl, rfl, rfl⟩
  | x :: xs => by
    obtain ⟨h1, h2, h3⟩ := lay_ints xs
    simp [PySem.PyData.canLayAll0, PySem.PyData.canLay0, PySem.PyData.depthAll, PySem.PyData.depth, PySem.PyData.eqvAll, PySem.PyData.eqv, h1, h2, h3]
theorem eq_ints (xs : List Int) (s : Hs) : eqD s (.tup (xs.map D.int)) (.tup (xs.map D.int)) = some true := by
  have e : data? s (.tup (xs.map D.int)) = some (.tuple (xs.map PySem.PyData.int)) := by
    show (match pures? (xs.map D.int) with | some xs => some (PySem.PyData.tuple xs) | none => none) = _
    rw [pures_ints]
  obtain ⟨h1, h2, h3⟩ := lay_ints xs
  have sh : PySem.SeqAt.shaped (.tuple (xs.map PySem.PyData.int)) = true := by
    unfold PySem.SeqAt.shaped
    rw [PySem.PyData.canLay0, PySem.PyData.depth, h1, h2]
    rfl
  unfold eqD
  rw [e]
  dsimp only
  rw [sh, if_pos (by rfl), PySem.PyData.eqv, h3]
theorem pickL {xs : List D} {v : Int} (P : D → Prop) (h0 : 0 ≤ v) (h1 : v < xs.length) (h : ∀ x ∈ xs, P x) : ∃ x, L2.atI xs v = some x ∧ P x := by
  obtain ⟨j, rfl⟩ : ∃ j : Nat, v = (j : Int) := ⟨v.toNat, by omega⟩
  have hl : j < xs.length := by omega
  exact ⟨xs[j], by rw [atI_nat _ _ hl, List.getElem?_eq_getElem hl], h _ (List.getElem_mem hl)⟩
def inB (lo hi : Int) (d : D) : Prop := ∃ i : Int, d = .int i ∧ lo ≤ i ∧ i < hi
theorem inB_int {lo hi i : Int} (h0 : lo ≤ i) (h1 : i < hi) : inB lo hi (.int i) := ⟨i, rfl, h0, h1⟩
end
end CN
set_option Elab.async false
set_option linter.all false
set_option maxRecDepth 100000
set_option maxHeartbeats 4000000
/-! LwJar: the jar of numbers, the draw. -/
namespace CN
def b_draw : Fn := ⟨5, 2, .cons (.sub (.var 0) (.cst (.int 3)) (.bin .add (.idx (.var 0) (.cst (.int 3))) (.cst (.int 1)))) (.cons (.ite (.and (.cons (.cmp .eq (.idx (.var 0) (.cst (.int 2))) (.cst (.int 0))) (.cons (.cmp .lt (.idx (.var 0) (.cst (.int 1))) (.bi .len (.cons (.idx (.var 0) (.cst (.int 0))) (.nil)))) (.nil)))) (.cons (.sub (.var 0) (.cst (.int 2)) (.ite (.cmp .ge (.idx (.idx (.var 0) (.cst (.int 0))) (.idx (.var 0) (.cst (.int 1)))) (.bin .pow (.cst (.int 10)) (.cst (.int 12)))) (.idx (.idx (.var 0) (.cst (.int 0))) (.idx (.var 0) (.cst (.int 1)))) (.cst (.int 0)))) (.cons (.sub (.var 0) (.cst (.int 1)) (.bin .add (.idx (.var 0) (.cst (.int 1))) (.cst (.int 1)))) (.nil))) (.nil)) (.cons (.ite (.cmp .gt (.idx (.var 0) (.cst (.int 2))) (.cst (.int 0))) (.cons (.asg (.nm 4) (.bin .mod (.bi .int (.cons (.idx (.var 0) (.cst (.int 2))) (.nil))) (.var 1))) (.cons (.sub (.var 0) (.cst (.int 2)) (.bin .fdiv (.idx (.var 0) (.cst (.int 2))) (.var 1))) (.cons (.ret (.var 4)) (.nil)))) (.nil)) (.cons (.asg (.nm 2) (.idx (.idx (.var 0) (.cst (.int 0))) (.bin .mod (.bi .int (.cons (.idx (.var 0) (.cst (.int 3))) (.nil))) (.bi .len (.cons (.idx (.var 0) (.cst (.int 0))) (.nil)))))) (.cons (.asg (.nm 3) (.bin .mod (.bi .int (.cons (.bin .add (.bin .add (.bin .mul (.var 2) (.cst (.int 69069))) (.bin .mul (.idx (.var 0) (.cst (.int 3))) (.cst (.int 40503)))) (.cst (.int 11))) (.nil))) (.cst (.int 1000000007)))) (.cons (.asg (.nm 3) (.bin .mod (.bi .int (.cons (.bin .add (.bin .add (.bin .mul (.var 3) (.var 3)) (.bin .mul (.idx (.var 0) (.cst (.int 3))) (.cst (.int 7919)))) (.var 2)) (.nil))) (.cst (.int 998244353)))) (.cons (.ret (.bin .mod (.bi .int (.cons (.bin .fdiv (.var 3) (.cst (.int 16))) (.nil))) (.var 1))) (.nil))))))), 0, []⟩
def b_jar : Fn := ⟨2, 1, .cons (.ret (.box (.lst (.cons (.bin .add (.sl (.comp (.bi .int (.cons (.var 1) (.nil))) (.nm 1) [1] (.seq (.var 0)) .no) .no (.so (.cst (.int 63)))) (.bin .mul (.lst (.cons (.cst (.int 5)) (.nil))) (.bi .int (.cons (.cmp .eq (.bi .len (.cons (.var 0) (.nil))) (.cst (.int 0))) (.nil))))) (.cons (.cst (.int 0)) (.cons (.cst (.int 0)) (.cons (.cst (.int 0)) (.nil)))))))) (.nil), 0, []⟩
section
variable {T : Tb} {wf k : Nat} {gd gj : Nat}
def jl (cells : List Int) (i l d : Int) : GO := .lst [.tl (cells.map .int), .int i, .int l, .int d]
theorem atI_in {cells : List Int} {i : Int} (h0 : 0 ≤ i) (h1 : i < cells.length) : ∃ x, L2.atI (cells.map D.int) i = some (.int x) := by
  obtain ⟨j, rfl⟩ : ∃ j : Nat, i = (j : Int) := ⟨i.toNat, by omega⟩
  have hl : j < cells.length := by omega
  exact ⟨cells[j], by rw [atI_nat _ _ (by simpa using hl), List.getElem?_map, List.getElem?_eq_getElem hl]; rfl⟩
theorem fm {x m : Int} (h : 0 ≤ m) : x.fmod m = x % m := Int.fmod_eq_emod_of_nonneg x h
theorem fd {x m : Int} (h : 0 ≤ m) : x.fdiv m = x / m := Int.fdiv_eq_ediv_of_nonneg x h
def mixV (y d lim : Int) : Int := (((y * 69069 + (d + 1) * 40503 + 11) % 1000000007) * ((y * 69069 + (d + 1) * 40503 + 11) % 1000000007) + (d + 1) * 7919 + y) % 998244353 / 16 % lim
theorem e1 (x : Int) : x.fmod 1000000007 = x % 1000000007 := fm (by decide)
theorem e2 (x : Int) : x.fmod 998244353 = x % 998244353 := fm (by decide)
theorem e3 (x : Int) : x.fdiv 16 = x / 16 := fd (by decide)
theorem mixR (x : Int) : (-18446744073709551616 : Int) < x % 1000000007 ∧ x % 1000000007 < 18446744073709551616 := by omega
theorem draw (hT : T.fns[gd]? = some b_draw) {cells : List Int} {i l d lim : Int} {rest : Hs} (hc : 0 < cells.length) (hi : 0 ≤ i) (hl : 0 ≤ l) (hd : 0 ≤ d) (h0 : 0 < lim) (h1 : lim < 1073741824) :
    ∃ v i' l', 0 ≤ v ∧ v < lim ∧ 0 ≤ i' ∧ 0 ≤ l' ∧ runFn T wf (k + 1) gd [.ref 0, .int lim] (jl cells i l d :: rest) = .ok (.int v) (jl cells i' l' (d + 1) :: rest) := by
  have hl0 : ¬ lim = 0 := by omega
  have hla : lim.natAbs < 1073741824 := by omega
  have hcl : ¬ (cells.length : Int) = 0 := by omega
  have hce : ¬ cells = [] := by rintro rfl; simp at hc
  have w0 : 0 ≤ (d + 1) % (cells.length : Int) := Int.emod_nonneg _ hcl
  have w1 : (d + 1) % (cells.length : Int) < cells.length := Int.emod_lt_of_pos _ (by omega)
  obtain ⟨y, hy⟩ := atI_in w0 w1
  have p12 : ((10 : Int) ^ 12) = 1000000000000 := by decide
  -- the mixed end
  by_cases c1 : l = 0 ∧ i < cells.length
  · obtain ⟨rfl, c1⟩ := c1
    obtain ⟨x, hx⟩ := atI_in hi c1
    by_cases c2 : 1000000000000 ≤ x
    · refine ⟨x % lim, i + 1, x / lim, Int.emod_nonneg _ hl0, Int.emod_lt_of_pos _ h0, by omega, Int.ediv_nonneg (by omega) (by omega), ?_⟩
      rw [rf (f := b_draw) hT rfl]
      have c3 : 0 < x := by omega
      simp [b_draw, jl, c1, hx, c2, c3, hl0, hla, fm (Int.le_of_lt h0), fd (Int.le_of_lt h0), ix41, ix42, ix43, inRng, p12, mixR, evalE, evalT, evalEs, evalO, evalC, evalI, evalSs, evalS, evP, evPs, evO, evC, evI, pE, consL, pick, and2, or2, andT2, orT2, callM, callvM, makeM, madeBy, methM, biM, bmM, attrM, idxM, slM, soM, tupM, lstM, boxed, binM, cmpM, isNM, chainM, CN.notM, notT, negM, iteM, varM, asgM, subM, fldM, parM, augM, augfM, CN.forM, thruM, truly, assignTg, setAll, startE, fin, back, truth, binop, slop, bifun, bmeth, bmTy, seqAt, lstAt, tyName, isi, isNd, lenOk, putN, augop]
    · refine ⟨mixV y d lim, i + 1, 0, Int.emod_nonneg _ hl0, Int.emod_lt_of_pos _ h0, by omega, by omega, ?_⟩
      rw [rf (f := b_draw) hT rfl]
      simp [b_draw, jl, c1, hx, c2, hl0, hla, hcl, hce, hy, fm (Int.le_of_lt h0), fm (show (0 : Int) ≤ (cells.length : Int) by omega), e1, e2, e3, mixV, ix41, ix42, ix43, inRng, p12, mixR, evalE, evalT, evalEs, evalO, evalC, evalI, evalSs, evalS, evP, evPs, evO, evC, evI, pE, consL, pick, and2, or2, andT2, orT2, callM, callvM, makeM, madeBy, methM, biM, bmM, attrM, idxM, slM, soM, tupM, lstM, boxed, binM, cmpM, isNM, chainM, CN.notM, notT, negM, iteM, varM, asgM, subM, fldM, parM, augM, augfM, CN.forM, thruM, truly, assignTg, setAll, startE, fin, back, truth, binop, slop, bifun, bmeth, bmTy, seqAt, lstAt, tyName, isi, isNd, lenOk, putN, augop]
  · by_cases c2 : 0 < l
    · refine ⟨l % lim, i, l / lim, Int.emod_nonneg _ hl0, Int.emod_lt_of_pos _ h0, by omega, Int.ediv_nonneg (by omega) (by omega), ?_⟩
      rw [rf (f := b_draw) hT rfl]
      have c3 : ¬ l = 0 := by omega
      simp [b_draw, jl, c2, c3, hl0, hla, fm (Int.le_of_lt h0), fd (Int.le_of_lt h0), ix41, ix42, ix43, inRng, p12, mixR, evalE, evalT, evalEs, evalO, evalC, evalI, evalSs, evalS, evP, evPs, evO, evC, evI, pE, consL, pick, and2, or2, andT2, orT2, callM, callvM, makeM, madeBy, methM, biM, bmM, attrM, idxM, slM, soM, tupM, lstM, boxed, binM, cmpM, isNM, chainM, CN.notM, notT, negM, iteM, varM, asgM, subM, fldM, parM, augM, augfM, CN.forM, thruM, truly, assignTg, setAll, startE, fin, back, truth, binop, slop, bifun, bmeth, bmTy, seqAt, lstAt, tyName, isi, isNd, lenOk, putN, augop]
    · have c3 : l = 0 := by omega
      subst c3
      have c4 : ¬ i < (cells.length : Int) := fun q => c1 ⟨rfl, q⟩
      refine ⟨mixV y d lim, i, 0, Int.emod_nonneg _ hl0, Int.emod_lt_of_pos _ h0, by omega, by omega, ?_⟩
      rw [rf (f := b_draw) hT rfl]
      simp [b_draw, jl, c4, hl0, hla, hcl, hce, hy, fm (Int.le_of_lt h0), fm (show (0 : Int) ≤ (cells.length : Int) by omega), e1, e2, e3, mixV, ix41, ix42, ix43, inRng, p12, mixR, evalE, evalT, evalEs, evalO, evalC, evalI, evalSs, evalS, evP, evPs, evO, evC, evI, pE, consL, pick, and2, or2, andT2, orT2, callM, callvM, makeM, madeBy, methM, biM, bmM, attrM, idxM, slM, soM, tupM, lstM, boxed, binM, cmpM, isNM, chainM, CN.notM, notT, negM, iteM, varM, asgM, subM, fldM, parM, augM, augfM, CN.forM, thruM, truly, assignTg, setAll, startE, fin, back, truth, binop, slop, bifun, bmeth, bmTy, seqAt, lstAt, tyName, isi, isNd, lenOk, putN, augop]
theorem cut63 {ds : List D} (h : ds.length ≤ 63) : cut ds none (some 63) = ds := by
  have e : HT.sIx ds.length ds.length (some 63) = ds.length := by
    show (if (63 : Int) < 0 then ((63 : Int) + (ds.length : Int)).toNat else min (63 : Int).toNat ds.length) = _
    rw [if_neg (by decide)]
    show min 63 ds.length = _
    omega
  unfold cut
  rw [e]
  show (ds.drop 0).take (ds.length - 0) = ds
  simp
theorem jar_ok (hT : T.fns[gj]? = some b_jar) (ns : List Int) (hl : ns.length ≤ 63) (d : D) (hd : d = D.tl (ns.map D.int) ∨ d = D.kl (ns.map D.int)) : ∃ cells : List Int, 0 < cells.length ∧ runFn T wf (k + 1) gj [d] [] = .ok (.ref 0) [jl cells 0 0 0] := by
  refine ⟨ns ++ List.replicate (if ns.length = 0 then 1 else 0) 5, ?_, ?_⟩
  · rw [List.length_append, List.length_replicate]
    split <;> omega
  · rw [rf (f := b_jar) hT rfl]
    have z1 : 1 ≤ PySem.sizeLine := by decide
    have z4 : 4 ≤ PySem.sizeLine := by decide
    have z2 : ns.length + (if ns.length = 0 then 1 else 0) ≤ PySem.sizeLine := Nat.le_trans (show _ ≤ 64 by split <;> omega) (by decide)
    have hs : ∀ dd, (dd = D.tl (ns.map D.int) ∨ dd = D.kl (ns.map D.int)) → seqI dd [] = .ok (ns.map D.int, none) [] := by
      rintro dd (rfl | rfl) <;> rfl
    have h := compM_map (own := [1]) (tg := .nm 1) (mi := evI T (runFn T wf k) (.seq (.var 0))) (mc := evC T (runFn T wf k) .no) (me := (evP T (runFn T wf k) (.bi .int (.cons (.var 1) .nil))).e) (env := [.has d, .no]) (s := []) (s1 := []) (ds := ns.map .int) (w := none) id (hs d hd) rfl (by
      intro x hx
      obtain ⟨y, hy, rfl⟩ := List.mem_map.mp hx
      simp [stepC, wipeE, evalE, evalT, evalEs, evalO, evalC, evalI, evalSs, evalS, evP, evPs, evO, evC, evI, pE, consL, pick, and2, or2, andT2, orT2, callM, callvM, makeM, madeBy, methM, biM, bmM, attrM, idxM, slM, soM, tupM, lstM, boxed, binM, cmpM, isNM, chainM, CN.notM, notT, negM, iteM, varM, asgM, subM, fldM, parM, augM, augfM, CN.forM, thruM, truly, assignTg, setAll, startE, fin, back, truth, binop, cmpop, idxop, slop, inD, bifun, bmeth, bmTy, seqAt, lstAt, tyName, isi, isNd, lenOk, putN, augop]) (by rw [List.length_map]; exact small5 (by omega))
    rw [List.map_id] at h
    have hc := cut63 (ds := ns.map D.int) (by simpa using hl)
    have hz : (ns.map D.int).length + (if ns.length = 0 then 1 else 0) ≤ PySem.sizeLine := by rw [List.length_map]; exact z2
    rcases hd with rfl | rfl
    · simp only [evalE, evalT, evalEs, evalO, evalC, evalI, evalSs, evalS, evP, evPs, evO, evC, evI, pE, consL, pick, and2, or2, andT2, orT2, callM, callvM, makeM, madeBy, methM, biM, bmM, attrM, idxM, slM, soM, tupM, lstM, boxed, binM, cmpM, isNM, chainM, CN.notM, notT, negM, iteM, varM, asgM, subM, fldM, parM, augM, augfM, CN.forM, thruM, truly, assignTg, setAll, startE, fin, back, truth, binop, cmpop, idxop, slop, inD, bifun, bmeth, bmTy, seqAt, lstAt, tyName, isi, isNd, lenOk, putN, augop, Res.bind_ok] at h
      by_cases c : ns.length = 0
      · have c' : ns = [] := List.eq_nil_of_length_eq_zero c
        subst c'
        simp at h hc
        simp [b_jar, h, hc, jl, z1, z4, evalE, evalT, evalEs, evalO, evalC, evalI, evalSs, evalS, evP, evPs, evO, evC, evI, pE, consL, pick, and2, or2, andT2, orT2, callM, callvM, makeM, madeBy, methM, biM, bmM, attrM, idxM, slM, soM, tupM, lstM, boxed, binM, cmpM, isNM, chainM, CN.notM, notT, negM, iteM, varM, asgM, subM, fldM, parM, augM, augfM, CN.forM, thruM, truly, assignTg, setAll, startE, fin, back, truth, binop, cmpop, idxop, slop, inD, bifun, bmeth, bmTy, seqAt, lstAt, tyName, isi, isNd, lenOk, putN, augop]
      · have c' : ¬ ns = [] := by rintro rfl; simp at c
        simp [c] at z2
        simp [b_jar, h, hc, c, c', jl, z1, z2, z4, evalE, evalT, evalEs, evalO, evalC, evalI, evalSs, evalS, evP, evPs, evO, evC, evI, pE, consL, pick, and2, or2, andT2, orT2, callM, callvM, makeM, madeBy, methM, biM, bmM, attrM, idxM, slM, soM, tupM, lstM, boxed, binM, cmpM, isNM, chainM, CN.notM, notT, negM, iteM, varM, asgM, subM, fldM, parM, augM, augfM, CN.forM, thruM, truly, assignTg, setAll, startE, fin, back, truth, binop, cmpop, idxop, slop, inD, bifun, bmeth, bmTy, seqAt, lstAt, tyName, isi, isNd, lenOk, putN, augop]
    · simp only [evalE, evalT, evalEs, evalO, evalC, evalI, evalSs, evalS, evP, evPs, evO, evC, evI, pE, consL, pick, and2, or2, andT2, orT2, callM, callvM, makeM, madeBy, methM, biM, bmM, attrM, idxM, slM, soM, tupM, lstM, boxed, binM, cmpM, isNM, chainM, CN.notM, notT, negM, iteM, varM, asgM, subM, fldM, parM, augM, augfM, CN.forM, thruM, truly, assignTg, setAll, startE, fin, back, truth, binop, cmpop, idxop, slop, inD, bifun, bmeth, bmTy, seqAt, lstAt, tyName, isi, isNd, lenOk, putN, augop, Res.bind_ok] at h
      by_cases c : ns.length = 0
      · have c' : ns = [] := List.eq_nil_of_length_eq_zero c
        subst c'
        simp at h hc
        simp [b_jar, h, hc, jl, z1, z4, evalE, evalT, evalEs, evalO, evalC, evalI, evalSs, evalS, evP, evPs, evO, evC, evI, pE, consL, pick, and2, or2, andT2, orT2, callM, callvM, makeM, madeBy, methM, biM, bmM, attrM, idxM, slM, soM, tupM, lstM, boxed, binM, cmpM, isNM, chainM, CN.notM, notT, negM, iteM, varM, asgM, subM, fldM, parM, augM, augfM, CN.forM, thruM, truly, assignTg, setAll, startE, fin, back, truth, binop, cmpop, idxop, slop, inD, bifun, bmeth, bmTy, seqAt, lstAt, tyName, isi, isNd, lenOk, putN, augop]
      · have c' : ¬ ns = [] := by rintro rfl; simp at c
        simp [c] at z2
        simp [b_jar, h, hc, c, c', jl, z1, z2, z4, evalE, evalT, evalEs, evalO, evalC, evalI, evalSs, evalS, evP, evPs, evO, evC, evI, pE, consL, pick, and2, or2, andT2, orT2, callM, callvM, makeM, madeBy, methM, biM, bmM, attrM, idxM, slM, soM, tupM, lstM, boxed, binM, cmpM, isNM, chainM, CN.notM, notT, negM, iteM, varM, asgM, subM, fldM, parM, augM, augfM, CN.forM, thruM, truly, assignTg, setAll, startE, fin, back, truth, binop, cmpop, idxop, slop, inD, bifun, bmeth, bmTy, seqAt, lstAt, tyName, isi, isNd, lenOk, putN, augop]
/-- the jar is the first object -/
def JarS (cells : List Int) (rest : Hs) (s : Hs) : Prop := ∃ i l d, 0 ≤ i ∧ 0 ≤ l ∧ 0 ≤ d ∧ s = jl cells i l d :: rest
theorem drawJ (hT : T.fns[gd]? = some b_draw) {cells : List Int} {rest s : Hs} {lim : Int} (hc : 0 < cells.length) (hj : JarS cells rest s) (h0 : 0 < lim) (h1 : lim < 1073741824) : ∃ v s', 0 ≤ v ∧ v < lim ∧ JarS cells rest s' ∧ runFn T wf (k + 1) gd [.ref 0, .int lim] s = .ok (.int v) s' := by
  obtain ⟨i, l, d, hi, hl, hd, rfl⟩ := hj
  obtain ⟨v, i', l', a, b, c, e, h⟩ := draw hT (wf := wf) (k := k) (rest := rest) hc hi hl hd h0 h1
  exact ⟨v, _, a, b, ⟨i', l', d + 1, c, e, by omega, rfl⟩, h⟩
end
end CN
set_option Elab.async false
set_option linter.all false
set_option maxRecDepth 100000
set_option maxHeartbeats 4000000
/-! LwSame: _law_same, _law_bytes. -/
namespace CN
def b_same (gs : Nat) : Fn := ⟨4, 2, .cons (.ite (.bi (.isinst "tuple") (.cons (.var 1) (.nil))) (.cons (.asg (.nm 2) (.and (.cons (.bi (.isinst "tuple") (.cons (.var 0) (.nil))) (.cons (.cmp .eq (.bi .len (.cons (.var 0) (.nil))) (.bi .len (.cons (.var 1) (.nil)))) (.nil))))) (.cons (.ret (.and (.cons (.var 2) (.cons (.cmp .notin (.cst (.bl false)) (.comp (.call gs (.cons (.idx (.var 0) (.var 3)) (.cons (.idx (.var 1) (.var 3)) (.nil)))) (.nm 3) [3] (.range1 (.bi .len (.cons (.var 1) (.nil)))) .no)) (.nil))))) (.nil))) (.nil)) (.cons (.ite (.or (.cons (.isN false (.var 1)) (.cons (.isN false (.var 0)) (.nil)))) (.cons (.ret (.and (.cons (.isN false (.var 1)) (.cons (.isN false (.var 0)) (.nil))))) (.nil)) (.nil)) (.cons (.ite (.or (.cons (.cmp .ne (.bi (.isinst "bool") (.cons (.var 0) (.nil))) (.bi (.isinst "bool") (.cons (.var 1) (.nil)))) (.cons (.cmp .ne (.bi (.isinst "int") (.cons (.var 0) (.nil))) (.bi (.isinst "int") (.cons (.var 1) (.nil)))) (.nil)))) (.cons (.ret (.cst (.bl false))) (.nil)) (.nil)) (.cons (.ret (.and (.cons (.cmp .eq (.bi (.isinst "str") (.cons (.var 0) (.nil))) (.bi (.isinst "str") (.cons (.var 1) (.nil)))) (.cons (.cmp .eq (.var 0) (.var 1)) (.nil))))) (.nil)))), 0, []⟩
def b_bytes : Fn := ⟨3, 2, .cons (.ite (.or (.cons (.not (.bi (.isinst "tuple") (.cons (.var 0) (.nil)))) (.cons (.cmp .isin (.cst (.bl false)) (.comp (.and (.cons (.bi (.isinst "int") (.cons (.var 2) (.nil))) (.cons (.not (.bi (.isinst "bool") (.cons (.var 2) (.nil)))) (.nil)))) (.nm 2) [2] (.seq (.var 0)) .no)) (.nil)))) (.cons (.ret (.cst (.bl false))) (.nil)) (.nil)) (.cons (.ret (.cmp .eq (.var 0) (.bi .tuple (.cons (.var 1) (.nil))))) (.nil)), 0, []⟩
section
variable {T : Tb} {wf k gs gb : Nat}
theorem same_int (hT : T.fns[gs]? = some (b_same gs)) (x : Int) (s : Hs) : runFn T wf (k + 1) gs [.int x, .int x] s = .ok (.bl true) s := by
  rw [rf (f := b_same gs) hT rfl (show ¬ 4 ≤ 0 by decide)]
  have e : ∀ b : Bool, cmpop T.tabs s .ne (.bl b) (.bl b) = some false := by intro b; cases b <;> rfl
  have e' : ∀ b : Bool, cmpop T.tabs s .eq (.bl b) (.bl b) = some true := by intro b; cases b <;> rfl
  simp [b_same, e, e', evalE, evalT, evalEs, evalO, evalC, evalI, evalSs, evalS, evP, evPs, evO, evC, evI, pE, consL, pick, and2, or2, andT2, orT2, callM, callvM, makeM, madeBy, methM, biM, bmM, attrM, idxM, slM, soM, tupM, lstM, boxed, binM, cmpM, isNM, chainM, CN.notM, notT, negM, iteM, varM, asgM, subM, fldM, parM, augM, augfM, CN.forM, thruM, truly, assignTg, setAll, startE, fin, back, truth, binop, slop, bifun, bmeth, bmTy, seqAt, lstAt, tyName, isi, isNd, lenOk, putN, augop]
def sRest : Sts := .cons (.ite (.or (.cons (.isN false (.var 1)) (.cons (.isN false (.var 0)) (.nil)))) (.cons (.ret (.and (.cons (.isN false (.var 1)) (.cons (.isN false (.var 0)) (.nil))))) (.nil)) (.nil)) (.cons (.ite (.or (.cons (.cmp .ne (.bi (.isinst "bool") (.cons (.var 0) (.nil))) (.bi (.isinst "bool") (.cons (.var 1) (.nil)))) (.cons (.cmp .ne (.bi (.isinst "int") (.cons (.var 0) (.nil))) (.bi (.isinst "int") (.cons (.var 1) (.nil)))) (.nil)))) (.cons (.ret (.cst (.bl false))) (.nil)) (.nil)) (.cons (.ret (.and (.cons (.cmp .eq (.bi (.isinst "str") (.cons (.var 0) (.nil))) (.bi (.isinst "str") (.cons (.var 1) (.nil)))) (.cons (.cmp .eq (.var 0) (.var 1)) (.nil))))) (.nil)))
def sEnv (ds : List D) : CN.Env := [.has (.tup ds), .has (.tup ds), .has (.bl true), .no]
def sIt : It := .range1 (.bi .len (.cons (.var 1) .nil))
def sEx (gs : Nat) : Ex := .call gs (.cons (.idx (.var 0) (.var 3)) (.cons (.idx (.var 1) (.var 3)) .nil))
theorem sIt_ok (ds : List D) (s : Hs) (hl : ds.length ≤ 5000) : evI T (runFn T wf k) sIt (sEnv ds) s = .ok (rangeD 0 ds.length, none) s := evI_range1 rfl hl
theorem sStep (ds : List D) (s : Hs) (h : ∀ d ∈ ds, runFn T wf k gs [d, d] s = .ok (.bl true) s) (j : Nat) (hj : j < ds.length) : stepC [3] (.nm 3) (evC T (runFn T wf k) .no) (evP T (runFn T wf k) (sEx gs)).e (sEnv ds) (.int (0 + (j : Int))) s = .ok (some (.bl true)) s := by
  have e : L2.atI ds (0 + (j : Int)) = some ds[j] := by
    rw [Int.zero_add, atI_nat ds j hj, List.getElem?_eq_getElem hj]
  have e2 := h _ (List.getElem_mem hj)
  have e3 : stepC [3] (.nm 3) (evC T (runFn T wf k) .no) (evP T (runFn T wf k) (sEx gs)).e (sEnv ds) (.int (0 + (j : Int))) s = ((((Res.of (L2.atI ds (0 + (j : Int))) s).bind fun x s1 => ((Res.of (L2.atI ds (0 + (j : Int))) s1).bind fun y s2 => .ok [y] s2).bind fun ys s3 => .ok (x :: ys) s3).bind fun as s4 => runFn T wf k gs as s4).bind fun v s5 => .ok (some v) s5) := rfl
  rw [e3, e]
  simp [e2]
theorem sComp (ds : List D) (s : Hs) (h : ∀ d ∈ ds, runFn T wf k gs [d, d] s = .ok (.bl true) s) (hl : ds.length ≤ 5000) : (evP T (runFn T wf k) (.comp (sEx gs) (.nm 3) [3] sIt .no)).e (sEnv ds) s = .ok (.tl (List.replicate ds.length (.bl true))) s := by
  have q := compM_map (own := [3]) (tg := .nm 3) (mi := evI T (runFn T wf k) sIt) (mc := evC T (runFn T wf k) .no) (me := (evP T (runFn T wf k) (sEx gs)).e) (env := sEnv ds) (s := s) (s1 := s) (ds := rangeD 0 ds.length) (w := none) (fun _ => .bl true) (sIt_ok ds s hl) rfl (by
    intro d hd
    unfold rangeD at hd
    obtain ⟨j, hj, rfl⟩ := List.mem_map.mp hd
    exact sStep ds s h j (List.mem_range.mp hj)) (by simp [rangeD]; exact small5 hl)
  have e : (rangeD 0 ds.length).map (fun _ => D.bl true) = List.replicate ds.length (D.bl true) := by
    refine List.eq_replicate_iff.mpr ⟨by simp [rangeD], fun b hb => ?_⟩
    obtain ⟨_, _, rfl⟩ := List.mem_map.mp hb
    rfl
  rw [e] at q
  rw [evP]
  dsimp only [pE]
  exact q
theorem sRet (x : Ex) (env : CN.Env) (n : Nat) (s : Hs) (h2 : env[2]? = some (.has (.bl true))) (h : (evP T (runFn T wf k) x).e env s = .ok (.tl (List.replicate n (.bl true))) s) : (evP T (runFn T wf k) (.and (.cons (.var 2) (.cons (.cmp .notin (.cst (.bl false)) x) .nil)))).e env s = .ok (.bl true) s := by
  have e : (evP T (runFn T wf k) (.and (.cons (.var 2) (.cons (.cmp .notin (.cst (.bl false)) x) .nil)))).e env s = (varM 2 env s).bind fun y s1 => (match y with
    | .bl true => ((evP T (runFn T wf k) x).e env s1).bind fun y s2 => Res.of ((cmpop T.tabs s2 .notin (.bl false) y).map .bl) s2
    | .bl false => .ok (.bl false) s1
    | _ => .stuck : Res D) := rfl
  have e1 : varM 2 env s = .ok (.bl true) s := by
    unfold varM
    rw [h2]
  rw [e, e1, Res.bind_ok]
  dsimp only
  rw [h, Res.bind_ok, notin_true]
  rfl
theorem sGood (ds : List D) (s : Hs) (x : Sl) : evalS T wf (runFn T wf k) (.asg (.nm 2) (.and (.cons (.bi (.isinst "tuple") (.cons (.var 0) .nil)) (.cons (.cmp .eq (.bi .len (.cons (.var 0) .nil)) (.bi .len (.cons (.var 1) .nil))) .nil)))) [.has (.tup ds), .has (.tup ds), x, .no] s = .ok (.next (sEnv ds)) s := by
  simp [sEnv, evalE, evalT, evalEs, evalO, evalC, evalI, evalSs, evalS, evP, evPs, evO, evC, evI, pE, consL, pick, and2, or2, andT2, orT2, callM, callvM, makeM, madeBy, methM, biM, bmM, attrM, idxM, slM, soM, tupM, lstM, boxed, binM, cmpM, isNM, chainM, CN.notM, notT, negM, iteM, varM, asgM, subM, fldM, parM, augM, augfM, CN.forM, thruM, truly, assignTg, setAll, startE, fin, back, truth, binop, slop, bifun, bmeth, bmTy, seqAt, lstAt, tyName, isi, isNd, lenOk, putN, augop]
theorem sTup (st : CN.St) (x : Ex) (ds : List D) (s : Hs) (g : evalS T wf (runFn T wf k) st [.has (.tup ds), .has (.tup ds), .no, .no] s = .ok (.next (sEnv ds)) s) (q : (evP T (runFn T wf k) x).e (sEnv ds) s = .ok (.bl true) s) : fin 0 s (evalSs T wf (runFn T wf k) (.cons (.ite (.bi (.isinst "tuple") (.cons (.var 1) .nil)) (.cons st (.cons (.ret x) .nil)) .nil) sRest) (startE 4 [.tup ds, .tup ds]) s) = .ok (.bl true) s := by
  simp [evalE, evalT, evalEs, evalO, evalC, evalI, evalSs, evalS, evP, evPs, evO, evC, evI, pE, consL, pick, and2, or2, andT2, orT2, callM, callvM, makeM, madeBy, methM, biM, bmM, attrM, idxM, slM, soM, tupM, lstM, boxed, binM, cmpM, isNM, chainM, CN.notM, notT, negM, iteM, varM, asgM, subM, fldM, parM, augM, augfM, CN.forM, thruM, truly, assignTg, setAll, startE, fin, back, truth, binop, slop, bifun, bmeth, bmTy, seqAt, lstAt, tyName, isi, isNd, lenOk, putN, augop, g, q]
theorem same_tup (hT : T.fns[gs]? = some (b_same gs)) (ds : List D) (s : Hs) (h : ∀ d ∈ ds, runFn T wf k gs [d, d] s = .ok (.bl true) s) (hl : ds.length ≤ 5000) : runFn T wf (k + 1) gs [.tup ds, .tup ds] s = .ok (.bl true) s := by
  rw [rf (f := b_same gs) hT rfl (show ¬ 4 ≤ 0 by decide)]
  have g := sGood (T := T) (wf := wf) (k := k) ds s .no
  have q := sRet (T := T) _ (sEnv ds) _ s rfl (sComp ds s h hl)
  have e0 : (b_same gs).body = .cons (.ite (.bi (.isinst "tuple") (.cons (.var 1) .nil)) (.cons (.asg (.nm 2) (.and (.cons (.bi (.isinst "tuple") (.cons (.var 0) .nil)) (.cons (.cmp .eq (.bi .len (.cons (.var 0) .nil)) (.bi .len (.cons (.var 1) .nil))) .nil)))) (.cons (.ret (.and (.cons (.var 2) (.cons (.cmp .notin (.cst (.bl false)) (.comp (sEx gs) (.nm 3) [3] sIt .no)) .nil)))) .nil)) .nil) sRest := rfl
  rw [e0]
  exact sTup _ _ ds s g q
theorem same_bl (hT : T.fns[gs]? = some (b_same gs)) (x : Bool) (s : Hs) : runFn T wf (k + 1) gs [.bl x, .bl x] s = .ok (.bl true) s := by
  rw [rf (f := b_same gs) hT rfl (show ¬ 4 ≤ 0 by decide)]
  have e : ∀ b : Bool, cmpop T.tabs s .ne (.bl b) (.bl b) = some false := by intro b; cases b <;> rfl
  have e' : ∀ b : Bool, cmpop T.tabs s .eq (.bl b) (.bl b) = some true := by intro b; cases b <;> rfl
  simp [b_same, e, e', evalE, evalT, evalEs, evalO, evalC, evalI, evalSs, evalS, evP, evPs, evO, evC, evI, pE, consL, pick, and2, or2, andT2, orT2, callM, callvM, makeM, madeBy, methM, biM, bmM, attrM, idxM, slM, soM, tupM, lstM, boxed, binM, cmpM, isNM, chainM, CN.notM, notT, negM, iteM, varM, asgM, subM, fldM, parM, augM, augfM, CN.forM, thruM, truly, assignTg, setAll, startE, fin, back, truth, binop, slop, bifun, bmeth, bmTy, seqAt, lstAt, tyName, isi, isNd, lenOk, putN, augop]
theorem same_non (hT : T.fns[gs]? = some (b_same gs)) (s : Hs) : runFn T wf (k + 1) gs [.non, .non] s = .ok (.bl true) s := by
  rw [rf (f := b_same gs) hT rfl (show ¬ 4 ≤ 0 by decide)]
  rfl
theorem same_str (hT : T.fns[gs]? = some (b_same gs)) (x : PySem.Str) (hx : PySem.PyData.strOk x = true) (s : Hs) : runFn T wf (k + 1) gs [.str x, .str x] s = .ok (.bl true) s := by
  rw [rf (f := b_same gs) hT rfl (show ¬ 4 ≤ 0 by decide)]
  have e : ∀ b : Bool, cmpop T.tabs s .ne (.bl b) (.bl b) = some false := by intro b; cases b <;> rfl
  have e' : ∀ b : Bool, cmpop T.tabs s .eq (.bl b) (.bl b) = some true := by intro b; cases b <;> rfl
  have e2 : cmpop T.tabs s .eq (.str x) (.str x) = some true := (eqD_str s _ _ hx hx).trans (congrArg some (by simp))
  simp [b_same, e, e', e2, evalE, evalT, evalEs, evalO, evalC, evalI, evalSs, evalS, evP, evPs, evO, evC, evI, pE, consL, pick, and2, or2, andT2, orT2, callM, callvM, makeM, madeBy, methM, biM, bmM, attrM, idxM, slM, soM, tupM, lstM, boxed, binM, cmpM, isNM, chainM, CN.notM, notT, negM, iteM, varM, asgM, subM, fldM, parM, augM, augfM, CN.forM, thruM, truly, assignTg, setAll, startE, fin, back, truth, binop, slop, bifun, bmeth, bmTy, seqAt, lstAt, tyName, isi, isNd, lenOk, putN, augop]
mutual
def sameOk : D → Bool
  | .non => true
  | .bl _ => true
  | .int _ => true
  | .str x => PySem.PyData.strOk x
  | .tup ds => decide (ds.length ≤ 5000) && sameOks ds
  | _ => false
def sameOks : List D → Bool
  | [] => true
  | d :: ds => sameOk d && sameOks ds
end
mutual
def dep : D → Nat
  | .tup ds => deps ds + 1
  | _ => 0
def deps : List D → Nat
  | [] => 0
  | d :: ds => max (dep d) (deps ds)
end
theorem sameOks_mem : ∀ {ds : List D}, sameOks ds = true → ∀ d ∈ ds, sameOk d = true
  | x :: xs, h, d, hd => by
    have h' : (sameOk x && sameOks xs) = true := h
    rw [Bool.and_eq_true] at h'
    rcases List.mem_cons.mp hd with rfl | hd
    · exact h'.1
    · exact sameOks_mem h'.2 d hd
theorem deps_mem : ∀ {ds : List D} {n : Nat}, deps ds ≤ n → ∀ d ∈ ds, dep d ≤ n
  | x :: xs, n, h, d, hd => by
    have h' : max (dep x) (deps xs) ≤ n := h
    rcases List.mem_cons.mp hd with rfl | hd
    · omega
    · exact deps_mem (by omega) d hd
theorem same_ok (hT : T.fns[gs]? = some (b_same gs)) : ∀ (n : Nat) (d : D) (s : Hs), dep d ≤ n → sameOk d = true → runFn T wf (k + n + 1) gs [d, d] s = .ok (.bl true) s
  | n, .non, s, _, _ => same_non hT s
  | n, .bl b, s, _, _ => same_bl hT b s
  | n, .int i, s, _, _ => same_int hT i s
  | n, .str x, s, _, h => same_str hT x h s
  | 0, .tup ds, s, h, _ => by
    have h' : deps ds + 1 ≤ 0 := h
    omega
  | n + 1, .tup ds, s, h, hs => by
    have h' : deps ds + 1 ≤ n + 1 := h
    have hs' : (decide (ds.length ≤ 5000) && sameOks ds) = true := hs
    rw [Bool.and_eq_true, decide_eq_true_eq] at hs'
    exact same_tup hT (k := k + n + 1) ds s (fun d hd => same_ok hT n d s (deps_mem (by omega) d hd) (sameOks_mem hs'.2 d hd)) hs'.1
  | _, .tl _, _, _, h => by cases h
  | _, .kl _, _, _, h => by cases h
  | _, .ref _, _, _, h => by cases h
  | _, .fn _, _, _, h => by cases h
  | _, .cls _, _, _, h => by cases h
  | _, .ty _, _, _, h => by cases h
  | _, .tab _, _, _, h => by cases h
def yEx : Ex := .comp (.and (.cons (.bi (.isinst "int") (.cons (.var 2) (.nil))) (.cons (.not (.bi (.isinst "bool") (.cons (.var 2) (.nil)))) (.nil)))) (.nm 2) [2] (.seq (.var 0)) .no
theorem yComp (xs : List Int) (d : D) (s : Hs) (hl : xs.length ≤ 5000) : (evP T (runFn T wf k) yEx).e [.has (.tup (xs.map D.int)), .has d, .no] s = .ok (.tl (List.replicate xs.length (.bl true))) s := by
  have q := compM_map (own := [2]) (tg := .nm 2) (mi := evI T (runFn T wf k) (.seq (.var 0))) (mc := evC T (runFn T wf k) .no) (me := (evP T (runFn T wf k) (.and (.cons (.bi (.isinst "int") (.cons (.var 2) (.nil))) (.cons (.not (.bi (.isinst "bool") (.cons (.var 2) (.nil)))) (.nil))))).e) (env := [.has (.tup (xs.map D.int)), .has d, .no]) (s := s) (s1 := s) (ds := xs.map D.int) (w := none) (fun _ => .bl true) rfl rfl (by
    intro d hd
    obtain ⟨x, _, rfl⟩ := List.mem_map.mp hd
    rfl) (by rw [List.length_map]; exact small5 hl)
  have e : (xs.map D.int).map (fun _ => D.bl true) = List.replicate xs.length (D.bl true) := by
    refine List.eq_replicate_iff.mpr ⟨by simp, fun b hb => ?_⟩
    obtain ⟨_, _, rfl⟩ := List.mem_map.mp hb
    rfl
  rw [e] at q
  unfold yEx
  rw [evP]
  dsimp only [pE]
  exact q
theorem yTest (x : Ex) (env : CN.Env) (xs : List Int) (n : Nat) (s : Hs) (h0 : env[0]? = some (.has (.tup (xs.map D.int)))) (h : (evP T (runFn T wf k) x).e env s = .ok (.tl (List.replicate n (.bl true))) s) : (evP T (runFn T wf k) (.or (.cons (.not (.bi (.isinst "tuple") (.cons (.var 0) (.nil)))) (.cons (.cmp .isin (.cst (.bl false)) x) (.nil))))).t env s = .ok false s := by
  have e := isin_true (T := T) n s
  simp [evalE, evalT, evalEs, evalO, evalC, evalI, evalSs, evalS, evP, evPs, evO, evC, evI, pE, consL, pick, and2, or2, andT2, orT2, callM, callvM, makeM, madeBy, methM, biM, bmM, attrM, idxM, slM, soM, tupM, lstM, boxed, binM, cmpM, isNM, chainM, CN.notM, notT, negM, iteM, varM, asgM, subM, fldM, parM, augM, augfM, CN.forM, thruM, truly, assignTg, setAll, startE, fin, back, truth, binop, slop, bifun, bmeth, bmTy, seqAt, lstAt, tyName, isi, isNd, lenOk, putN, augop, h0, h, e]
theorem bytes_ok (hT : T.fns[gb]? = some b_bytes) (xs : List Int) (n : Nat) (s : Hs) (hs : s[n]? = some (.lst (xs.map D.int))) (hl : xs.length ≤ 5000) : runFn T wf (k + 1) gb [.tup (xs.map D.int), .ref n] s = .ok (.bl true) s := by
  rw [rf (f := b_bytes) hT rfl]
  have e0 : b_bytes.body = .cons (.ite (.or (.cons (.not (.bi (.isinst "tuple") (.cons (.var 0) (.nil)))) (.cons (.cmp .isin (.cst (.bl false)) yEx) (.nil)))) (.cons (.ret (.cst (.bl false))) (.nil)) (.nil)) (.cons (.ret (.cmp .eq (.var 0) (.bi .tuple (.cons (.var 1) (.nil))))) (.nil)) := rfl
  have e1 : startE b_bytes.slots [.tup (xs.map D.int), .ref n] = [.has (.tup (xs.map D.int)), .has (.ref n), .no] := rfl
  rw [e0, e1, nx (ite_f (yTest yEx _ xs _ s rfl (yComp xs _ s hl))), rt (ret_ok (d := .bl true) (s' := s) ?_)]
  · rfl
  · have e2 : lstAt s (.ref n) = some (xs.map D.int) := by
      show (match s[n]? with | some (.lst ds) => some ds | _ => none) = _
      rw [hs]
    have e3 : bifun s .tuple [.ref n] = some (.tup (xs.map D.int)) := by
      show (lstAt s (.ref n)).map D.tup = _
      rw [e2]
      rfl
    have e4 : cmpop T.tabs s .eq (.tup (xs.map D.int)) (.tup (xs.map D.int)) = some true := eq_ints xs s
    have e5 : (evP T (runFn T wf k) (.cmp .eq (.var 0) (.bi .tuple (.cons (.var 1) (.nil))))).e [.has (.tup (xs.map D.int)), .has (.ref n), .no] s = (Res.of (bifun s .tuple [.ref n]) s).bind fun y s2 => Res.of ((cmpop T.tabs s2 .eq (.tup (xs.map D.int)) y).map .bl) s2 := rfl
    rw [e5, e3, Res.of_some, Res.bind_ok, e4]
    rfl
end
end CN
set_option Elab.async false
set_option linter.all false
set_option maxRecDepth 100000
set_option maxHeartbeats 4000000
/-! LwText: texts as lists of signs, for plain laws. -/
namespace CN
open PySem (Str)
/-- the text of these signs -/
abbrev S (l : List Nat) : Str := SX.S l
abbrev dS (l : List Nat) : D := .str (S l)
abbrev numL (n : Nat) : List Nat := TL.numL n
abbrev joinL (a : List Nat) (ps : List (List Nat)) : List Nat := TL.joinL a ps
abbrev spl (c : Nat) (l : List Nat) : List (List Nat) := TL.spl [c] 0 [] l
/-- plain signs -/
def okT (l : List Nat) : Bool := l.all (· < 256)
theorem okT_app {a b : List Nat} (ha : okT a = true) (hb : okT b = true) : okT (a ++ b) = true := by
  unfold okT at *
  rw [List.all_append, ha, hb]
  rfl
theorem strOk_S {l : List Nat} (h : okT l = true) : PySem.PyData.strOk (S l) = true := by
  unfold PySem.PyData.strOk
  rw [← Array.all_toList]
  show l.all (· < 0x110000) = true
  rw [List.all_eq_true] at *
  intro x hx
  have := of_decide_eq_true (List.all_eq_true.mp h x hx)
  exact decide_eq_true (by omega)
theorem str_num (n : Nat) : ((toString ((n : Nat) : Int) : String) : Str) = S (numL n) := by
  have e := TL.tl_num n
  show PySem.Str.ofString (toString ((n : Nat) : Int)) = SX.S (TL.numL n)
  rw [← e]
  first
    | done
    | exact (TL.mk_tl _).symm
theorem numL_ok (n : Nat) : okT (numL n) = true := by
  unfold okT
  rw [List.all_eq_true]
  intro c hc
  have := TL.numL_digits n c hc
  exact decide_eq_true (by omega)
theorem split_S' {l : List Nat} {c : Nat} (hc : c < 256) : PySem.Txt.split (S l) (S [c]) = (spl c l).map S := SX.split_S (List.cons_ne_nil _ _) (by simp [hc])
theorem join_S' (a : List Nat) (ps : List (List Nat)) : PySem.Txt.join (S a) (ps.map S) = S (joinL a ps) := SX.join_S a ps
theorem spl_joinL {c : Nat} {ps : List (List Nat)} (hne : ps ≠ []) (h : ∀ p ∈ ps, c ∉ p) : spl c (joinL [c] ps) = ps := SX.spl_join hne h
theorem joinL_nil (a : List Nat) : joinL a [] = [] := rfl
theorem joinL_one (a p : List Nat) : joinL a [p] = p := rfl
theorem joinL_two (a p q : List Nat) (ps : List (List Nat)) : joinL a (p :: q :: ps) = p ++ (a ++ joinL a (q :: ps)) := rfl
theorem strs_S : ∀ ps : List (List Nat), strs? (ps.map dS) = some (ps.map S)
  | [] => rfl
  | p :: ps => by
    show (strs? (ps.map dS)).map (S p :: ·) = _
    rw [strs_S ps]
    rfl
theorem len_S (l : List Nat) : (S l).length = l.length := SX.S_len l
def sumL (ps : List (List Nat)) : Nat := (ps.map (·.length)).sum
theorem lens_S (ps : List (List Nat)) : ((ps.map S).map (·.length)).sum = sumL ps := by
  rw [SX.lens]
  rfl
theorem bm_split (s : Hs) {l : List Nat} {c : Nat} (hc : c < 256) (hl : l.length + 2 ≤ PySem.sizeLine) : bmeth s .split (dS l) [dS [c]] = .ok (.tl ((spl c l).map dS)) s := by
  show (if ((S [c]).length == 0) = false ∧ (S l).length + 2 ≤ PySem.sizeLine then Res.ok (D.tl ((PySem.Txt.split (S l) (S [c])).map .str)) s else .stuck) = _
  rw [if_pos ⟨by rw [len_S]; rfl, by rw [len_S]; exact hl⟩, split_S' hc, List.map_map]
  rfl
theorem bm_join (s : Hs) (a : List Nat) (ps : List (List Nat)) (x : D) (hx : seqAt0 s x = some (ps.map dS)) (hl : sumL ps + ps.length * a.length ≤ 16777216) : bmeth s .join (dS a) [x] = .ok (dS (joinL a ps)) s := by
  show (match seqAt0 s x with
    | some ds => match strs? ds with
      | some ys => if (ys.map (fun (y : Str) => y.length)).sum + ys.length * (S a).length ≤ 16777216 then Res.ok (D.str (PySem.Txt.join (S a) ys)) s else .stuck
      | none => .stuck
    | none => .stuck) = _
  rw [hx]
  dsimp only
  rw [strs_S]
  dsimp only
  rw [lens_S, len_S, List.length_map, if_pos hl, join_S']
theorem bm_starts (s : Hs) (l : List Nat) (c : Nat) : bmeth s .startswith (dS l) [dS [c]] = .ok (.bl (decide (l.head? = some c))) s := by
  show Res.ok (D.bl (PySem.Txt.startswith (S l) (S [c]))) s = _
  congr 2
  unfold PySem.Txt.startswith
  rw [len_S, len_S, PySem.StrLaws.subAt_eq]
  cases l with
  | nil => rfl
  | cons d r =>
    show (decide (0 + 1 ≤ (d :: r).length) && (([d] : List Nat) == [c])) = _
    rw [decide_eq_true (by simp)]
    by_cases h : d = c
    · subst h; simp
    · simp [h]
theorem signs_S (l : List Nat) : signs (S l) = l.map fun c => dS [c] := rfl
theorem eq_S (s : Hs) {a b : List Nat} (ha : okT a = true) (hb : okT b = true) : eqD s (dS a) (dS b) = some (decide (a = b)) := by
  refine (eqD_str s _ _ (strOk_S ha) (strOk_S hb)).trans (congrArg some ?_)
  by_cases h : a = b
  · rw [decide_eq_true h, h, decide_eq_true rfl]
  · rw [decide_eq_false h, decide_eq_false fun e => h (SX.S_inj e)]
theorem add_S (s : Hs) {a b : List Nat} (h : a.length + b.length ≤ PySem.sizeLine) : binop s .add (dS a) (dS b) = some (dS (a ++ b)) := by
  show (if (S a).length + (S b).length ≤ PySem.sizeLine then some (D.str (S a ++ S b)) else none) = _
  rw [len_S, len_S, if_pos h, SX.S_cat]
theorem isin_S (tabs : List (List (Str × D))) (s : Hs) (a : List Nat) (c : Nat) : cmpop tabs s .isin (dS [c]) (dS a) = some (decide (c ∈ a)) := by
  show some (!(PySem.Builtin.Str.occurrences (S a) (S [c]) 0 (S a).length 1).isEmpty) = _
  rw [SX.in_one]
theorem idx_S0 (tabs : List (List (Str × D))) (s : Hs) (c : Nat) (l : List Nat) (h : (c :: l).length ≤ PySem.sizeLine) : idxop tabs s (dS (c :: l)) (.int 0) = some (dS [c]) := by
  show (if (S (c :: l)).length ≤ PySem.sizeLine then (L2.atI (c :: l) 0).map fun c => D.str ⟨#[c]⟩ else none) = _
  rw [len_S, if_pos h, at0]
  rfl
theorem sl_S1 (s : Hs) (l : List Nat) (h : l.length ≤ PySem.sizeLine) : slop s (dS l) (some 1) none = some (dS (l.drop 1)) := by
  show (if (S l).length ≤ PySem.sizeLine then some (D.str (L2.cutS (S l) (some 1) none)) else none) = _
  rw [len_S, if_pos h]
  congr 2
  rw [C8.cutS_slice]
  exact SX.slice_from (by decide)
theorem len_str (s : Hs) (l : List Nat) (h : l.length ≤ PySem.sizeLine) : bifun s .len [dS l] = some (.int (l.length : Nat)) := by
  show (if (S l).length ≤ PySem.sizeLine then some (D.int (S l).length) else none) = _
  rw [len_S, if_pos h]
theorem str_int (s : Hs) (n : Nat) (h : n < 2 ^ 64) : bifun s .str [.int (n : Int)] = some (dS (numL n)) := by
  show (if (n : Int).natAbs.log2 < 1920 then some (D.str (toString (n : Int) : String)) else none) = _
  rw [if_pos (by
    show n.log2 < 1920
    by_cases h0 : n = 0
    · subst h0; decide
    · exact Nat.lt_trans ((Nat.log2_lt h0).mpr h) (by decide)), str_num]
/-- a text of figures -/
def isFig (l : List Nat) : Bool := l.all fun c => decide (48 ≤ c) && decide (c ≤ 57)
theorem figs {l : List Nat} (h : isFig l = true) : PySem.NumText.AllDigits l := by
  intro c hc
  have := List.all_eq_true.mp h c hc
  rw [Bool.and_eq_true, decide_eq_true_eq, decide_eq_true_eq] at this
  exact this
theorem int_S (s : Hs) {l : List Nat} (h : isFig l = true) (hn : l ≠ []) (hl : l.length ≤ 640) : bifun s .int [dS l] = some (.int (PySem.NumText.digitsVal l : Nat)) := by
  show (if (S l).length ≤ 640 then (PySem.intText? (S l)).map D.int else none) = _
  rw [len_S, if_pos hl, PySem.intText_digits (x := S l) (figs h) hn (by rw [len_S]; omega)]
  rfl
theorem numL_fig (n : Nat) : isFig (numL n) = true := by
  unfold isFig
  rw [List.all_eq_true]
  intro c hc
  have := TL.numL_digits n c hc
  rw [decide_eq_true this.1, decide_eq_true this.2]
  rfl
theorem numL_head {n : Nat} : ∀ {l : List Nat}, numL n = 48 :: l → n = 0 := by
  induction n using Nat.strongRecOn with
  | _ n ih =>
    intro l h
    by_cases h10 : n < 10
    · rw [show numL n = [48 + n] from TL.numL_lt h10] at h
      have := (List.cons.inj h).1
      omega
    · rw [show numL n = numL (n / 10) ++ [48 + n % 10] from TL.numL_step (by omega)] at h
      cases e : numL (n / 10) with
      | nil => exact absurd e (TL.numL_ne _)
      | cons d r =>
        rw [e] at h
        have h1 := (List.cons.inj h).1
        subst h1
        have := ih (n / 10) (by omega) e
        omega
/-- the number below a limit that a piece writes -/
def numIn (l : List Nat) (lim : Nat) : Option Nat :=
  if l = [] ∨ (numL lim).length < l.length then none
  else if isFig l = false then none
  else if l.head? = some 48 ∧ 1 < l.length then none
  else if PySem.NumText.digitsVal l < lim then some (PySem.NumText.digitsVal l) else none
theorem numL_mono {m n : Nat} (h : m ≤ n) : (numL m).length ≤ (numL n).length := by
  by_cases hm : (numL m).length ≤ (numL n).length
  · exact hm
  · exfalso
    have h1 : 10 ^ (numL n).length ≤ m := by
      by_cases h2 : m < 10 ^ (numL n).length
      · have hk : 0 < (numL n).length := List.length_pos_iff.mpr (TL.numL_ne n)
        exact absurd (TL.numL_len hk h2) hm
      · omega
    have h3 := PyProof.Rows.digits10_ge (k := (numL n).length) (n := n) (by omega)
    have h4 : (numL n).length = (Nat.toDigits 10 n).length := List.length_map ..
    omega
theorem numIn_num {n lim : Nat} (h : n < lim) : numIn (numL n) lim = some n := by
  unfold numIn
  have h1 := numL_mono (Nat.le_of_lt h)
  rw [if_neg (by
    rintro (e | e)
    · exact TL.numL_ne n e
    · omega), if_neg (by rw [numL_fig]; decide), if_neg (by
    rintro ⟨e1, e2⟩
    cases e : numL n with
    | nil => rw [e] at e2; simp at e2
    | cons d r =>
      rw [e] at e1 e2
      have hd : d = 48 := by simpa using e1
      subst hd
      have := numL_head e
      subst this
      have e0 : numL 0 = [48] := TL.numL_lt (by decide)
      rw [e0] at e
      have e5 := (List.cons.inj e).2
      rw [← e5] at e2
      simp at e2), TL.numL_val, if_pos h]
end CN
set_option Elab.async false
set_option linter.all false
set_option maxRecDepth 100000
set_option maxHeartbeats 4000000
/-! LwEv: rules of expressions, one for each construct. -/
namespace CN
section
variable {T : Tb} {wf k g : Nat} {c : Nat → List D → Hs → Res D} {env env' : Env} {s s1 s2 s3 s4 s5 s' : Hs} {d x y z : D} {a b e : Ex} {es : Exs} {v w : Bool}
theorem ev_var {i : Nat} (h : env[i]? = some (.has d)) : (evP T c (.var i)).e env s = .ok d s := by
  show varM i env s = _
  unfold varM
  rw [h]
theorem ev_glob {i : Nat} (h : T.consts[i]? = some d) : (evP T c (.glob i)).e env s = .ok d s := by
  show Res.of T.consts[i]? s = _
  rw [h]
  rfl
theorem ev_bin {op : BOp} (ha : (evP T c a).e env s = .ok x s1) (hb : (evP T c b).e env s1 = .ok y s2) (h : binop s2 op x y = some d) : (evP T c (.bin op a b)).e env s = .ok d s2 := by
  show binM op (evP T c a).e (evP T c b).e env s = _
  unfold binM
  rw [ha, Res.bind_ok, hb, Res.bind_ok, h]
  rfl
theorem ev_cmp {op : COp} (ha : (evP T c a).e env s = .ok x s1) (hb : (evP T c b).e env s1 = .ok y s2) (h : cmpop T.tabs s2 op x y = some v) : (evP T c (.cmp op a b)).e env s = .ok (.bl v) s2 := by
  show cmpM T op (evP T c a).e (evP T c b).e env s = _
  unfold cmpM
  rw [ha, Res.bind_ok, hb, Res.bind_ok, h]
  rfl
/-- a test by its value -/
theorem tT (hp : (evP T c e).t = truly (evP T c e).e) (h : (evP T c e).e env s = .ok d s1) (ht : truth s1 d = some v) : (evP T c e).t env s = .ok v s1 := by
  rw [hp]
  unfold truly
  rw [h, Res.bind_ok, ht]
  rfl
theorem ev_cmpT {op : COp} (ha : (evP T c a).e env s = .ok x s1) (hb : (evP T c b).e env s1 = .ok y s2) (h : cmpop T.tabs s2 op x y = some v) : (evP T c (.cmp op a b)).t env s = .ok v s2 := tT rfl (ev_cmp ha hb h) rfl
theorem ev_idx (ha : (evP T c a).e env s = .ok x s1) (hb : (evP T c b).e env s1 = .ok y s2) (h : idxop T.tabs s2 x y = some d) : (evP T c (.idx a b)).e env s = .ok d s2 := by
  show idxM T (evP T c a).e (evP T c b).e env s = _
  unfold idxM
  rw [ha, Res.bind_ok, hb, Res.bind_ok, h]
  rfl
theorem ev_isN {neg : Bool} (ha : (evP T c a).e env s = .ok x s1) : (evP T c (.isN neg a)).e env s = .ok (.bl (isNd neg x)) s1 := by
  show isNM neg (evP T c a).e env s = _
  unfold isNM
  rw [ha, Res.bind_ok]
theorem ev_isNT {neg : Bool} (ha : (evP T c a).e env s = .ok x s1) : (evP T c (.isN neg a)).t env s = .ok (isNd neg x) s1 := tT rfl (ev_isN ha) rfl
theorem ev_sl0 {hi : Ex} {i : Int} (ha : (evP T c a).e env s = .ok x s1) (hb : (evP T c hi).e env s1 = .ok (.int i) s2) (h : slop s2 x none (some i) = some d) : (evP T c (.sl a .no (.so hi))).e env s = .ok d s2 := by
  show slM (evP T c a).e (evO T c .no) (evO T c (.so hi)) env s = _
  have e2 : evO T c (.so hi) env s1 = .ok (some i) s2 := by
    show soM (evP T c hi).e env s1 = _
    unfold soM
    rw [hb, Res.bind_ok]
  unfold slM
  rw [ha, Res.bind_ok]
  show ((Res.ok none s1 : Res (Option Int)).bind _) = _
  rw [Res.bind_ok, e2, Res.bind_ok, h]
  rfl
theorem ev_sl1 {lo : Ex} {i : Int} (ha : (evP T c a).e env s = .ok x s1) (hb : (evP T c lo).e env s1 = .ok (.int i) s2) (h : slop s2 x (some i) none = some d) : (evP T c (.sl a (.so lo) .no)).e env s = .ok d s2 := by
  show slM (evP T c a).e (evO T c (.so lo)) (evO T c .no) env s = _
  have e2 : evO T c (.so lo) env s1 = .ok (some i) s2 := by
    show soM (evP T c lo).e env s1 = _
    unfold soM
    rw [hb, Res.bind_ok]
  unfold slM
  rw [ha, Res.bind_ok, e2, Res.bind_ok]
  show ((Res.ok none s2 : Res (Option Int)).bind _) = _
  rw [Res.bind_ok, h]
  rfl
theorem ev_sl2 {lo hi : Ex} {i j : Int} (ha : (evP T c a).e env s = .ok x s1) (hb : (evP T c lo).e env s1 = .ok (.int i) s2) (hc : (evP T c hi).e env s2 = .ok (.int j) s3) (h : slop s3 x (some i) (some j) = some d) : (evP T c (.sl a (.so lo) (.so hi))).e env s = .ok d s3 := by
  show slM (evP T c a).e (evO T c (.so lo)) (evO T c (.so hi)) env s = _
  have e2 : evO T c (.so lo) env s1 = .ok (some i) s2 := by
    show soM (evP T c lo).e env s1 = _
    unfold soM
    rw [hb, Res.bind_ok]
  have e3 : evO T c (.so hi) env s2 = .ok (some j) s3 := by
    show soM (evP T c hi).e env s2 = _
    unfold soM
    rw [hc, Res.bind_ok]
  unfold slM
  rw [ha, Res.bind_ok, e2, Res.bind_ok, e3, Res.bind_ok, h]
  rfl
/-! arguments -/
theorem as0 : (evPs T c .nil).args env s = .ok [] s := rfl
theorem as1 {ds : List D} (ha : (evP T c a).e env s = .ok x s1) (h : (evPs T c es).args env s1 = .ok ds s2) : (evPs T c (.cons a es)).args env s = .ok (x :: ds) s2 := by
  show ((evP T c a).e env s).bind (fun d s1 => ((evPs T c es).args env s1).bind fun ds s2 => .ok (d :: ds) s2) = _
  rw [ha, Res.bind_ok, h]
  rfl
theorem ev_tup {ds : List D} (h : (evPs T c es).args env s = .ok ds s1) (hl : ds.length ≤ 5000) : (evP T c (.tup es)).e env s = .ok (.tup ds) s1 := by
  show tupM (evPs T c es).args env s = _
  unfold tupM
  rw [h, Res.bind_ok, if_pos (show lenOk ds.length = true from decide_eq_true (small5 hl))]
theorem ev_lst {ds : List D} (h : (evPs T c es).args env s = .ok ds s1) (hl : ds.length ≤ 5000) : (evP T c (.lst es)).e env s = .ok (.tl ds) s1 := by
  show lstM (evPs T c es).args env s = _
  unfold lstM
  rw [h, Res.bind_ok, if_pos (show lenOk ds.length = true from decide_eq_true (small5 hl))]
theorem ev_box {ds : List D} (h : (evP T c e).e env s = .ok (.tl ds) s1) : (evP T c (.box e)).e env s = .ok (.ref s1.length) (s1 ++ [.lst ds]) := by
  show boxed (evP T c e).e env s = _
  unfold boxed
  rw [h, Res.bind_ok]
theorem ev_call {ds : List D} (h : (evPs T c es).args env s = .ok ds s1) (hc : c g ds s1 = .ok d s2) : (evP T c (.call g es)).e env s = .ok d s2 := by
  show callM c g (evPs T c es).args env s = _
  unfold callM
  rw [h, Res.bind_ok, hc]
theorem ev_callT {ds : List D} (h : (evPs T c es).args env s = .ok ds s1) (hc : c g ds s1 = .ok (.bl v) s2) : (evP T c (.call g es)).t env s = .ok v s2 := tT rfl (ev_call h hc) rfl
theorem ev_callX {ds : List D} {n : Nat} {fs : List (Nat × D)} (h : (evPs T c es).args env s = .ok ds s1) (hc : c g ds s1 = .err n fs s2) : (evP T c (.call g es)).e env s = .err n fs s2 := by
  show callM c g (evPs T c es).args env s = _
  unfold callM
  rw [h, Res.bind_ok, hc]
theorem ev_bi {bf : Bi} {ds : List D} (h : (evPs T c es).args env s = .ok ds s1) (hf : bifun s1 bf ds = some d) : (evP T c (.bi bf es)).e env s = .ok d s1 := by
  show biM bf (evPs T c es).args env s = _
  unfold biM
  rw [h, Res.bind_ok, hf]
  rfl
theorem ev_biT {bf : Bi} {ds : List D} (h : (evPs T c es).args env s = .ok ds s1) (hf : bifun s1 bf ds = some (.bl v)) : (evP T c (.bi bf es)).t env s = .ok v s1 := tT rfl (ev_bi h hf) rfl
theorem ev_bm {m : Bm} {ds : List D} (ha : (evP T c a).e env s = .ok x s1) (ht : bmTy s1 m x = true) (h : (evPs T c es).args env s1 = .ok ds s2) (hm : bmeth s2 m x ds = .ok d s3) : (evP T c (.bm m a es)).e env s = .ok d s3 := by
  show bmM m (evP T c a).e (evPs T c es).args env s = _
  unfold bmM
  rw [ha, Res.bind_ok, if_pos ht, h, Res.bind_ok, hm]
theorem ev_iteT (ht : (evP T c e).t env s = .ok true s1) (ha : (evP T c a).e env s1 = .ok d s2) : (evP T c (.ite e a b)).e env s = .ok d s2 := by
  show iteM (evP T c e).t (evP T c a).e (evP T c b).e env s = _
  unfold iteM
  rw [ht, Res.bind_ok, if_pos rfl, ha]
theorem ev_iteF (ht : (evP T c e).t env s = .ok false s1) (ha : (evP T c b).e env s1 = .ok d s2) : (evP T c (.ite e a b)).e env s = .ok d s2 := by
  show iteM (evP T c e).t (evP T c a).e (evP T c b).e env s = _
  unfold iteM
  rw [ht, Res.bind_ok, if_neg (by decide), ha]
theorem ev_notT (h : (evP T c e).t env s = .ok v s1) : (evP T c (.not e)).t env s = .ok (!v) s1 := by
  show notT (evP T c e).t env s = _
  unfold notT
  rw [h]
  rfl
theorem ev_not (h : (evP T c e).e env s = .ok d s1) (ht : truth s1 d = some v) : (evP T c (.not e)).e env s = .ok (.bl (!v)) s1 := by
  show CN.notM (evP T c e).e env s = _
  unfold CN.notM
  rw [h, Res.bind_ok, ht]
  rfl
/-! and, or, as tests and as values -/
theorem or_f {es : Exs} {f : Ex} (h : (evP T c e).t env s = .ok false s1) (h2 : (evP T c (.or (.cons f es))).t env s1 = .ok w s2) : (evP T c (.or (.cons e (.cons f es)))).t env s = .ok w s2 := by
  show orT2 (evP T c e).t (evPs T c (.cons f es)).orT env s = _
  unfold orT2
  rw [h]
  exact h2
theorem or_t {es : Exs} {f : Ex} (h : (evP T c e).t env s = .ok true s1) : (evP T c (.or (.cons e (.cons f es)))).t env s = .ok true s1 := by
  show orT2 (evP T c e).t (evPs T c (.cons f es)).orT env s = _
  unfold orT2
  rw [h]
  rfl
theorem or_1 (h : (evP T c e).t env s = .ok v s1) : (evP T c (.or (.cons e .nil))).t env s = .ok v s1 := h
theorem and_t {es : Exs} {f : Ex} (h : (evP T c e).t env s = .ok true s1) (h2 : (evP T c (.and (.cons f es))).t env s1 = .ok w s2) : (evP T c (.and (.cons e (.cons f es)))).t env s = .ok w s2 := by
  show andT2 (evP T c e).t (evPs T c (.cons f es)).andT env s = _
  unfold andT2
  rw [h]
  exact h2
theorem and_f {es : Exs} {f : Ex} (h : (evP T c e).t env s = .ok false s1) : (evP T c (.and (.cons e (.cons f es)))).t env s = .ok false s1 := by
  show andT2 (evP T c e).t (evPs T c (.cons f es)).andT env s = _
  unfold andT2
  rw [h]
  rfl
theorem and_1 (h : (evP T c e).t env s = .ok v s1) : (evP T c (.and (.cons e .nil))).t env s = .ok v s1 := h
theorem ev_and_t {es : Exs} {f : Ex} (h : (evP T c e).e env s = .ok (.bl true) s1) (h2 : (evP T c (.and (.cons f es))).e env s1 = .ok d s2) : (evP T c (.and (.cons e (.cons f es)))).e env s = .ok d s2 := by
  show and2 (evP T c e).e (evPs T c (.cons f es)).and env s = _
  unfold and2
  rw [h]
  exact h2
theorem ev_and_f {es : Exs} {f : Ex} (h : (evP T c e).e env s = .ok (.bl false) s1) : (evP T c (.and (.cons e (.cons f es)))).e env s = .ok (.bl false) s1 := by
  show and2 (evP T c e).e (evPs T c (.cons f es)).and env s = _
  unfold and2
  rw [h]
  rfl
theorem ev_and_1 (h : (evP T c e).e env s = .ok d s1) : (evP T c (.and (.cons e .nil))).e env s = .ok d s1 := h
theorem ev_or_f {es : Exs} {f : Ex} (h : (evP T c e).e env s = .ok (.bl false) s1) (h2 : (evP T c (.or (.cons f es))).e env s1 = .ok d s2) : (evP T c (.or (.cons e (.cons f es)))).e env s = .ok d s2 := by
  show or2 (evP T c e).e (evPs T c (.cons f es)).or env s = _
  unfold or2
  rw [h]
  exact h2
theorem ev_or_t {es : Exs} {f : Ex} (h : (evP T c e).e env s = .ok (.bl true) s1) : (evP T c (.or (.cons e (.cons f es)))).e env s = .ok (.bl true) s1 := by
  show or2 (evP T c e).e (evPs T c (.cons f es)).or env s = _
  unfold or2
  rw [h]
  rfl
theorem ev_or_1 (h : (evP T c e).e env s = .ok d s1) : (evP T c (.or (.cons e .nil))).e env s = .ok d s1 := h
theorem ev_xf {i f n : Nat} {fs : List (Nat × D)} (h : env[i]? = some (.xc n fs)) (hf : fs.lookup f = some d) : (evP T c (.xf i f)).e env s = .ok d s := by
  show xfM i f env s = _
  unfold xfM
  rw [h]
  dsimp only
  rw [hf]
  rfl
/-! what is walked -/
theorem iq_tup {ds : List D} (h : (evP T c e).e env s = .ok (.tup ds) s1) : evI T c (.seq e) env s = .ok (ds, none) s1 := by
  rw [evI]
  dsimp only
  rw [h, Res.bind_ok]
  rfl
theorem iq_tl {ds : List D} (h : (evP T c e).e env s = .ok (.tl ds) s1) : evI T c (.seq e) env s = .ok (ds, none) s1 := by
  rw [evI]
  dsimp only
  rw [h, Res.bind_ok]
  rfl
theorem iq_str {t : PySem.Str} (h : (evP T c e).e env s = .ok (.str t) s1) : evI T c (.seq e) env s = .ok (signs t, none) s1 := by
  rw [evI]
  dsimp only
  rw [h, Res.bind_ok]
  rfl
theorem iq_ref {n : Nat} {ds : List D} (h : (evP T c e).e env s = .ok (.ref n) s1) (hs : s1[n]? = some (.lst ds)) : evI T c (.seq e) env s = .ok (ds, some (n, ds)) s1 := by
  rw [evI]
  dsimp only
  rw [h, Res.bind_ok]
  show (match lstAt s1 (.ref n) with
    | some ds => Res.ok (ds, watchOf (.ref n) ds) s1
    | none => .stuck) = _
  have e : lstAt s1 (.ref n) = some ds := by
    show (match s1[n]? with | some (.lst ds) => some ds | _ => none) = _
    rw [hs]
  rw [e]
  rfl
theorem iq_zip {as bs : List D} (ha : (evP T c a).e env s = .ok (.tup as) s1) (hb : (evP T c b).e env s1 = .ok (.tup bs) s2) : evI T c (.zip a b) env s = .ok (zipD as bs, none) s2 := by
  rw [evI]
  dsimp only
  rw [ha, Res.bind_ok, hb, Res.bind_ok]
  rfl
theorem iq_enum {as : List D} (ha : (evP T c a).e env s = .ok (.tl as) s1) : evI T c (.enum a) env s = .ok (enumD 0 as, none) s1 := by
  rw [evI]
  dsimp only
  rw [ha, Res.bind_ok]
  rfl
theorem iq_range1 {n : Nat} (h : (evP T c a).e env s = .ok (.int (n : Int)) s1) (hn : n ≤ 5000) : evI T c (.range1 a) env s = .ok (rangeD 0 n, none) s1 := evI_range1 h hn
/-! statements and functions -/
theorem par_ok {is : List Nat} {ds : List D} (h : (evPs T c es).args env s = .ok ds s1) (hs : setAll env is ds = some env') : evalS T wf c (.par is es) env s = .ok (.next env') s1 := by
  rw [evalS]
  unfold parM
  rw [show evalEs T c es env s = _ from h, Res.bs_ok, hs]
  rfl
theorem asgt_ok {is : List Nat} {ds : List D} (h : (evP T c e).e env s = .ok (.tup ds) s1) (hs : setAll env is ds = some env') : evalS T wf c (.asg (.tp is) e) env s = .ok (.next env') s1 := by
  rw [evalS]
  unfold asgM
  rw [show evalE T c e env s = _ from h, Res.bs_ok]
  show Res.of ((setAll env is ds).map Flow.next) s1 = _
  rw [hs]
  rfl
theorem rs_ok1 {n f : Nat} (hx : T.excs[n]? = some [f]) (h : (evP T c e).e env s = .ok d s1) : evalS T wf c (.raise n (.cons e .nil)) env s = .ok (.exc env n [(f, d)]) s1 := by
  rw [evalS]
  unfold raiseM
  rw [hx]
  dsimp only
  rw [show evalEs T c (.cons e .nil) env s = .ok [d] s1 from as1 h as0, Res.bs_ok]
  rfl
theorem rs_ok2 {n f1 f2 : Nat} (hx : T.excs[n]? = some [f2, f1]) (ha : (evP T c a).e env s = .ok x s1) (hb : (evP T c b).e env s1 = .ok y s2) : evalS T wf c (.raise n (.cons a (.cons b .nil))) env s = .ok (.exc env n [(f2, y), (f1, x)]) s2 := by
  rw [evalS]
  unfold raiseM
  rw [hx]
  dsimp only
  rw [show evalEs T c (.cons a (.cons b .nil)) env s = .ok [x, y] s2 from as1 ha (as1 hb as0), Res.bs_ok]
  rfl
theorem xs_ok' {n : Nat} {fs : List (Nat × D)} {st : CN.St} {sts : Sts} (h : evalS T wf c st env s = .ok (.exc env' n fs) s') : evalSs T wf c (.cons st sts) env s = .ok (.exc env' n fs) s' := by
  rw [evalSs]
  dsimp only
  rw [h, Res.bind_ok]
theorem exprX {n : Nat} {fs : List (Nat × D)} (h : (evP T c e).e env s = .err n fs s') : evalS T wf c (.expr e) env s = .ok (.exc env n fs) s' := by
  rw [evalS]
  dsimp only
  rw [show evalE T c e env s = _ from h, Res.bs_err]
theorem retX {n : Nat} {fs : List (Nat × D)} (h : (evP T c e).e env s = .err n fs s') : evalS T wf c (.ret e) env s = .ok (.exc env n fs) s' := by
  rw [evalS]
  dsimp only
  rw [show evalE T c e env s = _ from h, Res.bs_err]
/-- a function of one return -/
theorem rfR {f : Fn} {ds : List D} (hf : T.fns[g]? = some f) (hl : ds.length = f.params) (hb : f.body = .cons (.ret e) .nil) (h : (evP T (runFn T wf k) e).e (startE f.slots ds) s = .ok d s') (h0 : f.flag = 0 := by rfl) : runFn T wf (k + 1) g ds s = .ok d s' := by
  rw [rf hf hl (by rw [h0]; decide), hb, rt (ret_ok h), h0]
  rfl
theorem rfR4 {f : Fn} {ds : List D} (hf : T.fns[g]? = some f) (hl : ds.length = f.params) (hb : f.body = .cons (.ret e) .nil) (h : (evP T (runFn T wf k) e).e (startE f.slots ds) [] = .ok d s') (hn : noRefs ds = true) (hd : noRef d = true) (h0 : f.flag = 4 := by rfl) : runFn T wf (k + 1) g ds s = .ok d s := by
  rw [rf4 hf hl hn (by rw [h0]; decide), hb, rt (ret_ok h), h0]
  exact if_pos hd
theorem as1X {n : Nat} {fs : List (Nat × D)} (ha : (evP T c a).e env s = .err n fs s1) : (evPs T c (.cons a es)).args env s = .err n fs s1 := by
  show ((evP T c a).e env s).bind (fun d s1 => ((evPs T c es).args env s1).bind fun ds s2 => .ok (d :: ds) s2) = _
  rw [ha, Res.bind_err]
theorem as2X {n : Nat} {fs : List (Nat × D)} (ha : (evP T c a).e env s = .ok x s1) (h : (evPs T c es).args env s1 = .err n fs s2) : (evPs T c (.cons a es)).args env s = .err n fs s2 := by
  show ((evP T c a).e env s).bind (fun d s1 => ((evPs T c es).args env s1).bind fun ds s2 => .ok (d :: ds) s2) = _
  rw [ha, Res.bind_ok, h, Res.bind_err]
theorem ev_callA {n : Nat} {fs : List (Nat × D)} (h : (evPs T c es).args env s = .err n fs s1) : (evP T c (.call g es)).e env s = .err n fs s1 := by
  show callM c g (evPs T c es).args env s = _
  unfold callM
  rw [h, Res.bind_err]
theorem rfR4X {f : Fn} {ds : List D} {n : Nat} {fs : List (Nat × D)} (hf : T.fns[g]? = some f) (hl : ds.length = f.params) (hb : f.body = .cons (.ret e) .nil) (h : (evP T (runFn T wf k) e).e (startE f.slots ds) [] = .err n fs s') (hn : noRefs ds = true) (hd : (fs.all fun p => noRef p.2) = true) (h0 : f.flag = 4 := by rfl) : runFn T wf (k + 1) g ds s = .err n fs s := by
  rw [rf4 hf hl hn (by rw [h0]; decide), hb, xs_ok' (retX h), h0]
  exact if_pos hd
theorem asgX {n i : Nat} {fs : List (Nat × D)} (h : (evP T c e).e env s = .err n fs s') : evalS T wf c (.asg (.nm i) e) env s = .ok (.exc env n fs) s' := by
  rw [evalS]
  unfold asgM
  rw [show evalE T c e env s = _ from h, Res.bs_err]
/-- item by item -/
def All2 {α β : Type} (R : α → β → Prop) : List α → List β → Prop
  | [], [] => True
  | a :: as, b :: bs => R a b ∧ All2 R as bs
  | _, _ => False
theorem loopComp_all {step : D → Hs → Res (Option D)} {w : Option (Nat × List D)} (hw : stays w s = true) : ∀ (ds rs acc : List D), All2 (fun d r => step d s = .ok (some r) s) ds rs → acc.length + ds.length ≤ PySem.sizeLine → loopComp step w ds acc s = .ok (acc ++ rs) s
  | [], [], acc, _, _ => by simp [loopComp]
  | [], _ :: _, _, h, _ => h.elim
  | _ :: _, [], _, h, _ => h.elim
  | d :: ds, r :: rs, acc, h, hl => by
    rw [List.length_cons] at hl
    unfold loopComp
    rw [h.1]
    have h2 : acc.length < PySem.sizeLine := by omega
    simp only [hw, if_true, if_pos h2]
    rw [loopComp_all hw ds rs (acc ++ [r]) h.2 (by simp; omega)]
    simp
theorem ev_comp {own : List Nat} {tg : Tg} {it : It} {cond : Exo} {elt : Ex} {ds rs : List D} {w : Option (Nat × List D)} (hi : evI T c it env s = .ok (ds, w) s1) (hw : stays w s1 = true) (h : All2 (fun d r => stepC own tg (evC T c cond) (evP T c elt).e env d s1 = .ok (some r) s1) ds rs) (hl : ds.length ≤ 5000) :
    (evP T c (.comp elt tg own it cond)).e env s = .ok (.tl rs) s1 := by
  show compM own tg (evI T c it) (evC T c cond) (evP T c elt).e env s = _
  unfold compM
  rw [hi, Res.bind_ok]
  dsimp only
  rw [loopComp_all hw ds rs [] h (by rw [List.length_nil, Nat.zero_add]; exact small5 hl)]
  rfl
/-- a comprehension's step without an if -/
theorem ev_step {own : List Nat} {t : Tg} {env' : Env} (ht : assignTg (wipeE env own) t d = some env') (h : (evP T c e).e env' s = .ok x s1) : stepC own t (evC T c .no) (evP T c e).e env d s = .ok (some x) s1 := by
  unfold stepC
  rw [ht]
  show ((Res.ok true s : Res Bool).bind _) = _
  rw [Res.bind_ok, if_pos rfl, h]
  rfl
end
end CN
set_option Elab.async false
set_option linter.all false
set_option maxRecDepth 100000
set_option maxHeartbeats 0
/-! the data of codenotary_k66_listings_written_and_read, printed by gen.py -/
namespace K66
open PySem CN L2
abbrev R : PySem.W.OpenRow := PySem.W.OpenLaw.row PySem.Challenge.rw_codenotary_k66_listings_written_and_read
def top (i : Nat) : Stmt := PySem.Challenge.pw_codenotary_k66_listings_written_and_read.main.body.getD i (.Pass ⟨0, 0, 0, 0⟩)
-- 0: law  [script]
def i_law : Fn := ⟨1, 1, .cons (.thru (.cons (.ret (.call 1 (.cons (.var 0) (.nil)))) (.nil))) (.nil), 0, []⟩
def d_law : He.DefD := ⟨("law", none), "law", "law", defArgs (top 65), defBody (top 65), defScope (top 65), [], []⟩
-- 1: _law_all  [script, jar, great, k, lines, code, rows, one, told]
def i__law_all : Fn := ⟨9, 1, .cons (.asg (.nm 1) (.call 2 (.cons (.var 0) (.nil)))) (.cons (.par [6, 5] (.cons (.box (.lst (.nil))) (.cons (.box (.lst (.nil))) (.nil)))) (.cons (.asg (.nm 2) (.cmp .eq (.call 3 (.cons (.var 1) (.cons (.cst (.int 60)) (.nil)))) (.cst (.int 0)))) (.cons (.for_ (.nm 3) (.range1 (.ite (.var 2) (.cst (.int 190)) (.idx (.lst (.cons (.cst (.int 0)) (.cons (.cst (.int 1)) (.cons (.cst (.int 4)) (.cons (.cst (.int 12)) (.cons (.cst (.int 12)) (.cons (.cst (.int 8)) (.nil)))))))) (.call 3 (.cons (.var 1) (.cons (.cst (.int 6)) (.nil))))))) (.cons (.asg (.tp [7, 8]) (.call 4 (.cons (.var 1) (.nil)))) (.cons (.ite (.cmp .gt (.bin .add (.bi .len (.cons (.var 5) (.nil))) (.bi .len (.cons (.var 8) (.nil)))) (.cst (.int 600))) (.cons (.brk) (.nil)) (.nil)) (.cons (.expr (.bm .append (.var 6) (.cons (.tup (.cons (.bi .len (.cons (.var 5) (.nil))) (.cons (.var 7) (.nil)))) (.nil)))) (.cons (.expr (.bm .extend (.var 5) (.cons (.var 8) (.nil)))) (.nil)))))) (.cons (.asg (.nm 4) (.call 7 (.cons (.var 6) (.nil)))) (.cons (.asg (.nm 5) (.bi .tuple (.cons (.var 5) (.nil)))) (.cons (.ite (.or (.cons (.not (.call 19 (.cons (.call 8 (.cons (.var 5) (.nil))) (.cons (.bi .tuple (.cons (.var 6) (.nil))) (.nil))))) (.cons (.not (.call 19 (.cons (.call 18 (.cons (.var 5) (.nil))) (.cons (.bm .join (.cst (.str "\n")) (.cons (.var 4) (.nil))) (.nil))))) (.nil)))) (.cons (.ret (.cst (.bl false))) (.nil)) (.nil)) (.cons (.ite (.not (.call 6 (.cons (.call 36 (.cons (.bm .join (.cst (.str "\n")) (.cons (.var 4) (.nil))) (.nil))) (.cons (.var 5) (.nil))))) (.cons (.ret (.cst (.bl false))) (.nil)) (.nil)) (.cons (.ite (.var 2) (.cons (.ret (.cst (.bl true))) (.nil)) (.nil)) (.cons (.ite (.not (.call 43 (.cons (.var 1) (.cons (.var 5) (.cons (.call 3 (.cons (.var 1) (.cons (.cst (.int 2)) (.nil)))) (.nil)))))) (.cons (.ret (.cst (.bl false))) (.nil)) (.nil)) (.cons (.ret (.or (.cons (.cmp .eq (.bi .len (.cons (.var 4) (.nil))) (.cst (.int 0))) (.cons (.and (.cons (.call 45 (.cons (.var 1) (.cons (.var 6) (.cons (.var 4) (.nil))))) (.cons (.call 45 (.cons (.var 1) (.cons (.var 6) (.cons (.var 4) (.nil))))) (.nil)))) (.nil))))) (.nil))))))))))), 0, []⟩
def d__law_all : He.DefD := ⟨("_law_all", none), "_law_all", "_law_all", defArgs (top 64), defBody (top 64), defScope (top 64), [], []⟩
-- 2: _law_jar  [script, cell]
def i__law_jar : Fn := ⟨2, 1, .cons (.ret (.box (.lst (.cons (.bin .add (.sl (.comp (.bi .int (.cons (.var 1) (.nil))) (.nm 1) [1] (.seq (.var 0)) .no) .no (.so (.cst (.int 63)))) (.bin .mul (.lst (.cons (.cst (.int 5)) (.nil))) (.bi .int (.cons (.cmp .eq (.bi .len (.cons (.var 0) (.nil))) (.cst (.int 0))) (.nil))))) (.cons (.cst (.int 0)) (.cons (.cst (.int 0)) (.cons (.cst (.int 0)) (.nil)))))))) (.nil), 0, []⟩
def d__law_jar : He.DefD := ⟨("_law_jar", none), "_law_jar", "_law_jar", defArgs (top 52), defBody (top 52), defScope (top 52), [], []⟩
-- 3: _law_draw  [jar, limit, cell, mixed, digit]
def i__law_draw : Fn := ⟨5, 2, .cons (.sub (.var 0) (.cst (.int 3)) (.bin .add (.idx (.var 0) (.cst (.int 3))) (.cst (.int 1)))) (.cons (.ite (.and (.cons (.cmp .eq (.idx (.var 0) (.cst (.int 2))) (.cst (.int 0))) (.cons (.cmp .lt (.idx (.var 0) (.cst (.int 1))) (.bi .len (.cons (.idx (.var 0) (.cst (.int 0))) (.nil)))) (.nil)))) (.cons (.sub (.var 0) (.cst (.int 2)) (.ite (.cmp .ge (.idx (.idx (.var 0) (.cst (.int 0))) (.idx (.var 0) (.cst (.int 1)))) (.bin .pow (.cst (.int 10)) (.cst (.int 12)))) (.idx (.idx (.var 0) (.cst (.int 0))) (.idx (.var 0) (.cst (.int 1)))) (.cst (.int 0)))) (.cons (.sub (.var 0) (.cst (.int 1)) (.bin .add (.idx (.var 0) (.cst (.int 1))) (.cst (.int 1)))) (.nil))) (.nil)) (.cons (.ite (.cmp .gt (.idx (.var 0) (.cst (.int 2))) (.cst (.int 0))) (.cons (.asg (.nm 4) (.bin .mod (.bi .int (.cons (.idx (.var 0) (.cst (.int 2))) (.nil))) (.var 1))) (.cons (.sub (.var 0) (.cst (.int 2)) (.bin .fdiv (.idx (.var 0) (.cst (.int 2))) (.var 1))) (.cons (.ret (.var 4)) (.nil)))) (.nil)) (.cons (.asg (.nm 2) (.idx (.idx (.var 0) (.cst (.int 0))) (.bin .mod (.bi .int (.cons (.idx (.var 0) (.cst (.int 3))) (.nil))) (.bi .len (.cons (.idx (.var 0) (.cst (.int 0))) (.nil)))))) (.cons (.asg (.nm 3) (.bin .mod (.bi .int (.cons (.bin .add (.bin .add (.bin .mul (.var 2) (.cst (.int 69069))) (.bin .mul (.idx (.var 0) (.cst (.int 3))) (.cst (.int 40503)))) (.cst (.int 11))) (.nil))) (.cst (.int 1000000007)))) (.cons (.asg (.nm 3) (.bin .mod (.bi .int (.cons (.bin .add (.bin .add (.bin .mul (.var 3) (.var 3)) (.bin .mul (.idx (.var 0) (.cst (.int 3))) (.cst (.int 7919)))) (.var 2)) (.nil))) (.cst (.int 998244353)))) (.cons (.ret (.bin .mod (.bi .int (.cons (.bin .fdiv (.var 3) (.cst (.int 16))) (.nil))) (.var 1))) (.nil))))))), 0, []⟩
def d__law_draw : He.DefD := ⟨("_law_draw", none), "_law_draw", "_law_draw", defArgs (top 53), defBody (top 53), defScope (top 53), [], []⟩
-- 4: _law_instruction  [jar, k, kind, word, shape, one, told, n]
def i__law_instruction : Fn := ⟨8, 1, .cons (.asg (.nm 1) (.call 3 (.cons (.var 0) (.cons (.cst (.int 19)) (.nil))))) (.cons (.asg (.tp [3, 4]) (.call 5 (.cons (.var 1) (.nil)))) (.cons (.par [5, 6] (.cons (.box (.lst (.cons (.var 3) (.nil)))) (.cons (.box (.lst (.cons (.bin .add (.var 1) (.cst (.int 1))) (.nil)))) (.nil)))) (.cons (.for_ (.nm 2) (.seq (.var 4)) (.cons (.asg (.nm 7) (.call 3 (.cons (.var 0) (.cons (.cst (.int 8)) (.nil))))) (.cons (.ite (.cmp .eq (.var 2) (.cst (.str "n"))) (.cons (.asg (.nm 7) (.idx (.lst (.cons (.cst (.int 0)) (.cons (.cst (.int 1)) (.cons (.cst (.int 255)) (.cons (.var 7) (.cons (.call 3 (.cons (.var 0) (.cons (.cst (.int 256)) (.nil)))) (.nil))))))) (.call 3 (.cons (.var 0) (.cons (.cst (.int 5)) (.nil)))))) (.nil)) (.nil)) (.cons (.ite (.cmp .eq (.var 2) (.cst (.str "A"))) (.cons (.asg (.nm 7) (.idx (.lst (.cons (.cst (.int 0)) (.cons (.cst (.int 1)) (.cons (.cst (.int 255)) (.cons (.cst (.int 256)) (.cons (.cst (.int 65535)) (.cons (.call 3 (.cons (.var 0) (.cons (.cst (.int 65536)) (.nil)))) (.nil)))))))) (.call 3 (.cons (.var 0) (.cons (.cst (.int 6)) (.nil)))))) (.cons (.expr (.bm .append (.var 6) (.cons (.bin .fdiv (.var 7) (.cst (.int 256))) (.nil)))) (.nil))) (.nil)) (.cons (.expr (.bm .append (.var 5) (.cons (.var 7) (.nil)))) (.cons (.expr (.bm .append (.var 6) (.cons (.bin .mod (.bi .int (.cons (.var 7) (.nil))) (.cst (.int 256))) (.nil)))) (.nil))))))) (.cons (.ret (.tup (.cons (.bi .tuple (.cons (.var 5) (.nil))) (.cons (.bi .tuple (.cons (.var 6) (.nil))) (.nil))))) (.nil))))), 2, []⟩
def d__law_instruction : He.DefD := ⟨("_law_instruction", none), "_law_instruction", "_law_instruction", defArgs (top 57), defBody (top 57), defScope (top 57), [], []⟩
-- 5: _law_table  [k, words, shapes]
def i__law_table : Fn := ⟨3, 1, .cons (.asg (.nm 1) (.bm .split (.cst (.str "set copy add sub mul low ask tell get put less same jump call back push pop out stop")) (.cons (.cst (.str " ")) (.nil)))) (.cons (.asg (.nm 2) (.bm .split (.cst (.str "rn rr rrr rrr rrr rn r r rAr Arr rrA rrA A A - r r A -")) (.cons (.cst (.str " ")) (.nil)))) (.cons (.ret (.tup (.cons (.idx (.var 1) (.var 0)) (.cons (.bm .replace (.idx (.var 2) (.var 0)) (.cons (.cst (.str "-")) (.cons (.cst (.str "")) (.nil)))) (.nil))))) (.nil))), 0, []⟩
def d__law_table : He.DefD := ⟨("_law_table", none), "_law_table", "_law_table", defArgs (top 56), defBody (top 56), defScope (top 56), [], []⟩
-- 6: _law_bytes  [came, due, one]
def i__law_bytes : Fn := ⟨3, 2, .cons (.ite (.or (.cons (.not (.bi (.isinst "tuple") (.cons (.var 0) (.nil)))) (.cons (.cmp .isin (.cst (.bl false)) (.comp (.and (.cons (.bi (.isinst "int") (.cons (.var 2) (.nil))) (.cons (.not (.bi (.isinst "bool") (.cons (.var 2) (.nil)))) (.nil)))) (.nm 2) [2] (.seq (.var 0)) .no)) (.nil)))) (.cons (.ret (.cst (.bl false))) (.nil)) (.nil)) (.cons (.ret (.cmp .eq (.var 0) (.bi .tuple (.cons (.var 1) (.nil))))) (.nil)), 0, []⟩
def d__law_bytes : He.DefD := ⟨("_law_bytes", none), "_law_bytes", "_law_bytes", defArgs (top 55), defBody (top 55), defScope (top 55), [], []⟩
-- 7: _law_lines  [rows, lines, at, one, shape, words, k]
def i__law_lines : Fn := ⟨7, 1, .cons (.asg (.nm 1) (.box (.lst (.nil)))) (.cons (.for_ (.tp [2, 3]) (.seq (.var 0)) (.cons (.asg (.nm 4) (.idx (.call 5 (.cons (.bm .index (.bm .split (.cst (.str "set copy add sub mul low ask tell get put less same jump call back push pop out stop")) (.cons (.cst (.str " ")) (.nil))) (.cons (.idx (.var 3) (.cst (.int 0))) (.nil))) (.nil))) (.cst (.int 1)))) (.cons (.asg (.nm 5) (.comp (.bin .add (.ite (.cmp .eq (.idx (.var 4) (.var 6)) (.cst (.str "r"))) (.cst (.str "r")) (.cst (.str ""))) (.bi .str (.cons (.idx (.var 3) (.bin .add (.var 6) (.cst (.int 1)))) (.nil)))) (.nm 6) [6] (.range1 (.bi .len (.cons (.var 4) (.nil)))) .no)) (.cons (.expr (.bm .append (.var 1) (.cons (.bm .join (.cst (.str " ")) (.cons (.bin .add (.lst (.cons (.bi .str (.cons (.var 2) (.nil))) (.cons (.idx (.var 3) (.cst (.int 0))) (.nil)))) (.var 5)) (.nil))) (.nil)))) (.nil))))) (.cons (.ret (.var 1)) (.nil))), 3, []⟩
def d__law_lines : He.DefD := ⟨("_law_lines", none), "_law_lines", "_law_lines", defArgs (top 59), defBody (top 59), defScope (top 59), [], []⟩
-- 8: listed  [code, pairs, fault]
def i_listed : Fn := ⟨3, 1, .cons (.expr (.call 21 (.cons (.var 0) (.nil)))) (.cons (.asg (.tp [1, 2]) (.call 11 (.cons (.var 0) (.nil)))) (.cons (.ite (.isN true (.var 2)) (.cons (.raise 0 (.cons (.var 2) (.nil))) (.nil)) (.nil)) (.cons (.ret (.var 1)) (.nil)))), 4, ["code"]⟩
def d_listed : He.DefD := ⟨("listed", none), "listed", "listed", defArgs (top 48), defBody (top 48), defScope (top 48), [], []⟩
-- 9: is_word_known  [value]
def i_is_word_known : Fn := ⟨1, 1, .cons (.ret (.and (.cons (.call 10 (.cons (.var 0) (.nil))) (.cons (.cmp .isin (.var 0) (.glob 0)) (.nil))))) (.nil), 0, []⟩
def d_is_word_known : He.DefD := ⟨("is_word_known", none), "is_word_known", "is_word_known", defArgs (top 16), defBody (top 16), defScope (top 16), [], []⟩
-- 10: is_string  [value]
def i_is_string : Fn := ⟨1, 1, .cons (.ret (.bi (.isinst "str") (.cons (.var 0) (.nil)))) (.nil), 0, []⟩
def d_is_string : He.DefD := ⟨("is_string", none), "is_string", "is_string", defArgs (top 4), defBody (top 4), defScope (top 4), [], []⟩
-- 11: walked  [code, pairs, at, instruction]
def i_walked : Fn := ⟨4, 1, .cons (.asg (.nm 1) (.box (.lst (.nil)))) (.cons (.asg (.nm 2) (.cst (.int 0))) (.cons (.whl (.cmp .lt (.var 2) (.bi .len (.cons (.var 0) (.nil)))) (.cons (.asg (.nm 3) (.call 25 (.cons (.var 0) (.cons (.var 2) (.nil))))) (.cons (.ite (.isN false (.var 3)) (.cons (.ret (.tup (.cons (.bi .tuple (.cons (.var 1) (.nil))) (.cons (.var 2) (.nil))))) (.nil)) (.nil)) (.cons (.expr (.bm .append (.var 1) (.cons (.tup (.cons (.var 2) (.cons (.var 3) (.nil)))) (.nil)))) (.cons (.asg (.nm 2) (.call 14 (.cons (.var 2) (.cons (.var 3) (.nil))))) (.nil)))))) (.cons (.ret (.tup (.cons (.bi .tuple (.cons (.var 1) (.nil))) (.cons (.cst (.non)) (.nil))))) (.nil)))), 4, []⟩
def d_walked : He.DefD := ⟨("walked", none), "walked", "walked", defArgs (top 26), defBody (top 26), defScope (top 26), [], []⟩
-- 12: is_number_below  [value, limit]
def i_is_number_below : Fn := ⟨2, 2, .cons (.ret (.and (.cons (.call 13 (.cons (.var 0) (.nil))) (.cons (.chain .le .lt (.cst (.int 0)) (.var 0) (.var 1)) (.nil))))) (.nil), 0, []⟩
def d_is_number_below : He.DefD := ⟨("is_number_below", none), "is_number_below", "is_number_below", defArgs (top 2), defBody (top 2), defScope (top 2), [], []⟩
-- 13: is_integer  [value]
def i_is_integer : Fn := ⟨1, 1, .cons (.ret (.and (.cons (.bi (.isinst "int") (.cons (.var 0) (.nil))) (.cons (.not (.bi (.isinst "bool") (.cons (.var 0) (.nil)))) (.nil))))) (.nil), 0, []⟩
def d_is_integer : He.DefD := ⟨("is_integer", none), "is_integer", "is_integer", defArgs (top 1), defBody (top 1), defScope (top 1), [], []⟩
-- 14: behind  [at, instruction]
def i_behind : Fn := ⟨2, 2, .cons (.ret (.bin .add (.var 0) (.call 28 (.cons (.idx (.var 1) (.cst (.int 0))) (.nil))))) (.nil), 0, []⟩
def d_behind : He.DefD := ⟨("behind", none), "behind", "behind", defArgs (top 25), defBody (top 25), defScope (top 25), [], []⟩
-- 15: encoded  [instruction, word, row, kind, operand]
def i_encoded : Fn := ⟨5, 1, .cons (.asg (.nm 1) (.idx (.var 0) (.cst (.int 0)))) (.cons (.asg (.nm 2) (.box (.lst (.cons (.idx (.glob 0) (.var 1)) (.nil))))) (.cons (.for_ (.tp [3, 4]) (.zip (.idx (.glob 1) (.var 1)) (.sl (.var 0) (.so (.cst (.int 1))) .no)) (.cons (.expr (.bm .extend (.var 2) (.cons (.call 16 (.cons (.var 3) (.cons (.var 4) (.nil)))) (.nil)))) (.nil))) (.cons (.ret (.bi .tuple (.cons (.var 2) (.nil)))) (.nil)))), 4, []⟩
def d_encoded : He.DefD := ⟨("encoded", none), "encoded", "encoded", defArgs (top 21), defBody (top 21), defScope (top 21), [], []⟩
-- 16: operand_bytes  [kind, operand]
def i_operand_bytes : Fn := ⟨2, 2, .cons (.ret (.ite (.cmp .eq (.var 0) (.cst (.str "address"))) (.call 17 (.cons (.var 1) (.nil))) (.tup (.cons (.var 1) (.nil))))) (.nil), 0, []⟩
def d_operand_bytes : He.DefD := ⟨("operand_bytes", none), "operand_bytes", "operand_bytes", defArgs (top 20), defBody (top 20), defScope (top 20), [], []⟩
-- 17: high_and_low  [number]
def i_high_and_low : Fn := ⟨1, 1, .cons (.ret (.tup (.cons (.bin .fdiv (.var 0) (.glob 3)) (.cons (.bin .mod (.bi .int (.cons (.var 0) (.nil))) (.glob 3)) (.nil))))) (.nil), 0, []⟩
def d_high_and_low : He.DefD := ⟨("high_and_low", none), "high_and_low", "high_and_low", defArgs (top 18), defBody (top 18), defScope (top 18), [], []⟩
-- 18: write_listing  [code]
def i_write_listing : Fn := ⟨1, 1, .cons (.ret (.call 20 (.cons (.call 8 (.cons (.var 0) (.nil))) (.nil)))) (.nil), 4, ["code"]⟩
def d_write_listing : He.DefD := ⟨("write_listing", none), "write_listing", "write_listing", defArgs (top 49), defBody (top 49), defScope (top 49), [], []⟩
-- 19: _law_same  [came, due, good, k]
def i__law_same : Fn := ⟨4, 2, .cons (.ite (.bi (.isinst "tuple") (.cons (.var 1) (.nil))) (.cons (.asg (.nm 2) (.and (.cons (.bi (.isinst "tuple") (.cons (.var 0) (.nil))) (.cons (.cmp .eq (.bi .len (.cons (.var 0) (.nil))) (.bi .len (.cons (.var 1) (.nil)))) (.nil))))) (.cons (.ret (.and (.cons (.var 2) (.cons (.cmp .notin (.cst (.bl false)) (.comp (.call 19 (.cons (.idx (.var 0) (.var 3)) (.cons (.idx (.var 1) (.var 3)) (.nil)))) (.nm 3) [3] (.range1 (.bi .len (.cons (.var 1) (.nil)))) .no)) (.nil))))) (.nil))) (.nil)) (.cons (.ite (.or (.cons (.isN false (.var 1)) (.cons (.isN false (.var 0)) (.nil)))) (.cons (.ret (.and (.cons (.isN false (.var 1)) (.cons (.isN false (.var 0)) (.nil))))) (.nil)) (.nil)) (.cons (.ite (.or (.cons (.cmp .ne (.bi (.isinst "bool") (.cons (.var 0) (.nil))) (.bi (.isinst "bool") (.cons (.var 1) (.nil)))) (.cons (.cmp .ne (.bi (.isinst "int") (.cons (.var 0) (.nil))) (.bi (.isinst "int") (.cons (.var 1) (.nil)))) (.nil)))) (.cons (.ret (.cst (.bl false))) (.nil)) (.nil)) (.cons (.ret (.and (.cons (.cmp .eq (.bi (.isinst "str") (.cons (.var 0) (.nil))) (.bi (.isinst "str") (.cons (.var 1) (.nil)))) (.cons (.cmp .eq (.var 0) (.var 1)) (.nil))))) (.nil)))), 0, []⟩
def d__law_same : He.DefD := ⟨("_law_same", none), "_law_same", "_law_same", defArgs (top 54), defBody (top 54), defScope (top 54), [], []⟩
-- 20: listing_of  [pairs, address, instruction]
def i_listing_of : Fn := ⟨3, 1, .cons (.ret (.call 24 (.cons (.comp (.call 31 (.cons (.var 1) (.cons (.var 2) (.nil)))) (.tp [1, 2]) [1, 2] (.seq (.var 0)) .no) (.nil)))) (.nil), 4, []⟩
def d_listing_of : He.DefD := ⟨("listing_of", none), "listing_of", "listing_of", defArgs (top 43), defBody (top 43), defScope (top 43), [], []⟩
-- 21: check_code  [code]
def i_check_code : Fn := ⟨1, 1, .cons (.ite (.not (.call 22 (.cons (.var 0) (.nil)))) (.cons (.raise 0 (.cons (.cst (.non)) (.nil))) (.nil)) (.nil)) (.nil), 0, []⟩
def d_check_code : He.DefD := ⟨("check_code", none), "check_code", "check_code", defArgs (top 47), defBody (top 47), defScope (top 47), [], []⟩
-- 22: are_bytes  [value, one]
def i_are_bytes : Fn := ⟨2, 1, .cons (.ret (.and (.cons (.bi (.isinst "tuple") (.cons (.var 0) (.nil))) (.cons (.bi .all (.cons (.comp (.call 23 (.cons (.var 1) (.nil))) (.nm 1) [1] (.seq (.var 0)) .no) (.nil))) (.nil))))) (.nil), 0, []⟩
def d_are_bytes : He.DefD := ⟨("are_bytes", none), "are_bytes", "are_bytes", defArgs (top 5), defBody (top 5), defScope (top 5), [], []⟩
-- 23: is_byte  [value]
def i_is_byte : Fn := ⟨1, 1, .cons (.ret (.call 12 (.cons (.var 0) (.cons (.cst (.int 256)) (.nil))))) (.nil), 0, []⟩
def d_is_byte : He.DefD := ⟨("is_byte", none), "is_byte", "is_byte", defArgs (top 3), defBody (top 3), defScope (top 3), [], []⟩
-- 24: text_of  [lines]
def i_text_of : Fn := ⟨1, 1, .cons (.ret (.bm .join (.cst (.str "\n")) (.cons (.var 0) (.nil)))) (.nil), 0, []⟩
def d_text_of : He.DefD := ⟨("text_of", none), "text_of", "text_of", defArgs (top 36), defBody (top 36), defScope (top 36), [], []⟩
-- 25: decoded  [code, at, word, members, place, kind, operand]
def i_decoded : Fn := ⟨7, 2, .cons (.ite (.or (.cons (.cmp .ge (.var 1) (.bi .len (.cons (.var 0) (.nil)))) (.cons (.not (.call 26 (.cons (.idx (.var 0) (.var 1)) (.nil)))) (.nil)))) (.cons (.ret (.cst (.non))) (.nil)) (.nil)) (.cons (.asg (.nm 2) (.call 27 (.cons (.idx (.var 0) (.var 1)) (.nil)))) (.cons (.ite (.cmp .gt (.bin .add (.var 1) (.call 28 (.cons (.var 2) (.nil)))) (.bi .len (.cons (.var 0) (.nil)))) (.cons (.ret (.cst (.non))) (.nil)) (.nil)) (.cons (.asg (.nm 3) (.box (.lst (.cons (.var 2) (.nil))))) (.cons (.asg (.nm 4) (.bin .add (.var 1) (.cst (.int 1)))) (.cons (.for_ (.nm 5) (.seq (.idx (.glob 1) (.var 2))) (.cons (.asg (.nm 6) (.call 29 (.cons (.var 5) (.cons (.var 0) (.cons (.var 4) (.nil)))))) (.cons (.ite (.isN false (.var 6)) (.cons (.ret (.cst (.non))) (.nil)) (.nil)) (.cons (.expr (.bm .append (.var 3) (.cons (.var 6) (.nil)))) (.cons (.aug 4 .add (.idx (.glob 5) (.var 5))) (.nil)))))) (.cons (.ret (.bi .tuple (.cons (.var 3) (.nil)))) (.nil))))))), 4, []⟩
def d_decoded : He.DefD := ⟨("decoded", none), "decoded", "decoded", defArgs (top 23), defBody (top 23), defScope (top 23), [], []⟩
-- 26: is_opcode  [number]
def i_is_opcode : Fn := ⟨1, 1, .cons (.ret (.chain .le .le (.cst (.int 1)) (.var 0) (.bi .len (.cons (.glob 4) (.nil))))) (.nil), 0, []⟩
def d_is_opcode : He.DefD := ⟨("is_opcode", none), "is_opcode", "is_opcode", defArgs (top 14), defBody (top 14), defScope (top 14), [], []⟩
-- 27: word_of  [opcode]
def i_word_of : Fn := ⟨1, 1, .cons (.ret (.idx (.glob 4) (.bin .sub (.var 0) (.cst (.int 1))))) (.nil), 0, []⟩
def d_word_of : He.DefD := ⟨("word_of", none), "word_of", "word_of", defArgs (top 15), defBody (top 15), defScope (top 15), [], []⟩
-- 28: length_of  [word, kind]
def i_length_of : Fn := ⟨2, 1, .cons (.ret (.bin .add (.cst (.int 1)) (.bi .sum (.cons (.comp (.idx (.glob 5) (.var 1)) (.nm 1) [1] (.seq (.idx (.glob 1) (.var 0))) .no) (.nil))))) (.nil), 0, []⟩
def d_length_of : He.DefD := ⟨("length_of", none), "length_of", "length_of", defArgs (top 17), defBody (top 17), defScope (top 17), [], []⟩
-- 29: operand_at  [kind, code, at, number]
def i_operand_at : Fn := ⟨4, 3, .cons (.asg (.nm 3) (.ite (.cmp .eq (.var 0) (.cst (.str "address"))) (.call 30 (.cons (.idx (.var 1) (.var 2)) (.cons (.idx (.var 1) (.bin .add (.var 2) (.cst (.int 1)))) (.nil)))) (.idx (.var 1) (.var 2)))) (.cons (.ret (.ite (.cmp .lt (.var 3) (.idx (.glob 2) (.var 0))) (.var 3) (.cst (.non)))) (.nil)), 0, []⟩
def d_operand_at : He.DefD := ⟨("operand_at", none), "operand_at", "operand_at", defArgs (top 22), defBody (top 22), defScope (top 22), [], []⟩
-- 30: joined_bytes  [high, low]
def i_joined_bytes : Fn := ⟨2, 2, .cons (.ret (.bin .add (.bin .mul (.var 0) (.glob 3)) (.var 1))) (.nil), 0, []⟩
def d_joined_bytes : He.DefD := ⟨("joined_bytes", none), "joined_bytes", "joined_bytes", defArgs (top 19), defBody (top 19), defScope (top 19), [], []⟩
-- 31: listing_line  [address, instruction]
def i_listing_line : Fn := ⟨2, 2, .cons (.ret (.call 33 (.cons (.bin .add (.lst (.cons (.bi .str (.cons (.var 0) (.nil))) (.nil))) (.call 34 (.cons (.var 1) (.nil)))) (.nil)))) (.nil), 4, []⟩
def d_listing_line : He.DefD := ⟨("listing_line", none), "listing_line", "listing_line", defArgs (top 42), defBody (top 42), defScope (top 42), [], []⟩
-- 32: _law_refused  [value, form, e]
def i__law_refused : Fn := ⟨3, 2, .cons (.try_ (.cons (.ite (.cmp .eq (.var 1) (.cst (.int 0))) (.cons (.expr (.call 8 (.cons (.var 0) (.nil)))) (.nil)) (.cons (.expr (.call 18 (.cons (.var 0) (.nil)))) (.nil))) (.nil)) (.cons 0 2 (.cons (.ret (.lst (.cons (.xf 2 0) (.nil)))) (.nil)) (.nil))) (.cons (.ret (.lst (.nil))) (.nil)), 0, []⟩
def d__law_refused : He.DefD := ⟨("_law_refused", none), "_law_refused", "_law_refused", defArgs (top 60), defBody (top 60), defScope (top 60), [], []⟩
-- 33: line_of  [pieces]
def i_line_of : Fn := ⟨1, 1, .cons (.ret (.bm .join (.cst (.str " ")) (.cons (.var 0) (.nil)))) (.nil), 0, []⟩
def d_line_of : He.DefD := ⟨("line_of", none), "line_of", "line_of", defArgs (top 35), defBody (top 35), defScope (top 35), [], []⟩
-- 34: instruction_pieces  [instruction, pieces, kind, operand]
def i_instruction_pieces : Fn := ⟨4, 1, .cons (.asg (.nm 1) (.box (.lst (.cons (.idx (.var 0) (.cst (.int 0))) (.nil))))) (.cons (.for_ (.tp [2, 3]) (.zip (.idx (.glob 1) (.idx (.var 0) (.cst (.int 0)))) (.sl (.var 0) (.so (.cst (.int 1))) .no)) (.cons (.expr (.bm .append (.var 1) (.cons (.call 35 (.cons (.var 2) (.cons (.var 3) (.nil)))) (.nil)))) (.nil))) (.cons (.ret (.var 1)) (.nil))), 5, []⟩
def d_instruction_pieces : He.DefD := ⟨("instruction_pieces", none), "instruction_pieces", "instruction_pieces", defArgs (top 40), defBody (top 40), defScope (top 40), [], []⟩
-- 35: operand_piece  [kind, operand]
def i_operand_piece : Fn := ⟨2, 2, .cons (.ret (.ite (.cmp .eq (.var 0) (.cst (.str "box"))) (.bin .add (.cst (.str "r")) (.bi .str (.cons (.var 1) (.nil)))) (.bi .str (.cons (.var 1) (.nil))))) (.nil), 0, []⟩
def d_operand_piece : He.DefD := ⟨("operand_piece", none), "operand_piece", "operand_piece", defArgs (top 38), defBody (top 38), defScope (top 38), [], []⟩
-- 36: read_listing  [text, code, fault]
def i_read_listing : Fn := ⟨3, 1, .cons (.ite (.not (.call 10 (.cons (.var 0) (.nil)))) (.cons (.raise 1 (.cons (.var 0) (.cons (.cst (.int 0)) (.nil)))) (.nil)) (.nil)) (.cons (.asg (.tp [1, 2]) (.call 37 (.cons (.var 0) (.nil)))) (.cons (.ite (.isN true (.var 2)) (.cons (.raise 1 (.cons (.var 0) (.cons (.var 2) (.nil)))) (.nil)) (.nil)) (.cons (.ret (.var 1)) (.nil)))), 4, []⟩
def d_read_listing : He.DefD := ⟨("read_listing", none), "read_listing", "read_listing", defArgs (top 50), defBody (top 50), defScope (top 50), [], []⟩
-- 37: code_in  [text, code, k, line, instruction]
def i_code_in : Fn := ⟨5, 1, .cons (.asg (.nm 1) (.box (.lst (.nil)))) (.cons (.ite (.cmp .eq (.var 0) (.cst (.str ""))) (.cons (.ret (.tup (.cons (.tup (.nil)) (.cons (.cst (.non)) (.nil))))) (.nil)) (.nil)) (.cons (.for_ (.tp [2, 3]) (.enum (.call 38 (.cons (.var 0) (.nil)))) (.cons (.asg (.nm 4) (.call 39 (.cons (.var 3) (.cons (.bi .len (.cons (.var 1) (.nil))) (.nil))))) (.cons (.ite (.isN false (.var 4)) (.cons (.ret (.tup (.cons (.cst (.non)) (.cons (.var 2) (.nil))))) (.nil)) (.nil)) (.cons (.expr (.bm .extend (.var 1) (.cons (.call 15 (.cons (.var 4) (.nil))) (.nil)))) (.nil))))) (.cons (.ret (.tup (.cons (.bi .tuple (.cons (.var 1) (.nil))) (.cons (.cst (.non)) (.nil))))) (.nil)))), 4, []⟩
def d_code_in : He.DefD := ⟨("code_in", none), "code_in", "code_in", defArgs (top 45), defBody (top 45), defScope (top 45), [], []⟩
-- 38: lines_of  [text]
def i_lines_of : Fn := ⟨1, 1, .cons (.ret (.bm .split (.var 0) (.cons (.cst (.str "\n")) (.nil)))) (.nil), 0, []⟩
def d_lines_of : He.DefD := ⟨("lines_of", none), "lines_of", "lines_of", defArgs (top 33), defBody (top 33), defScope (top 33), [], []⟩
-- 39: instruction_of_line  [line, address, pieces]
def i_instruction_of_line : Fn := ⟨3, 2, .cons (.asg (.nm 2) (.bm .split (.var 0) (.cons (.cst (.str " ")) (.nil)))) (.cons (.ite (.cmp .ne (.idx (.var 2) (.cst (.int 0))) (.bi .str (.cons (.var 1) (.nil)))) (.cons (.ret (.cst (.non))) (.nil)) (.nil)) (.cons (.ret (.call 40 (.cons (.sl (.var 2) (.so (.cst (.int 1))) .no) (.nil)))) (.nil))), 0, []⟩
def d_instruction_of_line : He.DefD := ⟨("instruction_of_line", none), "instruction_of_line", "instruction_of_line", defArgs (top 44), defBody (top 44), defScope (top 44), [], []⟩
-- 40: instruction_in  [pieces, kinds, members, kind, piece, operand]
def i_instruction_in : Fn := ⟨6, 1, .cons (.ite (.or (.cons (.not (.var 0)) (.cons (.not (.call 9 (.cons (.idx (.var 0) (.cst (.int 0))) (.nil)))) (.nil)))) (.cons (.ret (.cst (.non))) (.nil)) (.nil)) (.cons (.asg (.nm 1) (.idx (.glob 1) (.idx (.var 0) (.cst (.int 0))))) (.cons (.ite (.cmp .ne (.bi .len (.cons (.var 0) (.nil))) (.bin .add (.bi .len (.cons (.var 1) (.nil))) (.cst (.int 1)))) (.cons (.ret (.cst (.non))) (.nil)) (.nil)) (.cons (.asg (.nm 2) (.box (.lst (.cons (.idx (.var 0) (.cst (.int 0))) (.nil))))) (.cons (.for_ (.tp [3, 4]) (.zip (.var 1) (.sl (.var 0) (.so (.cst (.int 1))) .no)) (.cons (.asg (.nm 5) (.call 41 (.cons (.var 3) (.cons (.var 4) (.nil))))) (.cons (.ite (.isN false (.var 5)) (.cons (.ret (.cst (.non))) (.nil)) (.nil)) (.cons (.expr (.bm .append (.var 2) (.cons (.var 5) (.nil)))) (.nil))))) (.cons (.ret (.bi .tuple (.cons (.var 2) (.nil)))) (.nil)))))), 4, []⟩
def d_instruction_in : He.DefD := ⟨("instruction_in", none), "instruction_in", "instruction_in", defArgs (top 41), defBody (top 41), defScope (top 41), [], []⟩
-- 41: operand_in  [kind, piece]
def i_operand_in : Fn := ⟨2, 2, .cons (.ite (.cmp .eq (.var 0) (.cst (.str "box"))) (.cons (.ret (.ite (.bm .startswith (.var 1) (.cons (.cst (.str "r")) (.nil))) (.call 42 (.cons (.sl (.var 1) (.so (.cst (.int 1))) .no) (.cons (.glob 7) (.nil)))) (.cst (.non)))) (.nil)) (.nil)) (.cons (.ret (.call 42 (.cons (.var 1) (.cons (.idx (.glob 2) (.var 0)) (.nil))))) (.nil)), 0, []⟩
def d_operand_in : He.DefD := ⟨("operand_in", none), "operand_in", "operand_in", defArgs (top 39), defBody (top 39), defScope (top 39), [], []⟩
-- 42: number_in  [piece, limit, number, sign]
def i_number_in : Fn := ⟨4, 2, .cons (.ite (.or (.cons (.cmp .eq (.var 0) (.cst (.str ""))) (.cons (.cmp .gt (.bi .len (.cons (.var 0) (.nil))) (.bi .len (.cons (.bi .str (.cons (.var 1) (.nil))) (.nil)))) (.nil)))) (.cons (.ret (.cst (.non))) (.nil)) (.nil)) (.cons (.ite (.not (.bi .all (.cons (.comp (.cmp .isin (.var 3) (.glob 6)) (.nm 3) [3] (.seq (.var 0)) .no) (.nil)))) (.cons (.ret (.cst (.non))) (.nil)) (.nil)) (.cons (.ite (.and (.cons (.cmp .eq (.idx (.var 0) (.cst (.int 0))) (.cst (.str "0"))) (.cons (.cmp .gt (.bi .len (.cons (.var 0) (.nil))) (.cst (.int 1))) (.nil)))) (.cons (.ret (.cst (.non))) (.nil)) (.nil)) (.cons (.asg (.nm 2) (.bi .int (.cons (.var 0) (.nil)))) (.cons (.ret (.ite (.cmp .lt (.var 2) (.var 1)) (.var 2) (.cst (.non)))) (.nil))))), 0, []⟩
def d_number_in : He.DefD := ⟨("number_in", none), "number_in", "number_in", defArgs (top 34), defBody (top 34), defScope (top 34), [], []⟩
-- 43: _law_spoilt  [jar, code, form, at, kind, bad, due]
def i__law_spoilt : Fn := ⟨7, 3, .cons (.asg (.nm 3) (.call 3 (.cons (.var 0) (.cons (.bin .add (.bi .len (.cons (.var 1) (.nil))) (.cst (.int 1))) (.nil))))) (.cons (.asg (.nm 4) (.call 3 (.cons (.var 0) (.cons (.cst (.int 5)) (.nil))))) (.cons (.asg (.nm 5) (.sl (.var 1) .no (.so (.var 3)))) (.cons (.ite (.cmp .eq (.var 4) (.cst (.int 1))) (.cons (.asg (.nm 5) (.bin .add (.bin .add (.sl (.var 1) .no (.so (.var 3))) (.tup (.cons (.idx (.lst (.cons (.cst (.int 0)) (.cons (.cst (.int 20)) (.cons (.cst (.int 255)) (.cons (.cst (.int 8)) (.nil)))))) (.call 3 (.cons (.var 0) (.cons (.cst (.int 4)) (.nil))))) (.nil)))) (.sl (.var 1) (.so (.var 3)) .no))) (.nil)) (.nil)) (.cons (.ite (.cmp .eq (.var 4) (.cst (.int 2))) (.cons (.asg (.nm 5) (.bin .add (.bin .add (.sl (.var 1) .no (.so (.var 3))) (.tup (.cons (.cst (.int 7)) (.cons (.cst (.int 8)) (.nil))))) (.sl (.var 1) (.so (.var 3)) .no))) (.nil)) (.nil)) (.cons (.ite (.cmp .eq (.var 4) (.cst (.int 3))) (.cons (.asg (.nm 5) (.bin .add (.var 1) (.tup (.cons (.idx (.lst (.cons (.cst (.int 1)) (.cons (.cst (.int 3)) (.cons (.cst (.int 9)) (.cons (.cst (.int 13)) (.cons (.cst (.int 18)) (.nil))))))) (.call 3 (.cons (.var 0) (.cons (.cst (.int 5)) (.nil))))) (.nil))))) (.nil)) (.nil)) (.cons (.ite (.cmp .eq (.var 4) (.cst (.int 4))) (.cons (.asg (.nm 5) (.idx (.lst (.cons (.bi .list (.cons (.var 1) (.nil))) (.cons (.bin .add (.var 1) (.tup (.cons (.cst (.int 256)) (.nil)))) (.cons (.bin .add (.tup (.cons (.cst (.bl true)) (.nil))) (.var 1)) (.cons (.cst (.non)) (.cons (.bin .add (.var 1) (.tup (.cons (.bin .sub (.cst (.int 0)) (.cst (.int 1))) (.nil)))) (.cons (.cst (.str "back")) (.nil)))))))) (.call 3 (.cons (.var 0) (.cons (.cst (.int 6)) (.nil)))))) (.cons (.ret (.call 19 (.cons (.bi .tuple (.cons (.call 32 (.cons (.var 5) (.cons (.var 2) (.nil)))) (.nil))) (.cons (.tup (.cons (.cst (.non)) (.nil))) (.nil))))) (.nil))) (.nil)) (.cons (.asg (.nm 6) (.call 44 (.cons (.var 5) (.nil)))) (.cons (.ite (.isN false (.var 6)) (.cons (.ret (.cmp .eq (.bi .len (.cons (.call 32 (.cons (.var 5) (.cons (.var 2) (.nil)))) (.nil))) (.cst (.int 0)))) (.nil)) (.nil)) (.cons (.ret (.call 19 (.cons (.bi .tuple (.cons (.call 32 (.cons (.var 5) (.cons (.var 2) (.nil)))) (.nil))) (.cons (.tup (.cons (.var 6) (.nil))) (.nil))))) (.nil)))))))))), 0, []⟩
def d__law_spoilt : He.DefD := ⟨("_law_spoilt", none), "_law_spoilt", "_law_spoilt", defArgs (top 61), defBody (top 61), defScope (top 61), [], []⟩
-- 44: _law_place  [code, at, k, shape, place, kind]
def i__law_place : Fn := ⟨6, 1, .cons (.asg (.nm 1) (.cst (.int 0))) (.cons (.for_ (.nm 2) (.range1 (.bi .len (.cons (.var 0) (.nil)))) (.cons (.ite (.cmp .eq (.var 1) (.bi .len (.cons (.var 0) (.nil)))) (.cons (.brk) (.nil)) (.nil)) (.cons (.ite (.or (.cons (.cmp .lt (.idx (.var 0) (.var 1)) (.cst (.int 1))) (.cons (.cmp .gt (.idx (.var 0) (.var 1)) (.cst (.int 19))) (.nil)))) (.cons (.ret (.var 1)) (.nil)) (.nil)) (.cons (.asg (.nm 3) (.idx (.call 5 (.cons (.bin .sub (.idx (.var 0) (.var 1)) (.cst (.int 1))) (.nil))) (.cst (.int 1)))) (.cons (.asg (.nm 4) (.bin .add (.var 1) (.cst (.int 1)))) (.cons (.for_ (.nm 5) (.seq (.var 3)) (.cons (.ite (.or (.cons (.cmp .ge (.bin .add (.var 4) (.bi .int (.cons (.cmp .eq (.var 5) (.cst (.str "A"))) (.nil)))) (.bi .len (.cons (.var 0) (.nil)))) (.cons (.and (.cons (.cmp .eq (.var 5) (.cst (.str "r"))) (.cons (.cmp .gt (.idx (.var 0) (.var 4)) (.cst (.int 7))) (.nil)))) (.nil)))) (.cons (.ret (.var 1)) (.nil)) (.nil)) (.cons (.asg (.nm 4) (.bin .add (.bin .add (.var 4) (.cst (.int 1))) (.bi .int (.cons (.cmp .eq (.var 5) (.cst (.str "A"))) (.nil))))) (.nil)))) (.cons (.asg (.nm 1) (.var 4)) (.nil)))))))) (.cons (.ret (.cst (.non))) (.nil))), 4, []⟩
def d__law_place : He.DefD := ⟨("_law_place", none), "_law_place", "_law_place", defArgs (top 58), defBody (top 58), defScope (top 58), [], []⟩
-- 45: _law_unread  [jar, rows, lines, text, e, bad, at]
def i__law_unread : Fn := ⟨7, 3, .cons (.asg (.tp [5, 6]) (.call 46 (.cons (.var 0) (.cons (.var 1) (.cons (.var 2) (.nil)))))) (.cons (.asg (.nm 3) (.bm .join (.cst (.str "\n")) (.cons (.var 5) (.nil)))) (.cons (.try_ (.cons (.expr (.call 36 (.cons (.var 3) (.nil)))) (.nil)) (.cons 1 4 (.cons (.ret (.and (.cons (.call 19 (.cons (.xf 4 1) (.cons (.var 3) (.nil)))) (.cons (.call 19 (.cons (.xf 4 0) (.cons (.var 6) (.nil)))) (.nil))))) (.nil)) (.nil))) (.cons (.ret (.cst (.bl false))) (.nil)))), 0, []⟩
def d__law_unread : He.DefD := ⟨("_law_unread", none), "_law_unread", "_law_unread", defArgs (top 63), defBody (top 63), defScope (top 63), [], []⟩
-- 46: _law_broken  [jar, rows, lines, j, words, new, one, form, k, bad]
def i__law_broken : Fn := ⟨10, 3, .cons (.asg (.nm 3) (.call 3 (.cons (.var 0) (.cons (.bi .len (.cons (.var 2) (.nil))) (.nil))))) (.cons (.par [6, 7] (.cons (.idx (.var 2) (.var 3)) (.cons (.call 3 (.cons (.var 0) (.cons (.cst (.int 14)) (.nil)))) (.nil)))) (.cons (.asg (.nm 4) (.bm .split (.var 6) (.cons (.cst (.str " ")) (.nil)))) (.cons (.ite (.and (.cons (.cmp .eq (.var 7) (.cst (.int 0))) (.cons (.cmp .lt (.bin .add (.var 3) (.cst (.int 1))) (.bi .len (.cons (.var 2) (.nil)))) (.nil)))) (.cons (.ret (.tup (.cons (.bin .add (.sl (.var 2) .no (.so (.var 3))) (.sl (.var 2) (.so (.bin .add (.var 3) (.cst (.int 1)))) .no)) (.cons (.var 3) (.nil))))) (.nil)) (.nil)) (.cons (.ite (.and (.cons (.cmp .eq (.var 7) (.cst (.int 1))) (.cons (.cmp .lt (.bin .add (.var 3) (.cst (.int 1))) (.bi .len (.cons (.var 2) (.nil)))) (.nil)))) (.cons (.ret (.tup (.cons (.bin .add (.bin .add (.sl (.var 2) .no (.so (.var 3))) (.lst (.cons (.idx (.var 2) (.bin .add (.var 3) (.cst (.int 1)))) (.cons (.var 6) (.nil))))) (.sl (.var 2) (.so (.bin .add (.var 3) (.cst (.int 2)))) .no)) (.cons (.var 3) (.nil))))) (.nil)) (.nil)) (.cons (.ite (.cmp .eq (.var 7) (.cst (.int 2))) (.cons (.ret (.tup (.cons (.bin .add (.var 2) (.lst (.cons (.cst (.str "")) (.nil)))) (.cons (.bi .len (.cons (.var 2) (.nil))) (.nil))))) (.nil)) (.nil)) (.cons (.asg (.nm 5) (.bin .add (.cst (.str " ")) (.var 6))) (.cons (.ite (.cmp .eq (.var 7) (.cst (.int 3))) (.cons (.asg (.nm 5) (.bin .add (.var 6) (.cst (.str " ")))) (.nil)) (.nil)) (.cons (.ite (.cmp .eq (.var 7) (.cst (.int 4))) (.cons (.asg (.nm 5) (.bin .add (.cst (.str "0")) (.var 6))) (.nil)) (.nil)) (.cons (.ite (.cmp .eq (.var 7) (.cst (.int 5))) (.cons (.asg (.nm 5) (.bm .join (.cst (.str " ")) (.cons (.bin .add (.lst (.cons (.bi .str (.cons (.bin .add (.idx (.idx (.var 1) (.var 3)) (.cst (.int 0))) (.cst (.int 1))) (.nil))) (.nil))) (.sl (.var 4) (.so (.cst (.int 1))) .no)) (.nil)))) (.nil)) (.nil)) (.cons (.ite (.cmp .eq (.var 7) (.cst (.int 6))) (.cons (.asg (.nm 5) (.bin .add (.bin .add (.idx (.var 4) (.cst (.int 0))) (.cst (.str "  "))) (.bm .join (.cst (.str " ")) (.cons (.sl (.var 4) (.so (.cst (.int 1))) .no) (.nil))))) (.nil)) (.nil)) (.cons (.ite (.cmp .eq (.var 7) (.cst (.int 7))) (.cons (.asg (.nm 5) (.bm .join (.cst (.str " ")) (.cons (.bin .add (.lst (.cons (.idx (.var 4) (.cst (.int 0))) (.cons (.idx (.lst (.cons (.cst (.str "nop")) (.cons (.cst (.str "Set")) (.cons (.cst (.str "sets")) (.cons (.cst (.str "15")) (.cons (.cst (.str "r0")) (.nil))))))) (.call 3 (.cons (.var 0) (.cons (.cst (.int 5)) (.nil))))) (.nil)))) (.sl (.var 4) (.so (.cst (.int 2))) .no)) (.nil)))) (.nil)) (.nil)) (.cons (.ite (.cmp .eq (.var 7) (.cst (.int 8))) (.cons (.asg (.nm 5) (.bin .add (.var 6) (.cst (.str " 0")))) (.nil)) (.nil)) (.cons (.ite (.and (.cons (.cmp .eq (.var 7) (.cst (.int 9))) (.cons (.cmp .gt (.bi .len (.cons (.var 4) (.nil))) (.cst (.int 2))) (.nil)))) (.cons (.asg (.nm 5) (.bm .join (.cst (.str " ")) (.cons (.sl (.var 4) .no (.so (.bin .sub (.bi .len (.cons (.var 4) (.nil))) (.cst (.int 1))))) (.nil)))) (.nil)) (.nil)) (.cons (.ite (.cmp .eq (.var 7) (.cst (.int 10))) (.cons (.asg (.nm 5) (.ite (.cmp .gt (.var 3) (.cst (.int 0))) (.cst (.str "")) (.cst (.str "  ")))) (.nil)) (.nil)) (.cons (.ite (.and (.cons (.cmp .gt (.var 7) (.cst (.int 10))) (.cons (.cmp .gt (.bi .len (.cons (.var 4) (.nil))) (.cst (.int 2))) (.nil)))) (.cons (.asg (.nm 8) (.bin .add (.cst (.int 2)) (.call 3 (.cons (.var 0) (.cons (.bin .sub (.bi .len (.cons (.var 4) (.nil))) (.cst (.int 2))) (.nil)))))) (.cons (.asg (.nm 9) (.idx (.lst (.cons (.cst (.str "r8")) (.cons (.cst (.str "65536")) (.cons (.cst (.str "x")) (.cons (.cst (.str "R0")) (.cons (.cst (.str "r01")) (.cons (.cst (.str "-1")) (.cons (.cst (.str "00")) (.cons (.cst (.str "r")) (.cons (.cst (.str "0x1")) (.cons (.cst (.str "r-0")) (.nil)))))))))))) (.call 3 (.cons (.var 0) (.cons (.cst (.int 10)) (.nil)))))) (.cons (.asg (.nm 5) (.bm .join (.cst (.str " ")) (.cons (.bin .add (.bin .add (.sl (.var 4) .no (.so (.var 8))) (.lst (.cons (.var 9) (.nil)))) (.sl (.var 4) (.so (.bin .add (.var 8) (.cst (.int 1)))) .no)) (.nil)))) (.nil)))) (.nil)) (.cons (.ite (.cmp .eq (.var 7) (.cst (.int 13))) (.cons (.ret (.tup (.cons (.bin .add (.bin .add (.sl (.var 2) .no (.so (.var 3))) (.lst (.cons (.idx (.lst (.cons (.ite (.cmp .gt (.var 3) (.cst (.int 0))) (.cst (.str "")) (.cst (.str " "))) (.cons (.cst (.str "  ")) (.cons (.cst (.str "0")) (.cons (.cst (.str "0 stop x")) (.nil)))))) (.call 3 (.cons (.var 0) (.cons (.cst (.int 4)) (.nil))))) (.nil)))) (.sl (.var 2) (.so (.var 3)) .no)) (.cons (.var 3) (.nil))))) (.nil)) (.nil)) (.cons (.ret (.tup (.cons (.bin .add (.bin .add (.sl (.var 2) .no (.so (.var 3))) (.lst (.cons (.var 5) (.nil)))) (.sl (.var 2) (.so (.bin .add (.var 3) (.cst (.int 1)))) .no)) (.cons (.var 3) (.nil))))) (.nil)))))))))))))))))), 0, []⟩
def d__law_broken : He.DefD := ⟨("_law_broken", none), "_law_broken", "_law_broken", defArgs (top 62), defBody (top 62), defScope (top 62), [], []⟩
def T : Tb where
  fns := [i_law, i__law_all, i__law_jar, i__law_draw, i__law_instruction, i__law_table, i__law_bytes, i__law_lines, i_listed, i_is_word_known, i_is_string, i_walked, i_is_number_below, i_is_integer, i_behind, i_encoded, i_operand_bytes, i_high_and_low, i_write_listing, i__law_same, i_listing_of, i_check_code, i_are_bytes, i_is_byte, i_text_of, i_decoded, i_is_opcode, i_word_of, i_length_of, i_operand_at, i_joined_bytes, i_listing_line, i__law_refused, i_line_of, i_instruction_pieces, i_operand_piece, i_read_listing, i_code_in, i_lines_of, i_instruction_of_line, i_instruction_in, i_operand_in, i_number_in, i__law_spoilt, i__law_place, i__law_unread, i__law_broken]
  clss := []
  inits := []
  tabs := [[("set", .int 1), ("copy", .int 2), ("add", .int 3), ("sub", .int 4), ("mul", .int 5), ("low", .int 6), ("ask", .int 7), ("tell", .int 8), ("get", .int 9), ("put", .int 10), ("less", .int 11), ("same", .int 12), ("jump", .int 13), ("call", .int 14), ("back", .int 15), ("push", .int 16), ("pop", .int 17), ("out", .int 18), ("stop", .int 19)], [("set", .tup [.str "box", .str "byte"]), ("copy", .tup [.str "box", .str "box"]), ("add", .tup [.str "box", .str "box", .str "box"]), ("sub", .tup [.str "box", .str "box", .str "box"]), ("mul", .tup [.str "box", .str "box", .str "box"]), ("low", .tup [.str "box", .str "byte"]), ("ask", .tup [.str "box"]), ("tell", .tup [.str "box"]), ("get", .tup [.str "box", .str "address", .str "box"]), ("put", .tup [.str "address", .str "box", .str "box"]), ("less", .tup [.str "box", .str "box", .str "address"]), ("same", .tup [.str "box", .str "box", .str "address"]), ("jump", .tup [.str "address"]), ("call", .tup [.str "address"]), ("back", .tup []), ("push", .tup [.str "box"]), ("pop", .tup [.str "box"]), ("out", .tup [.str "address"]), ("stop", .tup [])], [("box", .int 8), ("byte", .int 256), ("address", .int 65536)], [("box", .int 1), ("byte", .int 1), ("address", .int 2)]]
  consts := [.tab 0, .tab 1, .tab 2, .int 256, .tup [.str "set", .str "copy", .str "add", .str "sub", .str "mul", .str "low", .str "ask", .str "tell", .str "get", .str "put", .str "less", .str "same", .str "jump", .str "call", .str "back", .str "push", .str "pop", .str "out", .str "stop"], .tab 3, .str "0123456789", .int 8]
  excs := [[0], [0, 1]]
  xsup := [[0], [1]]
  file := PySem.Challenge.pw_codenotary_k66_listings_written_and_read.main.file
def x_InvalidBytes : XiD := ⟨0, "InvalidBytes", "__init__", "InvalidBytes.__init__", defArgs (inClass (top 30) 0), defBody (inClass (top 30) 0), defScope (inClass (top 30) 0)⟩
def x_InvalidText : XiD := ⟨1, "InvalidText", "__init__", "InvalidText.__init__", defArgs (inClass (top 29) 0), defBody (inClass (top 29) 0), defScope (inClass (top 29) 0)⟩
def G : Gi := ⟨["NUMBERS", "OPERANDS", "LIMITS", "BYTES", "WORDS", "SIZES", "FIGURES", "BOXES"], ((["law", "_law_all", "_law_jar", "_law_draw", "_law_instruction", "_law_table", "_law_bytes", "_law_lines", "listed", "is_word_known", "is_string", "walked", "is_number_below", "is_integer", "behind", "encoded", "operand_bytes", "high_and_low", "write_listing", "_law_same", "listing_of", "check_code", "are_bytes", "is_byte", "text_of", "decoded", "is_opcode", "word_of", "length_of", "operand_at"] : List Str) ++ (["joined_bytes", "listing_line", "_law_refused", "line_of", "instruction_pieces", "operand_piece", "read_listing", "code_in", "lines_of", "instruction_of_line", "instruction_in", "operand_in", "number_in", "_law_spoilt", "_law_place", "_law_unread", "_law_broken"] : List Str)), [], [], ["at", "text"], ["InvalidBytes", "InvalidText"], false, [19], [(8, ["code"]), (18, ["code"])], []⟩
def LD : LawD := ⟨[d_law, d__law_all, d__law_jar, d__law_draw, d__law_instruction, d__law_table, d__law_bytes, d__law_lines, d_listed, d_is_word_known, d_is_string, d_walked, d_is_number_below, d_is_integer, d_behind, d_encoded, d_operand_bytes, d_high_and_low, d_write_listing, d__law_same, d_listing_of, d_check_code, d_are_bytes, d_is_byte, d_text_of, d_decoded, d_is_opcode, d_word_of, d_length_of, d_operand_at, d_joined_bytes, d_listing_line, d__law_refused, d_line_of, d_instruction_pieces, d_operand_piece, d_read_listing, d_code_in, d_lines_of, d_instruction_of_line, d_instruction_in, d_operand_in, d_number_in, d__law_spoilt, d__law_place, d__law_unread, d__law_broken], T, G, ["NUMBERS", "OPERANDS", "LIMITS", "SIZES"], [x_InvalidBytes, x_InvalidText]⟩
theorem c_law : FnC G i_law d_law := ⟨rfl, rfl, ["script"], ["script"], fun _ _ _ _ _ _ us hl => match us, hl with | [_], _ => rfl, by decide +kernel, .inl rfl⟩
theorem c__law_all : FnC G i__law_all d__law_all := ⟨rfl, rfl, ["script"], ["script", "jar", "great", "k", "lines", "code", "rows", "one", "told"], fun _ _ _ _ _ _ us hl => match us, hl with | [_], _ => rfl, by decide +kernel, .inl rfl⟩
theorem c__law_jar : FnC G i__law_jar d__law_jar := ⟨rfl, rfl, ["script"], ["script", "cell"], fun _ _ _ _ _ _ us hl => match us, hl with | [_], _ => rfl, by decide +kernel, .inl rfl⟩
theorem c__law_draw : FnC G i__law_draw d__law_draw := ⟨rfl, rfl, ["jar", "limit"], ["jar", "limit", "cell", "mixed", "digit"], fun _ _ _ _ _ _ us hl => match us, hl with | [_, _], _ => rfl, by decide +kernel, .inl rfl⟩
theorem c__law_instruction : FnC G i__law_instruction d__law_instruction := ⟨rfl, rfl, ["jar"], ["jar", "k", "kind", "word", "shape", "one", "told", "n"], fun _ _ _ _ _ _ us hl => match us, hl with | [_], _ => rfl, by decide +kernel, .inl rfl⟩
theorem c__law_table : FnC G i__law_table d__law_table := ⟨rfl, rfl, ["k"], ["k", "words", "shapes"], fun _ _ _ _ _ _ us hl => match us, hl with | [_], _ => rfl, by decide +kernel, .inl rfl⟩
theorem c__law_bytes : FnC G i__law_bytes d__law_bytes := ⟨rfl, rfl, ["came", "due"], ["came", "due", "one"], fun _ _ _ _ _ _ us hl => match us, hl with | [_, _], _ => rfl, by decide +kernel, .inl rfl⟩
theorem c__law_lines : FnC G i__law_lines d__law_lines := ⟨rfl, rfl, ["rows"], ["rows", "lines", "at", "one", "shape", "words", "k"], fun _ _ _ _ _ _ us hl => match us, hl with | [_], _ => rfl, by decide +kernel, .inl rfl⟩
theorem c_listed : FnC G i_listed d_listed := ⟨rfl, rfl, ["code"], ["code", "pairs", "fault"], fun _ _ _ _ _ _ us hl => match us, hl with | [_], _ => rfl, by decide +kernel, .inr fun _ _ _ _ _ _ us ws hu hw => match us, ws, hu, hw with | [], [_], _, _ => rfl⟩
theorem c_is_word_known : FnC G i_is_word_known d_is_word_known := ⟨rfl, rfl, ["value"], ["value"], fun _ _ _ _ _ _ us hl => match us, hl with | [_], _ => rfl, by decide +kernel, .inl rfl⟩
theorem c_is_string : FnC G i_is_string d_is_string := ⟨rfl, rfl, ["value"], ["value"], fun _ _ _ _ _ _ us hl => match us, hl with | [_], _ => rfl, by decide +kernel, .inl rfl⟩
theorem c_walked : FnC G i_walked d_walked := ⟨rfl, rfl, ["code"], ["code", "pairs", "at", "instruction"], fun _ _ _ _ _ _ us hl => match us, hl with | [_], _ => rfl, by decide +kernel, .inl rfl⟩
theorem c_is_number_below : FnC G i_is_number_below d_is_number_below := ⟨rfl, rfl, ["value", "limit"], ["value", "limit"], fun _ _ _ _ _ _ us hl => match us, hl with | [_, _], _ => rfl, by decide +kernel, .inl rfl⟩
theorem c_is_integer : FnC G i_is_integer d_is_integer := ⟨rfl, rfl, ["value"], ["value"], fun _ _ _ _ _ _ us hl => match us, hl with | [_], _ => rfl, by decide +kernel, .inl rfl⟩
theorem c_behind : FnC G i_behind d_behind := ⟨rfl, rfl, ["at", "instruction"], ["at", "instruction"], fun _ _ _ _ _ _ us hl => match us, hl with | [_, _], _ => rfl, by decide +kernel, .inl rfl⟩
theorem c_encoded : FnC G i_encoded d_encoded := ⟨rfl, rfl, ["instruction"], ["instruction", "word", "row", "kind", "operand"], fun _ _ _ _ _ _ us hl => match us, hl with | [_], _ => rfl, by decide +kernel, .inl rfl⟩
theorem c_operand_bytes : FnC G i_operand_bytes d_operand_bytes := ⟨rfl, rfl, ["kind", "operand"], ["kind", "operand"], fun _ _ _ _ _ _ us hl => match us, hl with | [_, _], _ => rfl, by decide +kernel, .inl rfl⟩
theorem c_high_and_low : FnC G i_high_and_low d_high_and_low := ⟨rfl, rfl, ["number"], ["number"], fun _ _ _ _ _ _ us hl => match us, hl with | [_], _ => rfl, by decide +kernel, .inl rfl⟩
theorem c_write_listing : FnC G i_write_listing d_write_listing := ⟨rfl, rfl, ["code"], ["code"], fun _ _ _ _ _ _ us hl => match us, hl with | [_], _ => rfl, by decide +kernel, .inr fun _ _ _ _ _ _ us ws hu hw => match us, ws, hu, hw with | [], [_], _, _ => rfl⟩
theorem c__law_same : FnC G i__law_same d__law_same := ⟨rfl, rfl, ["came", "due"], ["came", "due", "good", "k"], fun _ _ _ _ _ _ us hl => match us, hl with | [_, _], _ => rfl, by decide +kernel, .inl rfl⟩
theorem c_listing_of : FnC G i_listing_of d_listing_of := ⟨rfl, rfl, ["pairs"], ["pairs", "address", "instruction"], fun _ _ _ _ _ _ us hl => match us, hl with | [_], _ => rfl, by decide +kernel, .inl rfl⟩
theorem c_check_code : FnC G i_check_code d_check_code := ⟨rfl, rfl, ["code"], ["code"], fun _ _ _ _ _ _ us hl => match us, hl with | [_], _ => rfl, by decide +kernel, .inl rfl⟩
theorem c_are_bytes : FnC G i_are_bytes d_are_bytes := ⟨rfl, rfl, ["value"], ["value", "one"], fun _ _ _ _ _ _ us hl => match us, hl with | [_], _ => rfl, by decide +kernel, .inl rfl⟩
theorem c_is_byte : FnC G i_is_byte d_is_byte := ⟨rfl, rfl, ["value"], ["value"], fun _ _ _ _ _ _ us hl => match us, hl with | [_], _ => rfl, by decide +kernel, .inl rfl⟩
theorem c_text_of : FnC G i_text_of d_text_of := ⟨rfl, rfl, ["lines"], ["lines"], fun _ _ _ _ _ _ us hl => match us, hl with | [_], _ => rfl, by decide +kernel, .inl rfl⟩
theorem c_decoded : FnC G i_decoded d_decoded := ⟨rfl, rfl, ["code", "at"], ["code", "at", "word", "members", "place", "kind", "operand"], fun _ _ _ _ _ _ us hl => match us, hl with | [_, _], _ => rfl, by decide +kernel, .inl rfl⟩
theorem c_is_opcode : FnC G i_is_opcode d_is_opcode := ⟨rfl, rfl, ["number"], ["number"], fun _ _ _ _ _ _ us hl => match us, hl with | [_], _ => rfl, by decide +kernel, .inl rfl⟩
theorem c_word_of : FnC G i_word_of d_word_of := ⟨rfl, rfl, ["opcode"], ["opcode"], fun _ _ _ _ _ _ us hl => match us, hl with | [_], _ => rfl, by decide +kernel, .inl rfl⟩
theorem c_length_of : FnC G i_length_of d_length_of := ⟨rfl, rfl, ["word"], ["word", "kind"], fun _ _ _ _ _ _ us hl => match us, hl with | [_], _ => rfl, by decide +kernel, .inl rfl⟩
theorem c_operand_at : FnC G i_operand_at d_operand_at := ⟨rfl, rfl, ["kind", "code", "at"], ["kind", "code", "at", "number"], fun _ _ _ _ _ _ us hl => match us, hl with | [_, _, _], _ => rfl, by decide +kernel, .inl rfl⟩
theorem c_joined_bytes : FnC G i_joined_bytes d_joined_bytes := ⟨rfl, rfl, ["high", "low"], ["high", "low"], fun _ _ _ _ _ _ us hl => match us, hl with | [_, _], _ => rfl, by decide +kernel, .inl rfl⟩
theorem c_listing_line : FnC G i_listing_line d_listing_line := ⟨rfl, rfl, ["address", "instruction"], ["address", "instruction"], fun _ _ _ _ _ _ us hl => match us, hl with | [_, _], _ => rfl, by decide +kernel, .inl rfl⟩
theorem c__law_refused : FnC G i__law_refused d__law_refused := ⟨rfl, rfl, ["value", "form"], ["value", "form", "e"], fun _ _ _ _ _ _ us hl => match us, hl with | [_, _], _ => rfl, by decide +kernel, .inl rfl⟩
theorem c_line_of : FnC G i_line_of d_line_of := ⟨rfl, rfl, ["pieces"], ["pieces"], fun _ _ _ _ _ _ us hl => match us, hl with | [_], _ => rfl, by decide +kernel, .inl rfl⟩
theorem c_instruction_pieces : FnC G i_instruction_pieces d_instruction_pieces := ⟨rfl, rfl, ["instruction"], ["instruction", "pieces", "kind", "operand"], fun _ _ _ _ _ _ us hl => match us, hl with | [_], _ => rfl, by decide +kernel, .inl rfl⟩
theorem c_operand_piece : FnC G i_operand_piece d_operand_piece := ⟨rfl, rfl, ["kind", "operand"], ["kind", "operand"], fun _ _ _ _ _ _ us hl => match us, hl with | [_, _], _ => rfl, by decide +kernel, .inl rfl⟩
theorem c_read_listing : FnC G i_read_listing d_read_listing := ⟨rfl, rfl, ["text"], ["text", "code", "fault"], fun _ _ _ _ _ _ us hl => match us, hl with | [_], _ => rfl, by decide +kernel, .inl rfl⟩
theorem c_code_in : FnC G i_code_in d_code_in := ⟨rfl, rfl, ["text"], ["text", "code", "k", "line", "instruction"], fun _ _ _ _ _ _ us hl => match us, hl with | [_], _ => rfl, by decide +kernel, .inl rfl⟩
theorem c_lines_of : FnC G i_lines_of d_lines_of := ⟨rfl, rfl, ["text"], ["text"], fun _ _ _ _ _ _ us hl => match us, hl with | [_], _ => rfl, by decide +kernel, .inl rfl⟩
theorem c_instruction_of_line : FnC G i_instruction_of_line d_instruction_of_line := ⟨rfl, rfl, ["line", "address"], ["line", "address", "pieces"], fun _ _ _ _ _ _ us hl => match us, hl with | [_, _], _ => rfl, by decide +kernel, .inl rfl⟩
theorem c_instruction_in : FnC G i_instruction_in d_instruction_in := ⟨rfl, rfl, ["pieces"], ["pieces", "kinds", "members", "kind", "piece", "operand"], fun _ _ _ _ _ _ us hl => match us, hl with | [_], _ => rfl, by decide +kernel, .inl rfl⟩
theorem c_operand_in : FnC G i_operand_in d_operand_in := ⟨rfl, rfl, ["kind", "piece"], ["kind", "piece"], fun _ _ _ _ _ _ us hl => match us, hl with | [_, _], _ => rfl, by decide +kernel, .inl rfl⟩
theorem c_number_in : FnC G i_number_in d_number_in := ⟨rfl, rfl, ["piece", "limit"], ["piece", "limit", "number", "sign"], fun _ _ _ _ _ _ us hl => match us, hl with | [_, _], _ => rfl, by decide +kernel, .inl rfl⟩
theorem c__law_spoilt : FnC G i__law_spoilt d__law_spoilt := ⟨rfl, rfl, ["jar", "code", "form"], ["jar", "code", "form", "at", "kind", "bad", "due"], fun _ _ _ _ _ _ us hl => match us, hl with | [_, _, _], _ => rfl, by decide +kernel, .inl rfl⟩
theorem c__law_place : FnC G i__law_place d__law_place := ⟨rfl, rfl, ["code"], ["code", "at", "k", "shape", "place", "kind"], fun _ _ _ _ _ _ us hl => match us, hl with | [_], _ => rfl, by decide +kernel, .inl rfl⟩
theorem c__law_unread : FnC G i__law_unread d__law_unread := ⟨rfl, rfl, ["jar", "rows", "lines"], ["jar", "rows", "lines", "text", "e", "bad", "at"], fun _ _ _ _ _ _ us hl => match us, hl with | [_, _, _], _ => rfl, by decide +kernel, .inl rfl⟩
theorem c__law_broken : FnC G i__law_broken d__law_broken := ⟨rfl, rfl, ["jar", "rows", "lines"], ["jar", "rows", "lines", "j", "words", "new", "one", "form", "k", "bad"], fun _ _ _ _ _ _ us hl => match us, hl with | [_, _, _], _ => rfl, by decide +kernel, .inl rfl⟩
theorem allc : AllC LD.G LD.T.fns LD.fn := ⟨c_law, c__law_all, c__law_jar, c__law_draw, c__law_instruction, c__law_table, c__law_bytes, c__law_lines, c_listed, c_is_word_known, c_is_string, c_walked, c_is_number_below, c_is_integer, c_behind, c_encoded, c_operand_bytes, c_high_and_low, c_write_listing, c__law_same, c_listing_of, c_check_code, c_are_bytes, c_is_byte, c_text_of, c_decoded, c_is_opcode, c_word_of, c_length_of, c_operand_at, c_joined_bytes, c_listing_line, c__law_refused, c_line_of, c_instruction_pieces, c_operand_piece, c_read_listing, c_code_in, c_lines_of, c_instruction_of_line, c_instruction_in, c_operand_in, c_number_in, c__law_spoilt, c__law_place, c__law_unread, c__law_broken, trivial⟩
theorem h__law_same : FnC { G with inH := true } i__law_same d__law_same := ⟨rfl, rfl, ["came", "due"], ["came", "due", "good", "k"], fun _ _ _ _ _ _ us hl => match us, hl with | [_, _], _ => rfl, by decide +kernel, .inl rfl⟩
theorem allhot : AllHot LD.G LD.T LD.fn LD.G.hotf := ⟨⟨_, _, rfl, rfl, h__law_same⟩, trivial⟩
theorem xc_InvalidBytes : XC G x_InvalidBytes [0] := .one "self" "at" 0 (by decide +kernel) (fun _ _ _ _ _ _ _ us hl => match us, hl with | [_, _], _ => rfl)
theorem xc_InvalidText : XC G x_InvalidText [0, 1] := .two "self" "text" "at" 1 0 (by decide +kernel) (fun _ _ _ _ _ _ _ us hl => match us, hl with | [_, _, _], _ => rfl)
theorem xcs : XCs LD.G LD.T.excs LD.xi := ⟨xc_InvalidBytes, ⟨xc_InvalidText, trivial⟩⟩
theorem good : LD.good = true := by decide +kernel
end K66
set_option Elab.async false
set_option linter.all false
set_option maxRecDepth 100000
set_option maxHeartbeats 4000000
/-! Q0: words, shapes, tables; the tests of numbers. -/
namespace K66
open CN
variable {wf k : Nat}
inductive Kd where | r | n | A
  deriving DecidableEq
def Kd.str : Kd → PySem.Str | .r => "box" | .n => "byte" | .A => "address"
def Kd.sgn : Kd → PySem.Str | .r => "r" | .n => "n" | .A => "A"
def Kd.lim : Kd → Int | .r => 8 | .n => 256 | .A => 65536
def Kd.size : Kd → Nat | .r => 1 | .n => 1 | .A => 2
def wds : List PySem.Str := ["set", "copy", "add", "sub", "mul", "low", "ask", "tell", "get", "put", "less", "same", "jump", "call", "back", "push", "pop", "out", "stop"]
def shs : List (List Kd) := [[.r, .n], [.r, .r], [.r, .r, .r], [.r, .r, .r], [.r, .r, .r], [.r, .n], [.r], [.r], [.r, .A, .r], [.A, .r, .r], [.r, .r, .A], [.r, .r, .A], [.A], [.A], [], [.r], [.r], [.A], []]
def wd (j : Nat) : PySem.Str := wds.getD j PySem.Str.empty
def sh (j : Nat) : List Kd := shs.getD j []
theorem of_all {p : Nat → Bool} (h : (List.range 19).all p = true) {j : Nat} (hj : j < 19) : p j = true := List.all_eq_true.mp h j (List.mem_range.mpr hj)
def isD (o : Option D) (d : D) : Bool := match o with | some e => D.eqb e d | none => false
theorem isD_ok {o : Option D} {d : D} (h : isD o d = true) : o = some d := by
  cases o with
  | none => cases h
  | some e => rw [D.eqb_eq (show D.eqb e d = true from h)]
def kinds (j : Nat) : D := .tup ((sh j).map fun c => .str c.str)
theorem idx_opnds {j : Nat} (hj : j < 19) (s : Hs) : idxop T.tabs s (.tab 1) (.str (wd j)) = some (kinds j) :=
  isD_ok (of_all (p := fun j => isD (idxop T.tabs [] (.tab 1) (.str (wd j))) (kinds j)) (by decide +kernel) hj)
theorem idx_nums {j : Nat} (hj : j < 19) (s : Hs) : idxop T.tabs s (.tab 0) (.str (wd j)) = some (.int (j + 1 : Nat)) :=
  isD_ok (of_all (p := fun j => isD (idxop T.tabs [] (.tab 0) (.str (wd j))) (.int (j + 1 : Nat))) (by decide +kernel) hj)
theorem isin_nums {j : Nat} (hj : j < 19) (s : Hs) : cmpop T.tabs s .isin (.str (wd j)) (.tab 0) = some true := by
  have h := of_all (p := fun j => decide (cmpop T.tabs [] .isin (.str (wd j)) (.tab 0) = some true)) (by decide +kernel) hj
  exact of_decide_eq_true h
def wordsD : D := .tup (wds.map .str)
theorem glob4 : T.consts[4]? = some wordsD := rfl
theorem idx_words {j : Nat} (hj : j < 19) (s : Hs) : idxop T.tabs s wordsD (.int (j : Nat)) = some (.str (wd j)) :=
  isD_ok (of_all (p := fun j => isD (idxop T.tabs [] wordsD (.int (j : Nat))) (.str (wd j))) (by decide +kernel) hj)
theorem idx_lim (c : Kd) (s : Hs) : idxop T.tabs s (.tab 2) (.str c.str) = some (.int c.lim) := by
  have h : isD (idxop T.tabs [] (.tab 2) (.str c.str)) (.int c.lim) = true := by cases c <;> decide +kernel
  exact isD_ok h
theorem idx_size (c : Kd) (s : Hs) : idxop T.tabs s (.tab 3) (.str c.str) = some (.int (c.size : Nat)) := by
  have h : isD (idxop T.tabs [] (.tab 3) (.str c.str)) (.int (c.size : Nat)) = true := by cases c <;> decide +kernel
  exact isD_ok h
theorem strOk_wd {j : Nat} (hj : j < 19) : PySem.PyData.strOk (wd j) = true := of_all (p := fun j => PySem.PyData.strOk (wd j)) (by decide +kernel) hj
theorem sh_len {j : Nat} (hj : j < 19) : (sh j).length ≤ 3 := of_decide_eq_true (of_all (p := fun j => decide ((sh j).length ≤ 3)) (by decide +kernel) hj)
/-! tests of values -/
def plainD : D → Bool
  | .non => true | .bl _ => true | .int _ => true | .str _ => true | .tup _ => true | .tl _ => true
  | _ => false
def isInt : D → Bool
  | .int _ => true
  | _ => false
def below (d : D) (lim : Int) : Bool := match d with
  | .int i => decide (0 ≤ i) && decide (i < lim)
  | _ => false
theorem r13 {d : D} (h : plainD d = true) (s : Hs) : runFn T wf (k + 1) 13 [d] s = .ok (.bl (isInt d)) s := by
  rw [rf (f := i_is_integer) rfl rfl]
  cases d <;> first | rfl | cases h
theorem r12 {d : D} (h : plainD d = true) (lim : Int) (s : Hs) : runFn T wf (k + 2) 12 [d, .int lim] s = .ok (.bl (below d lim)) s := by
  rw [rf (f := i_is_number_below) rfl rfl]
  have h13 := r13 (wf := wf) (k := k) h s
  cases d with
  | int i =>
    by_cases h0 : 0 ≤ i
    · simp [i_is_number_below, h13, isInt, below, h0, evalE, evalT, evalEs, evalO, evalC, evalI, evalSs, evalS, evP, evPs, evO, evC, evI, pE, consL, pick, and2, or2, andT2, orT2, callM, callvM, makeM, madeBy, methM, biM, bmM, attrM, idxM, slM, soM, tupM, lstM, boxed, binM, cmpM, isNM, chainM, CN.notM, notT, negM, iteM, varM, asgM, subM, fldM, parM, augM, augfM, CN.forM, thruM, truly, assignTg, setAll, startE, fin, back, truth, binop, cmpop, idxop, slop, inD, bifun, bmeth, bmTy, seqAt, lstAt, tyName, isi, isNd, lenOk, putN, augop]
    · simp [i_is_number_below, h13, isInt, below, h0, evalE, evalT, evalEs, evalO, evalC, evalI, evalSs, evalS, evP, evPs, evO, evC, evI, pE, consL, pick, and2, or2, andT2, orT2, callM, callvM, makeM, madeBy, methM, biM, bmM, attrM, idxM, slM, soM, tupM, lstM, boxed, binM, cmpM, isNM, chainM, CN.notM, notT, negM, iteM, varM, asgM, subM, fldM, parM, augM, augfM, CN.forM, thruM, truly, assignTg, setAll, startE, fin, back, truth, binop, cmpop, idxop, slop, inD, bifun, bmeth, bmTy, seqAt, lstAt, tyName, isi, isNd, lenOk, putN, augop]
  | _ => first | (simp [i_is_number_below, h13, isInt, below, evalE, evalT, evalEs, evalO, evalC, evalI, evalSs, evalS, evP, evPs, evO, evC, evI, pE, consL, pick, and2, or2, andT2, orT2, callM, callvM, makeM, madeBy, methM, biM, bmM, attrM, idxM, slM, soM, tupM, lstM, boxed, binM, cmpM, isNM, chainM, CN.notM, notT, negM, iteM, varM, asgM, subM, fldM, parM, augM, augfM, CN.forM, thruM, truly, assignTg, setAll, startE, fin, back, truth, binop, cmpop, idxop, slop, inD, bifun, bmeth, bmTy, seqAt, lstAt, tyName, isi, isNd, lenOk, putN, augop]; done) | cases h
theorem r23 {d : D} (h : plainD d = true) (s : Hs) : runFn T wf (k + 3) 23 [d] s = .ok (.bl (below d 256)) s := by
  rw [rf (f := i_is_byte) rfl rfl]
  have h12 := r12 (wf := wf) (k := k) h 256 s
  simp [i_is_byte, h12, evalE, evalT, evalEs, evalO, evalC, evalI, evalSs, evalS, evP, evPs, evO, evC, evI, pE, consL, pick, and2, or2, andT2, orT2, callM, callvM, makeM, madeBy, methM, biM, bmM, attrM, idxM, slM, soM, tupM, lstM, boxed, binM, cmpM, isNM, chainM, CN.notM, notT, negM, iteM, varM, asgM, subM, fldM, parM, augM, augfM, CN.forM, thruM, truly, assignTg, setAll, startE, fin, back, truth, binop, slop, bifun, bmeth, bmTy, seqAt, lstAt, tyName, isi, isNd, lenOk, putN, augop]
end K66
set_option Elab.async false
set_option linter.all false
set_option maxRecDepth 100000
set_option maxHeartbeats 4000000
/-! Q1: is_instruction. -/
namespace K66
open CN
variable {wf k : Nat}
theorem bools_map : ∀ bs : List Bool, bools? (bs.map D.bl) = some bs
  | [] => rfl
  | b :: bs => by
    show (bools? (bs.map D.bl)).map (b :: ·) = _
    rw [bools_map bs]
    rfl
theorem cut1 {x : D} {ds : List D} : CN.cut (x :: ds) (some 1) none = ds := by
  have h1 : HT.sIx (x :: ds).length 0 (some 1) = 1 := by
    show min (1 : Int).toNat (x :: ds).length = 1
    simp
  have h2 : HT.sIx (x :: ds).length (x :: ds).length none = ds.length + 1 := by
    show (x :: ds).length = _
    simp
  unfold CN.cut
  rw [h1, h2]
  simp
theorem r10 {d : D} (h : plainD d = true) (s : Hs) : runFn T wf (k + 1) 10 [d] s = .ok (.bl (match d with | .str _ => true | _ => false)) s := by
  rw [rf (f := i_is_string) rfl rfl]
  cases d <;> first | rfl | cases h
theorem r9 {j : Nat} (hj : j < 19) (s : Hs) : runFn T wf (k + 2) 9 [.str (wd j)] s = .ok (.bl true) s := by
  rw [rf (f := i_is_word_known) rfl rfl]
  have h10 := r10 (wf := wf) (k := k) (d := .str (wd j)) rfl s
  have hg : T.consts[0]? = some (.tab 0) := rfl
  simp [i_is_word_known, h10, hg, isin_nums hj, evalE, evalT, evalEs, evalO, evalC, evalI, evalSs, evalS, evP, evPs, evO, evC, evI, pE, consL, pick, and2, or2, andT2, orT2, callM, callvM, makeM, madeBy, methM, biM, bmM, attrM, idxM, slM, soM, tupM, lstM, boxed, binM, cmpM, isNM, chainM, CN.notM, notT, negM, iteM, varM, asgM, subM, fldM, parM, augM, augfM, CN.forM, thruM, truly, assignTg, setAll, startE, fin, back, truth, binop, slop, bifun, bmeth, bmTy, seqAt, lstAt, tyName, isi, isNd, lenOk, putN, augop]
end K66
set_option Elab.async false
set_option linter.all false
set_option maxRecDepth 100000
set_option maxHeartbeats 4000000
/-! Q2: encoded, encoded_all, bytes_of, assembled. -/
namespace K66
open CN
variable {wf k : Nat}
def encK : Kd → Int → List Int
  | .A, x => [x / 256, x % 256]
  | _, x => [x]
def encs : List Kd → List Int → List Int
  | c :: cs, x :: xs => encK c x ++ encs cs xs
  | _, _ => []
def vals : List Kd → List Int → Prop
  | [], [] => True
  | c :: cs, x :: xs => (0 ≤ x ∧ x < c.lim) ∧ vals cs xs
  | _, _ => False
def insD (j : Nat) (ns : List Int) : D := .tup (.str (wd j) :: ns.map D.int)
def row (j : Nat) (ns : List Int) : List Int := ((j + 1 : Nat) : Int) :: encs (sh j) ns
theorem vals_len : ∀ {cs : List Kd} {ns : List Int}, vals cs ns → ns.length = cs.length
  | [], [], _ => rfl
  | [], _ :: _, h => h.elim
  | _ :: _, [], h => h.elim
  | c :: cs, x :: xs, h => by simp [vals_len h.2]
theorem encs_len : ∀ (cs : List Kd) (ns : List Int), (encs cs ns).length ≤ 2 * cs.length
  | [], _ => by simp [encs]
  | _ :: _, [] => by simp [encs]
  | c :: cs, x :: xs => by
    have := encs_len cs xs
    cases c <;> simp [encs, encK] <;> omega
theorem row_len {j : Nat} (hj : j < 19) (ns : List Int) : (row j ns).length ≤ 7 := by
  have h1 := encs_len (sh j) ns
  have h2 := sh_len hj
  simp [row]
  omega
theorem isAddr (c : Kd) (s : Hs) : cmpop T.tabs s .eq (.str c.str) (.str "address") = some (decide (c = .A)) := by
  cases c <;> exact (eqD_str s _ _ (by decide +kernel) (by decide +kernel)).trans (congrArg some (by decide +kernel))
theorem m256 (x : Int) : x.fmod 256 = x % 256 := fm (by decide)
theorem d256 (x : Int) : x.fdiv 256 = x / 256 := fd (by decide)
theorem r17 (x : Int) (s : Hs) : runFn T wf (k + 1) 17 [.int x] s = .ok (.tup [.int (x / 256), .int (x % 256)]) s := by
  rw [rf (f := i_high_and_low) rfl rfl]
  have hg : T.consts[3]? = some (.int 256) := rfl
  have z : 2 ≤ PySem.sizeLine := by decide
  simp [i_high_and_low, hg, m256, d256, z, evalE, evalT, evalEs, evalO, evalC, evalI, evalSs, evalS, evP, evPs, evO, evC, evI, pE, consL, pick, and2, or2, andT2, orT2, callM, callvM, makeM, madeBy, methM, biM, bmM, attrM, idxM, slM, soM, tupM, lstM, boxed, binM, cmpM, isNM, chainM, CN.notM, notT, negM, iteM, varM, asgM, subM, fldM, parM, augM, augfM, CN.forM, thruM, truly, assignTg, setAll, startE, fin, back, truth, binop, slop, bifun, bmeth, bmTy, seqAt, lstAt, tyName, isi, isNd, lenOk, putN, augop]
theorem r16 (c : Kd) (x : Int) (s : Hs) : runFn T wf (k + 2) 16 [.str c.str, .int x] s = .ok (.tup ((encK c x).map D.int)) s := by
  rw [rf (f := i_operand_bytes) rfl rfl]
  have h17 := r17 (wf := wf) (k := k) x s
  have ha := isAddr c s
  have z : 1 ≤ PySem.sizeLine := by decide
  by_cases h : c = .A
  · subst h
    simp [i_operand_bytes, h17, ha, encK, evalE, evalT, evalEs, evalO, evalC, evalI, evalSs, evalS, evP, evPs, evO, evC, evI, pE, consL, pick, and2, or2, andT2, orT2, callM, callvM, makeM, madeBy, methM, biM, bmM, attrM, idxM, slM, soM, tupM, lstM, boxed, binM, cmpM, isNM, chainM, CN.notM, notT, negM, iteM, varM, asgM, subM, fldM, parM, augM, augfM, CN.forM, thruM, truly, assignTg, setAll, startE, fin, back, truth, binop, slop, bifun, bmeth, bmTy, seqAt, lstAt, tyName, isi, isNd, lenOk, putN, augop]
  · have e : encK c x = [x] := by cases c <;> first | rfl | exact absurd rfl h
    simp [i_operand_bytes, ha, h, e, z, evalE, evalT, evalEs, evalO, evalC, evalI, evalSs, evalS, evP, evPs, evO, evC, evI, pE, consL, pick, and2, or2, andT2, orT2, callM, callvM, makeM, madeBy, methM, biM, bmM, attrM, idxM, slM, soM, tupM, lstM, boxed, binM, cmpM, isNM, chainM, CN.notM, notT, negM, iteM, varM, asgM, subM, fldM, parM, augM, augfM, CN.forM, thruM, truly, assignTg, setAll, startE, fin, back, truth, binop, slop, bifun, bmeth, bmTy, seqAt, lstAt, tyName, isi, isNd, lenOk, putN, augop]
def eBody : Sts := .cons (.expr (.bm .extend (.var 2) (.cons (.call 16 (.cons (.var 3) (.cons (.var 4) .nil))) .nil))) .nil
theorem eTurn (a b p q : Sl) (c : Kd) (x : Int) (acc : List D) (hl : acc.length + 2 ≤ 5000) : forStep (.tp [3, 4]) (evalSs T wf (runFn T wf (k + 2)) eBody) (.tup [.str c.str, .int x]) [a, b, .has (.ref 0), p, q] [.lst acc] = .ok (.next [a, b, .has (.ref 0), .has (.str c.str), .has (.int x)]) [.lst (acc ++ (encK c x).map D.int)] := by
  have h := r16 (wf := wf) (k := k) c x [GO.lst acc]
  have hle : (encK c x).length ≤ 2 := by cases c <;> simp [encK]
  have hz : acc.length + (encK c x).length ≤ PySem.sizeLine := small5 (by omega)
  have e : forStep (.tp [3, 4]) (evalSs T wf (runFn T wf (k + 2)) eBody) (.tup [.str c.str, .int x]) [a, b, .has (.ref 0), p, q] [.lst acc] = evalSs T wf (runFn T wf (k + 2)) eBody [a, b, .has (.ref 0), .has (.str c.str), .has (.int x)] [.lst acc] := rfl
  rw [e]
  unfold eBody
  simp [h, hz, seqAt0, evalE, evalT, evalEs, evalO, evalC, evalI, evalSs, evalS, evP, evPs, evO, evC, evI, pE, consL, pick, and2, or2, andT2, orT2, callM, callvM, makeM, madeBy, methM, biM, bmM, attrM, idxM, slM, soM, tupM, lstM, boxed, binM, cmpM, isNM, chainM, CN.notM, notT, negM, iteM, varM, asgM, subM, fldM, parM, augM, augfM, CN.forM, thruM, truly, assignTg, setAll, startE, fin, back, truth, binop, slop, bifun, bmeth, bmTy, seqAt, lstAt, tyName, isi, isNd, lenOk, putN, augop]
theorem eLoop (a b : Sl) : ∀ (cs : List Kd) (ns : List Int) (p q : Sl) (acc : List D), acc.length + 2 * cs.length ≤ 5000 → ∃ p' q', loopFor (forStep (.tp [3, 4]) (evalSs T wf (runFn T wf (k + 2)) eBody)) none (zipD (cs.map fun (c : Kd) => D.str c.str) (ns.map D.int)) [a, b, .has (.ref 0), p, q] [.lst acc] = .ok (.next [a, b, .has (.ref 0), p', q']) [.lst (acc ++ (encs cs ns).map D.int)]
  | [], ns, p, q, acc, _ => ⟨p, q, by cases ns <;> simp [zipD, loopFor, encs]⟩
  | _ :: _, [], p, q, acc, _ => ⟨p, q, by simp [zipD, loopFor, encs]⟩
  | c :: cs, x :: xs, p, q, acc, hl => by
    rw [List.length_cons] at hl
    have hle : (encK c x).length ≤ 2 := by cases c <;> simp [encK]
    obtain ⟨p', q', h⟩ := eLoop a b cs xs (.has (.str c.str)) (.has (.int x)) (acc ++ (encK c x).map D.int) (by simp; omega)
    refine ⟨p', q', ?_⟩
    show loopFor _ none (.tup [.str c.str, .int x] :: zipD (cs.map fun (c : Kd) => D.str c.str) (xs.map D.int)) _ _ = _
    rw [loopFor_nx (eTurn a b p q c x acc (by omega)) rfl, h]
    simp [encs]
theorem r15 {j : Nat} (hj : j < 19) {ns : List Int} (s : Hs) : runFn T wf (k + 3) 15 [insD j ns] s = .ok (.tup ((row j ns).map D.int)) s := by
  have hn : noRefs [insD j ns] = true := by
    have h : ∀ xs : List Int, noRefs (xs.map D.int) = true := by
      intro xs
      induction xs with
      | nil => rfl
      | cons x xs ih => show (true && noRefs (xs.map D.int)) = true; rw [ih]; rfl
    show ((true && noRefs (ns.map D.int)) && true) = true
    rw [h]
    rfl
  rw [rf4 (f := i_encoded) rfl rfl hn]
  have h0 := idx_nums hj ([] : Hs)
  have h1 := idx_opnds hj ([GO.lst [.int ((j + 1 : Nat) : Int)]] : Hs)
  have g0 : T.consts[0]? = some (.tab 0) := rfl
  have g1 : T.consts[1]? = some (.tab 1) := rfl
  have z : 1 ≤ PySem.sizeLine := by decide
  obtain ⟨p', q', hL⟩ := eLoop (wf := wf) (k := k) (.has (insD j ns)) (.has (.str (wd j))) (sh j) ns .no .no [.int ((j + 1 : Nat) : Int)] (by have := sh_len hj; simp; omega)
  have t1 : (evP T (runFn T wf (k + 2)) (.idx (.var 0) (.cst (.int 0)))).e [.has (insD j ns), .no, .no, .no, .no] [] = .ok (.str (wd j)) [] := by simp [insD, evalE, evalT, evalEs, evalO, evalC, evalI, evalSs, evalS, evP, evPs, evO, evC, evI, pE, consL, pick, and2, or2, andT2, orT2, callM, callvM, makeM, madeBy, methM, biM, bmM, attrM, idxM, slM, soM, tupM, lstM, boxed, binM, cmpM, isNM, chainM, CN.notM, notT, negM, iteM, varM, asgM, subM, fldM, parM, augM, augfM, CN.forM, thruM, truly, assignTg, setAll, startE, fin, back, truth, binop, slop, bifun, bmeth, bmTy, seqAt, lstAt, tyName, isi, isNd, lenOk, putN, augop]
  have t2 : (evP T (runFn T wf (k + 2)) (.box (.lst (.cons (.idx (.glob 0) (.var 1)) .nil)))).e [.has (insD j ns), .has (.str (wd j)), .no, .no, .no] [] = .ok (.ref 0) [.lst [.int ((j + 1 : Nat) : Int)]] := by simp [g0, h0, z, evalE, evalT, evalEs, evalO, evalC, evalI, evalSs, evalS, evP, evPs, evO, evC, evI, pE, consL, pick, and2, or2, andT2, orT2, callM, callvM, makeM, madeBy, methM, biM, bmM, attrM, idxM, slM, soM, tupM, lstM, boxed, binM, cmpM, isNM, chainM, CN.notM, notT, negM, iteM, varM, asgM, subM, fldM, parM, augM, augfM, CN.forM, thruM, truly, assignTg, setAll, startE, fin, back, truth, binop, slop, bifun, bmeth, bmTy, seqAt, lstAt, tyName, isi, isNd, lenOk, putN, augop]
  have t3 : evI T (runFn T wf (k + 2)) (.zip (.idx (.glob 1) (.var 1)) (.sl (.var 0) (.so (.cst (.int 1))) .no)) [.has (insD j ns), .has (.str (wd j)), .has (.ref 0), .no, .no] [.lst [.int ((j + 1 : Nat) : Int)]] = .ok (zipD ((sh j).map fun (c : Kd) => D.str c.str) (ns.map D.int), none) [.lst [.int ((j + 1 : Nat) : Int)]] := by
    have e : evI T (runFn T wf (k + 2)) (.zip (.idx (.glob 1) (.var 1)) (.sl (.var 0) (.so (.cst (.int 1))) .no)) [.has (insD j ns), .has (.str (wd j)), .has (.ref 0), .no, .no] [.lst [.int ((j + 1 : Nat) : Int)]] = (Res.of (idxop T.tabs [.lst [.int ((j + 1 : Nat) : Int)]] (.tab 1) (.str (wd j))) [.lst [.int ((j + 1 : Nat) : Int)]]).bind fun x s1 => (Res.ok (.tup (CN.cut (.str (wd j) :: ns.map D.int) (some 1) none)) s1 : Res D).bind fun y s2 => zipI x y s2 := rfl
    rw [e, h1, cut1]
    rfl
  have e0 : i_encoded.body = .cons (.asg (.nm 1) (.idx (.var 0) (.cst (.int 0)))) (.cons (.asg (.nm 2) (.box (.lst (.cons (.idx (.glob 0) (.var 1)) .nil)))) (.cons (.for_ (.tp [3, 4]) (.zip (.idx (.glob 1) (.var 1)) (.sl (.var 0) (.so (.cst (.int 1))) .no)) eBody) (.cons (.ret (.bi .tuple (.cons (.var 2) .nil))) .nil))) := rfl
  have e1 : startE i_encoded.slots [insD j ns] = [.has (insD j ns), .no, .no, .no, .no] := rfl
  rw [e0, e1, nx (asg_ok t1)]
  show backF 4 s (evalSs T wf (runFn T wf (k + 2)) _ [.has (insD j ns), .has (.str (wd j)), .no, .no, .no] []) = _
  rw [nx (asg_ok t2)]
  show backF 4 s (evalSs T wf (runFn T wf (k + 2)) _ [.has (insD j ns), .has (.str (wd j)), .has (.ref 0), .no, .no] _) = _
  rw [nx (for_ok t3 hL)]
  have t4 : (evP T (runFn T wf (k + 2)) (.bi .tuple (.cons (.var 2) .nil))).e [.has (insD j ns), .has (.str (wd j)), .has (.ref 0), p', q'] [.lst ([.int ((j + 1 : Nat) : Int)] ++ (encs (sh j) ns).map D.int)] = .ok (.tup ((row j ns).map D.int)) [.lst ([.int ((j + 1 : Nat) : Int)] ++ (encs (sh j) ns).map D.int)] := by simp [row, evalE, evalT, evalEs, evalO, evalC, evalI, evalSs, evalS, evP, evPs, evO, evC, evI, pE, consL, pick, and2, or2, andT2, orT2, callM, callvM, makeM, madeBy, methM, biM, bmM, attrM, idxM, slM, soM, tupM, lstM, boxed, binM, cmpM, isNM, chainM, CN.notM, notT, negM, iteM, varM, asgM, subM, fldM, parM, augM, augfM, CN.forM, thruM, truly, assignTg, setAll, startE, fin, back, truth, binop, slop, bifun, bmeth, bmTy, seqAt, lstAt, tyName, isi, isNd, lenOk, putN, augop]
  rw [rt (ret_ok t4)]
  have hr : noRef (.tup ((row j ns).map D.int)) = true := by
    show noRefs ((row j ns).map D.int) = true
    induction row j ns with
    | nil => rfl
    | cons x xs ih => show (true && noRefs (xs.map D.int)) = true; rw [ih]; rfl
  show (if noRef (.tup ((row j ns).map D.int)) = true then _ else _) = _
  rw [if_pos hr]
end K66
set_option Elab.async false
set_option linter.all false
set_option maxRecDepth 100000
set_option maxHeartbeats 4000000
/-! Q3: encoded_all, bytes_of, assembled; what they refuse. -/
namespace K66
open CN
variable {wf k : Nat}
theorem bf_ret {flag : Nat} {s s1 : Hs} {d : D} (h : noRef d = true) : backF flag s (.ok (.ret d) s1) = .ok d s := if_pos h
theorem bf_exc {flag c : Nat} {s s1 : Hs} {env : CN.Env} {fs : List (Nat × D)} (h : (fs.all fun p => noRef p.2) = true) : backF flag s (.ok (.exc env c fs) s1) = .err c fs s := if_pos h
abbrev Is (ps : List (Nat × List Int)) : Prop := ∀ p ∈ ps, p.1 < 19 ∧ vals (sh p.1) p.2
def insDs (ps : List (Nat × List Int)) : List D := ps.map fun p => insD p.1 p.2
def rowsAll : List (Nat × List Int) → List Int
  | [] => []
  | p :: ps => row p.1 p.2 ++ rowsAll ps
theorem noRefs_ints : ∀ xs : List Int, noRefs (xs.map D.int) = true
  | [] => rfl
  | x :: xs => by show (true && noRefs (xs.map D.int)) = true; rw [noRefs_ints xs]; rfl
theorem noRef_ins (j : Nat) (ns : List Int) : noRef (insD j ns) = true := by
  show (true && noRefs (ns.map D.int)) = true
  rw [noRefs_ints]
  rfl
theorem noRefs_append : ∀ {a b : List D}, noRefs a = true → noRefs b = true → noRefs (a ++ b) = true
  | [], b, _, h => h
  | x :: xs, b, h, h2 => by
    have h' : (noRef x && noRefs xs) = true := h
    rw [Bool.and_eq_true] at h'
    show (noRef x && noRefs (xs ++ b)) = true
    rw [h'.1, noRefs_append h'.2 h2]
    rfl
theorem rowsAll_len : ∀ {ps}, Is ps → (rowsAll ps).length ≤ 7 * ps.length
  | [], _ => by simp [rowsAll]
  | p :: ps, h => by
    have h1 := row_len (h p List.mem_cons_self).1 p.2
    have h2 := rowsAll_len fun q hq => h q (List.mem_cons_of_mem _ hq)
    simp [rowsAll]
    omega
theorem rs_ok {T : Tb} {wf c f : Nat} {call : Nat → List D → Hs → Res D} {env : CN.Env} {s s' : Hs} {e : Ex} {d : D} (hx : T.excs[c]? = some [f]) (h : (evP T call e).e env s = .ok d s') : evalS T wf call (.raise c (.cons e .nil)) env s = .ok (.exc env c [(f, d)]) s' := by
  rw [evalS]
  unfold raiseM
  rw [hx]
  dsimp only
  have e1 : evalEs T call (.cons e .nil) env s = .ok [d] s' := by
    show ((evP T call e).e env s).bind (fun d s1 => (Res.ok [] s1 : Res (List D)).bind fun ds s2 => .ok (d :: ds) s2) = _
    rw [h]
    rfl
  rw [e1, Res.bs_ok]
  rfl
theorem xs_ok {T : Tb} {wf c : Nat} {call : Nat → List D → Hs → Res D} {env env' : CN.Env} {s s' : Hs} {fs : List (Nat × D)} {st : CN.St} {sts : Sts} (h : evalS T wf call st env s = .ok (.exc env' c fs) s') : evalSs T wf call (.cons st sts) env s = .ok (.exc env' c fs) s' := by
  rw [evalSs]
  dsimp only
  rw [h, Res.bind_ok]
theorem not_t {T : Tb} {call : Nat → List D → Hs → Res D} {env : CN.Env} {s s' : Hs} {e : Ex} {b : Bool} (h : (evP T call e).t env s = .ok b s') : (evP T call (.not e)).t env s = .ok (!b) s' := by
  rw [evP]
  show notT (evP T call e).t env s = _
  unfold notT
  rw [h]
  rfl
theorem call1 {T : Tb} {call : Nat → List D → Hs → Res D} {env : CN.Env} {s s' : Hs} {g i : Nat} {d r : D} (hv : env[i]? = some (.has d)) (h : call g [d] s = .ok r s') : (evP T call (.call g (.cons (.var i) .nil))).e env s = .ok r s' := by
  have e : (evP T call (.call g (.cons (.var i) .nil))).e env s = ((varM i env s).bind fun d s1 => (Res.ok [] s1 : Res (List D)).bind fun ds s2 => .ok (d :: ds) s2).bind fun ds s1 => call g ds s1 := rfl
  have e1 : varM i env s = .ok d s := by unfold varM; rw [hv]
  rw [e, e1]
  exact h
theorem call1t {T : Tb} {call : Nat → List D → Hs → Res D} {env : CN.Env} {s s' : Hs} {g i : Nat} {d : D} {b : Bool} (hv : env[i]? = some (.has d)) (h : call g [d] s = .ok (.bl b) s') : (evP T call (.call g (.cons (.var i) .nil))).t env s = .ok b s' := by
  show truly (evP T call (.call g (.cons (.var i) .nil))).e env s = _
  unfold truly
  rw [call1 hv h]
  rfl
def notTup : D → Bool
  | .non => true | .bl _ => true | .int _ => true | .str _ => true | .tl _ => true
  | _ => false
end K66
set_option Elab.async false
set_option linter.all false
set_option maxRecDepth 100000
set_option maxHeartbeats 4000000
/-! Q4: the words' lengths, the law's table. -/
namespace K66
open CN
variable {wf k : Nat}
def sz : List Kd → Nat
  | [] => 0
  | c :: cs => c.size + sz cs
def sss : List PySem.Str := ["rn", "rr", "rrr", "rrr", "rrr", "rn", "r", "r", "rAr", "Arr", "rrA", "rrA", "A", "A", "", "r", "r", "A", ""]
def ss (j : Nat) : PySem.Str := sss.getD j PySem.Str.empty
theorem signs_ss {j : Nat} (hj : j < 19) : signs (ss j) = (sh j).map fun (c : Kd) => D.str c.sgn :=
  D.eqbs_eq (of_all (p := fun j => D.eqbs (signs (ss j)) ((sh j).map fun (c : Kd) => D.str c.sgn)) (by decide +kernel) hj)
theorem ss_len {j : Nat} (hj : j < 19) : (ss j).length = (sh j).length := of_decide_eq_true (of_all (p := fun j => decide ((ss j).length = (sh j).length)) (by decide +kernel) hj)

theorem r28 : ∀ (j : Nat), j < 19 → ∀ s : Hs, runFn T wf (k + 1) 28 [.str (wd j)] s = .ok (.int ((1 + sz (sh j) : Nat) : Int)) s
  | 0, _, s => by kernel_rfl
  | 1, _, s => by kernel_rfl
  | 2, _, s => by kernel_rfl
  | 3, _, s => by kernel_rfl
  | 4, _, s => by kernel_rfl
  | 5, _, s => by kernel_rfl
  | 6, _, s => by kernel_rfl
  | 7, _, s => by kernel_rfl
  | 8, _, s => by kernel_rfl
  | 9, _, s => by kernel_rfl
  | 10, _, s => by kernel_rfl
  | 11, _, s => by kernel_rfl
  | 12, _, s => by kernel_rfl
  | 13, _, s => by kernel_rfl
  | 14, _, s => by kernel_rfl
  | 15, _, s => by kernel_rfl
  | 16, _, s => by kernel_rfl
  | 17, _, s => by kernel_rfl
  | 18, _, s => by kernel_rfl
  | j + 19, h, _ => absurd h (by omega)
theorem r5 : ∀ (j : Nat), j < 19 → ∀ s : Hs, runFn T wf (k + 1) 5 [.int (j : Int)] s = .ok (.tup [.str (wd j), .str (ss j)]) s
  | 0, _, s => by kernel_rfl
  | 1, _, s => by kernel_rfl
  | 2, _, s => by kernel_rfl
  | 3, _, s => by kernel_rfl
  | 4, _, s => by kernel_rfl
  | 5, _, s => by kernel_rfl
  | 6, _, s => by kernel_rfl
  | 7, _, s => by kernel_rfl
  | 8, _, s => by kernel_rfl
  | 9, _, s => by kernel_rfl
  | 10, _, s => by kernel_rfl
  | 11, _, s => by kernel_rfl
  | 12, _, s => by kernel_rfl
  | 13, _, s => by kernel_rfl
  | 14, _, s => by kernel_rfl
  | 15, _, s => by kernel_rfl
  | 16, _, s => by kernel_rfl
  | 17, _, s => by kernel_rfl
  | 18, _, s => by kernel_rfl
  | j + 19, h, _ => absurd h (by omega)
theorem r26 (x : Int) (s : Hs) : runFn T wf (k + 1) 26 [.int x] s = .ok (.bl (decide (1 ≤ x) && decide (x ≤ 19))) s := by
  rw [rf (f := i_is_opcode) rfl rfl]
  have hg : T.consts[4]? = some wordsD := rfl
  have hl : bifun s .len [wordsD] = some (.int 19) := rfl
  by_cases h : 1 ≤ x
  · simp [i_is_opcode, hg, hl, h, wordsD, wds, evalE, evalT, evalEs, evalO, evalC, evalI, evalSs, evalS, evP, evPs, evO, evC, evI, pE, consL, pick, and2, or2, andT2, orT2, callM, callvM, makeM, madeBy, methM, biM, bmM, attrM, idxM, slM, soM, tupM, lstM, boxed, binM, cmpM, isNM, chainM, CN.notM, notT, negM, iteM, varM, asgM, subM, fldM, parM, augM, augfM, CN.forM, thruM, truly, assignTg, setAll, startE, fin, back, truth, binop, slop, bifun, bmeth, bmTy, seqAt, lstAt, tyName, isi, isNd, lenOk, putN, augop]
  · simp [i_is_opcode, h, evalE, evalT, evalEs, evalO, evalC, evalI, evalSs, evalS, evP, evPs, evO, evC, evI, pE, consL, pick, and2, or2, andT2, orT2, callM, callvM, makeM, madeBy, methM, biM, bmM, attrM, idxM, slM, soM, tupM, lstM, boxed, binM, cmpM, isNM, chainM, CN.notM, notT, negM, iteM, varM, asgM, subM, fldM, parM, augM, augfM, CN.forM, thruM, truly, assignTg, setAll, startE, fin, back, truth, binop, slop, bifun, bmeth, bmTy, seqAt, lstAt, tyName, isi, isNd, lenOk, putN, augop]
theorem r27 {j : Nat} (hj : j < 19) (s : Hs) : runFn T wf (k + 1) 27 [.int ((j + 1 : Nat) : Int)] s = .ok (.str (wd j)) s := by
  rw [rf (f := i_word_of) rfl rfl]
  have hg : T.consts[4]? = some wordsD := rfl
  have hi := idx_words hj s
  have e : ((j + 1 : Nat) : Int) - 1 = (j : Nat) := by omega
  have e' : ((j : Int) + 1) - 1 = (j : Nat) := by omega
  simp [i_word_of, hg, hi, e, e', evalE, evalT, evalEs, evalO, evalC, evalI, evalSs, evalS, evP, evPs, evO, evC, evI, pE, consL, pick, and2, or2, andT2, orT2, callM, callvM, makeM, madeBy, methM, biM, bmM, attrM, idxM, slM, soM, tupM, lstM, boxed, binM, cmpM, isNM, chainM, CN.notM, notT, negM, iteM, varM, asgM, subM, fldM, parM, augM, augfM, CN.forM, thruM, truly, assignTg, setAll, startE, fin, back, truth, binop, slop, bifun, bmeth, bmTy, seqAt, lstAt, tyName, isi, isNd, lenOk, putN, augop]
end K66
set_option Elab.async false
set_option linter.all false
set_option maxRecDepth 100000
set_option maxHeartbeats 4000000
/-! Q5: decoded. -/
namespace K66
open CN
variable {wf k : Nat}
def rd : List Kd → List Int → Option (List Int)
  | [], _ => some []
  | .r :: cs, x :: xs => if x < 8 then (rd cs xs).map (x :: ·) else none
  | .n :: cs, x :: xs => (rd cs xs).map (x :: ·)
  | .A :: cs, x :: y :: xs => (rd cs xs).map ((x * 256 + y) :: ·)
  | _, _ => none
def dec1 : List Int → D
  | [] => .non
  | op :: rest => if 1 ≤ op ∧ op ≤ 19 then (match rd (sh (op - 1).toNat) rest with | some ns => insD (op - 1).toNat ns | none => .non) else .non
/-- what stands at a place of the bytes -/
def dec (xs : List Int) (p : Nat) : D := dec1 (xs.drop p)
abbrev Bytes (xs : List Int) : Prop := ∀ x ∈ xs, 0 ≤ x ∧ x < 256
theorem at_drop {xs : List Int} {p : Nat} {x : Int} {r : List Int} (h : xs.drop p = x :: r) : p < xs.length ∧ xs[p]? = some x ∧ xs.drop (p + 1) = r := by
  have hp : p < xs.length := by
    by_cases q : p < xs.length
    · exact q
    · rw [List.drop_of_length_le (by omega)] at h; cases h
  rw [List.drop_eq_getElem_cons hp] at h
  cases h
  exact ⟨hp, List.getElem?_eq_getElem hp, rfl⟩
theorem atI_map {xs : List Int} {p : Nat} {x : Int} (hp : p < xs.length) (h : xs[p]? = some x) : L2.atI (xs.map D.int) (p : Int) = some (.int x) := by
  rw [atI_nat _ _ (by simpa using hp), List.getElem?_map, h]
  rfl
theorem rd_short : ∀ (cs : List Kd) (xs : List Int), xs.length < sz cs → rd cs xs = none
  | [], xs, h => by simp [sz] at h
  | .r :: cs, [], _ => rfl
  | .n :: cs, [], _ => rfl
  | .A :: cs, [], _ => rfl
  | .A :: cs, [x], _ => rfl
  | .r :: cs, x :: xs, h => by
    have := rd_short cs xs (by simp [sz, Kd.size] at h; omega)
    simp [rd, this]
  | .n :: cs, x :: xs, h => by
    have := rd_short cs xs (by simp [sz, Kd.size] at h; omega)
    simp [rd, this]
  | .A :: cs, x :: y :: xs, h => by
    have := rd_short cs xs (by simp [sz, Kd.size] at h; omega)
    simp [rd, this]
def optD : Option Int → D
  | some x => .int x
  | none => .non
/-- one operand -/
def rd1 : Kd → List Int → Option Int
  | .r, x :: _ => if x < 8 then some x else none
  | .n, x :: _ => some x
  | .A, x :: y :: _ => some (x * 256 + y)
  | _, _ => none
theorem rd_cons (c : Kd) (cs : List Kd) (xs : List Int) : rd (c :: cs) xs = match rd1 c xs with
    | some x => (rd cs (xs.drop c.size)).map (x :: ·)
    | none => none := by
  cases c with
  | r => cases xs with
    | nil => rfl
    | cons x xs =>
      by_cases h : x < 8
      · simp [rd, rd1, h, Kd.size]
      · simp [rd, rd1, h, Kd.size]
  | n => cases xs with
    | nil => rfl
    | cons x xs => simp [rd, rd1, Kd.size]
  | A => cases xs with
    | nil => rfl
    | cons x xs => cases xs with
      | nil => rfl
      | cons y xs => simp [rd, rd1, Kd.size]
theorem r30 (x y : Int) (hx : 0 ≤ x ∧ x < 256) (s : Hs) : runFn T wf (k + 1) 30 [.int x, .int y] s = .ok (.int (x * 256 + y)) s := by
  rw [rf (f := i_joined_bytes) rfl rfl]
  have hg : T.consts[3]? = some (.int 256) := rfl
  have hr : inRng x = true := by
    unfold inRng
    rw [decide_eq_true (show -(2 ^ 64) < x by omega), decide_eq_true (show x < 2 ^ 64 by omega)]
    rfl
  simp [i_joined_bytes, hg, hr, evalE, evalT, evalEs, evalO, evalC, evalI, evalSs, evalS, evP, evPs, evO, evC, evI, pE, consL, pick, and2, or2, andT2, orT2, callM, callvM, makeM, madeBy, methM, biM, bmM, attrM, idxM, slM, soM, tupM, lstM, boxed, binM, cmpM, isNM, chainM, CN.notM, notT, negM, iteM, varM, asgM, subM, fldM, parM, augM, augfM, CN.forM, thruM, truly, assignTg, setAll, startE, fin, back, truth, binop, slop, bifun, bmeth, bmTy, seqAt, lstAt, tyName, isi, isNd, lenOk, putN, augop]
theorem r29 (c : Kd) (xs : List Int) (hb : Bytes xs) (p : Nat) (h : p + c.size ≤ xs.length) (s : Hs) : runFn T wf (k + 2) 29 [.str c.str, .tup (xs.map D.int), .int (p : Int)] s = .ok (optD (rd1 c (xs.drop p))) s := by
  rw [rf (f := i_operand_at) rfl rfl]
  have ha := isAddr c s
  have hg : T.consts[2]? = some (.tab 2) := rfl
  have hi := idx_lim c s
  cases ed : xs.drop p with
  | nil =>
    have hl := congrArg List.length ed
    rw [List.length_drop] at hl
    have : 1 ≤ c.size := by cases c <;> simp [Kd.size]
    simp at hl
    omega
  | cons x r =>
    obtain ⟨hp, hx, hr⟩ := at_drop ed
    have hx1 := atI_map hp hx
    have hxb := hb x (List.mem_of_getElem? hx)
    cases c with
    | r =>
      by_cases hlt : x < 8
      · simp [i_operand_at, ha, hg, hi, hx1, rd1, hlt, optD, Kd.lim, evalE, evalT, evalEs, evalO, evalC, evalI, evalSs, evalS, evP, evPs, evO, evC, evI, pE, consL, pick, and2, or2, andT2, orT2, callM, callvM, makeM, madeBy, methM, biM, bmM, attrM, idxM, slM, soM, tupM, lstM, boxed, binM, cmpM, isNM, chainM, CN.notM, notT, negM, iteM, varM, asgM, subM, fldM, parM, augM, augfM, CN.forM, thruM, truly, assignTg, setAll, startE, fin, back, truth, binop, slop, bifun, bmeth, bmTy, seqAt, lstAt, tyName, isi, isNd, lenOk, putN, augop]
      · simp [i_operand_at, ha, hg, hi, hx1, rd1, hlt, optD, Kd.lim, evalE, evalT, evalEs, evalO, evalC, evalI, evalSs, evalS, evP, evPs, evO, evC, evI, pE, consL, pick, and2, or2, andT2, orT2, callM, callvM, makeM, madeBy, methM, biM, bmM, attrM, idxM, slM, soM, tupM, lstM, boxed, binM, cmpM, isNM, chainM, CN.notM, notT, negM, iteM, varM, asgM, subM, fldM, parM, augM, augfM, CN.forM, thruM, truly, assignTg, setAll, startE, fin, back, truth, binop, slop, bifun, bmeth, bmTy, seqAt, lstAt, tyName, isi, isNd, lenOk, putN, augop]
    | n =>
      have hlt : x < 256 := hxb.2
      simp [i_operand_at, ha, hg, hi, hx1, rd1, hlt, optD, Kd.lim, evalE, evalT, evalEs, evalO, evalC, evalI, evalSs, evalS, evP, evPs, evO, evC, evI, pE, consL, pick, and2, or2, andT2, orT2, callM, callvM, makeM, madeBy, methM, biM, bmM, attrM, idxM, slM, soM, tupM, lstM, boxed, binM, cmpM, isNM, chainM, CN.notM, notT, negM, iteM, varM, asgM, subM, fldM, parM, augM, augfM, CN.forM, thruM, truly, assignTg, setAll, startE, fin, back, truth, binop, slop, bifun, bmeth, bmTy, seqAt, lstAt, tyName, isi, isNd, lenOk, putN, augop]
    | A =>
      cases r with
      | nil =>
        have hl := congrArg List.length ed
        rw [List.length_drop] at hl
        simp [Kd.size] at h hl
        omega
      | cons y r2 =>
        obtain ⟨hp2, hy, _⟩ := at_drop hr
        have hy1 := atI_map hp2 hy
        have hyb := hb y (List.mem_of_getElem? hy)
        have h30 := r30 (wf := wf) (k := k) x y hxb s
        have e : (((p + 1 : Nat) : Int)) = (p : Int) + 1 := by omega
        rw [e] at hy1
        have hlt : x * 256 + y < 65536 := by omega
        simp [i_operand_at, ha, hg, hi, hx1, hy1, h30, rd1, hlt, optD, Kd.lim, evalE, evalT, evalEs, evalO, evalC, evalI, evalSs, evalS, evP, evPs, evO, evC, evI, pE, consL, pick, and2, or2, andT2, orT2, callM, callvM, makeM, madeBy, methM, biM, bmM, attrM, idxM, slM, soM, tupM, lstM, boxed, binM, cmpM, isNM, chainM, CN.notM, notT, negM, iteM, varM, asgM, subM, fldM, parM, augM, augfM, CN.forM, thruM, truly, assignTg, setAll, startE, fin, back, truth, binop, slop, bifun, bmeth, bmTy, seqAt, lstAt, tyName, isi, isNd, lenOk, putN, augop]
def dBody : Sts := .cons (.asg (.nm 6) (.call 29 (.cons (.var 5) (.cons (.var 0) (.cons (.var 4) .nil))))) (.cons (.ite (.isN false (.var 6)) (.cons (.ret (.cst (.non))) .nil) .nil) (.cons (.expr (.bm .append (.var 3) (.cons (.var 6) .nil))) (.cons (.aug 4 .add (.idx (.glob 5) (.var 5))) .nil)))
theorem dTurn {xs : List Int} (hb : Bytes xs) (a w q r : Sl) (c : Kd) (p : Nat) (h : p + c.size ≤ xs.length) (acc : List D) (hl : acc.length + 1 ≤ 5000) :
    forStep (.nm 5) (evalSs T wf (runFn T wf (k + 2)) dBody) (.str c.str) [.has (.tup (xs.map D.int)), a, w, .has (.ref 0), .has (.int (p : Int)), q, r] [.lst acc] = (match rd1 c (xs.drop p) with
      | some x => .ok (.next [.has (.tup (xs.map D.int)), a, w, .has (.ref 0), .has (.int ((p + c.size : Nat) : Int)), .has (.str c.str), .has (.int x)]) [.lst (acc ++ [.int x])]
      | none => .ok (.ret .non) [.lst acc]) := by
  have h29 := r29 (wf := wf) (k := k) c xs hb p h [GO.lst acc]
  have hg : T.consts[5]? = some (.tab 3) := rfl
  have e : forStep (.nm 5) (evalSs T wf (runFn T wf (k + 2)) dBody) (.str c.str) [.has (.tup (xs.map D.int)), a, w, .has (.ref 0), .has (.int (p : Int)), q, r] [.lst acc] = evalSs T wf (runFn T wf (k + 2)) dBody [.has (.tup (xs.map D.int)), a, w, .has (.ref 0), .has (.int (p : Int)), .has (.str c.str), r] [.lst acc] := rfl
  rw [e]
  unfold dBody
  cases er : rd1 c (xs.drop p) with
  | none =>
    rw [er] at h29
    simp [h29, optD, evalE, evalT, evalEs, evalO, evalC, evalI, evalSs, evalS, evP, evPs, evO, evC, evI, pE, consL, pick, and2, or2, andT2, orT2, callM, callvM, makeM, madeBy, methM, biM, bmM, attrM, idxM, slM, soM, tupM, lstM, boxed, binM, cmpM, isNM, chainM, CN.notM, notT, negM, iteM, varM, asgM, subM, fldM, parM, augM, augfM, CN.forM, thruM, truly, assignTg, setAll, startE, fin, back, truth, binop, slop, bifun, bmeth, bmTy, seqAt, lstAt, tyName, isi, isNd, lenOk, putN, augop]
  | some x =>
    rw [er] at h29
    have hi := idx_size c [GO.lst (acc ++ [.int x])]
    have hz : acc.length < PySem.sizeLine := Nat.lt_of_lt_of_le (by omega : acc.length < 5000) (by decide)
    simp [h29, optD, hg, hi, hz, evalE, evalT, evalEs, evalO, evalC, evalI, evalSs, evalS, evP, evPs, evO, evC, evI, pE, consL, pick, and2, or2, andT2, orT2, callM, callvM, makeM, madeBy, methM, biM, bmM, attrM, idxM, slM, soM, tupM, lstM, boxed, binM, cmpM, isNM, chainM, CN.notM, notT, negM, iteM, varM, asgM, subM, fldM, parM, augM, augfM, CN.forM, thruM, truly, assignTg, setAll, startE, fin, back, truth, binop, slop, bifun, bmeth, bmTy, seqAt, lstAt, tyName, isi, isNd, lenOk, putN, augop]
theorem dLoop {xs : List Int} (hb : Bytes xs) (a w : Sl) : ∀ (cs : List Kd) (p : Nat) (q r : Sl) (acc : List D), p + sz cs ≤ xs.length → acc.length + cs.length ≤ 5000 →
    (∃ ns p' q' r', rd cs (xs.drop p) = some ns ∧ loopFor (forStep (.nm 5) (evalSs T wf (runFn T wf (k + 2)) dBody)) none (cs.map fun (c : Kd) => D.str c.str) [.has (.tup (xs.map D.int)), a, w, .has (.ref 0), .has (.int (p : Int)), q, r] [.lst acc] = .ok (.next [.has (.tup (xs.map D.int)), a, w, .has (.ref 0), p', q', r']) [.lst (acc ++ ns.map D.int)]) ∨
    (rd cs (xs.drop p) = none ∧ ∃ s', loopFor (forStep (.nm 5) (evalSs T wf (runFn T wf (k + 2)) dBody)) none (cs.map fun (c : Kd) => D.str c.str) [.has (.tup (xs.map D.int)), a, w, .has (.ref 0), .has (.int (p : Int)), q, r] [.lst acc] = .ok (.ret .non) s')
  | [], p, q, r, acc, _, _ => .inl ⟨[], .has (.int (p : Int)), q, r, rfl, by simp [loopFor]⟩
  | c :: cs, p, q, r, acc, hp, hl => by
    rw [List.length_cons] at hl
    have hp' : p + c.size + sz cs ≤ xs.length := by simp [sz] at hp; omega
    have t := dTurn (wf := wf) (k := k) hb a w q r c p (by omega) acc (by omega)
    rw [rd_cons, List.drop_drop]
    cases er : rd1 c (xs.drop p) with
    | none =>
      rw [er] at t
      refine .inr ⟨rfl, [.lst acc], ?_⟩
      rw [List.map_cons, loopFor, t]
      rfl
    | some x =>
      rw [er] at t
      dsimp only at t ⊢
      rcases dLoop hb a w cs (p + c.size) (.has (.str c.str)) (.has (.int x)) (acc ++ [.int x]) hp' (by simp; omega) with ⟨ns, p', q', r', h1, h2⟩ | ⟨h1, s', h2⟩
      · refine .inl ⟨x :: ns, p', q', r', by rw [h1]; rfl, ?_⟩
        rw [List.map_cons, loopFor_nx t rfl, h2]
        simp
      · refine .inr ⟨by rw [h1]; rfl, s', ?_⟩
        rw [List.map_cons, loopFor_nx t rfl, h2]
theorem sh_sz {j : Nat} (hj : j < 19) : sz (sh j) ≤ 6 := of_decide_eq_true (of_all (p := fun j => decide (sz (sh j) ≤ 6)) (by decide +kernel) hj)
def zE1 : Ex := .or (.cons (.cmp .ge (.var 1) (.bi .len (.cons (.var 0) .nil))) (.cons (.not (.call 26 (.cons (.idx (.var 0) (.var 1)) .nil))) .nil))
def zE2 : Ex := .call 27 (.cons (.idx (.var 0) (.var 1)) .nil)
def zE3 : Ex := .cmp .gt (.bin .add (.var 1) (.call 28 (.cons (.var 2) .nil))) (.bi .len (.cons (.var 0) .nil))
theorem r25 (xs : List Int) (hb : Bytes xs) (p : Nat) (s : Hs) : runFn T wf (k + 3) 25 [.tup (xs.map D.int), .int (p : Int)] s = .ok (dec xs p) s := by
  have hn : noRefs [.tup (xs.map D.int), .int (p : Int)] = true := by
    show (noRefs (xs.map D.int) && true) = true
    rw [noRefs_ints]
    rfl
  rw [rf4 (f := i_decoded) rfl rfl hn]
  have e0 : i_decoded.body = .cons (.ite zE1 (.cons (.ret (.cst (.non))) .nil) .nil) (.cons (.asg (.nm 2) zE2) (.cons (.ite zE3 (.cons (.ret (.cst (.non))) .nil) .nil) (.cons (.asg (.nm 3) (.box (.lst (.cons (.var 2) .nil)))) (.cons (.asg (.nm 4) (.bin .add (.var 1) (.cst (.int 1)))) (.cons (.for_ (.nm 5) (.seq (.idx (.glob 1) (.var 2))) dBody) (.cons (.ret (.bi .tuple (.cons (.var 3) .nil))) .nil)))))) := rfl
  have e1 : startE i_decoded.slots [.tup (xs.map D.int), .int (p : Int)] = [.has (.tup (xs.map D.int)), .has (.int (p : Int)), .no, .no, .no, .no, .no] := rfl
  rw [e0, e1]
  unfold dec
  cases ed : xs.drop p with
  | nil =>
    have hl : xs.length ≤ p := by
      have := congrArg List.length ed
      rw [List.length_drop] at this
      simp at this
      omega
    have t1 : (evP T (runFn T wf (k + 2)) zE1).t [.has (.tup (xs.map D.int)), .has (.int (p : Int)), .no, .no, .no, .no, .no] [] = .ok true [] := by
      simp [zE1, hl, evalE, evalT, evalEs, evalO, evalC, evalI, evalSs, evalS, evP, evPs, evO, evC, evI, pE, consL, pick, and2, or2, andT2, orT2, callM, callvM, makeM, madeBy, methM, biM, bmM, attrM, idxM, slM, soM, tupM, lstM, boxed, binM, cmpM, isNM, chainM, CN.notM, notT, negM, iteM, varM, asgM, subM, fldM, parM, augM, augfM, CN.forM, thruM, truly, assignTg, setAll, startE, fin, back, truth, binop, slop, bifun, bmeth, bmTy, seqAt, lstAt, tyName, isi, isNd, lenOk, putN, augop]
    rw [rt (ite_t (d := .non) (s' := []) t1 rfl)]
    rfl
  | cons op rest =>
    obtain ⟨hp, hx, hr⟩ := at_drop ed
    have hx1 := atI_map hp hx
    have hnl : ¬ xs.length ≤ p := by omega
    have h26 := r26 (wf := wf) (k := k + 1) op []
    by_cases ho : 1 ≤ op ∧ op ≤ 19
    · obtain ⟨j, hj, rfl⟩ : ∃ j : Nat, j < 19 ∧ op = (j : Int) + 1 := ⟨(op - 1).toNat, by omega, by omega⟩
      have ej : ((j : Int) + 1 - 1).toNat = j := by omega
      have ec : ((j + 1 : Nat) : Int) = (j : Int) + 1 := by omega
      have h27 := r27 (wf := wf) (k := k + 1) hj []
      rw [ec] at h27
      have h28 := r28 (wf := wf) (k := k + 1) j hj []
      have t1 : (evP T (runFn T wf (k + 2)) zE1).t [.has (.tup (xs.map D.int)), .has (.int (p : Int)), .no, .no, .no, .no, .no] [] = .ok false [] := by
        rw [decide_eq_true ho.1, decide_eq_true ho.2] at h26
        simp only [zE1, hnl, hx1, h26, evalE, evalT, evalEs, evalO, evalC, evalI, evalSs, evalS, evP, evPs, evO, evC, evI, pE, consL, pick, and2, or2, andT2, orT2, callM, callvM, makeM, madeBy, methM, biM, bmM, attrM, idxM, slM, soM, tupM, lstM, boxed, binM, cmpM, isNM, chainM, CN.notM, notT, negM, iteM, varM, asgM, subM, fldM, parM, augM, augfM, CN.forM, thruM, truly, assignTg, setAll, startE, fin, back, truth, binop, slop, bifun, bmeth, bmTy, seqAt, lstAt, tyName, isi, isNd, lenOk, putN, augop]
        simp [hnl, hx1, h26, evalE, evalT, evalEs, evalO, evalC, evalI, evalSs, evalS, evP, evPs, evO, evC, evI, pE, consL, pick, and2, or2, andT2, orT2, callM, callvM, makeM, madeBy, methM, biM, bmM, attrM, idxM, slM, soM, tupM, lstM, boxed, binM, cmpM, isNM, chainM, CN.notM, notT, negM, iteM, varM, asgM, subM, fldM, parM, augM, augfM, CN.forM, thruM, truly, assignTg, setAll, startE, fin, back, truth, binop, slop, bifun, bmeth, bmTy, seqAt, lstAt, tyName, isi, isNd, lenOk, putN, augop]
      have t2 : (evP T (runFn T wf (k + 2)) zE2).e [.has (.tup (xs.map D.int)), .has (.int (p : Int)), .no, .no, .no, .no, .no] [] = .ok (.str (wd j)) [] := by
        simp only [zE2, hx1, h27, evalE, evalT, evalEs, evalO, evalC, evalI, evalSs, evalS, evP, evPs, evO, evC, evI, pE, consL, pick, and2, or2, andT2, orT2, callM, callvM, makeM, madeBy, methM, biM, bmM, attrM, idxM, slM, soM, tupM, lstM, boxed, binM, cmpM, isNM, chainM, CN.notM, notT, negM, iteM, varM, asgM, subM, fldM, parM, augM, augfM, CN.forM, thruM, truly, assignTg, setAll, startE, fin, back, truth, binop, slop, bifun, bmeth, bmTy, seqAt, lstAt, tyName, isi, isNd, lenOk, putN, augop]
        simp [hx1, h27, evalE, evalT, evalEs, evalO, evalC, evalI, evalSs, evalS, evP, evPs, evO, evC, evI, pE, consL, pick, and2, or2, andT2, orT2, callM, callvM, makeM, madeBy, methM, biM, bmM, attrM, idxM, slM, soM, tupM, lstM, boxed, binM, cmpM, isNM, chainM, CN.notM, notT, negM, iteM, varM, asgM, subM, fldM, parM, augM, augfM, CN.forM, thruM, truly, assignTg, setAll, startE, fin, back, truth, binop, slop, bifun, bmeth, bmTy, seqAt, lstAt, tyName, isi, isNd, lenOk, putN, augop]
      have t3 : (evP T (runFn T wf (k + 2)) zE3).t [.has (.tup (xs.map D.int)), .has (.int (p : Int)), .has (.str (wd j)), .no, .no, .no, .no] [] = .ok (decide ((xs.length : Int) < (p : Int) + ((1 + sz (sh j) : Nat) : Int))) [] := by
        simp only [zE3, h28, evalE, evalT, evalEs, evalO, evalC, evalI, evalSs, evalS, evP, evPs, evO, evC, evI, pE, consL, pick, and2, or2, andT2, orT2, callM, callvM, makeM, madeBy, methM, biM, bmM, attrM, idxM, slM, soM, tupM, lstM, boxed, binM, cmpM, isNM, chainM, CN.notM, notT, negM, iteM, varM, asgM, subM, fldM, parM, augM, augfM, CN.forM, thruM, truly, assignTg, setAll, startE, fin, back, truth, binop, slop, bifun, bmeth, bmTy, seqAt, lstAt, tyName, isi, isNd, lenOk, putN, augop]
        simp [h28, evalE, evalT, evalEs, evalO, evalC, evalI, evalSs, evalS, evP, evPs, evO, evC, evI, pE, consL, pick, and2, or2, andT2, orT2, callM, callvM, makeM, madeBy, methM, biM, bmM, attrM, idxM, slM, soM, tupM, lstM, boxed, binM, cmpM, isNM, chainM, CN.notM, notT, negM, iteM, varM, asgM, subM, fldM, parM, augM, augfM, CN.forM, thruM, truly, assignTg, setAll, startE, fin, back, truth, binop, slop, bifun, bmeth, bmTy, seqAt, lstAt, tyName, isi, isNd, lenOk, putN, augop]
      rw [nx (ite_f t1), nx (asg_ok t2)]
      show backF 4 s (evalSs T wf (runFn T wf (k + 2)) _ [.has (.tup (xs.map D.int)), .has (.int (p : Int)), .has (.str (wd j)), .no, .no, .no, .no] []) = _
      have edec : dec1 (((j : Int) + 1) :: rest) = match rd (sh j) rest with | some ns => insD j ns | none => .non := by
        show (if 1 ≤ (j : Int) + 1 ∧ (j : Int) + 1 ≤ 19 then (match rd (sh ((j : Int) + 1 - 1).toNat) rest with | some ns => insD ((j : Int) + 1 - 1).toNat ns | none => .non) else .non) = _
        rw [if_pos ho, ej]
      rw [edec, ← hr]
      by_cases hs : p + 1 + sz (sh j) ≤ xs.length
      · rw [decide_eq_false (by omega)] at t3
        have z : 1 ≤ PySem.sizeLine := by decide
        have g1 : T.consts[1]? = some (.tab 1) := rfl
        have t4 : (evP T (runFn T wf (k + 2)) (.box (.lst (.cons (.var 2) .nil)))).e [.has (.tup (xs.map D.int)), .has (.int (p : Int)), .has (.str (wd j)), .no, .no, .no, .no] [] = .ok (.ref 0) [.lst [.str (wd j)]] := by simp [z, evalE, evalT, evalEs, evalO, evalC, evalI, evalSs, evalS, evP, evPs, evO, evC, evI, pE, consL, pick, and2, or2, andT2, orT2, callM, callvM, makeM, madeBy, methM, biM, bmM, attrM, idxM, slM, soM, tupM, lstM, boxed, binM, cmpM, isNM, chainM, CN.notM, notT, negM, iteM, varM, asgM, subM, fldM, parM, augM, augfM, CN.forM, thruM, truly, assignTg, setAll, startE, fin, back, truth, binop, slop, bifun, bmeth, bmTy, seqAt, lstAt, tyName, isi, isNd, lenOk, putN, augop]
        have t5 : (evP T (runFn T wf (k + 2)) (.bin .add (.var 1) (.cst (.int 1)))).e [.has (.tup (xs.map D.int)), .has (.int (p : Int)), .has (.str (wd j)), .has (.ref 0), .no, .no, .no] [.lst [.str (wd j)]] = .ok (.int ((p + 1 : Nat) : Int)) [.lst [.str (wd j)]] := by simp [evalE, evalT, evalEs, evalO, evalC, evalI, evalSs, evalS, evP, evPs, evO, evC, evI, pE, consL, pick, and2, or2, andT2, orT2, callM, callvM, makeM, madeBy, methM, biM, bmM, attrM, idxM, slM, soM, tupM, lstM, boxed, binM, cmpM, isNM, chainM, CN.notM, notT, negM, iteM, varM, asgM, subM, fldM, parM, augM, augfM, CN.forM, thruM, truly, assignTg, setAll, startE, fin, back, truth, binop, slop, bifun, bmeth, bmTy, seqAt, lstAt, tyName, isi, isNd, lenOk, putN, augop]
        have hi := idx_opnds hj ([GO.lst [.str (wd j)]] : Hs)
        have t6 : evI T (runFn T wf (k + 2)) (.seq (.idx (.glob 1) (.var 2))) [.has (.tup (xs.map D.int)), .has (.int (p : Int)), .has (.str (wd j)), .has (.ref 0), .has (.int ((p + 1 : Nat) : Int)), .no, .no] [.lst [.str (wd j)]] = .ok ((sh j).map fun (c : Kd) => D.str c.str, none) [.lst [.str (wd j)]] := by
          have e : evI T (runFn T wf (k + 2)) (.seq (.idx (.glob 1) (.var 2))) [.has (.tup (xs.map D.int)), .has (.int (p : Int)), .has (.str (wd j)), .has (.ref 0), .has (.int ((p + 1 : Nat) : Int)), .no, .no] [.lst [.str (wd j)]] = (Res.of (idxop T.tabs [.lst [.str (wd j)]] (.tab 1) (.str (wd j))) [.lst [.str (wd j)]]).bind seqI := rfl
          rw [e, hi]
          rfl
        rw [nx (ite_f t3), nx (asg_ok t4)]
        show backF 4 s (evalSs T wf (runFn T wf (k + 2)) _ [.has (.tup (xs.map D.int)), .has (.int (p : Int)), .has (.str (wd j)), .has (.ref 0), .no, .no, .no] _) = _
        rw [nx (asg_ok t5)]
        show backF 4 s (evalSs T wf (runFn T wf (k + 2)) _ [.has (.tup (xs.map D.int)), .has (.int (p : Int)), .has (.str (wd j)), .has (.ref 0), .has (.int ((p + 1 : Nat) : Int)), .no, .no] _) = _
        rcases dLoop (wf := wf) (k := k) hb (.has (.int (p : Int))) (.has (.str (wd j))) (sh j) (p + 1) .no .no [.str (wd j)] hs (by have := sh_len hj; simp; omega) with ⟨ns, p', q', r', h1, h2⟩ | ⟨h1, s', h2⟩
        · rw [h1, nx (for_ok t6 h2)]
          have t7 : (evP T (runFn T wf (k + 2)) (.bi .tuple (.cons (.var 3) .nil))).e [.has (.tup (xs.map D.int)), .has (.int (p : Int)), .has (.str (wd j)), .has (.ref 0), p', q', r'] [.lst ([.str (wd j)] ++ ns.map D.int)] = .ok (insD j ns) [.lst ([.str (wd j)] ++ ns.map D.int)] := by simp [insD, evalE, evalT, evalEs, evalO, evalC, evalI, evalSs, evalS, evP, evPs, evO, evC, evI, pE, consL, pick, and2, or2, andT2, orT2, callM, callvM, makeM, madeBy, methM, biM, bmM, attrM, idxM, slM, soM, tupM, lstM, boxed, binM, cmpM, isNM, chainM, CN.notM, notT, negM, iteM, varM, asgM, subM, fldM, parM, augM, augfM, CN.forM, thruM, truly, assignTg, setAll, startE, fin, back, truth, binop, slop, bifun, bmeth, bmTy, seqAt, lstAt, tyName, isi, isNd, lenOk, putN, augop]
          rw [rt (ret_ok t7)]
          exact bf_ret (noRef_ins j ns)
        · rw [h1, rt (for_ok t6 h2)]
          rfl
      · rw [decide_eq_true (by omega)] at t3
        rw [rt (ite_t (d := .non) (s' := []) t3 rfl), rd_short (sh j) _ (by rw [List.length_drop]; omega)]
        rfl
    · have t1 : (evP T (runFn T wf (k + 2)) zE1).t [.has (.tup (xs.map D.int)), .has (.int (p : Int)), .no, .no, .no, .no, .no] [] = .ok true [] := by
        have hf : (decide (1 ≤ op) && decide (op ≤ 19)) = false := by
          by_cases h1 : 1 ≤ op
          · rw [decide_eq_true h1, decide_eq_false (fun h2 => ho ⟨h1, h2⟩)]; rfl
          · rw [decide_eq_false h1]; rfl
        rw [hf] at h26
        simp only [zE1, hnl, hx1, h26, evalE, evalT, evalEs, evalO, evalC, evalI, evalSs, evalS, evP, evPs, evO, evC, evI, pE, consL, pick, and2, or2, andT2, orT2, callM, callvM, makeM, madeBy, methM, biM, bmM, attrM, idxM, slM, soM, tupM, lstM, boxed, binM, cmpM, isNM, chainM, CN.notM, notT, negM, iteM, varM, asgM, subM, fldM, parM, augM, augfM, CN.forM, thruM, truly, assignTg, setAll, startE, fin, back, truth, binop, slop, bifun, bmeth, bmTy, seqAt, lstAt, tyName, isi, isNd, lenOk, putN, augop]
        simp [hnl, hx1, h26, evalE, evalT, evalEs, evalO, evalC, evalI, evalSs, evalS, evP, evPs, evO, evC, evI, pE, consL, pick, and2, or2, andT2, orT2, callM, callvM, makeM, madeBy, methM, biM, bmM, attrM, idxM, slM, soM, tupM, lstM, boxed, binM, cmpM, isNM, chainM, CN.notM, notT, negM, iteM, varM, asgM, subM, fldM, parM, augM, augfM, CN.forM, thruM, truly, assignTg, setAll, startE, fin, back, truth, binop, slop, bifun, bmeth, bmTy, seqAt, lstAt, tyName, isi, isNd, lenOk, putN, augop]
      rw [rt (ite_t (d := .non) (s' := []) t1 rfl)]
      have edec : dec1 (op :: rest) = .non := if_neg ho
      rw [edec]
      rfl
end K66
set_option Elab.async false
set_option linter.all false
set_option maxRecDepth 100000
set_option maxHeartbeats 4000000
/-! Q6: the law's own reading. -/
namespace K66
open CN
variable {wf k : Nat}
theorem isA (c : Kd) (s : Hs) : cmpop T.tabs s .eq (.str c.sgn) (.str "A") = some (decide (c = .A)) := by
  cases c <;> exact (eqD_str s _ _ (by decide +kernel) (by decide +kernel)).trans (congrArg some (by decide +kernel))
theorem isR (c : Kd) (s : Hs) : cmpop T.tabs s .eq (.str c.sgn) (.str "r") = some (decide (c = .r)) := by
  cases c <;> exact (eqD_str s _ _ (by decide +kernel) (by decide +kernel)).trans (congrArg some (by decide +kernel))
theorem isN_ (c : Kd) (s : Hs) : cmpop T.tabs s .eq (.str c.sgn) (.str "n") = some (decide (c = .n)) := by
  cases c <;> exact (eqD_str s _ _ (by decide +kernel) (by decide +kernel)).trans (congrArg some (by decide +kernel))
theorem inRng256 : inRng 256 = true := by decide +kernel
end K66
set_option Elab.async false
set_option linter.all false
set_option maxRecDepth 100000
set_option maxHeartbeats 4000000
/-! Q7: _law_instruction. -/
namespace K66
open CN
variable {wf k : Nat} {cells : List Int} {rest s : Hs}
theorem drawK {lim : Int} (hc : 0 < cells.length) (hj : JarS cells rest s) (h0 : 0 < lim) (h1 : lim < 1073741824) : ∃ v s', 0 ≤ v ∧ v < lim ∧ JarS cells rest s' ∧ runFn T wf (k + 1) 3 [.ref 0, .int lim] s = .ok (.int v) s' := drawJ (gd := 3) rfl hc hj h0 h1
theorem get1 (g x y : GO) : (g :: (rest ++ [x, y]))[rest.length + 1]? = some x := by simp
theorem get2 (g x y : GO) : (g :: (rest ++ [x, y]))[rest.length + 1 + 1]? = some y := by simp
theorem set1 (g x y z : GO) : (g :: (rest ++ [x, y])).set (rest.length + 1) z = g :: (rest ++ [z, y]) := by simp
theorem set2 (g x y z : GO) : (g :: (rest ++ [x, y])).set (rest.length + 1 + 1) z = g :: (rest ++ [x, z]) := by simp
def wA : CN.St := .asg (.nm 7) (.call 3 (.cons (.var 0) (.cons (.cst (.int 8)) .nil)))
def wB : CN.St := .ite (.cmp .eq (.var 2) (.cst (.str "n"))) (.cons (.asg (.nm 7) (.idx (.lst (.cons (.cst (.int 0)) (.cons (.cst (.int 1)) (.cons (.cst (.int 255)) (.cons (.var 7) (.cons (.call 3 (.cons (.var 0) (.cons (.cst (.int 256)) .nil))) .nil)))))) (.call 3 (.cons (.var 0) (.cons (.cst (.int 5)) .nil))))) .nil) .nil
def wC1 : CN.St := .asg (.nm 7) (.idx (.lst (.cons (.cst (.int 0)) (.cons (.cst (.int 1)) (.cons (.cst (.int 255)) (.cons (.cst (.int 256)) (.cons (.cst (.int 65535)) (.cons (.call 3 (.cons (.var 0) (.cons (.cst (.int 65536)) .nil))) .nil))))))) (.call 3 (.cons (.var 0) (.cons (.cst (.int 6)) .nil))))
def wC2 : CN.St := .expr (.bm .append (.var 6) (.cons (.bin .fdiv (.var 7) (.cst (.int 256))) .nil))
def wC : CN.St := .ite (.cmp .eq (.var 2) (.cst (.str "A"))) (.cons wC1 (.cons wC2 .nil)) .nil
def wD : CN.St := .expr (.bm .append (.var 5) (.cons (.var 7) .nil))
def wE : CN.St := .expr (.bm .append (.var 6) (.cons (.bin .mod (.bi .int (.cons (.var 7) .nil)) (.cst (.int 256))) .nil))
def wBody : Sts := .cons wA (.cons wB (.cons wC (.cons wD (.cons wE .nil))))
def wEnv (m : Nat) (a w sp : Sl) (kd n : Sl) : CN.Env := [.has (.ref 0), a, kd, w, sp, .has (.ref m), .has (.ref (m + 1)), n]
theorem wD_ok {call : Nat → List D → Hs → Res D} (a w sp kd : Sl) (x : Int) (la lb : List D) (hl : la.length + 1 ≤ 5000) (hj : JarS cells (rest ++ [GO.lst la, GO.lst lb]) s) :
    ∃ s', JarS cells (rest ++ [GO.lst (la ++ [.int x]), GO.lst lb]) s' ∧ evalS T wf call wD (wEnv (rest.length + 1) a w sp kd (.has (.int x))) s = .ok (.next (wEnv (rest.length + 1) a w sp kd (.has (.int x)))) s' := by
  obtain ⟨i, l, d, h1, h2, h3, rfl⟩ := hj
  refine ⟨_, ⟨i, l, d, h1, h2, h3, rfl⟩, ?_⟩
  have hz : la.length < PySem.sizeLine := Nat.lt_of_lt_of_le (by omega : la.length < 5000) (by decide)
  have g := get1 (rest := rest) (jl cells i l d) (GO.lst la) (GO.lst lb)
  have st := set1 (rest := rest) (jl cells i l d) (GO.lst la) (GO.lst lb) (GO.lst (la ++ [.int x]))
  have e : evalS T wf call wD (wEnv (rest.length + 1) a w sp kd (.has (.int x))) (jl cells i l d :: (rest ++ [GO.lst la, GO.lst lb])) = ((if bmTy (jl cells i l d :: (rest ++ [GO.lst la, GO.lst lb])) .append (.ref (rest.length + 1)) = true then bmeth (jl cells i l d :: (rest ++ [GO.lst la, GO.lst lb])) .append (.ref (rest.length + 1)) [.int x] else .stuck : Res D)).bs (wEnv (rest.length + 1) a w sp kd (.has (.int x))) fun _ s1 => .ok (.next (wEnv (rest.length + 1) a w sp kd (.has (.int x)))) s1 := rfl
  have b1 : bmTy (jl cells i l d :: (rest ++ [GO.lst la, GO.lst lb])) .append (.ref (rest.length + 1)) = true := by
    show (match (jl cells i l d :: (rest ++ [GO.lst la, GO.lst lb]))[rest.length + 1]? with | some (GO.lst ds) => some ds | _ => none).isSome = true
    rw [g]
    rfl
  have b2 : bmeth (jl cells i l d :: (rest ++ [GO.lst la, GO.lst lb])) .append (.ref (rest.length + 1)) [.int x] = .ok .non (jl cells i l d :: (rest ++ [GO.lst (la ++ [.int x]), GO.lst lb])) := by
    show (match (jl cells i l d :: (rest ++ [GO.lst la, GO.lst lb]))[rest.length + 1]? with | some (GO.lst ds) => if ds.length < PySem.sizeLine then Res.ok D.non ((jl cells i l d :: (rest ++ [GO.lst la, GO.lst lb])).set (rest.length + 1) (GO.lst (ds ++ [D.int x]))) else Res.stuck | _ => Res.stuck) = _
    rw [g]
    dsimp only
    rw [if_pos hz, st]
  rw [e, if_pos b1, b2]
  rfl
theorem app6 {call : Nat → List D → Hs → Res D} {e : Ex} (a w sp kd n : Sl) (y : Int) (la lb : List D) (hl : lb.length + 1 ≤ 5000) (hj : JarS cells (rest ++ [GO.lst la, GO.lst lb]) s)
    (he : ∀ s, (evP T call e).e (wEnv (rest.length + 1) a w sp kd n) s = .ok (.int y) s) :
    ∃ s', JarS cells (rest ++ [GO.lst la, GO.lst (lb ++ [.int y])]) s' ∧ evalS T wf call (.expr (.bm .append (.var 6) (.cons e .nil))) (wEnv (rest.length + 1) a w sp kd n) s = .ok (.next (wEnv (rest.length + 1) a w sp kd n)) s' := by
  obtain ⟨i, l, d, h1, h2, h3, rfl⟩ := hj
  refine ⟨_, ⟨i, l, d, h1, h2, h3, rfl⟩, ?_⟩
  have hz : lb.length < PySem.sizeLine := Nat.lt_of_lt_of_le (by omega : lb.length < 5000) (by decide)
  have g := get2 (rest := rest) (jl cells i l d) (GO.lst la) (GO.lst lb)
  have st := set2 (rest := rest) (jl cells i l d) (GO.lst la) (GO.lst lb) (GO.lst (lb ++ [.int y]))
  have h0 := he (jl cells i l d :: (rest ++ [GO.lst la, GO.lst lb]))
  have e' : evalS T wf call (.expr (.bm .append (.var 6) (.cons e .nil))) (wEnv (rest.length + 1) a w sp kd n) (jl cells i l d :: (rest ++ [GO.lst la, GO.lst lb])) = ((if bmTy (jl cells i l d :: (rest ++ [GO.lst la, GO.lst lb])) .append (.ref (rest.length + 1 + 1)) = true then (((evP T call e).e (wEnv (rest.length + 1) a w sp kd n) (jl cells i l d :: (rest ++ [GO.lst la, GO.lst lb]))).bind fun d s1 => (Res.ok [] s1 : Res (List D)).bind fun ds s2 => .ok (d :: ds) s2).bind fun ds s2 => bmeth s2 .append (.ref (rest.length + 1 + 1)) ds else .stuck : Res D)).bs (wEnv (rest.length + 1) a w sp kd n) fun _ s1 => .ok (.next (wEnv (rest.length + 1) a w sp kd n)) s1 := rfl
  have b1 : bmTy (jl cells i l d :: (rest ++ [GO.lst la, GO.lst lb])) .append (.ref (rest.length + 1 + 1)) = true := by
    show (match (jl cells i l d :: (rest ++ [GO.lst la, GO.lst lb]))[rest.length + 1 + 1]? with | some (GO.lst ds) => some ds | _ => none).isSome = true
    rw [g]
    rfl
  have b2 : bmeth (jl cells i l d :: (rest ++ [GO.lst la, GO.lst lb])) .append (.ref (rest.length + 1 + 1)) [.int y] = .ok .non (jl cells i l d :: (rest ++ [GO.lst la, GO.lst (lb ++ [.int y])])) := by
    show (match (jl cells i l d :: (rest ++ [GO.lst la, GO.lst lb]))[rest.length + 1 + 1]? with | some (GO.lst ds) => if ds.length < PySem.sizeLine then Res.ok D.non ((jl cells i l d :: (rest ++ [GO.lst la, GO.lst lb])).set (rest.length + 1 + 1) (GO.lst (ds ++ [D.int y]))) else Res.stuck | _ => Res.stuck) = _
    rw [g]
    dsimp only
    rw [if_pos hz, st]
  rw [e', if_pos b1, h0]
  show ((bmeth _ .append (.ref (rest.length + 1 + 1)) [.int y] : Res D)).bs _ _ = _
  rw [b2]
  rfl
theorem wA_ok (m : Nat) (a w sp kd n : Sl) (hc : 0 < cells.length) (hj : JarS cells rest s) : ∃ x s', 0 ≤ x ∧ x < 8 ∧ JarS cells rest s' ∧ evalS T wf (runFn T wf (k + 1)) wA (wEnv m a w sp kd n) s = .ok (.next (wEnv m a w sp kd (.has (.int x)))) s' := by
  obtain ⟨v, s1, h0, h1, hj1, h⟩ := drawK (wf := wf) (k := k) hc hj (show (0 : Int) < 8 by decide) (by decide)
  exact ⟨v, s1, h0, h1, hj1, by simp [wA, wEnv, h, evalE, evalT, evalEs, evalO, evalC, evalI, evalSs, evalS, evP, evPs, evO, evC, evI, pE, consL, pick, and2, or2, andT2, orT2, callM, callvM, makeM, madeBy, methM, biM, bmM, attrM, idxM, slM, soM, tupM, lstM, boxed, binM, cmpM, isNM, chainM, CN.notM, notT, negM, iteM, varM, asgM, subM, fldM, parM, augM, augfM, CN.forM, thruM, truly, assignTg, setAll, startE, fin, back, truth, binop, slop, bifun, bmeth, bmTy, seqAt, lstAt, tyName, isi, isNd, lenOk, putN, augop]⟩
theorem wB_n (m : Nat) (a w sp : Sl) {x : Int} (hx : 0 ≤ x ∧ x < 8) (hc : 0 < cells.length) (hj : JarS cells rest s) : ∃ y s', (0 ≤ y ∧ y < 256) ∧ JarS cells rest s' ∧ evalS T wf (runFn T wf (k + 1)) wB (wEnv m a w sp (.has (.str Kd.n.sgn)) (.has (.int x))) s = .ok (.next (wEnv m a w sp (.has (.str Kd.n.sgn)) (.has (.int y)))) s' := by
  obtain ⟨v1, s1, v10, v11, j1, h1⟩ := drawK (wf := wf) (k := k) hc hj (show (0 : Int) < 256 by decide) (by decide)
  obtain ⟨v2, s2, v20, v21, j2, h2⟩ := drawK (wf := wf) (k := k) hc j1 (show (0 : Int) < 5 by decide) (by decide)
  obtain ⟨_, p1, ⟨y, rfl, y0, y1⟩⟩ := pickL (xs := [D.int 0, .int 1, .int 255, .int x, .int v1]) (inB 0 256) v20 v21 (by
    intro z hz
    simp only [List.mem_cons, List.not_mem_nil, or_false] at hz
    rcases hz with rfl | rfl | rfl | rfl | rfl <;> first | exact inB_int (by decide) (by decide) | exact inB_int (by omega) (by omega))
  have z : 5 ≤ PySem.sizeLine := by decide
  have hi := isN_ .n s
  refine ⟨y, s2, ⟨y0, y1⟩, j2, ?_⟩
  simp [wB, wEnv, hi, h1, h2, p1, z, evalE, evalT, evalEs, evalO, evalC, evalI, evalSs, evalS, evP, evPs, evO, evC, evI, pE, consL, pick, and2, or2, andT2, orT2, callM, callvM, makeM, madeBy, methM, biM, bmM, attrM, idxM, slM, soM, tupM, lstM, boxed, binM, cmpM, isNM, chainM, CN.notM, notT, negM, iteM, varM, asgM, subM, fldM, parM, augM, augfM, CN.forM, thruM, truly, assignTg, setAll, startE, fin, back, truth, binop, slop, bifun, bmeth, bmTy, seqAt, lstAt, tyName, isi, isNd, lenOk, putN, augop]
theorem wB_no (m : Nat) (a w sp n : Sl) {c : Kd} (hc : c ≠ .n) {call : Nat → List D → Hs → Res D} : evalS T wf call wB (wEnv m a w sp (.has (.str c.sgn)) n) s = .ok (.next (wEnv m a w sp (.has (.str c.sgn)) n)) s := by
  have hi := isN_ c s
  simp [wB, wEnv, hi, hc, evalE, evalT, evalEs, evalO, evalC, evalI, evalSs, evalS, evP, evPs, evO, evC, evI, pE, consL, pick, and2, or2, andT2, orT2, callM, callvM, makeM, madeBy, methM, biM, bmM, attrM, idxM, slM, soM, tupM, lstM, boxed, binM, cmpM, isNM, chainM, CN.notM, notT, negM, iteM, varM, asgM, subM, fldM, parM, augM, augfM, CN.forM, thruM, truly, assignTg, setAll, startE, fin, back, truth, binop, slop, bifun, bmeth, bmTy, seqAt, lstAt, tyName, isi, isNd, lenOk, putN, augop]
theorem wC_no (m : Nat) (a w sp n : Sl) {c : Kd} (hc : c ≠ .A) {call : Nat → List D → Hs → Res D} : evalS T wf call wC (wEnv m a w sp (.has (.str c.sgn)) n) s = .ok (.next (wEnv m a w sp (.has (.str c.sgn)) n)) s := by
  have hi := isA c s
  simp [wC, wEnv, hi, hc, evalE, evalT, evalEs, evalO, evalC, evalI, evalSs, evalS, evP, evPs, evO, evC, evI, pE, consL, pick, and2, or2, andT2, orT2, callM, callvM, makeM, madeBy, methM, biM, bmM, attrM, idxM, slM, soM, tupM, lstM, boxed, binM, cmpM, isNM, chainM, CN.notM, notT, negM, iteM, varM, asgM, subM, fldM, parM, augM, augfM, CN.forM, thruM, truly, assignTg, setAll, startE, fin, back, truth, binop, slop, bifun, bmeth, bmTy, seqAt, lstAt, tyName, isi, isNd, lenOk, putN, augop]
theorem wC1_ok (m : Nat) (a w sp n : Sl) (hc : 0 < cells.length) (hj : JarS cells rest s) : ∃ y s', (0 ≤ y ∧ y < 65536) ∧ JarS cells rest s' ∧ evalS T wf (runFn T wf (k + 1)) wC1 (wEnv m a w sp (.has (.str Kd.A.sgn)) n) s = .ok (.next (wEnv m a w sp (.has (.str Kd.A.sgn)) (.has (.int y)))) s' := by
  obtain ⟨v1, s1, v10, v11, j1, h1⟩ := drawK (wf := wf) (k := k) hc hj (show (0 : Int) < 65536 by decide) (by decide)
  obtain ⟨v2, s2, v20, v21, j2, h2⟩ := drawK (wf := wf) (k := k) hc j1 (show (0 : Int) < 6 by decide) (by decide)
  obtain ⟨_, p1, ⟨y, rfl, y0, y1⟩⟩ := pickL (xs := [D.int 0, .int 1, .int 255, .int 256, .int 65535, .int v1]) (inB 0 65536) v20 v21 (by
    intro z hz
    simp only [List.mem_cons, List.not_mem_nil, or_false] at hz
    rcases hz with rfl | rfl | rfl | rfl | rfl | rfl <;> first | exact inB_int (by decide) (by decide) | exact inB_int (by omega) (by omega))
  have z : 6 ≤ PySem.sizeLine := by decide
  refine ⟨y, s2, ⟨y0, y1⟩, j2, ?_⟩
  simp [wC1, wEnv, h1, h2, p1, z, evalE, evalT, evalEs, evalO, evalC, evalI, evalSs, evalS, evP, evPs, evO, evC, evI, pE, consL, pick, and2, or2, andT2, orT2, callM, callvM, makeM, madeBy, methM, biM, bmM, attrM, idxM, slM, soM, tupM, lstM, boxed, binM, cmpM, isNM, chainM, CN.notM, notT, negM, iteM, varM, asgM, subM, fldM, parM, augM, augfM, CN.forM, thruM, truly, assignTg, setAll, startE, fin, back, truth, binop, slop, bifun, bmeth, bmTy, seqAt, lstAt, tyName, isi, isNd, lenOk, putN, augop]
theorem mod_ok {call : Nat → List D → Hs → Res D} (m : Nat) (a w sp kd : Sl) (x : Int) (s : Hs) : (evP T call (.bin .mod (.bi .int (.cons (.var 7) .nil)) (.cst (.int 256)))).e (wEnv m a w sp kd (.has (.int x))) s = .ok (.int (x % 256)) s := by
  simp [wEnv, m256, evalE, evalT, evalEs, evalO, evalC, evalI, evalSs, evalS, evP, evPs, evO, evC, evI, pE, consL, pick, and2, or2, andT2, orT2, callM, callvM, makeM, madeBy, methM, biM, bmM, attrM, idxM, slM, soM, tupM, lstM, boxed, binM, cmpM, isNM, chainM, CN.notM, notT, negM, iteM, varM, asgM, subM, fldM, parM, augM, augfM, CN.forM, thruM, truly, assignTg, setAll, startE, fin, back, truth, binop, slop, bifun, bmeth, bmTy, seqAt, lstAt, tyName, isi, isNd, lenOk, putN, augop]
theorem div_ok {call : Nat → List D → Hs → Res D} (m : Nat) (a w sp kd : Sl) (x : Int) (s : Hs) : (evP T call (.bin .fdiv (.var 7) (.cst (.int 256)))).e (wEnv m a w sp kd (.has (.int x))) s = .ok (.int (x / 256)) s := by
  simp [wEnv, d256, evalE, evalT, evalEs, evalO, evalC, evalI, evalSs, evalS, evP, evPs, evO, evC, evI, pE, consL, pick, and2, or2, andT2, orT2, callM, callvM, makeM, madeBy, methM, biM, bmM, attrM, idxM, slM, soM, tupM, lstM, boxed, binM, cmpM, isNM, chainM, CN.notM, notT, negM, iteM, varM, asgM, subM, fldM, parM, augM, augfM, CN.forM, thruM, truly, assignTg, setAll, startE, fin, back, truth, binop, slop, bifun, bmeth, bmTy, seqAt, lstAt, tyName, isi, isNd, lenOk, putN, augop]
theorem wTurn (a w sp kd n : Sl) (c : Kd) (la lb : List D) (hla : la.length + 1 ≤ 5000) (hlb : lb.length + 2 ≤ 5000) (hc : 0 < cells.length) (hj : JarS cells (rest ++ [GO.lst la, GO.lst lb]) s) :
    ∃ x s', (0 ≤ x ∧ x < c.lim) ∧ JarS cells (rest ++ [GO.lst (la ++ [.int x]), GO.lst (lb ++ (encK c x).map D.int)]) s' ∧ forStep (.nm 2) (evalSs T wf (runFn T wf (k + 1)) wBody) (.str c.sgn) (wEnv (rest.length + 1) a w sp kd n) s = .ok (.next (wEnv (rest.length + 1) a w sp (.has (.str c.sgn)) (.has (.int x)))) s' := by
  have e : ∀ s, forStep (.nm 2) (evalSs T wf (runFn T wf (k + 1)) wBody) (.str c.sgn) (wEnv (rest.length + 1) a w sp kd n) s = evalSs T wf (runFn T wf (k + 1)) wBody (wEnv (rest.length + 1) a w sp (.has (.str c.sgn)) n) s := fun _ => rfl
  obtain ⟨x1, s1, x10, x11, j1, t1⟩ := wA_ok (wf := wf) (k := k) (rest.length + 1) a w sp (.has (.str c.sgn)) n hc hj
  cases c with
  | r =>
    obtain ⟨s2, j2, t2⟩ := wD_ok (wf := wf) (call := runFn T wf (k + 1)) a w sp (.has (.str Kd.r.sgn)) x1 la lb hla j1
    obtain ⟨s3, j3, t3⟩ := app6 (wf := wf) (call := runFn T wf (k + 1)) a w sp (.has (.str Kd.r.sgn)) (.has (.int x1)) (x1 % 256) _ lb (by omega) j2 (mod_ok _ a w sp _ x1)
    have ex : x1 % 256 = x1 := by omega
    rw [ex] at j3
    refine ⟨x1, s3, ⟨x10, x11⟩, j3, ?_⟩
    rw [e]
    unfold wBody
    rw [nx t1, nx (wB_no _ a w sp _ (by decide)), nx (wC_no _ a w sp _ (by decide)), nx t2]
    unfold wE
    rw [nx t3]
    rfl
  | n =>
    obtain ⟨y, s1', y0, j1', t1'⟩ := wB_n (wf := wf) (k := k) (rest.length + 1) a w sp ⟨x10, x11⟩ hc j1
    obtain ⟨s2, j2, t2⟩ := wD_ok (wf := wf) (call := runFn T wf (k + 1)) a w sp (.has (.str Kd.n.sgn)) y la lb hla j1'
    obtain ⟨s3, j3, t3⟩ := app6 (wf := wf) (call := runFn T wf (k + 1)) a w sp (.has (.str Kd.n.sgn)) (.has (.int y)) (y % 256) _ lb (by omega) j2 (mod_ok _ a w sp _ y)
    have ex : y % 256 = y := by omega
    rw [ex] at j3
    refine ⟨y, s3, y0, j3, ?_⟩
    rw [e]
    unfold wBody
    rw [nx t1, nx t1', nx (wC_no _ a w sp _ (by decide)), nx t2]
    unfold wE
    rw [nx t3]
    rfl
  | A =>
    obtain ⟨y, s1', y0, j1', t1'⟩ := wC1_ok (wf := wf) (k := k) (rest.length + 1) a w sp (.has (.int x1)) hc j1
    obtain ⟨s2', j2', t2'⟩ := app6 (wf := wf) (call := runFn T wf (k + 1)) a w sp (.has (.str Kd.A.sgn)) (.has (.int y)) (y / 256) la lb (by omega) j1' (div_ok _ a w sp _ y)
    obtain ⟨s2, j2, t2⟩ := wD_ok (wf := wf) (call := runFn T wf (k + 1)) a w sp (.has (.str Kd.A.sgn)) y la _ hla j2'
    obtain ⟨s3, j3, t3⟩ := app6 (wf := wf) (call := runFn T wf (k + 1)) a w sp (.has (.str Kd.A.sgn)) (.has (.int y)) (y % 256) _ _ (by simp; omega) j2 (mod_ok _ a w sp _ y)
    refine ⟨y, s3, y0, by simpa [encK] using j3, ?_⟩
    have tc : evalS T wf (runFn T wf (k + 1)) wC (wEnv (rest.length + 1) a w sp (.has (.str Kd.A.sgn)) (.has (.int x1))) s1 = .ok (.next (wEnv (rest.length + 1) a w sp (.has (.str Kd.A.sgn)) (.has (.int y)))) s2' := by
      unfold wC
      have hi := isA .A s1
      refine ite_tn (s1 := s1) (by simp [wEnv, hi, evalE, evalT, evalEs, evalO, evalC, evalI, evalSs, evalS, evP, evPs, evO, evC, evI, pE, consL, pick, and2, or2, andT2, orT2, callM, callvM, makeM, madeBy, methM, biM, bmM, attrM, idxM, slM, soM, tupM, lstM, boxed, binM, cmpM, isNM, chainM, CN.notM, notT, negM, iteM, varM, asgM, subM, fldM, parM, augM, augfM, CN.forM, thruM, truly, assignTg, setAll, startE, fin, back, truth, binop, slop, bifun, bmeth, bmTy, seqAt, lstAt, tyName, isi, isNd, lenOk, putN, augop]) ?_
      unfold wC2
      rw [nx t1', nx t2']
      rfl
    rw [e]
    unfold wBody
    rw [nx t1, nx (wB_no _ a w sp _ (by decide)), nx tc, nx t2]
    unfold wE
    rw [nx t3]
    rfl
theorem wLoop (a w sp : Sl) (hc : 0 < cells.length) : ∀ (cs : List Kd) (kd n : Sl) (la lb : List D) (s : Hs), la.length + cs.length ≤ 5000 → lb.length + 2 * cs.length ≤ 5000 → JarS cells (rest ++ [GO.lst la, GO.lst lb]) s →
    ∃ ns s' kd' n', vals cs ns ∧ JarS cells (rest ++ [GO.lst (la ++ ns.map D.int), GO.lst (lb ++ (encs cs ns).map D.int)]) s' ∧ loopFor (forStep (.nm 2) (evalSs T wf (runFn T wf (k + 1)) wBody)) none (cs.map fun (c : Kd) => D.str c.sgn) (wEnv (rest.length + 1) a w sp kd n) s = .ok (.next (wEnv (rest.length + 1) a w sp kd' n')) s'
  | [], kd, n, la, lb, s, _, _, hj => ⟨[], s, kd, n, trivial, by simpa [encs] using hj, rfl⟩
  | c :: cs, kd, n, la, lb, s, h1, h2, hj => by
    rw [List.length_cons] at h1 h2
    obtain ⟨x, s1, hx, j1, t⟩ := wTurn (wf := wf) (k := k) a w sp kd n c la lb (by omega) (by omega) hc hj
    have hle : (encK c x).length ≤ 2 := by cases c <;> simp [encK]
    obtain ⟨ns, s2, kd', n', hv, j2, t2⟩ := wLoop a w sp hc cs (.has (.str c.sgn)) (.has (.int x)) (la ++ [.int x]) (lb ++ (encK c x).map D.int) s1 (by simp; omega) (by simp; omega) j1
    refine ⟨x :: ns, s2, kd', n', ⟨hx, hv⟩, by simpa [encs] using j2, ?_⟩
    rw [List.map_cons, loopFor_nx t rfl, t2]
def wS2 : CN.St := .asg (.tp [3, 4]) (.call 5 (.cons (.var 1) .nil))
def wS3 : CN.St := .par [5, 6] (.cons (.box (.lst (.cons (.var 3) .nil))) (.cons (.box (.lst (.cons (.bin .add (.var 1) (.cst (.int 1))) .nil))) .nil))
theorem r4 (hc : 0 < cells.length) (hr : rest.all (belowG (rest.length + 1)) = true) (hj : JarS cells rest s) :
    ∃ j ns s', j < 19 ∧ vals (sh j) ns ∧ JarS cells rest s' ∧ runFn T wf (k + 2) 4 [.ref 0] s = .ok (.tup [insD j ns, .tup ((row j ns).map D.int)]) s' := by
  obtain ⟨v, s1, v0, v1, j1, h1⟩ := drawK (wf := wf) (k := k) hc hj (show (0 : Int) < 19 by decide) (by decide)
  obtain ⟨j, rfl⟩ : ∃ j : Nat, v = (j : Int) := ⟨v.toNat, by omega⟩
  have hlt : j < 19 := by omega
  have h5 := r5 (wf := wf) (k := k) j hlt s1
  have z : 1 ≤ PySem.sizeLine := by decide
  have ls : s1.length = rest.length + 1 := by obtain ⟨_, _, _, _, _, _, rfl⟩ := j1; rfl
  have j2 : JarS cells (rest ++ [GO.lst [.str (wd j)], GO.lst [.int ((j : Int) + 1)]]) (s1 ++ [GO.lst [.str (wd j)], GO.lst [.int ((j : Int) + 1)]]) := by
    obtain ⟨i, l, d, a, b, c, rfl⟩ := j1
    exact ⟨i, l, d, a, b, c, rfl⟩
  obtain ⟨ns, s2, kd', n', hv, j3, t4⟩ := wLoop (wf := wf) (k := k) (.has (.int (j : Int))) (.has (.str (wd j))) (.has (.str (ss j))) hc (sh j) .no .no [.str (wd j)] [.int ((j : Int) + 1)] _ (by have := sh_len hlt; simp; omega) (by have := sh_len hlt; simp; omega) j2
  obtain ⟨i, l, d, ha, hb, hd, rfl⟩ := j3
  refine ⟨j, ns, jl cells i l d :: rest, hlt, hv, ⟨i, l, d, ha, hb, hd, rfl⟩, ?_⟩
  rw [rf (f := i__law_instruction) rfl rfl]
  have e0 : i__law_instruction.body = .cons (.asg (.nm 1) (.call 3 (.cons (.var 0) (.cons (.cst (.int 19)) .nil)))) (.cons wS2 (.cons wS3 (.cons (.for_ (.nm 2) (.seq (.var 4)) wBody) (.cons (.ret (.tup (.cons (.bi .tuple (.cons (.var 5) .nil)) (.cons (.bi .tuple (.cons (.var 6) .nil)) .nil)))) .nil)))) := rfl
  have e1 : startE i__law_instruction.slots [.ref 0] = [.has (.ref 0), .no, .no, .no, .no, .no, .no, .no] := rfl
  have t1 : evalS T wf (runFn T wf (k + 1)) (.asg (.nm 1) (.call 3 (.cons (.var 0) (.cons (.cst (.int 19)) .nil)))) [.has (.ref 0), .no, .no, .no, .no, .no, .no, .no] s = .ok (.next [.has (.ref 0), .has (.int (j : Int)), .no, .no, .no, .no, .no, .no]) s1 := by simp [h1, evalE, evalT, evalEs, evalO, evalC, evalI, evalSs, evalS, evP, evPs, evO, evC, evI, pE, consL, pick, and2, or2, andT2, orT2, callM, callvM, makeM, madeBy, methM, biM, bmM, attrM, idxM, slM, soM, tupM, lstM, boxed, binM, cmpM, isNM, chainM, CN.notM, notT, negM, iteM, varM, asgM, subM, fldM, parM, augM, augfM, CN.forM, thruM, truly, assignTg, setAll, startE, fin, back, truth, binop, slop, bifun, bmeth, bmTy, seqAt, lstAt, tyName, isi, isNd, lenOk, putN, augop]
  have t2 : evalS T wf (runFn T wf (k + 1)) wS2 [.has (.ref 0), .has (.int (j : Int)), .no, .no, .no, .no, .no, .no] s1 = .ok (.next [.has (.ref 0), .has (.int (j : Int)), .no, .has (.str (wd j)), .has (.str (ss j)), .no, .no, .no]) s1 := by simp [wS2, h5, evalE, evalT, evalEs, evalO, evalC, evalI, evalSs, evalS, evP, evPs, evO, evC, evI, pE, consL, pick, and2, or2, andT2, orT2, callM, callvM, makeM, madeBy, methM, biM, bmM, attrM, idxM, slM, soM, tupM, lstM, boxed, binM, cmpM, isNM, chainM, CN.notM, notT, negM, iteM, varM, asgM, subM, fldM, parM, augM, augfM, CN.forM, thruM, truly, assignTg, setAll, startE, fin, back, truth, binop, slop, bifun, bmeth, bmTy, seqAt, lstAt, tyName, isi, isNd, lenOk, putN, augop]
  have t3 : evalS T wf (runFn T wf (k + 1)) wS3 [.has (.ref 0), .has (.int (j : Int)), .no, .has (.str (wd j)), .has (.str (ss j)), .no, .no, .no] s1 = .ok (.next (wEnv (rest.length + 1) (.has (.int (j : Int))) (.has (.str (wd j))) (.has (.str (ss j))) .no .no)) (s1 ++ [GO.lst [.str (wd j)], GO.lst [.int ((j : Int) + 1)]]) := by simp [wS3, wEnv, z, ls, evalE, evalT, evalEs, evalO, evalC, evalI, evalSs, evalS, evP, evPs, evO, evC, evI, pE, consL, pick, and2, or2, andT2, orT2, callM, callvM, makeM, madeBy, methM, biM, bmM, attrM, idxM, slM, soM, tupM, lstM, boxed, binM, cmpM, isNM, chainM, CN.notM, notT, negM, iteM, varM, asgM, subM, fldM, parM, augM, augfM, CN.forM, thruM, truly, assignTg, setAll, startE, fin, back, truth, binop, slop, bifun, bmeth, bmTy, seqAt, lstAt, tyName, isi, isNd, lenOk, putN, augop]
  have t3' : evI T (runFn T wf (k + 1)) (.seq (.var 4)) (wEnv (rest.length + 1) (.has (.int (j : Int))) (.has (.str (wd j))) (.has (.str (ss j))) .no .no) (s1 ++ [GO.lst [.str (wd j)], GO.lst [.int ((j : Int) + 1)]]) = .ok ((sh j).map fun (c : Kd) => D.str c.sgn, none) (s1 ++ [GO.lst [.str (wd j)], GO.lst [.int ((j : Int) + 1)]]) := by
    rw [← signs_ss hlt]
    rfl
  have la : lstAt (jl cells i l d :: (rest ++ [GO.lst ([.str (wd j)] ++ ns.map D.int), GO.lst ([.int ((j : Int) + 1)] ++ (encs (sh j) ns).map D.int)])) (.ref (rest.length + 1)) = some ([.str (wd j)] ++ ns.map D.int) := by
    show (match (jl cells i l d :: (rest ++ [GO.lst ([.str (wd j)] ++ ns.map D.int), GO.lst ([.int ((j : Int) + 1)] ++ (encs (sh j) ns).map D.int)]))[rest.length + 1]? with | some (GO.lst ds) => some ds | _ => none) = _
    rw [get1]
  have lb : lstAt (jl cells i l d :: (rest ++ [GO.lst ([.str (wd j)] ++ ns.map D.int), GO.lst ([.int ((j : Int) + 1)] ++ (encs (sh j) ns).map D.int)])) (.ref (rest.length + 1 + 1)) = some ([.int ((j : Int) + 1)] ++ (encs (sh j) ns).map D.int) := by
    show (match (jl cells i l d :: (rest ++ [GO.lst ([.str (wd j)] ++ ns.map D.int), GO.lst ([.int ((j : Int) + 1)] ++ (encs (sh j) ns).map D.int)]))[rest.length + 1 + 1]? with | some (GO.lst ds) => some ds | _ => none) = _
    rw [get2]
  have er : row j ns = ((j : Int) + 1) :: encs (sh j) ns := by
    unfold row
    rw [show ((j + 1 : Nat) : Int) = (j : Int) + 1 from by omega]
  have t5 : ∀ S, lstAt S (.ref (rest.length + 1)) = some ([.str (wd j)] ++ ns.map D.int) → lstAt S (.ref (rest.length + 1 + 1)) = some ([.int ((j : Int) + 1)] ++ (encs (sh j) ns).map D.int) → (evP T (runFn T wf (k + 1)) (.tup (.cons (.bi .tuple (.cons (.var 5) .nil)) (.cons (.bi .tuple (.cons (.var 6) .nil)) .nil)))).e (wEnv (rest.length + 1) (.has (.int (j : Int))) (.has (.str (wd j))) (.has (.str (ss j))) kd' n') S = .ok (.tup [insD j ns, .tup ((row j ns).map D.int)]) S := by
    intro S q1 q2
    have e : (evP T (runFn T wf (k + 1)) (.tup (.cons (.bi .tuple (.cons (.var 5) .nil)) (.cons (.bi .tuple (.cons (.var 6) .nil)) .nil)))).e (wEnv (rest.length + 1) (.has (.int (j : Int))) (.has (.str (wd j))) (.has (.str (ss j))) kd' n') S = (((Res.of ((lstAt S (.ref (rest.length + 1))).map D.tup) S).bind fun x s1 => ((Res.of ((lstAt s1 (.ref (rest.length + 1 + 1))).map D.tup) s1).bind fun y s2 => (Res.ok [] s2 : Res (List D)).bind fun ds s3 => .ok (y :: ds) s3).bind fun ds s2 => .ok (x :: ds) s2).bind fun ds s1 => if lenOk ds.length then .ok (.tup ds) s1 else .stuck : Res D) := rfl
    rw [e, q1]
    show ((((Res.of ((lstAt S (.ref (rest.length + 1 + 1))).map D.tup) S).bind fun y s2 => (Res.ok [] s2 : Res (List D)).bind fun ds s3 => .ok (y :: ds) s3).bind fun ds s2 => .ok (.tup ([.str (wd j)] ++ ns.map D.int) :: ds) s2).bind fun ds s1 => if lenOk ds.length then .ok (.tup ds) s1 else .stuck : Res D) = _
    rw [q2, er]
    rfl
  rw [e0, e1, nx t1, nx t2, nx t3, nx (for_ok t3' t4), rt (ret_ok (t5 _ la lb))]
  have ls0 : s.length = rest.length + 1 := by obtain ⟨_, _, _, _, _, _, rfl⟩ := hj; rfl
  show back 2 s (.tup [insD j ns, .tup ((row j ns).map D.int)]) (jl cells i l d :: (rest ++ _)) = _
  have bl : ∀ (m : Nat) (xs : List Int), belows m (xs.map D.int) = true := by
    intro m xs
    induction xs with
    | nil => rfl
    | cons x xs ih => show (true && belows m (xs.map D.int)) = true; rw [ih]; rfl
  unfold back
  rw [if_neg (by decide), if_neg (by decide), if_neg (by decide), ls0, if_pos]
  · simp
  · rw [Bool.and_eq_true, Bool.and_eq_true]
    refine ⟨⟨by simp, ?_⟩, ?_⟩
    · show ((true && belows _ (ns.map D.int)) && (belows _ ((row j ns).map D.int) && true)) = true
      rw [bl, bl]
      rfl
    · simp only [List.take_succ_cons, List.take_left', List.all_cons, hr]
      show ((belows _ (cells.map D.int) && true) && true) = true
      rw [bl]
      rfl
end K66
set_option Elab.async false
set_option linter.all false
set_option maxRecDepth 100000
set_option maxHeartbeats 4000000
/-! Q13: instruction_at; _law_places. -/
namespace K66
open CN
variable {wf k : Nat} {cells : List Int} {rest s : Hs}
theorem plain_ints {ns : List Int} : ∀ d ∈ ns.map D.int, plainD d = true := by
  intro d hd
  obtain ⟨x, _, rfl⟩ := List.mem_map.mp hd
  rfl
def bEx : Ex := .comp (.call 23 (.cons (.var 1) .nil)) (.nm 1) [1] (.seq (.var 0)) .no
theorem bEx_ok (ds : List D) (hp : ∀ d ∈ ds, plainD d = true) (hl : ds.length ≤ 5000) (s : Hs) : (evP T (runFn T wf (k + 3)) bEx).e [.has (.tup ds), .no] s = .ok (.tl ((ds.map fun d => below d 256).map D.bl)) s := by
  have q := compM_map (own := [1]) (tg := .nm 1) (mi := evI T (runFn T wf (k + 3)) (.seq (.var 0))) (mc := evC T (runFn T wf (k + 3)) .no) (me := (evP T (runFn T wf (k + 3)) (.call 23 (.cons (.var 1) .nil))).e) (env := [.has (.tup ds), .no]) (s := s) (s1 := s) (ds := ds) (w := none) (fun d => .bl (below d 256)) rfl rfl (by
    intro d hd
    have h23 := r23 (wf := wf) (k := k) (hp d hd) s
    have e : stepC [1] (.nm 1) (evC T (runFn T wf (k + 3)) .no) (evP T (runFn T wf (k + 3)) (.call 23 (.cons (.var 1) .nil))).e [.has (.tup ds), .no] d s = (runFn T wf (k + 3) 23 [d] s).bind fun v s3 => .ok (some v) s3 := rfl
    rw [e, h23]
    rfl) (small5 hl)
  unfold bEx
  rw [evP]
  dsimp only [pE]
  rw [List.map_map]
  exact q
theorem r22 (ds : List D) (hp : ∀ d ∈ ds, plainD d = true) (hl : ds.length ≤ 5000) (s : Hs) : runFn T wf (k + 4) 22 [.tup ds] s = .ok (.bl ((ds.map fun d => below d 256).all id)) s := by
  rw [rf (f := i_are_bytes) rfl rfl]
  have hc := bEx_ok (wf := wf) (k := k) ds hp hl s
  have hb := bools_map (ds.map fun d => below d 256)
  have e0 : i_are_bytes.body = .cons (.ret (.and (.cons (.bi (.isinst "tuple") (.cons (.var 0) .nil)) (.cons (.bi .all (.cons bEx .nil)) .nil)))) .nil := rfl
  have e1 : startE i_are_bytes.slots [.tup ds] = [.has (.tup ds), .no] := rfl
  have t : (evP T (runFn T wf (k + 3)) (.and (.cons (.bi (.isinst "tuple") (.cons (.var 0) .nil)) (.cons (.bi .all (.cons bEx .nil)) .nil)))).e [.has (.tup ds), .no] s = .ok (.bl ((ds.map fun d => below d 256).all id)) s := by
    have e : (evP T (runFn T wf (k + 3)) (.and (.cons (.bi (.isinst "tuple") (.cons (.var 0) .nil)) (.cons (.bi .all (.cons bEx .nil)) .nil)))).e [.has (.tup ds), .no] s = (((evP T (runFn T wf (k + 3)) bEx).e [.has (.tup ds), .no] s).bind fun d s1 => (Res.ok [] s1 : Res (List D)).bind fun ds s2 => .ok (d :: ds) s2).bind fun ds s1 => Res.of (bifun s1 .all ds) s1 := rfl
    rw [e, hc]
    show Res.of (match lstAt s (.tl ((ds.map fun d => below d 256).map D.bl)) with | some ds => (bools? ds).map fun bs => D.bl (bs.all id) | none => none) s = _
    show Res.of ((bools? ((ds.map fun d => below d 256).map D.bl)).map fun bs => D.bl (bs.all id)) s = _
    rw [hb]
    rfl
  rw [e0, e1, rt (ret_ok t)]
  rfl
theorem r22_no {d : D} (h : notTup d = true) (s : Hs) : runFn T wf (k + 4) 22 [d] s = .ok (.bl false) s := by
  rw [rf (f := i_are_bytes) rfl rfl]
  cases d <;> first | rfl | cases h
theorem r22_bytes {xs : List Int} (hb : Bytes xs) (hl : xs.length ≤ 5000) (s : Hs) : runFn T wf (k + 4) 22 [.tup (xs.map D.int)] s = .ok (.bl true) s := by
  rw [r22 _ plain_ints (by rw [List.length_map]; exact hl)]
  have e : ((xs.map D.int).map fun d => below d 256).all id = true := by
    rw [List.all_eq_true]
    intro b hbm
    obtain ⟨d, hd, rfl⟩ := List.mem_map.mp hbm
    obtain ⟨x, hx, rfl⟩ := List.mem_map.mp hd
    obtain ⟨h0, h1⟩ := hb x hx
    show (decide (0 ≤ x) && decide (x < 256)) = true
    rw [decide_eq_true h0, decide_eq_true h1]
    rfl
  rw [e]
theorem r21 {d : D} (h : ∀ s, runFn T wf (k + 4) 22 [d] s = .ok (.bl true) s) (s : Hs) : runFn T wf (k + 5) 21 [d] s = .ok .non s := by
  rw [rf (f := i_check_code) rfl rfl]
  have e0 : i_check_code.body = .cons (.ite (.not (.call 22 (.cons (.var 0) .nil))) (.cons (.raise 0 (.cons (.cst (.non)) .nil)) .nil) .nil) .nil := rfl
  have e1 : startE i_check_code.slots [d] = [.has d] := rfl
  rw [e0, e1, nx (ite_f (not_t (b := true) (call1t rfl (h s))))]
  rfl
theorem r21_bad {d : D} (h : ∀ s, runFn T wf (k + 4) 22 [d] s = .ok (.bl false) s) (s : Hs) : runFn T wf (k + 5) 21 [d] s = .err 0 [(0, .non)] s := by
  rw [rf (f := i_check_code) rfl rfl]
  have e0 : i_check_code.body = .cons (.ite (.not (.call 22 (.cons (.var 0) .nil))) (.cons (.raise 0 (.cons (.cst (.non)) .nil)) .nil) .nil) .nil := rfl
  have e1 : startE i_check_code.slots [d] = [.has d] := rfl
  rw [e0, e1, xs_ok (ite_tn (not_t (b := false) (call1t rfl (h s))) (xs_ok (rs_ok (f := 0) rfl (d := .non) rfl)))]
  rfl
theorem noRef_dec1 (xs : List Int) : noRef (dec1 xs) = true := by
  cases xs with
  | nil => rfl
  | cons op rest =>
    show noRef (if 1 ≤ op ∧ op ≤ 19 then (match rd (sh (op - 1).toNat) rest with | some ns => insD (op - 1).toNat ns | none => .non) else .non) = true
    split
    · split
      · exact noRef_ins _ _
      · rfl
    · rfl
/-! _law_places -/
structure BadC (d : D) : Prop where
  nr : noRef d = true
  no : ∀ (wf k : Nat) (s : Hs), runFn T wf (k + 4) 22 [d] s = .ok (.bl false) s
theorem badC_mid {a b : List Int} {d : D} (hp : plainD d = true) (hn : noRef d = true) (hb : below d 256 = false) (hl : a.length + b.length + 1 ≤ 5000) : BadC (.tup (a.map D.int ++ d :: b.map D.int)) := by
  refine ⟨noRefs_append (noRefs_ints a) (by show (noRef d && noRefs _) = true; rw [hn, noRefs_ints]; rfl), fun wf k s => ?_⟩
  rw [r22 _ (fun x hx => ?_) (by simp; omega)]
  · have e : (((a.map D.int ++ d :: b.map D.int)).map fun d => below d 256).all id = false := by
      rw [List.map_append, List.all_append, List.map_cons, List.all_cons]
      simp [hb]
    rw [e]
  · rcases List.mem_append.mp hx with h | h
    · exact plain_ints x h
    · rcases List.mem_cons.mp h with rfl | h
      · exact hp
      · exact plain_ints x h
end K66
set_option Elab.async false
set_option linter.all false
set_option maxRecDepth 100000
set_option maxHeartbeats 4000000
/-! Q14: _law_all, its parts. -/
namespace K66
open CN
variable {wf k : Nat} {cells : List Int} {rest s : Hs}
/-- the same bytes as a tuple -/
theorem bytes_tup (xs : List Int) (s : Hs) (hl : xs.length ≤ 5000) : runFn T wf (k + 1) 6 [.tup (xs.map D.int), .tup (xs.map D.int)] s = .ok (.bl true) s := by
  rw [rf (f := b_bytes) rfl rfl]
  have e0 : b_bytes.body = .cons (.ite (.or (.cons (.not (.bi (.isinst "tuple") (.cons (.var 0) (.nil)))) (.cons (.cmp .isin (.cst (.bl false)) yEx) (.nil)))) (.cons (.ret (.cst (.bl false))) (.nil)) (.nil)) (.cons (.ret (.cmp .eq (.var 0) (.bi .tuple (.cons (.var 1) (.nil))))) (.nil)) := rfl
  have e1 : startE b_bytes.slots [.tup (xs.map D.int), .tup (xs.map D.int)] = [.has (.tup (xs.map D.int)), .has (.tup (xs.map D.int)), .no] := rfl
  rw [e0, e1, nx (ite_f (yTest yEx _ xs _ s rfl (yComp xs _ s hl))), rt (ret_ok (d := .bl true) (s' := s) ?_)]
  · rfl
  · have e4 : cmpop T.tabs s .eq (.tup (xs.map D.int)) (.tup (xs.map D.int)) = some true := eq_ints xs s
    have e5 : (evP T (runFn T wf k) (.cmp .eq (.var 0) (.bi .tuple (.cons (.var 1) (.nil))))).e [.has (.tup (xs.map D.int)), .has (.tup (xs.map D.int)), .no] s = Res.of ((cmpop T.tabs s .eq (.tup (xs.map D.int)) (.tup (xs.map D.int))).map .bl) s := rfl
    rw [e5, e4]
    rfl
theorem rd_encs : ∀ {cs : List Kd} {ns : List Int} (r : List Int), vals cs ns → rd cs (encs cs ns ++ r) = some ns
  | [], [], _, _ => rfl
  | [], _ :: _, _, h => h.elim
  | _ :: _, [], _, h => h.elim
  | .r :: cs, x :: xs, r, h => by
    have hx : x < 8 := h.1.2
    show (if x < 8 then (rd cs (encs cs xs ++ r)).map (x :: ·) else none) = _
    rw [if_pos hx, rd_encs r h.2]
    rfl
  | .n :: cs, x :: xs, r, h => by
    show (rd cs (encs cs xs ++ r)).map (x :: ·) = _
    rw [rd_encs r h.2]
    rfl
  | .A :: cs, x :: xs, r, h => by
    show (rd cs (encs cs xs ++ r)).map ((x / 256 * 256 + x % 256) :: ·) = _
    rw [rd_encs r h.2]
    have e : x / 256 * 256 + x % 256 = x := by omega
    rw [e]
    rfl
theorem dec_row {j : Nat} (hj : j < 19) {ns : List Int} (hv : vals (sh j) ns) (r : List Int) : dec (row j ns ++ r) 0 = insD j ns := by
  show (if 1 ≤ ((j + 1 : Nat) : Int) ∧ ((j + 1 : Nat) : Int) ≤ 19 then (match rd (sh (((j + 1 : Nat) : Int) - 1).toNat) (encs (sh j) ns ++ r) with | some ns => insD (((j + 1 : Nat) : Int) - 1).toNat ns | none => .non) else .non) = _
  have ej : (((j + 1 : Nat) : Int) - 1).toNat = j := by omega
  rw [if_pos (by omega), ej, rd_encs r hv]
theorem rd_len : ∀ {cs : List Kd} {xs ns : List Int}, rd cs xs = some ns → ns.length = cs.length
  | [], _, _, h => by cases h; rfl
  | c :: cs, xs, ns, h => by
    rw [rd_cons] at h
    cases e : rd1 c xs with
    | none => rw [e] at h; cases h
    | some x =>
      rw [e] at h
      dsimp only at h
      cases e2 : rd cs (xs.drop c.size) with
      | none => rw [e2] at h; cases h
      | some ms =>
        rw [e2] at h
        cases h
        simp [rd_len e2]
theorem row_bytes {j : Nat} (hj : j < 19) {ns : List Int} (hv : vals (sh j) ns) : Bytes (row j ns) := by
  have h : ∀ (cs : List Kd) (ns : List Int), vals cs ns → Bytes (encs cs ns) := by
    intro cs
    induction cs with
    | nil => intro ns _ x hx; cases ns <;> cases hx
    | cons c cs ih =>
      intro ns h
      cases ns with
      | nil => exact h.elim
      | cons x xs =>
        intro y hy
        rcases List.mem_append.mp (show y ∈ encK c x ++ encs cs xs from hy) with hy | hy
        · have hx := h.1
          cases c with
          | r =>
            rw [List.mem_singleton.mp (show y ∈ [x] from hy)]
            exact ⟨hx.1, Int.lt_trans hx.2 (by decide)⟩
          | n =>
            rw [List.mem_singleton.mp (show y ∈ [x] from hy)]
            exact hx
          | A =>
            have hx2 : x < 65536 := hx.2
            have hx1 : 0 ≤ x := hx.1
            rcases List.mem_cons.mp (show y ∈ [x / 256, x % 256] from hy) with rfl | hy
            · omega
            · rw [List.mem_singleton.mp hy]
              omega
        · exact ih xs h.2 y hy
  intro x hx
  rcases List.mem_cons.mp (show x ∈ ((j + 1 : Nat) : Int) :: encs (sh j) ns from hx) with rfl | hx
  · omega
  · exact h _ _ hv x hx
theorem rowsAll_bytes : ∀ {ps}, Is ps → Bytes (rowsAll ps)
  | [], _ => fun x hx => by cases hx
  | p :: ps, h => fun x hx => by
    have hp := h p List.mem_cons_self
    rcases List.mem_append.mp (show x ∈ row p.1 p.2 ++ rowsAll ps from hx) with hx | hx
    · exact row_bytes hp.1 hp.2 x hx
    · exact rowsAll_bytes (fun q hq => h q (List.mem_cons_of_mem _ hq)) x hx
theorem rowsAll_app : ∀ (a b), rowsAll (a ++ b) = rowsAll a ++ rowsAll b
  | [], b => rfl
  | p :: a, b => by
    show row p.1 p.2 ++ rowsAll (a ++ b) = (row p.1 p.2 ++ rowsAll a) ++ rowsAll b
    rw [rowsAll_app a b, List.append_assoc]
end K66
set_option Elab.async false
set_option linter.all false
set_option maxRecDepth 100000
set_option maxHeartbeats 4000000
/-! R9: walked. -/
namespace K66
open CN
variable {wf k : Nat} {cells : List Int} {rest s : Hs}
def decN1 : List Int → Option (Nat × List Int)
  | [] => none
  | op :: rest => if 1 ≤ op ∧ op ≤ 19 then (rd (sh (op - 1).toNat) rest).map fun ns => ((op - 1).toNat, ns) else none
/-- the instruction at a place -/
def decN (xs : List Int) (p : Nat) : Option (Nat × List Int) := decN1 (xs.drop p)
def insO : Option (Nat × List Int) → D
  | some q => insD q.1 q.2
  | none => .non
theorem dec_N (xs : List Int) (p : Nat) : dec xs p = insO (decN xs p) := by
  unfold dec decN
  cases xs.drop p with
  | nil => rfl
  | cons op rest =>
    show (if 1 ≤ op ∧ op ≤ 19 then (match rd (sh (op - 1).toNat) rest with | some ns => insD (op - 1).toNat ns | none => .non) else .non) = insO (if 1 ≤ op ∧ op ≤ 19 then (rd (sh (op - 1).toNat) rest).map fun ns => ((op - 1).toNat, ns) else none)
    split
    · cases rd (sh (op - 1).toNat) rest <;> rfl
    · rfl
theorem decN_some {xs : List Int} {p : Nat} {q : Nat × List Int} (h : decN xs p = some q) : q.1 < 19 ∧ p + 1 + sz (sh q.1) ≤ xs.length ∧ q.2.length = (sh q.1).length := by
  unfold decN at h
  cases ed : xs.drop p with
  | nil => rw [ed] at h; cases h
  | cons op rest =>
    rw [ed] at h
    have h' : (if 1 ≤ op ∧ op ≤ 19 then (rd (sh (op - 1).toNat) rest).map fun ns => ((op - 1).toNat, ns) else none) = some q := h
    by_cases ho : 1 ≤ op ∧ op ≤ 19
    · rw [if_pos ho] at h'
      cases er : rd (sh (op - 1).toNat) rest with
      | none => rw [er] at h'; cases h'
      | some ns =>
        rw [er] at h'
        cases h'
        refine ⟨by show (op - 1).toNat < 19; omega, ?_, rd_len er⟩
        have hs : ¬ rest.length < sz (sh (op - 1).toNat) := fun z => by
          rw [rd_short _ _ z] at er
          cases er
        have hl := congrArg List.length ed
        rw [List.length_drop, List.length_cons] at hl
        show p + 1 + sz (sh (op - 1).toNat) ≤ xs.length
        omega
    · rw [if_neg ho] at h'
      cases h'
theorem idx_ins0 (tabs : List (List (PySem.Str × D))) (s : Hs) (j : Nat) (ns : List Int) : idxop tabs s (insD j ns) (.int 0) = some (.str (wd j)) := at0 _ _
theorem r14 {j : Nat} (hj : j < 19) (ns : List Int) (p : Nat) (s : Hs) : runFn T wf (k + 2) 14 [.int (p : Int), insD j ns] s = .ok (.int ((p + 1 + sz (sh j) : Nat) : Int)) s := by
  have e : ((p : Int) + ((1 + sz (sh j) : Nat) : Int)) = ((p + 1 + sz (sh j) : Nat) : Int) := by omega
  refine rfR (f := i_behind) rfl rfl rfl (s' := s) (ev_bin (ev_var rfl) (ev_call (as1 (ev_idx (ev_var rfl) rfl (idx_ins0 _ s j ns)) as0) (r28 (wf := wf) (k := k) j hj s)) ?_)
  rw [← e]
  rfl
/-- what walked tells -/
def wl : Nat → List Int → Nat → List D × Option Nat
  | 0, _, _ => ([], none)
  | n + 1, xs, p => if xs.length ≤ p then ([], none) else match decN xs p with
    | none => ([], some p)
    | some q => (.tup [.int (p : Nat), insD q.1 q.2] :: (wl n xs (p + 1 + sz (sh q.1))).1, (wl n xs (p + 1 + sz (sh q.1))).2)
def kTest : Ex := .cmp .lt (.var 2) (.bi .len (.cons (.var 0) .nil))
def kb1 : CN.St := .asg (.nm 3) (.call 25 (.cons (.var 0) (.cons (.var 2) .nil)))
def kb2E : Ex := .tup (.cons (.bi .tuple (.cons (.var 1) .nil)) (.cons (.var 2) .nil))
def kb3 : CN.St := .expr (.bm .append (.var 1) (.cons (.tup (.cons (.var 2) (.cons (.var 3) .nil))) .nil))
def kb4 : CN.St := .asg (.nm 2) (.call 14 (.cons (.var 2) (.cons (.var 3) .nil)))
def kBody : Sts := .cons kb1 (.cons (.ite (.isN false (.var 3)) (.cons (.ret kb2E) .nil) .nil) (.cons kb3 (.cons kb4 .nil)))
abbrev kE (xs : List Int) (p : Nat) (q : Sl) : CN.Env := [.has (.tup (xs.map D.int)), .has (.ref 0), .has (.int (p : Int)), q]
theorem kTest_ok {call : Nat → List D → Hs → Res D} (xs : List Int) (p : Nat) (q : Sl) (S : Hs) : (evP T call kTest).t (kE xs p q) S = .ok (decide (p < xs.length)) S := by
  have e : (evP T call kTest).t (kE xs p q) S = .ok (decide ((p : Int) < (((xs.map D.int).length : Nat) : Int))) S := rfl
  rw [e, List.length_map]
  by_cases h : p < xs.length
  · rw [decide_eq_true h, decide_eq_true (by omega)]
  · rw [decide_eq_false h, decide_eq_false (by omega)]
theorem kb2_ok {call : Nat → List D → Hs → Res D} (xs : List Int) (p : Nat) (q : Sl) (acc : List D) : (evP T call kb2E).e (kE xs p q) [.lst acc] = .ok (.tup [.tup acc, .int (p : Int)]) [.lst acc] := by
  have z : 2 ≤ PySem.sizeLine := by decide
  simp [kb2E, z, evalE, evalT, evalEs, evalO, evalC, evalI, evalSs, evalS, evP, evPs, evO, evC, evI, pE, consL, pick, and2, or2, andT2, orT2, callM, callvM, makeM, madeBy, methM, biM, bmM, attrM, idxM, slM, soM, tupM, lstM, boxed, binM, cmpM, isNM, chainM, CN.notM, notT, negM, iteM, varM, asgM, subM, fldM, parM, augM, augfM, CN.forM, thruM, truly, assignTg, setAll, startE, fin, back, truth, binop, slop, bifun, bmeth, bmTy, seqAt, lstAt, tyName, isi, isNd, lenOk, putN, augop]
theorem kb3_ok {call : Nat → List D → Hs → Res D} (xs : List Int) (p : Nat) (d : D) (acc : List D) (hl : acc.length + 1 ≤ 5000) : evalS T wf call kb3 (kE xs p (.has d)) [.lst acc] = .ok (.next (kE xs p (.has d))) [.lst (acc ++ [.tup [.int (p : Int), d]])] := by
  have z : 2 ≤ PySem.sizeLine := by decide
  have hz : acc.length < PySem.sizeLine := Nat.lt_of_lt_of_le (by omega : acc.length < 5000) (by decide)
  simp [kb3, z, hz, evalE, evalT, evalEs, evalO, evalC, evalI, evalSs, evalS, evP, evPs, evO, evC, evI, pE, consL, pick, and2, or2, andT2, orT2, callM, callvM, makeM, madeBy, methM, biM, bmM, attrM, idxM, slM, soM, tupM, lstM, boxed, binM, cmpM, isNM, chainM, CN.notM, notT, negM, iteM, varM, asgM, subM, fldM, parM, augM, augfM, CN.forM, thruM, truly, assignTg, setAll, startE, fin, back, truth, binop, slop, bifun, bmeth, bmTy, seqAt, lstAt, tyName, isi, isNd, lenOk, putN, augop]
theorem kTurn {xs : List Int} (hb : Bytes xs) (p : Nat) (q : Sl) (acc : List D) (hl : acc.length + 1 ≤ 5000) :
    evalSs T wf (runFn T wf (k + 3)) kBody (kE xs p q) [.lst acc] = match decN xs p with
      | none => .ok (.ret (.tup [.tup acc, .int (p : Int)])) [.lst acc]
      | some i => .ok (.next (kE xs (p + 1 + sz (sh i.1)) (.has (insD i.1 i.2)))) [.lst (acc ++ [.tup [.int (p : Int), insD i.1 i.2]])] := by
  have h25 := r25 (wf := wf) (k := k) xs hb p [GO.lst acc]
  rw [dec_N] at h25
  have t1 : evalS T wf (runFn T wf (k + 3)) kb1 (kE xs p q) [.lst acc] = .ok (.next (kE xs p (.has (insO (decN xs p))))) [.lst acc] := by
    have e : evalS T wf (runFn T wf (k + 3)) kb1 (kE xs p q) [.lst acc] = (runFn T wf (k + 3) 25 [.tup (xs.map D.int), .int (p : Int)] [.lst acc]).bs (kE xs p q) fun d s1 => Res.of ((assignTg (kE xs p q) (.nm 3) d).map .next) s1 := rfl
    rw [e, h25]
    rfl
  unfold kBody
  rw [nx t1]
  cases hd : decN xs p with
  | none =>
    rw [rt (ite_t (s1 := [.lst acc]) rfl (rt (ret_ok (kb2_ok xs p _ acc))))]
  | some i =>
    have hj := (decN_some hd).1
    have t4 : evalS T wf (runFn T wf (k + 3)) kb4 (kE xs p (.has (insD i.1 i.2))) [.lst (acc ++ [.tup [.int (p : Int), insD i.1 i.2]])] = .ok (.next (kE xs (p + 1 + sz (sh i.1)) (.has (insD i.1 i.2)))) [.lst (acc ++ [.tup [.int (p : Int), insD i.1 i.2]])] := by
      have e : evalS T wf (runFn T wf (k + 3)) kb4 (kE xs p (.has (insD i.1 i.2))) [.lst (acc ++ [.tup [.int (p : Int), insD i.1 i.2]])] = (runFn T wf (k + 3) 14 [.int (p : Int), insD i.1 i.2] [.lst (acc ++ [.tup [.int (p : Int), insD i.1 i.2]])]).bs (kE xs p (.has (insD i.1 i.2))) fun d s1 => Res.of ((assignTg (kE xs p (.has (insD i.1 i.2))) (.nm 2) d).map .next) s1 := rfl
      rw [e, r14 (k := k + 1) hj]
      rfl
    show evalSs T wf (runFn T wf (k + 3)) (.cons (.ite (.isN false (.var 3)) (.cons (.ret kb2E) .nil) .nil) (.cons kb3 (.cons kb4 .nil))) (kE xs p (.has (insD i.1 i.2))) [.lst acc] = _
    rw [nx (ite_f (s' := [.lst acc]) rfl), nx (kb3_ok xs p _ acc hl), nx t4]
    rfl
theorem loopWhl_stop {test : MT} {body : MS} {env : CN.Env} {s s' : Hs} {n : Nat} (h : test env s = .ok false s') : loopWhl test body (n + 1) env s = .ok (.next env) s' := by
  rw [loopWhl, h]
  rfl
theorem loopWhl_nx {test : MT} {body : MS} {env env' : CN.Env} {s s1 s' : Hs} {n : Nat} (h : test env s = .ok true s1) (hb : body env s1 = .ok (.next env') s') : loopWhl test body (n + 1) env s = loopWhl test body n env' s' := by
  rw [loopWhl, h, Res.bs_ok, if_pos rfl, hb]
  rfl
theorem loopWhl_rt {test : MT} {body : MS} {env : CN.Env} {s s1 s' : Hs} {n : Nat} {d : D} (h : test env s = .ok true s1) (hb : body env s1 = .ok (.ret d) s') : loopWhl test body (n + 1) env s = .ok (.ret d) s' := by
  rw [loopWhl, h, Res.bs_ok, if_pos rfl, hb]
  rfl
theorem kLoop {xs : List Int} (hb : Bytes xs) : ∀ (n m p : Nat) (q : Sl) (acc : List D), xs.length ≤ p + n → n < m → acc.length + n ≤ 5000 →
    (∃ f, (wl n xs p).2 = some f ∧ loopWhl (evP T (runFn T wf (k + 3)) kTest).t (evalSs T wf (runFn T wf (k + 3)) kBody) m (kE xs p q) [.lst acc] = .ok (.ret (.tup [.tup (acc ++ (wl n xs p).1), .int (f : Nat)])) [.lst (acc ++ (wl n xs p).1)]) ∨
    ((wl n xs p).2 = none ∧ ∃ p' q', loopWhl (evP T (runFn T wf (k + 3)) kTest).t (evalSs T wf (runFn T wf (k + 3)) kBody) m (kE xs p q) [.lst acc] = .ok (.next (kE xs p' q')) [.lst (acc ++ (wl n xs p).1)])
  | 0, 0, p, q, acc, _, h, _ => by omega
  | n + 1, 0, p, q, acc, _, h, _ => by omega
  | 0, m + 1, p, q, acc, h1, h2, h3 => by
    have t := kTest_ok (call := runFn T wf (k + 3)) xs p q [GO.lst acc]
    rw [decide_eq_false (by omega)] at t
    refine .inr ⟨rfl, p, q, ?_⟩
    rw [loopWhl_stop t]
    simp [wl]
  | n + 1, m + 1, p, q, acc, h1, h2, h3 => by
    have t := kTest_ok (call := runFn T wf (k + 3)) xs p q [GO.lst acc]
    by_cases hp : xs.length ≤ p
    · rw [decide_eq_false (by omega)] at t
      refine .inr ⟨by unfold wl; rw [if_pos hp], p, q, ?_⟩
      rw [loopWhl_stop t]
      unfold wl
      rw [if_pos hp]
      simp
    · rw [decide_eq_true (by omega)] at t
      have tb := kTurn (wf := wf) (k := k) hb p q acc (by omega)
      cases hd : decN xs p with
      | none =>
        rw [hd] at tb
        refine .inl ⟨p, by unfold wl; rw [if_neg hp, hd], ?_⟩
        rw [loopWhl_rt t tb]
        unfold wl
        rw [if_neg hp, hd]
        simp
      | some i =>
        rw [hd] at tb
        dsimp only at tb
        have e1 : (wl (n + 1) xs p).1 = .tup [.int (p : Nat), insD i.1 i.2] :: (wl n xs (p + 1 + sz (sh i.1))).1 := by
          conv => lhs; unfold wl
          rw [if_neg hp, hd]
        have e2 : (wl (n + 1) xs p).2 = (wl n xs (p + 1 + sz (sh i.1))).2 := by
          conv => lhs; unfold wl
          rw [if_neg hp, hd]
        rcases kLoop hb n m (p + 1 + sz (sh i.1)) (.has (insD i.1 i.2)) (acc ++ [.tup [.int (p : Int), insD i.1 i.2]]) (by omega) (by omega) (by simp; omega) with ⟨f, g1, g2⟩ | ⟨g1, p', q', g2⟩
        · refine .inl ⟨f, by rw [e2, g1], ?_⟩
          rw [loopWhl_nx t tb, g2, e1]
          simp
        · refine .inr ⟨by rw [e2, g1], p', q', ?_⟩
          rw [loopWhl_nx t tb, g2, e1]
          simp
theorem noRefs_wl : ∀ (n : Nat) (xs : List Int) (p : Nat), noRefs (wl n xs p).1 = true
  | 0, _, _ => rfl
  | n + 1, xs, p => by
    unfold wl
    split
    · rfl
    · cases decN xs p with
      | none => rfl
      | some q =>
        show ((true && (noRef (insD q.1 q.2) && true)) && noRefs (wl n xs (p + 1 + sz (sh q.1))).1) = true
        rw [noRef_ins, noRefs_wl n xs]
        rfl
def optN : Option Nat → D
  | some f => .int (f : Nat)
  | none => .non
theorem r11 {xs : List Int} (hb : Bytes xs) (hl : xs.length ≤ 900) (s : Hs) : runFn T 1000 (k + 4) 11 [.tup (xs.map D.int)] s = .ok (.tup [.tup (wl xs.length xs 0).1, optN (wl xs.length xs 0).2]) s := by
  rw [rf4 (f := i_walked) rfl rfl (by show (noRefs (xs.map D.int) && true) = true; rw [noRefs_ints]; rfl)]
  have e0 : i_walked.body = .cons (.asg (.nm 1) (.box (.lst .nil))) (.cons (.asg (.nm 2) (.cst (.int 0))) (.cons (.whl kTest kBody) (.cons (.ret (.tup (.cons (.bi .tuple (.cons (.var 1) .nil)) (.cons (.cst (.non)) .nil)))) .nil))) := rfl
  have e1 : startE i_walked.slots [.tup (xs.map D.int)] = [.has (.tup (xs.map D.int)), .no, .no, .no] := rfl
  have t1 : evalS T 1000 (runFn T 1000 (k + 3)) (.asg (.nm 1) (.box (.lst .nil))) [.has (.tup (xs.map D.int)), .no, .no, .no] [] = .ok (.next [.has (.tup (xs.map D.int)), .has (.ref 0), .no, .no]) [.lst []] := rfl
  have t2 : evalS T 1000 (runFn T 1000 (k + 3)) (.asg (.nm 2) (.cst (.int 0))) [.has (.tup (xs.map D.int)), .has (.ref 0), .no, .no] [.lst []] = .ok (.next (kE xs 0 .no)) [.lst []] := rfl
  have z : 2 ≤ PySem.sizeLine := by decide
  rw [e0, e1, nx t1, nx t2]
  have ew : evalS T 1000 (runFn T 1000 (k + 3)) (.whl kTest kBody) (kE xs 0 .no) [.lst []] = loopWhl (evP T (runFn T 1000 (k + 3)) kTest).t (evalSs T 1000 (runFn T 1000 (k + 3)) kBody) 1000 (kE xs 0 .no) [.lst []] := by rw [evalS]
  rcases kLoop (wf := 1000) (k := k) hb xs.length 1000 0 .no [] (by omega) (by omega) (by simp; omega) with ⟨f, g1, g2⟩ | ⟨g1, p', q', g2⟩
  · rw [rt (ew.trans g2), g1]
    rw [List.nil_append]
    exact bf_ret (by show (noRefs (wl xs.length xs 0).1 && (true && true)) = true; rw [noRefs_wl]; rfl)
  · have t4 : (evP T (runFn T 1000 (k + 3)) (.tup (.cons (.bi .tuple (.cons (.var 1) .nil)) (.cons (.cst (.non)) .nil)))).e (kE xs p' q') [.lst ([] ++ (wl xs.length xs 0).1)] = .ok (.tup [.tup (wl xs.length xs 0).1, .non]) [.lst ([] ++ (wl xs.length xs 0).1)] := by simp [z, evalE, evalT, evalEs, evalO, evalC, evalI, evalSs, evalS, evP, evPs, evO, evC, evI, pE, consL, pick, and2, or2, andT2, orT2, callM, callvM, makeM, madeBy, methM, biM, bmM, attrM, idxM, slM, soM, tupM, lstM, boxed, binM, cmpM, isNM, chainM, CN.notM, notT, negM, iteM, varM, asgM, subM, fldM, parM, augM, augfM, CN.forM, thruM, truly, assignTg, setAll, startE, fin, back, truth, binop, slop, bifun, bmeth, bmTy, seqAt, lstAt, tyName, isi, isNd, lenOk, putN, augop]
    rw [nx (ew.trans g2), rt (ret_ok t4), g1]
    exact bf_ret (by show (noRefs (wl xs.length xs 0).1 && (true && true)) = true; rw [noRefs_wl]; rfl)
end K66
set_option Elab.async false
set_option linter.all false
set_option maxRecDepth 100000
set_option maxHeartbeats 4000000
/-! R10: lines of listings, written. -/
namespace K66
open CN
variable {wf k : Nat} {cells : List Int} {rest s : Hs}
theorem tx (x : String) (l : List Nat) (h : x.toList.map Char.toNat = l) : PySem.Str.ofString x = S l := by
  refine TL.ext_tl ?_
  rw [TL.tl_ofString, h]
  first
    | done
    | rfl
theorem t_r : ("r" : PySem.Str) = S [114] := tx "r" [114] (by decide +kernel)
theorem d_sp : (D.str " ") = dS [32] := congrArg D.str (tx " " [32] (by decide +kernel))
theorem d_nl : (D.str "\n") = dS [10] := congrArg D.str (tx "\n" [10] (by decide +kernel))
theorem d_r : (D.str "r") = dS [114] := congrArg D.str (tx "r" [114] (by decide +kernel))
theorem d_e : (D.str "") = dS [] := congrArg D.str (tx "" [] (by decide +kernel))
theorem d_0 : (D.str "0") = dS [48] := congrArg D.str (tx "0" [48] (by decide +kernel))
theorem t_sp : (" " : PySem.Str) = S [32] := tx " " [32] (by decide +kernel)
theorem t_nl : ("\n" : PySem.Str) = S [10] := tx "\n" [10] (by decide +kernel)
theorem t_e : ("" : PySem.Str) = S [] := tx "" [] (by decide +kernel)
theorem t_0 : ("0" : PySem.Str) = S [48] := tx "0" [48] (by decide +kernel)
def wdL (j : Nat) : List Nat := (wd j).cps.toList
theorem wd_S (j : Nat) : wd j = S (wdL j) := (SX.S_tl (wd j)).symm
def opL : Kd → Int → List Nat
  | .r, x => 114 :: numL x.toNat
  | _, x => numL x.toNat
def opsL : List Kd → List Int → List (List Nat)
  | c :: cs, x :: xs => opL c x :: opsL cs xs
  | _, _ => []
def pcs (q : Nat × List Int) : List (List Nat) := wdL q.1 :: opsL (sh q.1) q.2
def lineL (a : Nat) (q : Nat × List Int) : List Nat := joinL [32] (numL a :: pcs q)
theorem sumL_le {m : Nat} : ∀ {ps : List (List Nat)}, (∀ p ∈ ps, p.length ≤ m) → sumL ps ≤ m * ps.length
  | [], _ => by simp [sumL]
  | p :: ps, h => by
    have h1 := h p List.mem_cons_self
    have h2 := sumL_le fun q hq => h q (List.mem_cons_of_mem p hq)
    unfold sumL at *
    rw [List.map_cons, List.sum_cons, List.length_cons, Nat.mul_succ]
    omega
theorem joinL_len (c : Nat) : ∀ ps : List (List Nat), (joinL [c] ps).length ≤ sumL ps + ps.length
  | [] => by simp [joinL_nil]
  | [p] => by
    rw [joinL_one]
    simp [sumL]
  | p :: q :: ps => by
    have h := joinL_len c (q :: ps)
    rw [joinL_two, List.length_append, List.length_append]
    unfold sumL at *
    simp only [List.map_cons, List.sum_cons, List.length_cons, List.length_nil] at *
    omega
theorem wdL_len {j : Nat} (hj : j < 19) : (wdL j).length ≤ 4 := of_decide_eq_true (of_all (p := fun j => decide ((wdL j).length ≤ 4)) (by decide +kernel) hj)
theorem wdL_ok {j : Nat} (hj : j < 19) : okT (wdL j) = true := of_all (p := fun j => okT (wdL j)) (by decide +kernel) hj
theorem num_len5 {n : Nat} (h : n < 100000) : (numL n).length ≤ 5 := TL.numL_len (by decide) h
theorem opL_len {c : Kd} {x : Int} (h : 0 ≤ x ∧ x < c.lim) : (opL c x).length ≤ 6 := by
  have hl : c.lim ≤ 65536 := by cases c <;> decide
  have h5 := num_len5 (n := x.toNat) (by omega)
  cases c with
  | r => show (numL x.toNat).length + 1 ≤ 6; omega
  | n => show (numL x.toNat).length ≤ 6; omega
  | A => show (numL x.toNat).length ≤ 6; omega
theorem opsL_mem : ∀ {cs : List Kd} {ns : List Int} {p : List Nat}, vals cs ns → p ∈ opsL cs ns → ∃ (c : Kd) (x : Int), (0 ≤ x ∧ x < c.lim) ∧ p = opL c x
  | [], [], p, _, h => by cases h
  | [], _ :: _, p, h, _ => h.elim
  | _ :: _, [], p, h, _ => h.elim
  | c :: cs, x :: xs, p, h, hp => by
    rcases List.mem_cons.mp (show p ∈ opL c x :: opsL cs xs from hp) with rfl | hp
    · exact ⟨c, x, h.1, rfl⟩
    · exact opsL_mem h.2 hp
theorem opsL_len : ∀ {cs : List Kd} {ns : List Int}, vals cs ns → (opsL cs ns).length = cs.length
  | [], [], _ => rfl
  | [], _ :: _, h => h.elim
  | _ :: _, [], h => h.elim
  | c :: cs, x :: xs, h => by
    show (opsL cs xs).length + 1 = cs.length + 1
    rw [opsL_len h.2]
/-- an instruction -/
abbrev In (q : Nat × List Int) : Prop := q.1 < 19 ∧ vals (sh q.1) q.2
theorem pcs_len {q : Nat × List Int} (h : In q) : (pcs q).length ≤ 4 := by
  have h1 := opsL_len h.2
  have h2 := sh_len h.1
  show (opsL (sh q.1) q.2).length + 1 ≤ 4
  omega
theorem pcs_short {q : Nat × List Int} (h : In q) : ∀ p ∈ pcs q, p.length ≤ 6 := by
  intro p hp
  rcases List.mem_cons.mp (show p ∈ wdL q.1 :: opsL (sh q.1) q.2 from hp) with rfl | hp
  · exact Nat.le_trans (wdL_len h.1) (by decide)
  · obtain ⟨c, x, hx, rfl⟩ := opsL_mem h.2 hp
    exact opL_len hx
theorem line_pcs {a : Nat} (ha : a < 100000) {q : Nat × List Int} (h : In q) : ∀ p ∈ numL a :: pcs q, p.length ≤ 6 := by
  intro p hp
  rcases List.mem_cons.mp hp with rfl | hp
  · exact Nat.le_trans (num_len5 ha) (by decide)
  · exact pcs_short h p hp
theorem lineL_len {a : Nat} (ha : a < 100000) {q : Nat × List Int} (h : In q) : (lineL a q).length ≤ 40 := by
  have h1 := joinL_len 32 (numL a :: pcs q)
  have h2 := sumL_le (line_pcs ha h)
  have h3 := pcs_len h
  rw [List.length_cons] at h1 h2
  show (joinL [32] (numL a :: pcs q)).length ≤ 40
  omega
/-! the program's writers -/
theorem isBox (c : Kd) (s : Hs) : cmpop T.tabs s .eq (.str c.str) (.str "box") = some (decide (c = .r)) := by
  cases c <;> exact (eqD_str s _ _ (by decide +kernel) (by decide +kernel)).trans (congrArg some (by decide +kernel))
theorem str_nat (s : Hs) {x : Int} (h0 : 0 ≤ x) (h1 : x < 100000) : bifun s .str [.int x] = some (dS (numL x.toNat)) := by
  have h := str_int s x.toNat (by omega)
  rw [Int.toNat_of_nonneg h0] at h
  exact h
theorem r35 (c : Kd) {x : Int} (hx : 0 ≤ x ∧ x < c.lim) (s : Hs) : runFn T wf (k + 1) 35 [.str c.str, .int x] s = .ok (dS (opL c x)) s := by
  have hl : c.lim ≤ 65536 := by cases c <;> decide
  have h1 := isBox c s
  have h2 := str_nat s hx.1 (by omega)
  have h5 := num_len5 (n := x.toNat) (by omega)
  have h3 : binop s .add (.str "r") (dS (numL x.toNat)) = some (dS (114 :: numL x.toNat)) := by
    rw [t_r]
    exact add_S s (a := [114]) (b := numL x.toNat) (small5 (by show 1 + (numL x.toNat).length ≤ 5000; omega))
  refine rfR (f := i_operand_piece) rfl rfl rfl (s' := s) ?_
  by_cases hc : c = .r
  · subst hc
    exact ev_iteT (ev_cmpT (ev_var rfl) rfl h1) (ev_bin rfl (ev_bi (as1 (ev_var rfl) as0) h2) h3)
  · rw [decide_eq_false hc] at h1
    have eo : opL c x = numL x.toNat := by cases c <;> first | rfl | exact absurd rfl hc
    rw [eo]
    exact ev_iteF (ev_cmpT (ev_var rfl) rfl h1) (ev_bi (as1 (ev_var rfl) as0) h2)
def pcBody : Sts := .cons (.expr (.bm .append (.var 1) (.cons (.call 35 (.cons (.var 2) (.cons (.var 3) .nil))) .nil))) .nil
theorem pcTurn (a p q : Sl) (c : Kd) {x : Int} (hx : 0 ≤ x ∧ x < c.lim) (acc : List D) (hl : acc.length + 1 ≤ 5000) : forStep (.tp [2, 3]) (evalSs T wf (runFn T wf (k + 1)) pcBody) (.tup [.str c.str, .int x]) [a, .has (.ref 0), p, q] [.lst acc] = .ok (.next [a, .has (.ref 0), .has (.str c.str), .has (.int x)]) [.lst (acc ++ [dS (opL c x)])] := by
  have h := r35 (wf := wf) (k := k) c hx [GO.lst acc]
  have hz : acc.length < PySem.sizeLine := Nat.lt_of_lt_of_le (by omega : acc.length < 5000) (by decide)
  have e : forStep (.tp [2, 3]) (evalSs T wf (runFn T wf (k + 1)) pcBody) (.tup [.str c.str, .int x]) [a, .has (.ref 0), p, q] [.lst acc] = evalSs T wf (runFn T wf (k + 1)) pcBody [a, .has (.ref 0), .has (.str c.str), .has (.int x)] [.lst acc] := rfl
  rw [e]
  unfold pcBody
  simp [h, hz, evalE, evalT, evalEs, evalO, evalC, evalI, evalSs, evalS, evP, evPs, evO, evC, evI, pE, consL, pick, and2, or2, andT2, orT2, callM, callvM, makeM, madeBy, methM, biM, bmM, attrM, idxM, slM, soM, tupM, lstM, boxed, binM, cmpM, isNM, chainM, CN.notM, notT, negM, iteM, varM, asgM, subM, fldM, parM, augM, augfM, CN.forM, thruM, truly, assignTg, setAll, startE, fin, back, truth, binop, slop, bifun, bmeth, bmTy, seqAt, lstAt, tyName, isi, isNd, lenOk, putN, augop]
theorem pcLoop (a : Sl) : ∀ (cs : List Kd) (ns : List Int) (p q : Sl) (acc : List D), vals cs ns → acc.length + cs.length ≤ 5000 → ∃ p' q', loopFor (forStep (.tp [2, 3]) (evalSs T wf (runFn T wf (k + 1)) pcBody)) none (zipD (cs.map fun (c : Kd) => D.str c.str) (ns.map D.int)) [a, .has (.ref 0), p, q] [.lst acc] = .ok (.next [a, .has (.ref 0), p', q']) [.lst (acc ++ (opsL cs ns).map dS)]
  | [], [], p, q, acc, _, _ => ⟨p, q, by simp [zipD, loopFor, opsL]⟩
  | [], _ :: _, p, q, acc, h, _ => h.elim
  | _ :: _, [], p, q, acc, h, _ => h.elim
  | c :: cs, x :: xs, p, q, acc, hv, hl => by
    rw [List.length_cons] at hl
    obtain ⟨p', q', h⟩ := pcLoop a cs xs (.has (.str c.str)) (.has (.int x)) (acc ++ [dS (opL c x)]) hv.2 (by simp; omega)
    refine ⟨p', q', ?_⟩
    show loopFor _ none (.tup [.str c.str, .int x] :: zipD (cs.map fun (c : Kd) => D.str c.str) (xs.map D.int)) _ _ = _
    rw [loopFor_nx (pcTurn a p q c hv.1 acc (by omega)) rfl, h]
    simp [opsL]
theorem noRefs_dS : ∀ ps : List (List Nat), noRefs (ps.map dS) = true
  | [] => rfl
  | p :: ps => by show (true && noRefs (ps.map dS)) = true; rw [noRefs_dS ps]; rfl
theorem sl_ins1 (s : Hs) (j : Nat) (ns : List Int) : slop s (insD j ns) (some 1) none = some (.tup (ns.map D.int)) := by
  show some (D.tup (CN.cut (.str (wd j) :: ns.map D.int) (some 1) none)) = _
  rw [cut1]
theorem r34 {q : Nat × List Int} (h : In q) (s : Hs) : runFn T wf (k + 2) 34 [insD q.1 q.2] s = .ok (.tl ((pcs q).map dS)) s := by
  rw [rf4 (f := i_instruction_pieces) rfl rfl (by show (noRef (insD q.1 q.2) && true) = true; rw [noRef_ins]; rfl)]
  have h1 := idx_opnds h.1 ([GO.lst [.str (wd q.1)]] : Hs)
  have z : 1 ≤ PySem.sizeLine := by decide
  obtain ⟨p', q', hL⟩ := pcLoop (wf := wf) (k := k) (.has (insD q.1 q.2)) (sh q.1) q.2 .no .no [.str (wd q.1)] h.2 (by have := sh_len h.1; simp; omega)
  have t2 : (evP T (runFn T wf (k + 1)) (.box (.lst (.cons (.idx (.var 0) (.cst (.int 0))) .nil)))).e [.has (insD q.1 q.2), .no, .no, .no] [] = .ok (.ref 0) [.lst [.str (wd q.1)]] := by simp [insD, z, evalE, evalT, evalEs, evalO, evalC, evalI, evalSs, evalS, evP, evPs, evO, evC, evI, pE, consL, pick, and2, or2, andT2, orT2, callM, callvM, makeM, madeBy, methM, biM, bmM, attrM, idxM, slM, soM, tupM, lstM, boxed, binM, cmpM, isNM, chainM, CN.notM, notT, negM, iteM, varM, asgM, subM, fldM, parM, augM, augfM, CN.forM, thruM, truly, assignTg, setAll, startE, fin, back, truth, binop, slop, bifun, bmeth, bmTy, seqAt, lstAt, tyName, isi, isNd, lenOk, putN, augop]
  have t3 : evI T (runFn T wf (k + 1)) (.zip (.idx (.glob 1) (.idx (.var 0) (.cst (.int 0)))) (.sl (.var 0) (.so (.cst (.int 1))) .no)) [.has (insD q.1 q.2), .has (.ref 0), .no, .no] [.lst [.str (wd q.1)]] = .ok (zipD ((sh q.1).map fun (c : Kd) => D.str c.str) (q.2.map D.int), none) [.lst [.str (wd q.1)]] :=
    iq_zip (ev_idx (ev_glob rfl) (ev_idx (ev_var rfl) rfl (idx_ins0 _ _ _ _)) h1) (ev_sl1 (ev_var rfl) rfl (sl_ins1 _ _ _))
  have e0 : i_instruction_pieces.body = .cons (.asg (.nm 1) (.box (.lst (.cons (.idx (.var 0) (.cst (.int 0))) .nil)))) (.cons (.for_ (.tp [2, 3]) (.zip (.idx (.glob 1) (.idx (.var 0) (.cst (.int 0)))) (.sl (.var 0) (.so (.cst (.int 1))) .no)) pcBody) (.cons (.ret (.var 1)) .nil)) := rfl
  have e1 : startE i_instruction_pieces.slots [insD q.1 q.2] = [.has (insD q.1 q.2), .no, .no, .no] := rfl
  rw [e0, e1, nx (asg_ok t2)]
  show backF 5 s (evalSs T wf (runFn T wf (k + 1)) _ [.has (insD q.1 q.2), .has (.ref 0), .no, .no] _) = _
  rw [nx (for_ok t3 hL), rt (ret_ok (d := .ref 0) rfl)]
  have e2 : [D.str (wd q.1)] ++ (opsL (sh q.1) q.2).map dS = (pcs q).map dS := by
    rw [wd_S]
    rfl
  rw [e2]
  show (if noRefs ((pcs q).map dS) = true then (Res.ok (D.tl ((pcs q).map dS)) s : Res D) else .stuck) = _
  rw [if_pos (noRefs_dS _)]
theorem r33 (ps : List (List Nat)) (hl : sumL ps + ps.length ≤ 16777216) (s : Hs) : runFn T wf (k + 1) 33 [.tl (ps.map dS)] s = .ok (dS (joinL [32] ps)) s := by
  have h := bm_join s [32] ps (.tl (ps.map dS)) rfl (by simpa using hl)
  rw [← d_sp] at h
  exact rfR (f := i_line_of) rfl rfl rfl (ev_bm rfl rfl (as1 (ev_var rfl) as0) h)
theorem r24 (ps : List (List Nat)) (hl : sumL ps + ps.length ≤ 16777216) (s : Hs) : runFn T wf (k + 1) 24 [.tl (ps.map dS)] s = .ok (dS (joinL [10] ps)) s := by
  have h := bm_join s [10] ps (.tl (ps.map dS)) rfl (by simpa using hl)
  rw [← d_nl] at h
  exact rfR (f := i_text_of) rfl rfl rfl (ev_bm rfl rfl (as1 (ev_var rfl) as0) h)
theorem r31 {a : Nat} (ha : a < 100000) {q : Nat × List Int} (h : In q) (s : Hs) : runFn T wf (k + 3) 31 [.int (a : Int), insD q.1 q.2] s = .ok (dS (lineL a q)) s := by
  have h1 := str_int ([] : Hs) a (by omega)
  have h2 := r34 (wf := wf) (k := k) h []
  have h3 := sumL_le (line_pcs ha h)
  have h4 := pcs_len h
  have h5 := r33 (wf := wf) (k := k + 1) (numL a :: pcs q) (by rw [List.length_cons] at *; omega) []
  have hz : [dS (numL a)].length + ((pcs q).map dS).length ≤ PySem.sizeLine := small5 (by rw [List.length_map, List.length_singleton]; omega)
  have h6 : binop ([] : Hs) .add (.tl [dS (numL a)]) (.tl ((pcs q).map dS)) = some (.tl ((numL a :: pcs q).map dS)) := by
    show (if [dS (numL a)].length + ((pcs q).map dS).length ≤ PySem.sizeLine then some (D.tl ([dS (numL a)] ++ (pcs q).map dS)) else none) = _
    rw [if_pos hz]
    rfl
  exact rfR4 (f := i_listing_line) rfl rfl rfl (ev_call (as1 (ev_bin (ev_lst (as1 (ev_bi (as1 (ev_var rfl) as0) h1) as0) (by show 1 ≤ 5000; decide)) (ev_call (as1 (ev_var rfl) as0) h2) h6) as0) h5) (by show (true && (noRef (insD q.1 q.2) && true)) = true; rw [noRef_ins]; rfl) rfl
end K66
set_option Elab.async false
set_option linter.all false
set_option maxRecDepth 100000
set_option maxHeartbeats 4000000
/-! R11: listed, write_listing. -/
namespace K66
open CN
variable {wf k : Nat} {cells : List Int} {rest s : Hs}
def prs : Nat → List (Nat × List Int) → List D
  | _, [] => []
  | a, q :: ps => .tup [.int (a : Nat), insD q.1 q.2] :: prs (a + (row q.1 q.2).length) ps
def lns : Nat → List (Nat × List Int) → List (List Nat)
  | _, [] => []
  | a, q :: ps => lineL a q :: lns (a + (row q.1 q.2).length) ps
theorem encs_sz : ∀ {cs : List Kd} {ns : List Int}, vals cs ns → (encs cs ns).length = sz cs
  | [], [], _ => rfl
  | [], _ :: _, h => h.elim
  | _ :: _, [], h => h.elim
  | c :: cs, x :: xs, h => by
    have h2 := encs_sz h.2
    show (encK c x ++ encs cs xs).length = c.size + sz cs
    rw [List.length_append, h2]
    cases c <;> rfl
theorem row_sz {q : Nat × List Int} (h : In q) : (row q.1 q.2).length = 1 + sz (sh q.1) := by
  show (encs (sh q.1) q.2).length + 1 = _
  rw [encs_sz h.2]
  omega
theorem decN_row {q : Nat × List Int} (h : In q) (pre r : List Int) : decN (pre ++ (row q.1 q.2 ++ r)) pre.length = some q := by
  unfold decN
  rw [List.drop_left]
  show (if 1 ≤ ((q.1 + 1 : Nat) : Int) ∧ ((q.1 + 1 : Nat) : Int) ≤ 19 then (rd (sh (((q.1 + 1 : Nat) : Int) - 1).toNat) (encs (sh q.1) q.2 ++ r)).map fun ns => ((((q.1 + 1 : Nat) : Int) - 1).toNat, ns) else none) = _
  have ej : (((q.1 + 1 : Nat) : Int) - 1).toNat = q.1 := by omega
  have h1 := h.1
  rw [if_pos (by omega), ej, rd_encs r h.2]
  rfl
theorem wl_good : ∀ (ps : List (Nat × List Int)) (pre : List Int) (n : Nat), Is ps → (rowsAll ps).length ≤ n → wl n (pre ++ rowsAll ps) pre.length = (prs pre.length ps, none)
  | [], pre, 0, _, _ => rfl
  | [], pre, n + 1, _, _ => by
    unfold wl
    rw [if_pos (by simp [rowsAll])]
    rfl
  | q :: ps, pre, 0, h, hn => by
    have h1 := row_sz (h q List.mem_cons_self)
    have e : (rowsAll (q :: ps)).length = (row q.1 q.2).length + (rowsAll ps).length := List.length_append
    omega
  | q :: ps, pre, n + 1, h, hn => by
    have hq := h q List.mem_cons_self
    have h1 := row_sz hq
    have e : (rowsAll (q :: ps)).length = (row q.1 q.2).length + (rowsAll ps).length := List.length_append
    have ed := decN_row hq pre (rowsAll ps)
    have e2 : pre ++ rowsAll (q :: ps) = (pre ++ row q.1 q.2) ++ rowsAll ps := (List.append_assoc _ _ _).symm
    have ih := wl_good ps (pre ++ row q.1 q.2) n (fun x hx => h x (List.mem_cons_of_mem _ hx)) (by omega)
    have e3 : (pre ++ row q.1 q.2).length = pre.length + 1 + sz (sh q.1) := by rw [List.length_append]; omega
    unfold wl
    show (if (pre ++ (row q.1 q.2 ++ rowsAll ps)).length ≤ pre.length then _ else match decN (pre ++ (row q.1 q.2 ++ rowsAll ps)) pre.length with | none => _ | some q => _) = _
    rw [if_neg (by rw [List.length_append, List.length_append]; omega), ed]
    dsimp only
    rw [e2, ← e3, ih]
    show (_ :: prs (pre ++ row q.1 q.2).length ps, none) = (_ :: prs (pre.length + (row q.1 q.2).length) ps, none)
    rw [List.length_append]
theorem prs_len : ∀ (a : Nat) (ps), (prs a ps).length = ps.length
  | _, [] => rfl
  | a, q :: ps => by
    show (prs _ ps).length + 1 = ps.length + 1
    rw [prs_len]
theorem lns_len : ∀ (a : Nat) (ps), (lns a ps).length = ps.length
  | _, [] => rfl
  | a, q :: ps => by
    show (lns _ ps).length + 1 = ps.length + 1
    rw [lns_len]
theorem lns_mem : ∀ {a : Nat} {ps} {l : List Nat}, Is ps → l ∈ lns a ps → ∃ b q, In q ∧ b ≤ a + (rowsAll ps).length ∧ l = lineL b q
  | a, q :: ps, l, h, hl => by
    have e : (rowsAll (q :: ps)).length = (row q.1 q.2).length + (rowsAll ps).length := List.length_append
    rcases List.mem_cons.mp (show l ∈ lineL a q :: lns (a + (row q.1 q.2).length) ps from hl) with rfl | hl
    · exact ⟨a, q, h q List.mem_cons_self, by omega, rfl⟩
    · obtain ⟨b, q', h1, h2, h3⟩ := lns_mem (fun x hx => h x (List.mem_cons_of_mem _ hx)) hl
      exact ⟨b, q', h1, by omega, h3⟩
theorem lns_short {a : Nat} {ps} (h : Is ps) (ha : a + (rowsAll ps).length < 100000) : ∀ l ∈ lns a ps, l.length ≤ 40 := by
  intro l hl
  obtain ⟨b, q, h1, h2, rfl⟩ := lns_mem h hl
  exact lineL_len (by omega) h1
theorem prs_all (env : CN.Env) (he : env.length = 3) : ∀ (a : Nat) (ps), Is ps → a + (rowsAll ps).length < 100000 → All2 (fun d r => stepC [1, 2] (.tp [1, 2]) (evC T (runFn T wf (k + 3)) .no) (evP T (runFn T wf (k + 3)) (.call 31 (.cons (.var 1) (.cons (.var 2) .nil)))).e env d s = .ok (some r) s) (prs a ps) ((lns a ps).map dS)
  | _, [], _, _ => trivial
  | a, q :: ps, h, ha => by
    have e : (rowsAll (q :: ps)).length = (row q.1 q.2).length + (rowsAll ps).length := List.length_append
    refine ⟨?_, prs_all env he (a + (row q.1 q.2).length) ps (fun x hx => h x (List.mem_cons_of_mem _ hx)) (by omega)⟩
    match env, he with
    | [x, y, z], _ =>
      exact ev_step (env' := [x, .has (.int (a : Nat)), .has (insD q.1 q.2)]) rfl (ev_call (as1 (ev_var rfl) (as1 (ev_var rfl) as0)) (r31 (wf := wf) (k := k) (by omega) (h q List.mem_cons_self) s))
theorem noRefs_prs : ∀ (a : Nat) (ps), noRefs (prs a ps) = true
  | _, [] => rfl
  | a, q :: ps => by
    show ((true && (noRef (insD q.1 q.2) && true)) && noRefs (prs _ ps)) = true
    rw [noRef_ins, noRefs_prs]
    rfl
theorem r20 (ps) (h : Is ps) (hn : ps.length ≤ 1000) (hl : (rowsAll ps).length < 90000) (s : Hs) : runFn T wf (k + 4) 20 [.tup (prs 0 ps)] s = .ok (dS (joinL [10] (lns 0 ps))) s := by
  have h1 := sumL_le (lns_short (a := 0) h (by omega))
  rw [lns_len] at h1
  have hc := ev_comp (T := T) (c := runFn T wf (k + 3)) (own := [1, 2]) (tg := .tp [1, 2]) (it := .seq (.var 0)) (cond := .no) (elt := .call 31 (.cons (.var 1) (.cons (.var 2) .nil))) (env := [.has (.tup (prs 0 ps)), .no, .no]) (s := []) (s1 := []) (ds := prs 0 ps) (rs := (lns 0 ps).map dS) (w := none) (iq_tup (ev_var rfl)) rfl (prs_all _ rfl 0 ps h (by omega)) (by rw [prs_len]; omega)
  exact rfR4 (f := i_listing_of) rfl rfl rfl (ev_call (as1 hc as0) (r24 (k := k + 2) (lns 0 ps) (by rw [lns_len]; omega) [])) (by show (noRefs (prs 0 ps) && true) = true; rw [noRefs_prs]; rfl) rfl
def listB : Sts := .cons (.expr (.call 21 (.cons (.var 0) .nil))) (.cons (.asg (.tp [1, 2]) (.call 11 (.cons (.var 0) .nil))) (.cons (.ite (.isN true (.var 2)) (.cons (.raise 0 (.cons (.var 2) .nil)) .nil) .nil) (.cons (.ret (.var 1)) .nil)))
theorem listB_ok : i_listed.body = listB := rfl
theorem nr_ints (xs : List Int) : noRefs [.tup (xs.map D.int)] = true := by show (noRefs (xs.map D.int) && true) = true; rw [noRefs_ints]; rfl
theorem r8 {xs : List Int} (hb : Bytes xs) (hl : xs.length ≤ 900) (s : Hs) : runFn T 1000 (k + 6) 8 [.tup (xs.map D.int)] s = (match (wl xs.length xs 0).2 with
    | none => .ok (.tup (wl xs.length xs 0).1) s
    | some f => .err 0 [(0, .int (f : Nat))] s) := by
  rw [rf4 (f := i_listed) rfl rfl (nr_ints xs), listB_ok]
  have e1 : startE i_listed.slots [.tup (xs.map D.int)] = [.has (.tup (xs.map D.int)), .no, .no] := rfl
  have t1 : evalS T 1000 (runFn T 1000 (k + 5)) (.expr (.call 21 (.cons (.var 0) .nil))) [.has (.tup (xs.map D.int)), .no, .no] [] = .ok (.next [.has (.tup (xs.map D.int)), .no, .no]) [] := expr_ok (ev_call (as1 (ev_var rfl) as0) (r21 (fun s => r22_bytes hb (by omega) s) []))
  have t2 : evalS T 1000 (runFn T 1000 (k + 5)) (.asg (.tp [1, 2]) (.call 11 (.cons (.var 0) .nil))) [.has (.tup (xs.map D.int)), .no, .no] [] = .ok (.next [.has (.tup (xs.map D.int)), .has (.tup (wl xs.length xs 0).1), .has (optN (wl xs.length xs 0).2)]) [] := asgt_ok (ev_call (as1 (ev_var rfl) as0) (r11 (k := k + 1) hb hl [])) rfl
  rw [e1]
  unfold listB
  rw [nx t1, nx t2]
  cases hf : (wl xs.length xs 0).2 with
  | none =>
    rw [nx (ite_f (s' := []) (ev_isNT (neg := true) (x := .non) (ev_var rfl))), rt (ret_ok (ev_var rfl))]
    exact bf_ret (noRefs_wl _ _ _)
  | some f =>
    rw [xs_ok (ite_tn (s1 := []) (ev_isNT (neg := true) (x := .int (f : Nat)) (ev_var rfl)) (xs_ok (rs_ok1 (f := 0) rfl (ev_var (d := .int (f : Nat)) rfl))))]
    exact bf_exc rfl
theorem r8_bad {d : D} (h : BadC d) (s : Hs) : runFn T wf (k + 6) 8 [d] s = .err 0 [(0, .non)] s := by
  rw [rf4 (f := i_listed) rfl rfl (by show (noRef d && true) = true; rw [h.nr]; rfl), listB_ok]
  have e1 : startE i_listed.slots [d] = [.has d, .no, .no] := rfl
  rw [e1]
  unfold listB
  rw [xs_ok (exprX (ev_callX (as1 (ev_var rfl) as0) (r21_bad (fun s => h.no _ _ s) [])))]
  exact bf_exc rfl
theorem r8_good (ps) (h : Is ps) (hl : (rowsAll ps).length ≤ 900) (s : Hs) : runFn T 1000 (k + 6) 8 [.tup ((rowsAll ps).map D.int)] s = .ok (.tup (prs 0 ps)) s := by
  have e := r8 (k := k) (rowsAll_bytes h) hl s
  have w : wl (rowsAll ps).length (rowsAll ps) 0 = (prs 0 ps, none) := wl_good ps [] _ h (Nat.le_refl _)
  rw [w] at e
  exact e
theorem rowsAll_le : ∀ {ps}, Is ps → ps.length ≤ (rowsAll ps).length
  | [], _ => Nat.zero_le _
  | q :: ps, h => by
    have h1 := row_sz (h q List.mem_cons_self)
    have h2 := rowsAll_le fun x hx => h x (List.mem_cons_of_mem q hx)
    have e : (rowsAll (q :: ps)).length = (row q.1 q.2).length + (rowsAll ps).length := List.length_append
    rw [List.length_cons]
    omega
theorem r18_good (ps) (h : Is ps) (hl : (rowsAll ps).length ≤ 900) (s : Hs) : runFn T 1000 (k + 7) 18 [.tup ((rowsAll ps).map D.int)] s = .ok (dS (joinL [10] (lns 0 ps))) s :=
  rfR4 (f := i_write_listing) rfl rfl rfl (ev_call (as1 (ev_call (as1 (ev_var rfl) as0) (r8_good ps h hl [])) as0) (r20 (k := k + 2) ps h (by have := rowsAll_le h; omega) (by omega) [])) (nr_ints _) rfl
theorem r18_fault {xs : List Int} (hb : Bytes xs) (hl : xs.length ≤ 900) {f : Nat} (hf : (wl xs.length xs 0).2 = some f) (s : Hs) : runFn T 1000 (k + 7) 18 [.tup (xs.map D.int)] s = .err 0 [(0, .int (f : Nat))] s := by
  have e := r8 (k := k) hb hl []
  rw [hf] at e
  exact rfR4X (f := i_write_listing) rfl rfl rfl (ev_callA (as1X (ev_callX (as1 (ev_var rfl) as0) e))) (nr_ints _) rfl
theorem r18_bad {d : D} (h : BadC d) (s : Hs) : runFn T wf (k + 7) 18 [d] s = .err 0 [(0, .non)] s :=
  rfR4X (f := i_write_listing) rfl rfl rfl (ev_callA (as1X (ev_callX (as1 (ev_var rfl) as0) (r8_bad h [])))) (by show (noRef d && true) = true; rw [h.nr]; rfl) rfl
end K66
set_option Elab.async false
set_option linter.all false
set_option maxRecDepth 100000
set_option maxHeartbeats 4000000
/-! R12: number_in, operand_in. -/
namespace K66
open CN
variable {wf k : Nat} {cells : List Int} {rest s : Hs}
theorem All2_map {α β γ : Type} {R : β → γ → Prop} {f : α → β} {g : α → γ} : ∀ {l : List α}, (∀ c ∈ l, R (f c) (g c)) → All2 R (l.map f) (l.map g)
  | [], _ => trivial
  | c :: l, h => ⟨h c List.mem_cons_self, All2_map fun d hd => h d (List.mem_cons_of_mem _ hd)⟩
def figL : List Nat := [48, 49, 50, 51, 52, 53, 54, 55, 56, 57]
theorem d_fig : (D.str "0123456789") = dS figL := congrArg D.str (tx "0123456789" figL (by decide +kernel))
theorem fig_mem (c : Nat) : decide (c ∈ figL) = (decide (48 ≤ c) && decide (c ≤ 57)) := by
  by_cases h : 48 ≤ c ∧ c ≤ 57
  · rw [decide_eq_true h.1, decide_eq_true h.2]
    have : c = 48 ∨ c = 49 ∨ c = 50 ∨ c = 51 ∨ c = 52 ∨ c = 53 ∨ c = 54 ∨ c = 55 ∨ c = 56 ∨ c = 57 := by omega
    exact decide_eq_true (by unfold figL; simpa using this)
  · have h1 : c ∉ figL := fun z => by
      unfold figL at z
      simp at z
      omega
    rw [decide_eq_false h1]
    by_cases h2 : 48 ≤ c
    · rw [decide_eq_false (show ¬ c ≤ 57 by omega), Bool.and_false]
    · rw [decide_eq_false h2, Bool.false_and]
theorem all_bl (s : Hs) (bs : List Bool) : bifun s .all [.tl (bs.map D.bl)] = some (.bl (bs.all id)) := by
  have e : bifun s .all [.tl (bs.map D.bl)] = (bools? (bs.map D.bl)).map fun (bs : List Bool) => D.bl (bs.all id) := rfl
  rw [e, bools_map]
  rfl
def n1T : Ex := .or (.cons (.cmp .eq (.var 0) (.cst (.str ""))) (.cons (.cmp .gt (.bi .len (.cons (.var 0) .nil)) (.bi .len (.cons (.bi .str (.cons (.var 1) .nil)) .nil))) .nil))
def n2C : Ex := .comp (.cmp .isin (.var 3) (.glob 6)) (.nm 3) [3] (.seq (.var 0)) .no
def n3T : Ex := .and (.cons (.cmp .eq (.idx (.var 0) (.cst (.int 0))) (.cst (.str "0"))) (.cons (.cmp .gt (.bi .len (.cons (.var 0) .nil)) (.cst (.int 1))) .nil))
def n5E : Ex := .ite (.cmp .lt (.var 2) (.var 1)) (.var 2) (.cst (.non))
def retN : Sts := .cons (.ret (.cst (.non))) .nil
theorem n_body : i_number_in.body = .cons (.ite n1T retN .nil) (.cons (.ite (.not (.bi .all (.cons n2C .nil))) retN .nil) (.cons (.ite n3T retN .nil) (.cons (.asg (.nm 2) (.bi .int (.cons (.var 0) .nil))) (.cons (.ret n5E) .nil)))) := rfl
abbrev nE (l : List Nat) (lim : Nat) (a b : Sl) : CN.Env := [.has (dS l), .has (.int (lim : Int)), a, b]
theorem gt_nat (tabs : List (List (PySem.Str × D))) (s : Hs) (a b : Nat) : cmpop tabs s .gt (.int (a : Int)) (.int (b : Int)) = some (decide (b < a)) := by
  rw [cgt_ii]
  by_cases h : b < a
  · rw [decide_eq_true h, decide_eq_true (by omega)]
  · rw [decide_eq_false h, decide_eq_false (by omega)]
theorem lt_nat (tabs : List (List (PySem.Str × D))) (s : Hs) (a b : Nat) : cmpop tabs s .lt (.int (a : Int)) (.int (b : Int)) = some (decide (a < b)) := by
  rw [cl_ii]
  by_cases h : a < b
  · rw [decide_eq_true h, decide_eq_true (by omega)]
  · rw [decide_eq_false h, decide_eq_false (by omega)]
theorem n1_ok {c : Nat → List D → Hs → Res D} {l : List Nat} (hok : okT l = true) (hl : l.length ≤ 5000) {lim : Nat} (hm : lim < 100000) (a b : Sl) : (evP T c n1T).t (nE l lim a b) s = .ok (decide (l = [] ∨ (numL lim).length < l.length)) s := by
  have c1 : cmpop T.tabs s .eq (dS l) (.str "") = some (decide (l = [])) := by rw [d_e]; exact eq_S s hok rfl
  have h5 := num_len5 hm
  by_cases h : l = []
  · rw [decide_eq_true h] at c1
    rw [decide_eq_true (.inl h)]
    exact or_t (ev_cmpT (ev_var rfl) rfl c1)
  · rw [decide_eq_false h] at c1
    have e : decide (l = [] ∨ (numL lim).length < l.length) = decide ((numL lim).length < l.length) := by simp [h]
    rw [e]
    exact or_f (ev_cmpT (ev_var rfl) rfl c1) (or_1 (ev_cmpT (ev_bi (as1 (ev_var rfl) as0) (len_str s l (small5 hl))) (ev_bi (as1 (ev_bi (as1 (ev_var rfl) as0) (str_int s lim (by omega))) as0) (len_str s (numL lim) (small5 (by omega)))) (gt_nat _ _ _ _)))
theorem n2_ok {c : Nat → List D → Hs → Res D} {l : List Nat} (hl : l.length ≤ 5000) (lim : Nat) (a : Sl) : (evP T c (.bi .all (.cons n2C .nil))).t (nE l lim a .no) s = .ok (isFig l) s := by
  have hc : (evP T c n2C).e (nE l lim a .no) s = .ok (.tl ((l.map fun c => decide (c ∈ figL)).map D.bl)) s := by
    rw [List.map_map]
    refine ev_comp (w := none) (ds := l.map fun c => dS [c]) (s1 := s) (iq_str (t := S l) (ev_var rfl)) rfl (All2_map fun d _ => ?_) (by rw [List.length_map]; exact hl)
    have h : cmpop T.tabs s .isin (dS [d]) (.str "0123456789") = some (decide (d ∈ figL)) := by rw [d_fig]; exact isin_S _ _ _ _
    exact ev_step (env' := [.has (dS l), .has (.int (lim : Int)), a, .has (dS [d])]) rfl (ev_cmp (ev_var rfl) (ev_glob rfl) h)
  have e : (l.map fun c => decide (c ∈ figL)).all id = isFig l := by
    unfold isFig
    rw [List.all_map]
    congr 1
    funext x
    exact fig_mem x
  have h := all_bl s (l.map fun c => decide (c ∈ figL))
  rw [e] at h
  exact ev_biT (as1 hc as0) h
theorem n3_ok {c : Nat → List D → Hs → Res D} {l : List Nat} (hok : okT l = true) (hn : l ≠ []) (hl : l.length ≤ 5000) (lim : Nat) (a b : Sl) : (evP T c n3T).t (nE l lim a b) s = .ok (decide (l.head? = some 48 ∧ 1 < l.length)) s := by
  cases l with
  | nil => exact absurd rfl hn
  | cons x r =>
    have hx : okT [x] = true := by
      unfold okT at *
      rw [List.all_cons, Bool.and_eq_true] at hok
      rw [List.all_cons, hok.1]
      rfl
    have c1 : cmpop T.tabs s .eq (dS [x]) (.str "0") = some (decide (x = 48)) := by
      rw [d_0]
      exact (eq_S s hx rfl).trans (by simp)
    have hi := idx_S0 T.tabs s x r (small5 hl)
    by_cases h : x = 48
    · subst h
      rw [decide_eq_true rfl] at c1
      have e : decide ((48 :: r).head? = some 48 ∧ 1 < (48 :: r).length) = decide (1 < (48 :: r).length) := by simp
      rw [e]
      exact and_t (ev_cmpT (ev_idx (ev_var rfl) rfl hi) rfl c1) (and_1 (ev_cmpT (ev_bi (as1 (ev_var rfl) as0) (len_str s _ (small5 hl))) rfl (gt_nat _ _ _ 1)))
    · rw [decide_eq_false h] at c1
      have e : decide ((x :: r).head? = some 48 ∧ 1 < (x :: r).length) = false := decide_eq_false fun z => h (by simpa using z.1)
      rw [e]
      exact and_f (ev_cmpT (ev_idx (ev_var rfl) rfl hi) rfl c1)
theorem r42 {l : List Nat} (hok : okT l = true) (hl : l.length ≤ 5000) {lim : Nat} (hm : lim < 100000) (s : Hs) : runFn T wf (k + 1) 42 [dS l, .int (lim : Int)] s = .ok (optN (numIn l lim)) s := by
  have e1 : startE i_number_in.slots [dS l, .int (lim : Int)] = nE l lim .no .no := rfl
  have h5 := num_len5 hm
  rw [rf (f := i_number_in) rfl rfl, n_body, e1]
  unfold numIn
  have t1 := n1_ok (s := s) (c := runFn T wf k) hok hl hm .no .no
  by_cases h1 : l = [] ∨ (numL lim).length < l.length
  · rw [decide_eq_true h1] at t1
    rw [rt (ite_t (s' := s) (d := .non) t1 rfl), if_pos h1]
    rfl
  rw [decide_eq_false h1] at t1
  rw [nx (ite_f t1), if_neg h1]
  have t2 := ev_notT (n2_ok (s := s) (c := runFn T wf k) hl lim .no)
  by_cases h2 : isFig l = false
  · rw [h2] at t2
    rw [rt (ite_t (s' := s) (d := .non) t2 rfl), if_pos h2]
    rfl
  have h2' : isFig l = true := by simpa using h2
  rw [h2'] at t2
  rw [nx (ite_f t2), if_neg h2]
  have hn : l ≠ [] := fun e => h1 (.inl e)
  have t3 := n3_ok (s := s) (c := runFn T wf k) hok hn hl lim .no .no
  by_cases h3 : l.head? = some 48 ∧ 1 < l.length
  · rw [decide_eq_true h3] at t3
    rw [rt (ite_t (s' := s) (d := .non) t3 rfl), if_pos h3]
    rfl
  rw [decide_eq_false h3] at t3
  have hl6 : l.length ≤ 640 := by
    have : ¬ (numL lim).length < l.length := fun e => h1 (.inr e)
    omega
  have t4 : evalS T wf (runFn T wf k) (.asg (.nm 2) (.bi .int (.cons (.var 0) .nil))) (nE l lim .no .no) s = .ok (.next (nE l lim (.has (.int (PySem.NumText.digitsVal l : Nat))) .no)) s := asg_ok (ev_bi (as1 (ev_var rfl) as0) (int_S s h2' hn hl6))
  rw [nx (ite_f t3), nx t4, if_neg h3]
  by_cases h6 : PySem.NumText.digitsVal l < lim
  · have c6 := lt_nat T.tabs s (PySem.NumText.digitsVal l) lim
    rw [decide_eq_true h6] at c6
    have t5 : (evP T (runFn T wf k) n5E).e (nE l lim (.has (.int (PySem.NumText.digitsVal l : Nat))) .no) s = .ok (.int (PySem.NumText.digitsVal l : Nat)) s := ev_iteT (ev_cmpT (ev_var rfl) (ev_var rfl) c6) (ev_var rfl)
    rw [rt (ret_ok t5), if_pos h6]
    rfl
  · have c6 := lt_nat T.tabs s (PySem.NumText.digitsVal l) lim
    rw [decide_eq_false h6] at c6
    have t5 : (evP T (runFn T wf k) n5E).e (nE l lim (.has (.int (PySem.NumText.digitsVal l : Nat))) .no) s = .ok .non s := ev_iteF (ev_cmpT (ev_var rfl) (ev_var rfl) c6) rfl
    rw [rt (ret_ok t5), if_neg h6]
    rfl
def Kd.limN : Kd → Nat | .r => 8 | .n => 256 | .A => 65536
theorem limN_ok (c : Kd) : c.lim = ((c.limN : Nat) : Int) := by cases c <;> rfl
/-- the operand that a piece writes -/
def opIn (c : Kd) (l : List Nat) : Option Nat := if c = .r then (if l.head? = some 114 then numIn (l.drop 1) 8 else none) else numIn l c.limN
theorem okT_drop {l : List Nat} (h : okT l = true) : okT (l.drop 1) = true := by
  unfold okT at *
  cases l with
  | nil => rfl
  | cons x r =>
    rw [List.all_cons, Bool.and_eq_true] at h
    exact h.2
theorem r41 (c : Kd) {l : List Nat} (hok : okT l = true) (hl : l.length ≤ 5000) (s : Hs) : runFn T wf (k + 2) 41 [.str c.str, dS l] s = .ok (optN (opIn c l)) s := by
  have hb := isBox c s
  have hs := bm_starts s l 114
  rw [← d_r] at hs
  have e0 : i_operand_in.body = .cons (.ite (.cmp .eq (.var 0) (.cst (.str "box"))) (.cons (.ret (.ite (.bm .startswith (.var 1) (.cons (.cst (.str "r")) .nil)) (.call 42 (.cons (.sl (.var 1) (.so (.cst (.int 1))) .no) (.cons (.glob 7) .nil))) (.cst (.non)))) .nil) .nil) (.cons (.ret (.call 42 (.cons (.var 1) (.cons (.idx (.glob 2) (.var 0)) .nil)))) .nil) := rfl
  have e1 : startE i_operand_in.slots [.str c.str, dS l] = [.has (.str c.str), .has (dS l)] := rfl
  rw [rf (f := i_operand_in) rfl rfl, e0, e1]
  unfold opIn
  by_cases hc : c = .r
  · rw [decide_eq_true hc] at hb
    rw [if_pos hc]
    have tb : (evP T (runFn T wf (k + 1)) (.bm .startswith (.var 1) (.cons (.cst (.str "r")) .nil))).t [.has (.str c.str), .has (dS l)] s = .ok (decide (l.head? = some 114)) s := tT rfl (ev_bm (ev_var rfl) rfl (as1 rfl as0) hs) rfl
    by_cases h : l.head? = some 114
    · rw [decide_eq_true h] at tb
      rw [if_pos h, rt (ite_t (ev_cmpT (ev_var rfl) rfl hb) (rt (ret_ok (ev_iteT tb (ev_call (as1 (ev_sl1 (ev_var rfl) rfl (sl_S1 s l (small5 hl))) (as1 (ev_glob rfl) as0)) (r42 (k := k) (lim := 8) (okT_drop hok) (by rw [List.length_drop]; omega) (by decide) s))))))]
      rfl
    · rw [decide_eq_false h] at tb
      rw [if_neg h, rt (ite_t (ev_cmpT (ev_var rfl) rfl hb) (rt (ret_ok (ev_iteF (d := .non) (s2 := s) tb rfl))))]
      rfl
  · rw [decide_eq_false hc] at hb
    have hi := idx_lim c s
    rw [limN_ok] at hi
    have hm : c.limN < 100000 := by cases c <;> decide
    rw [if_neg hc, nx (ite_f (ev_cmpT (ev_var rfl) rfl hb)), rt (ret_ok (ev_call (as1 (ev_var rfl) (as1 (ev_idx (ev_glob rfl) (ev_var rfl) hi) as0)) (r42 (k := k) hok hl hm s)))]
    rfl
end K66
set_option Elab.async false
set_option linter.all false
set_option maxRecDepth 100000
set_option maxHeartbeats 4000000
/-! R13: instruction_in, instruction_of_line. -/
namespace K66
open CN
variable {wf k : Nat} {cells : List Int} {rest s : Hs}
/-- the number of a word -/
def wIdx (w : List Nat) : Option Nat := (List.range 19).find? fun j => wdL j == w
theorem wIdx_some {w : List Nat} {j : Nat} (h : wIdx w = some j) : j < 19 ∧ w = wdL j := by
  unfold wIdx at h
  have h1 := List.find?_some h
  have h2 := List.mem_of_find?_eq_some h
  exact ⟨List.mem_range.mp h2, (eq_of_beq h1).symm⟩
theorem wIdx_wd {j : Nat} (hj : j < 19) : wIdx (wdL j) = some j := of_decide_eq_true (of_all (p := fun j => decide (wIdx (wdL j) = some j)) (by decide +kernel) hj)
theorem lookup_any {α β γ : Type} [BEq β] (f : α → β) (g : α → γ) (z : β) : ∀ l : List α, ((l.map fun a => (f a, g a)).lookup z).isSome = l.any fun a => z == f a
  | [] => rfl
  | a :: l => by
    rw [List.map_cons, List.lookup_cons, List.any_cons, ← lookup_any f g z l]
    cases z == f a <;> rfl
theorem tab0 : T.tabs[0]? = some ((List.range 19).map fun j => (wd j, D.int ((j + 1 : Nat) : Int))) := by kernel_rfl
theorem known (w : List Nat) (s : Hs) : cmpop T.tabs s .isin (dS w) (.tab 0) = some (wIdx w).isSome := by
  show inD T.tabs s (.str (S w)) (.tab 0) = _
  show (match T.tabs[0]? with | some kvs => some (kvs.lookup (S w)).isSome | none => none) = _
  rw [tab0]
  dsimp only
  rw [lookup_any, Option.some_inj]
  unfold wIdx
  rw [List.isSome_find?]
  congr 1
  funext j
  rw [wd_S, SX.S_beq]
  exact Bool.beq_comm
theorem r10s (l : List Nat) (s : Hs) : runFn T wf (k + 1) 10 [dS l] s = .ok (.bl true) s := r10 (d := dS l) rfl s
theorem r9s (w : List Nat) (s : Hs) : runFn T wf (k + 2) 9 [dS w] s = .ok (.bl (wIdx w).isSome) s :=
  rfR (f := i_is_word_known) rfl rfl rfl (ev_and_t (ev_call (as1 (ev_var rfl) as0) (r10s (k := k) w s)) (ev_and_1 (ev_cmp (ev_var rfl) (ev_glob rfl) (known w s))))
def opsIn : List Kd → List (List Nat) → Option (List Int)
  | c :: cs, p :: ps => match opIn c p with
    | none => none
    | some n => (opsIn cs ps).map (((n : Nat) : Int) :: ·)
  | _, _ => some []
def insIn : List (List Nat) → Option (Nat × List Int)
  | [] => none
  | w :: ps => match wIdx w with
    | none => none
    | some j => if ps.length = (sh j).length then (opsIn (sh j) ps).map fun ns => (j, ns) else none
/-- plain pieces -/
abbrev Pl (ps : List (List Nat)) : Prop := ∀ p ∈ ps, okT p = true ∧ p.length ≤ 5000
def oBody : Sts := .cons (.asg (.nm 5) (.call 41 (.cons (.var 3) (.cons (.var 4) .nil)))) (.cons (.ite (.isN false (.var 5)) retN .nil) (.cons (.expr (.bm .append (.var 2) (.cons (.var 5) .nil))) .nil))
theorem app_ok {T : Tb} {call : Nat → List D → Hs → Res D} {env : CN.Env} {i n : Nat} {e : Ex} {ds : List D} {d : D} {s : Hs} (hv : env[i]? = some (.has (.ref n))) (hs : s[n]? = some (.lst ds)) (he : (evP T call e).e env s = .ok d s) (hl : ds.length + 1 ≤ 5000) :
    evalS T wf call (.expr (.bm .append (.var i) (.cons e .nil))) env s = .ok (.next env) (s.set n (.lst (ds ++ [d]))) := by
  have ht : bmTy s .append (.ref n) = true := by
    show (match s[n]? with | some (.lst ds) => some ds | _ => none).isSome = true
    rw [hs]
    rfl
  have hm : bmeth s .append (.ref n) [d] = .ok .non (s.set n (.lst (ds ++ [d]))) := by
    show (match s[n]? with | some (.lst ds) => if ds.length < PySem.sizeLine then Res.ok D.non (s.set n (.lst (ds ++ [d]))) else .stuck | _ => .stuck) = _
    rw [hs]
    dsimp only
    rw [if_pos (Nat.lt_of_lt_of_le (by omega : ds.length < 5000) (by decide))]
  exact expr_ok (ev_bm (ev_var hv) ht (as1 he as0) hm)
theorem oLoop (a b : Sl) : ∀ (cs : List Kd) (ps : List (List Nat)) (x y z : Sl) (acc : List D), Pl ps → acc.length + cs.length ≤ 5000 →
    (∃ ns x' y' z', opsIn cs ps = some ns ∧ loopFor (forStep (.tp [3, 4]) (evalSs T wf (runFn T wf (k + 2)) oBody)) none (zipD (cs.map fun (c : Kd) => D.str c.str) (ps.map dS)) [a, b, .has (.ref 0), x, y, z] [.lst acc] = .ok (.next [a, b, .has (.ref 0), x', y', z']) [.lst (acc ++ ns.map D.int)]) ∨
    (opsIn cs ps = none ∧ ∃ s', loopFor (forStep (.tp [3, 4]) (evalSs T wf (runFn T wf (k + 2)) oBody)) none (zipD (cs.map fun (c : Kd) => D.str c.str) (ps.map dS)) [a, b, .has (.ref 0), x, y, z] [.lst acc] = .ok (.ret .non) s')
  | [], ps, x, y, z, acc, _, _ => .inl ⟨[], x, y, z, by cases ps <;> rfl, by cases ps <;> simp [zipD, loopFor]⟩
  | _ :: _, [], x, y, z, acc, _, _ => .inl ⟨[], x, y, z, rfl, by simp [zipD, loopFor]⟩
  | c :: cs, p :: ps, x, y, z, acc, hp, hl => by
    rw [List.length_cons] at hl
    have h41 := r41 (wf := wf) (k := k) c (hp p List.mem_cons_self).1 (hp p List.mem_cons_self).2 [GO.lst acc]
    have t1 : evalS T wf (runFn T wf (k + 2)) (.asg (.nm 5) (.call 41 (.cons (.var 3) (.cons (.var 4) .nil)))) [a, b, .has (.ref 0), .has (.str c.str), .has (dS p), z] [.lst acc] = .ok (.next [a, b, .has (.ref 0), .has (.str c.str), .has (dS p), .has (optN (opIn c p))]) [.lst acc] := asg_ok (ev_call (as1 (ev_var rfl) (as1 (ev_var rfl) as0)) h41)
    have e : forStep (.tp [3, 4]) (evalSs T wf (runFn T wf (k + 2)) oBody) (.tup [.str c.str, dS p]) [a, b, .has (.ref 0), x, y, z] [.lst acc] = evalSs T wf (runFn T wf (k + 2)) oBody [a, b, .has (.ref 0), .has (.str c.str), .has (dS p), z] [.lst acc] := rfl
    show (∃ ns x' y' z', (match opIn c p with | none => none | some n => (opsIn cs ps).map (((n : Nat) : Int) :: ·)) = some ns ∧ loopFor _ none (.tup [.str c.str, dS p] :: zipD (cs.map fun (c : Kd) => D.str c.str) (ps.map dS)) _ _ = _) ∨ ((match opIn c p with | none => none | some n => (opsIn cs ps).map (((n : Nat) : Int) :: ·)) = none ∧ ∃ s', loopFor _ none (.tup [.str c.str, dS p] :: zipD (cs.map fun (c : Kd) => D.str c.str) (ps.map dS)) _ _ = _)
    cases ho : opIn c p with
    | none =>
      rw [ho] at t1
      refine .inr ⟨rfl, [.lst acc], ?_⟩
      rw [loopFor, e]
      unfold oBody
      rw [nx t1, rt (ite_t (s1 := [.lst acc]) (s' := [.lst acc]) (d := .non) (ev_isNT (neg := false) (x := .non) (ev_var rfl)) rfl)]
      rfl
    | some n =>
      rw [ho] at t1
      have t : forStep (.tp [3, 4]) (evalSs T wf (runFn T wf (k + 2)) oBody) (.tup [.str c.str, dS p]) [a, b, .has (.ref 0), x, y, z] [.lst acc] = .ok (.next [a, b, .has (.ref 0), .has (.str c.str), .has (dS p), .has (.int (n : Nat))]) [.lst (acc ++ [.int (n : Nat)])] := by
        rw [e]
        unfold oBody
        rw [nx t1, nx (ite_f (s' := [.lst acc]) (ev_isNT (neg := false) (x := .int (n : Nat)) (ev_var rfl))), nx (app_ok (n := 0) (ds := acc) (d := .int (n : Nat)) rfl rfl (ev_var rfl) (by omega))]
        rfl
      rcases oLoop a b cs ps (.has (.str c.str)) (.has (dS p)) (.has (.int (n : Nat))) (acc ++ [.int (n : Nat)]) (fun q hq => hp q (List.mem_cons_of_mem _ hq)) (by simp; omega) with ⟨ns, x', y', z', h1, h2⟩ | ⟨h1, s', h2⟩
      · refine .inl ⟨(n : Nat) :: ns, x', y', z', by dsimp only; rw [h1]; rfl, ?_⟩
        rw [loopFor_nx t rfl, h2]
        simp
      · refine .inr ⟨by dsimp only; rw [h1]; rfl, s', ?_⟩
        rw [loopFor_nx t rfl, h2]
def q1T : Ex := .or (.cons (.not (.var 0)) (.cons (.not (.call 9 (.cons (.idx (.var 0) (.cst (.int 0))) .nil))) .nil))
def q3T : Ex := .cmp .ne (.bi .len (.cons (.var 0) .nil)) (.bin .add (.bi .len (.cons (.var 1) .nil)) (.cst (.int 1)))
theorem q_body : i_instruction_in.body = .cons (.ite q1T retN .nil) (.cons (.asg (.nm 1) (.idx (.glob 1) (.idx (.var 0) (.cst (.int 0))))) (.cons (.ite q3T retN .nil) (.cons (.asg (.nm 2) (.box (.lst (.cons (.idx (.var 0) (.cst (.int 0))) .nil)))) (.cons (.for_ (.tp [3, 4]) (.zip (.var 1) (.sl (.var 0) (.so (.cst (.int 1))) .no)) oBody) (.cons (.ret (.bi .tuple (.cons (.var 2) .nil))) .nil))))) := rfl
theorem iq_zipM {T : Tb} {c : Nat → List D → Hs → Res D} {env : CN.Env} {s s1 s2 : Hs} {a b : Ex} {as bs : List D} (ha : (evP T c a).e env s = .ok (.tup as) s1) (hb : (evP T c b).e env s1 = .ok (.tl bs) s2) : evI T c (.zip a b) env s = .ok (zipD as bs, none) s2 := by
  rw [evI]
  dsimp only
  rw [ha, Res.bind_ok, hb, Res.bind_ok]
  rfl
theorem noRef_insO (o : Option (Nat × List Int)) : noRef (insO o) = true := by
  cases o with
  | none => rfl
  | some q => exact noRef_ins _ _
theorem len_tl (s : Hs) (ds : List D) : bifun s .len [.tl ds] = some (.int (ds.length : Nat)) := rfl
theorem r40 {ps : List (List Nat)} (hp : Pl ps) (s : Hs) : runFn T wf (k + 3) 40 [.tl (ps.map dS)] s = .ok (insO (insIn ps)) s := by
  have e1 : startE i_instruction_in.slots [.tl (ps.map dS)] = [.has (.tl (ps.map dS)), .no, .no, .no, .no, .no] := rfl
  rw [rf4 (f := i_instruction_in) rfl rfl (by show (noRefs (ps.map dS) && true) = true; rw [noRefs_dS]; rfl), q_body, e1]
  cases ps with
  | nil =>
    have t1 : (evP T (runFn T wf (k + 2)) q1T).t [.has (.tl ([] : List D)), .no, .no, .no, .no, .no] [] = .ok true [] := or_t (ev_notT (v := false) (tT rfl (ev_var rfl) rfl))
    rw [show (([] : List (List Nat)).map dS) = [] from rfl, rt (ite_t (s' := []) (d := .non) t1 rfl)]
    rfl
  | cons w ps =>
    have hi : ∀ s : Hs, idxop T.tabs s (.tl ((w :: ps).map dS)) (.int 0) = some (dS w) := fun s => at0 _ _
    have t1 : (evP T (runFn T wf (k + 2)) q1T).t [.has (.tl ((w :: ps).map dS)), .no, .no, .no, .no, .no] [] = .ok (!(wIdx w).isSome) [] := or_f (ev_notT (tT (v := true) rfl (ev_var rfl) rfl)) (or_1 (ev_notT (ev_callT (as1 (ev_idx (ev_var rfl) rfl (hi [])) as0) (r9s (wf := wf) (k := k) w []))))
    show backF 4 s _ = .ok (insO (match wIdx w with | none => none | some j => if ps.length = (sh j).length then (opsIn (sh j) ps).map fun ns => (j, ns) else none)) s
    cases hw : wIdx w with
    | none =>
      rw [hw] at t1
      rw [rt (ite_t (s' := []) (d := .non) t1 rfl)]
      rfl
    | some j =>
      rw [hw] at t1
      obtain ⟨hj, rfl⟩ := wIdx_some hw
      have ho := idx_opnds hj ([] : Hs)
      rw [wd_S] at ho
      have t2 : evalS T wf (runFn T wf (k + 2)) (.asg (.nm 1) (.idx (.glob 1) (.idx (.var 0) (.cst (.int 0))))) [.has (.tl ((wdL j :: ps).map dS)), .no, .no, .no, .no, .no] [] = .ok (.next [.has (.tl ((wdL j :: ps).map dS)), .has (kinds j), .no, .no, .no, .no]) [] := asg_ok (ev_idx (ev_glob rfl) (ev_idx (ev_var rfl) rfl (hi [])) ho)
      have c3 : cmpop T.tabs ([] : Hs) .ne (.int (((wdL j :: ps).map dS).length : Nat)) (.int (((((sh j).map fun c => D.str c.str).length : Nat) : Int) + 1)) = some (!decide (ps.length = (sh j).length)) := by
        rw [cn_ii, List.length_map, List.length_map, List.length_cons]
        by_cases h : ps.length = (sh j).length
        · rw [decide_eq_true h, decide_eq_true (by omega)]
        · rw [decide_eq_false h, decide_eq_false (by omega)]
      have t3 : (evP T (runFn T wf (k + 2)) q3T).t [.has (.tl ((wdL j :: ps).map dS)), .has (kinds j), .no, .no, .no, .no] [] = .ok (!decide (ps.length = (sh j).length)) [] := ev_cmpT (ev_bi (as1 (ev_var rfl) as0) (len_tl _ _)) (ev_bin (x := .int (((sh j).map fun c => D.str c.str).length : Nat)) (ev_bi (as1 (ev_var rfl) as0) rfl) rfl rfl) c3
      dsimp only
      rw [nx (ite_f t1), nx t2]
      by_cases h : ps.length = (sh j).length
      · rw [decide_eq_true h] at t3
        rw [if_pos h]
        have t4 : evalS T wf (runFn T wf (k + 2)) (.asg (.nm 2) (.box (.lst (.cons (.idx (.var 0) (.cst (.int 0))) .nil)))) [.has (.tl ((wdL j :: ps).map dS)), .has (kinds j), .no, .no, .no, .no] [] = .ok (.next [.has (.tl ((wdL j :: ps).map dS)), .has (kinds j), .has (.ref 0), .no, .no, .no]) [.lst [dS (wdL j)]] := asg_ok (ev_box (s1 := []) (ev_lst (as1 (ev_idx (ev_var rfl) rfl (hi [])) as0) (by show 1 ≤ 5000; decide)))
        have hc : slop [GO.lst [dS (wdL j)]] (.tl ((wdL j :: ps).map dS)) (some 1) none = some (.tl (ps.map dS)) := by
          show some (D.tl (CN.cut (dS (wdL j) :: ps.map dS) (some 1) none)) = _
          rw [cut1]
        have t5 : evI T (runFn T wf (k + 2)) (.zip (.var 1) (.sl (.var 0) (.so (.cst (.int 1))) .no)) [.has (.tl ((wdL j :: ps).map dS)), .has (kinds j), .has (.ref 0), .no, .no, .no] [.lst [dS (wdL j)]] = .ok (zipD ((sh j).map fun (c : Kd) => D.str c.str) (ps.map dS), none) [.lst [dS (wdL j)]] := iq_zipM (ev_var rfl) (ev_sl1 (ev_var rfl) rfl hc)
        rw [nx (ite_f t3), nx t4]
        rcases oLoop (wf := wf) (k := k) (.has (.tl ((wdL j :: ps).map dS))) (.has (kinds j)) (sh j) ps .no .no .no [dS (wdL j)] (fun q hq => hp q (List.mem_cons_of_mem _ hq)) (by have := sh_len hj; simp; omega) with ⟨ns, x', y', z', h1, h2⟩ | ⟨h1, s', h2⟩
        · have t6 : (evP T (runFn T wf (k + 2)) (.bi .tuple (.cons (.var 2) .nil))).e [.has (.tl ((wdL j :: ps).map dS)), .has (kinds j), .has (.ref 0), x', y', z'] [.lst ([dS (wdL j)] ++ ns.map D.int)] = .ok (.tup ([dS (wdL j)] ++ ns.map D.int)) [.lst ([dS (wdL j)] ++ ns.map D.int)] := ev_bi (as1 (ev_var rfl) as0) rfl
          rw [nx (for_ok t5 h2), rt (ret_ok t6), h1]
          have ei : D.tup ([dS (wdL j)] ++ ns.map D.int) = insD j ns := by
            unfold insD
            rw [wd_S]
            rfl
          rw [ei]
          exact bf_ret (noRef_ins j ns)
        · rw [rt (for_ok t5 h2), h1]
          rfl
      · rw [decide_eq_false h] at t3
        rw [rt (ite_t (s' := []) (d := .non) t3 rfl), if_neg h]
        rfl
/-- the instruction of a line's pieces at an address -/
def lnIn (a : Nat) : List (List Nat) → Option (Nat × List Int)
  | [] => none
  | p :: ps => if p = numL a then insIn ps else none
/-- pieces of a line -/
structure Pc (P : List (List Nat)) : Prop where
  ne : P ≠ []
  ok : ∀ p ∈ P, okT p = true ∧ p.length ≤ 100 ∧ 32 ∉ p ∧ 10 ∉ p
  few : P.length ≤ 20
theorem Pc.len {P : List (List Nat)} (h : Pc P) : (joinL [32] P).length ≤ 3000 := by
  have h1 := joinL_len 32 P
  have h2 := sumL_le (ps := P) (m := 100) fun p hp => (h.ok p hp).2.1
  have h3 := h.few
  omega
theorem r39 {P : List (List Nat)} (h : Pc P) {a : Nat} (ha : a < 100000) (s : Hs) : runFn T wf (k + 4) 39 [dS (joinL [32] P), .int (a : Int)] s = .ok (insO (lnIn a P)) s := by
  have hl := h.len
  have e0 : i_instruction_of_line.body = .cons (.asg (.nm 2) (.bm .split (.var 0) (.cons (.cst (.str " ")) .nil))) (.cons (.ite (.cmp .ne (.idx (.var 2) (.cst (.int 0))) (.bi .str (.cons (.var 1) .nil))) retN .nil) (.cons (.ret (.call 40 (.cons (.sl (.var 2) (.so (.cst (.int 1))) .no) .nil))) .nil)) := rfl
  have e1 : startE i_instruction_of_line.slots [dS (joinL [32] P), .int (a : Int)] = [.has (dS (joinL [32] P)), .has (.int (a : Int)), .no] := rfl
  rw [rf (f := i_instruction_of_line) rfl rfl, e0, e1]
  have hs := bm_split s (l := joinL [32] P) (c := 32) (by decide) (small5 (by omega))
  rw [spl_joinL h.ne (fun p hp => (h.ok p hp).2.2.1), ← d_sp] at hs
  have t1 : evalS T wf (runFn T wf (k + 3)) (.asg (.nm 2) (.bm .split (.var 0) (.cons (.cst (.str " ")) .nil))) [.has (dS (joinL [32] P)), .has (.int (a : Int)), .no] s = .ok (.next [.has (dS (joinL [32] P)), .has (.int (a : Int)), .has (.tl (P.map dS))]) s := asg_ok (ev_bm (ev_var rfl) rfl (as1 rfl as0) hs)
  rw [nx t1]
  cases P with
  | nil => exact absurd rfl h.ne
  | cons p ps =>
    have hi : idxop T.tabs s (.tl ((p :: ps).map dS)) (.int 0) = some (dS p) := at0 _ _
    have c2 : cmpop T.tabs s .ne (dS p) (dS (numL a)) = some (!decide (p = numL a)) := by
      show (eqD s (dS p) (dS (numL a))).map (!·) = _
      rw [eq_S s (h.ok p List.mem_cons_self).1 (numL_ok a)]
      rfl
    have t2 : (evP T (runFn T wf (k + 3)) (.cmp .ne (.idx (.var 2) (.cst (.int 0))) (.bi .str (.cons (.var 1) .nil)))).t [.has (dS (joinL [32] (p :: ps))), .has (.int (a : Int)), .has (.tl ((p :: ps).map dS))] s = .ok (!decide (p = numL a)) s := ev_cmpT (ev_idx (ev_var rfl) rfl hi) (ev_bi (as1 (ev_var rfl) as0) (str_int s a (by omega))) c2
    show fin 0 s _ = .ok (insO (if p = numL a then insIn ps else none)) s
    by_cases hp : p = numL a
    · rw [decide_eq_true hp] at t2
      have hc : slop s (.tl ((p :: ps).map dS)) (some 1) none = some (.tl (ps.map dS)) := by
        show some (D.tl (CN.cut (dS p :: ps.map dS) (some 1) none)) = _
        rw [cut1]
      have h40 := r40 (wf := wf) (k := k) (ps := ps) (fun q hq => ⟨(h.ok q (List.mem_cons_of_mem _ hq)).1, by have := (h.ok q (List.mem_cons_of_mem _ hq)).2.1; omega⟩) s
      rw [nx (ite_f t2), if_pos hp, rt (ret_ok (ev_call (as1 (ev_sl1 (ev_var rfl) rfl hc) as0) h40))]
      rfl
    · rw [decide_eq_false hp] at t2
      rw [rt (ite_t (s' := s) (d := .non) t2 rfl), if_neg hp]
      rfl
end K66
set_option Elab.async false
set_option linter.all false
set_option maxRecDepth 100000
set_option maxHeartbeats 4000000
/-! R14: code_in, read_listing. -/
namespace K66
open CN
variable {wf k : Nat} {cells : List Int} {rest s : Hs}
/-- what code_in tells of lines of pieces -/
def cdIn : List (List (List Nat)) → List Int → Nat → List Int × Option Nat
  | [], acc, _ => (acc, none)
  | P :: Ps, acc, i => match lnIn acc.length P with
    | none => ([], some i)
    | some q => cdIn Ps (acc ++ row q.1 q.2) (i + 1)
theorem insIn_lt {ps : List (List Nat)} {q : Nat × List Int} (h : insIn ps = some q) : q.1 < 19 := by
  cases ps with
  | nil => cases h
  | cons w ps =>
    have h' : (match wIdx w with | none => none | some j => if ps.length = (sh j).length then (opsIn (sh j) ps).map fun ns => (j, ns) else none) = some q := h
    cases hw : wIdx w with
    | none => rw [hw] at h'; cases h'
    | some j =>
      rw [hw] at h'
      dsimp only at h'
      split at h'
      · cases ho : opsIn (sh j) ps with
        | none => rw [ho] at h'; cases h'
        | some ns =>
          rw [ho] at h'
          cases h'
          exact (wIdx_some hw).1
      · cases h'
theorem lnIn_lt {a : Nat} {P : List (List Nat)} {q : Nat × List Int} (h : lnIn a P = some q) : q.1 < 19 := by
  cases P with
  | nil => cases h
  | cons p ps =>
    have h' : (if p = numL a then insIn ps else none) = some q := h
    split at h'
    · exact insIn_lt h'
    · cases h'
def jBody : Sts := .cons (.asg (.nm 4) (.call 39 (.cons (.var 3) (.cons (.bi .len (.cons (.var 1) .nil)) .nil)))) (.cons (.ite (.isN false (.var 4)) (.cons (.ret (.tup (.cons (.cst (.non)) (.cons (.var 2) .nil)))) .nil) .nil) (.cons (.expr (.bm .extend (.var 1) (.cons (.call 15 (.cons (.var 4) .nil)) .nil))) .nil))
theorem ext_ok {T : Tb} {call : Nat → List D → Hs → Res D} {env : CN.Env} {i n : Nat} {e : Ex} {ds es : List D} {d : D} {s : Hs} (hv : env[i]? = some (.has (.ref n))) (hs : s[n]? = some (.lst ds)) (he : (evP T call e).e env s = .ok d s) (hd : seqAt0 s d = some es) (hl : ds.length + es.length ≤ 5000) :
    evalS T wf call (.expr (.bm .extend (.var i) (.cons e .nil))) env s = .ok (.next env) (s.set n (.lst (ds ++ es))) := by
  have ht : bmTy s .extend (.ref n) = true := by
    show (match s[n]? with | some (.lst ds) => some ds | _ => none).isSome = true
    rw [hs]
    rfl
  have hm : bmeth s .extend (.ref n) [d] = .ok .non (s.set n (.lst (ds ++ es))) := by
    show (match s[n]?, seqAt0 s d with | some (.lst ds), some es => if ds.length + es.length ≤ PySem.sizeLine then Res.ok D.non (s.set n (.lst (ds ++ es))) else .stuck | _, _ => .stuck) = _
    rw [hs, hd]
    dsimp only
    rw [if_pos (small5 hl)]
  exact expr_ok (ev_bm (ev_var hv) ht (as1 he as0) hm)
abbrev jE (t : D) (a b c : Sl) : CN.Env := [.has t, .has (.ref 0), a, b, c]
theorem jLoop (t : D) : ∀ (Ps : List (List (List Nat))) (i : Nat) (a b c : Sl) (acc : List Int), (∀ P ∈ Ps, Pc P) → acc.length + 7 * Ps.length ≤ 5000 →
    (∃ a' b' c', (cdIn Ps acc i).2 = none ∧ loopFor (forStep (.tp [2, 3]) (evalSs T wf (runFn T wf (k + 4)) jBody)) none (enumD i (Ps.map fun P => dS (joinL [32] P))) (jE t a b c) [.lst (acc.map D.int)] = .ok (.next (jE t a' b' c')) [.lst ((cdIn Ps acc i).1.map D.int)]) ∨
    (∃ f s', (cdIn Ps acc i).2 = some f ∧ loopFor (forStep (.tp [2, 3]) (evalSs T wf (runFn T wf (k + 4)) jBody)) none (enumD i (Ps.map fun P => dS (joinL [32] P))) (jE t a b c) [.lst (acc.map D.int)] = .ok (.ret (.tup [.non, .int (f : Nat)])) s')
  | [], i, a, b, c, acc, _, _ => .inl ⟨a, b, c, rfl, rfl⟩
  | P :: Ps, i, a, b, c, acc, hP, hl => by
    rw [List.length_cons] at hl
    have hp := hP P List.mem_cons_self
    have hln : bifun [GO.lst (acc.map D.int)] .len [.ref 0] = some (.int (acc.length : Nat)) := by
      show some (D.int (((acc.map D.int).length : Nat) : Int)) = _
      rw [List.length_map]
    have h39 := r39 (wf := wf) (k := k) hp (a := acc.length) (by omega) [GO.lst (acc.map D.int)]
    have t1 : evalS T wf (runFn T wf (k + 4)) (.asg (.nm 4) (.call 39 (.cons (.var 3) (.cons (.bi .len (.cons (.var 1) .nil)) .nil)))) (jE t (.has (.int (i : Nat))) (.has (dS (joinL [32] P))) c) [.lst (acc.map D.int)] = .ok (.next (jE t (.has (.int (i : Nat))) (.has (dS (joinL [32] P))) (.has (insO (lnIn acc.length P))))) [.lst (acc.map D.int)] := asg_ok (ev_call (as1 (ev_var rfl) (as1 (ev_bi (as1 (ev_var rfl) as0) hln) as0)) h39)
    have e : forStep (.tp [2, 3]) (evalSs T wf (runFn T wf (k + 4)) jBody) (.tup [.int (i : Nat), dS (joinL [32] P)]) (jE t a b c) [.lst (acc.map D.int)] = evalSs T wf (runFn T wf (k + 4)) jBody (jE t (.has (.int (i : Nat))) (.has (dS (joinL [32] P))) c) [.lst (acc.map D.int)] := rfl
    show (∃ a' b' c', (match lnIn acc.length P with | none => (([], some i) : List Int × Option Nat) | some q => cdIn Ps (acc ++ row q.1 q.2) (i + 1)).2 = none ∧ loopFor _ none (.tup [.int (i : Nat), dS (joinL [32] P)] :: enumD (i + 1) (Ps.map fun P => dS (joinL [32] P))) _ _ = .ok (.next (jE t a' b' c')) [.lst ((match lnIn acc.length P with | none => (([], some i) : List Int × Option Nat) | some q => cdIn Ps (acc ++ row q.1 q.2) (i + 1)).1.map D.int)]) ∨ (∃ f s', (match lnIn acc.length P with | none => (([], some i) : List Int × Option Nat) | some q => cdIn Ps (acc ++ row q.1 q.2) (i + 1)).2 = some f ∧ loopFor _ none (.tup [.int (i : Nat), dS (joinL [32] P)] :: enumD (i + 1) (Ps.map fun P => dS (joinL [32] P))) _ _ = _)
    cases hq : lnIn acc.length P with
    | none =>
      rw [hq] at t1
      refine .inr ⟨i, [.lst (acc.map D.int)], rfl, ?_⟩
      have tr : (evP T (runFn T wf (k + 4)) (.tup (.cons (.cst (.non)) (.cons (.var 2) .nil)))).e (jE t (.has (.int (i : Nat))) (.has (dS (joinL [32] P))) (.has (insO none))) [.lst (acc.map D.int)] = .ok (.tup [.non, .int (i : Nat)]) [.lst (acc.map D.int)] := ev_tup (as1 rfl (as1 (ev_var rfl) as0)) (by show 2 ≤ 5000; decide)
      rw [loopFor, e]
      unfold jBody
      rw [nx t1, rt (ite_t (s1 := [.lst (acc.map D.int)]) (ev_isNT (neg := false) (x := insO none) (ev_var rfl)) (rt (ret_ok tr)))]
      rfl
    | some q =>
      rw [hq] at t1
      have hj := lnIn_lt hq
      have hr := row_len hj q.2
      have h15 := r15 (wf := wf) (k := k + 1) hj (ns := q.2) [GO.lst (acc.map D.int)]
      have tt : forStep (.tp [2, 3]) (evalSs T wf (runFn T wf (k + 4)) jBody) (.tup [.int (i : Nat), dS (joinL [32] P)]) (jE t a b c) [.lst (acc.map D.int)] = .ok (.next (jE t (.has (.int (i : Nat))) (.has (dS (joinL [32] P))) (.has (insD q.1 q.2)))) [.lst ((acc ++ row q.1 q.2).map D.int)] := by
        rw [e]
        unfold jBody
        rw [nx t1, nx (ite_f (s' := [.lst (acc.map D.int)]) (ev_isNT (neg := false) (x := insO (some q)) (ev_var rfl))), nx (ext_ok (n := 0) (ds := acc.map D.int) (es := (row q.1 q.2).map D.int) (d := .tup ((row q.1 q.2).map D.int)) rfl rfl (ev_call (as1 (ev_var rfl) as0) h15) rfl (by rw [List.length_map, List.length_map]; omega)), List.map_append]
        rfl
      dsimp only
      rcases jLoop t Ps (i + 1) (.has (.int (i : Nat))) (.has (dS (joinL [32] P))) (.has (insD q.1 q.2)) (acc ++ row q.1 q.2) (fun Q hQ => hP Q (List.mem_cons_of_mem _ hQ)) (by rw [List.length_append]; omega) with ⟨a', b', c', h1, h2⟩ | ⟨f, s', h1, h2⟩
      · exact .inl ⟨a', b', c', h1, by rw [loopFor_nx tt rfl, h2]⟩
      · exact .inr ⟨f, s', h1, by rw [loopFor_nx tt rfl, h2]⟩
/-- the text of lines of pieces -/
def txt (Ps : List (List (List Nat))) : List Nat := joinL [10] (Ps.map (joinL [32]))
theorem free_join : ∀ {ps : List (List Nat)}, (∀ p ∈ ps, 10 ∉ p) → 10 ∉ joinL [32] ps
  | [], _ => by simp [joinL_nil]
  | [p], h => by
    rw [joinL_one]
    exact h p List.mem_cons_self
  | p :: q :: ps, h => by
    rw [joinL_two]
    intro hm
    rcases List.mem_append.mp hm with hm | hm
    · exact h p List.mem_cons_self hm
    rcases List.mem_append.mp hm with hm | hm
    · simp at hm
    · exact free_join (fun r hr => h r (List.mem_cons_of_mem _ hr)) hm
theorem ok_join {c : Nat} (hc : c < 256) : ∀ {ps : List (List Nat)}, (∀ p ∈ ps, okT p = true) → okT (joinL [c] ps) = true
  | [], _ => rfl
  | [p], h => by
    rw [joinL_one]
    exact h p List.mem_cons_self
  | p :: q :: ps, h => by
    rw [joinL_two]
    refine okT_app (h p List.mem_cons_self) (okT_app ?_ (ok_join hc fun r hr => h r (List.mem_cons_of_mem _ hr)))
    unfold okT
    simp [hc]
/-- lines of pieces that make no empty text -/
structure Tx (Ps : List (List (List Nat))) : Prop where
  pc : ∀ P ∈ Ps, Pc P
  ne : txt Ps ≠ []
  few : Ps.length ≤ 650
theorem Tx.lines {Ps : List (List (List Nat))} (h : Tx Ps) : ∀ l ∈ Ps.map (joinL [32]), okT l = true ∧ l.length ≤ 3000 ∧ 10 ∉ l := by
  intro l hl
  obtain ⟨P, hP, rfl⟩ := List.mem_map.mp hl
  have p := h.pc P hP
  exact ⟨ok_join (by decide) fun q hq => (p.ok q hq).1, p.len, free_join fun q hq => (p.ok q hq).2.2.2⟩
theorem Tx.ok {Ps : List (List (List Nat))} (h : Tx Ps) : okT (txt Ps) = true := ok_join (by decide) fun l hl => (h.lines l hl).1
theorem Tx.len {Ps : List (List (List Nat))} (h : Tx Ps) : (txt Ps).length ≤ 2000000 := by
  have h1 := joinL_len 10 (Ps.map (joinL [32]))
  have h2 := sumL_le (ps := Ps.map (joinL [32])) (m := 3000) fun l hl => (h.lines l hl).2.1
  have h3 := h.few
  rw [List.length_map] at h1 h2
  show (joinL [10] (Ps.map (joinL [32]))).length ≤ _
  omega
theorem Tx.nil {Ps : List (List (List Nat))} (h : Tx Ps) : Ps ≠ [] := fun e => h.ne (by rw [e]; rfl)
theorem r38 {Ps : List (List (List Nat))} (h : Tx Ps) (s : Hs) : runFn T wf (k + 1) 38 [dS (txt Ps)] s = .ok (.tl (Ps.map fun P => dS (joinL [32] P))) s := by
  have h1 := h.len
  have hs := bm_split s (l := txt Ps) (c := 10) (by decide) (Nat.le_trans (by omega : _ ≤ 3000000) (by decide))
  have e : spl 10 (txt Ps) = Ps.map (joinL [32]) := spl_joinL (fun e => h.nil (List.map_eq_nil_iff.mp e)) fun l hl => (h.lines l hl).2.2
  rw [e, List.map_map, ← d_nl] at hs
  exact rfR (f := i_lines_of) rfl rfl rfl (ev_bm (ev_var rfl) rfl (as1 rfl as0) hs)
theorem r37 {Ps : List (List (List Nat))} (h : Tx Ps) (s : Hs) : runFn T wf (k + 5) 37 [dS (txt Ps)] s = .ok (match (cdIn Ps [] 0).2 with
    | none => .tup [.tup ((cdIn Ps [] 0).1.map D.int), .non]
    | some f => .tup [.non, .int (f : Nat)]) s := by
  have e0 : i_code_in.body = .cons (.asg (.nm 1) (.box (.lst .nil))) (.cons (.ite (.cmp .eq (.var 0) (.cst (.str ""))) (.cons (.ret (.tup (.cons (.tup .nil) (.cons (.cst (.non)) .nil)))) .nil) .nil) (.cons (.for_ (.tp [2, 3]) (.enum (.call 38 (.cons (.var 0) .nil))) jBody) (.cons (.ret (.tup (.cons (.bi .tuple (.cons (.var 1) .nil)) (.cons (.cst (.non)) .nil)))) .nil))) := rfl
  have e1 : startE i_code_in.slots [dS (txt Ps)] = [.has (dS (txt Ps)), .no, .no, .no, .no] := rfl
  have t1 : evalS T wf (runFn T wf (k + 4)) (.asg (.nm 1) (.box (.lst .nil))) [.has (dS (txt Ps)), .no, .no, .no, .no] [] = .ok (.next (jE (dS (txt Ps)) .no .no .no)) [.lst []] := rfl
  have c2 : cmpop T.tabs [GO.lst []] .eq (dS (txt Ps)) (.str "") = some false := by
    rw [d_e, show cmpop T.tabs [GO.lst []] .eq (dS (txt Ps)) (dS []) = _ from eq_S [GO.lst []] h.ok rfl, decide_eq_false h.ne]
  have t2 : (evP T (runFn T wf (k + 4)) (.cmp .eq (.var 0) (.cst (.str "")))).t (jE (dS (txt Ps)) .no .no .no) [.lst []] = .ok false [.lst []] := ev_cmpT (ev_var rfl) rfl c2
  have t3 : evI T (runFn T wf (k + 4)) (.enum (.call 38 (.cons (.var 0) .nil))) (jE (dS (txt Ps)) .no .no .no) [.lst []] = .ok (enumD 0 (Ps.map fun P => dS (joinL [32] P)), none) [.lst []] := iq_enum (ev_call (as1 (ev_var rfl) as0) (r38 (k := k + 3) h _))
  have z : 2 ≤ PySem.sizeLine := by decide
  rw [rf4 (f := i_code_in) rfl rfl rfl, e0, e1, nx t1, nx (ite_f t2)]
  rcases jLoop (wf := wf) (k := k) (dS (txt Ps)) Ps 0 .no .no .no [] h.pc (by have := h.few; simp; omega) with ⟨a, b, c, h1, h2⟩ | ⟨f, s', h1, h2⟩
  · have t4 : (evP T (runFn T wf (k + 4)) (.tup (.cons (.bi .tuple (.cons (.var 1) .nil)) (.cons (.cst (.non)) .nil)))).e (jE (dS (txt Ps)) a b c) [.lst ((cdIn Ps [] 0).1.map D.int)] = .ok (.tup [.tup ((cdIn Ps [] 0).1.map D.int), .non]) [.lst ((cdIn Ps [] 0).1.map D.int)] := ev_tup (as1 (ev_bi (as1 (ev_var rfl) as0) rfl) (as1 rfl as0)) (by show 2 ≤ 5000; decide)
    rw [nx (for_ok t3 h2), rt (ret_ok t4), h1]
    exact bf_ret (by show (noRefs ((cdIn Ps [] 0).1.map D.int) && (true && true)) = true; rw [noRefs_ints]; rfl)
  · rw [rt (for_ok t3 h2), h1]
    rfl
theorem r36 {Ps : List (List (List Nat))} (h : Tx Ps) (s : Hs) : runFn T wf (k + 6) 36 [dS (txt Ps)] s = (match (cdIn Ps [] 0).2 with
    | none => .ok (.tup ((cdIn Ps [] 0).1.map D.int)) s
    | some f => .err 1 [(0, .int (f : Nat)), (1, dS (txt Ps))] s) := by
  have e0 : i_read_listing.body = .cons (.ite (.not (.call 10 (.cons (.var 0) .nil))) (.cons (.raise 1 (.cons (.var 0) (.cons (.cst (.int 0)) .nil))) .nil) .nil) (.cons (.asg (.tp [1, 2]) (.call 37 (.cons (.var 0) .nil))) (.cons (.ite (.isN true (.var 2)) (.cons (.raise 1 (.cons (.var 0) (.cons (.var 2) .nil))) .nil) .nil) (.cons (.ret (.var 1)) .nil))) := rfl
  have e1 : startE i_read_listing.slots [dS (txt Ps)] = [.has (dS (txt Ps)), .no, .no] := rfl
  have t1 : (evP T (runFn T wf (k + 5)) (.not (.call 10 (.cons (.var 0) .nil)))).t [.has (dS (txt Ps)), .no, .no] [] = .ok false [] := ev_notT (v := true) (ev_callT (as1 (ev_var rfl) as0) (r10s (k := k + 4) _ []))
  have h37 := r37 (wf := wf) (k := k) h []
  rw [rf4 (f := i_read_listing) rfl rfl rfl, e0, e1, nx (ite_f t1)]
  cases hf : (cdIn Ps [] 0).2 with
  | none =>
    rw [hf] at h37
    have t2 : evalS T wf (runFn T wf (k + 5)) (.asg (.tp [1, 2]) (.call 37 (.cons (.var 0) .nil))) [.has (dS (txt Ps)), .no, .no] [] = .ok (.next [.has (dS (txt Ps)), .has (.tup ((cdIn Ps [] 0).1.map D.int)), .has .non]) [] := asgt_ok (ev_call (as1 (ev_var rfl) as0) h37) rfl
    rw [nx t2, nx (ite_f (s' := []) (ev_isNT (neg := true) (x := .non) (ev_var rfl))), rt (ret_ok (ev_var rfl))]
    exact bf_ret (noRefs_ints _)
  | some f =>
    rw [hf] at h37
    have t2 : evalS T wf (runFn T wf (k + 5)) (.asg (.tp [1, 2]) (.call 37 (.cons (.var 0) .nil))) [.has (dS (txt Ps)), .no, .no] [] = .ok (.next [.has (dS (txt Ps)), .has .non, .has (.int (f : Nat))]) [] := asgt_ok (ev_call (as1 (ev_var rfl) as0) h37) rfl
    rw [nx t2, xs_ok (ite_tn (s1 := []) (ev_isNT (neg := true) (x := .int (f : Nat)) (ev_var rfl)) (xs_ok (rs_ok2 (f1 := 1) (f2 := 0) rfl (ev_var (d := dS (txt Ps)) rfl) (ev_var (d := .int (f : Nat)) rfl))))]
    exact bf_exc rfl
/-! the empty text -/
theorem r36_nil (s : Hs) : runFn T wf (k + 6) 36 [dS []] s = .ok (.tup []) s := by
  have e0 : i_read_listing.body = .cons (.ite (.not (.call 10 (.cons (.var 0) .nil))) (.cons (.raise 1 (.cons (.var 0) (.cons (.cst (.int 0)) .nil))) .nil) .nil) (.cons (.asg (.tp [1, 2]) (.call 37 (.cons (.var 0) .nil))) (.cons (.ite (.isN true (.var 2)) (.cons (.raise 1 (.cons (.var 0) (.cons (.var 2) .nil))) .nil) .nil) (.cons (.ret (.var 1)) .nil))) := rfl
  have e1 : startE i_read_listing.slots [dS []] = [.has (dS []), .no, .no] := rfl
  have t1 : (evP T (runFn T wf (k + 5)) (.not (.call 10 (.cons (.var 0) .nil)))).t [.has (dS []), .no, .no] [] = .ok false [] := ev_notT (v := true) (ev_callT (as1 (ev_var rfl) as0) (r10s (k := k + 4) _ []))
  have h37 : runFn T wf (k + 5) 37 [dS []] [] = .ok (.tup [.tup [], .non]) [] := by
    have e2 : i_code_in.body = .cons (.asg (.nm 1) (.box (.lst .nil))) (.cons (.ite (.cmp .eq (.var 0) (.cst (.str ""))) (.cons (.ret (.tup (.cons (.tup .nil) (.cons (.cst (.non)) .nil)))) .nil) .nil) (.cons (.for_ (.tp [2, 3]) (.enum (.call 38 (.cons (.var 0) .nil))) jBody) (.cons (.ret (.tup (.cons (.bi .tuple (.cons (.var 1) .nil)) (.cons (.cst (.non)) .nil)))) .nil))) := rfl
    have e3 : startE i_code_in.slots [dS []] = [.has (dS []), .no, .no, .no, .no] := rfl
    have c2 : cmpop T.tabs [GO.lst []] .eq (dS []) (.str "") = some true := by
      rw [d_e, show cmpop T.tabs [GO.lst []] .eq (dS []) (dS []) = _ from eq_S [GO.lst []] rfl rfl, decide_eq_true rfl]
    have t2 : (evP T (runFn T wf (k + 4)) (.cmp .eq (.var 0) (.cst (.str "")))).t (jE (dS []) .no .no .no) [.lst []] = .ok true [.lst []] := ev_cmpT (ev_var rfl) rfl c2
    have t4 : evalS T wf (runFn T wf (k + 4)) (.asg (.nm 1) (.box (.lst .nil))) [.has (dS []), .no, .no, .no, .no] [] = .ok (.next (jE (dS []) .no .no .no)) [.lst []] := rfl
    have t3 : (evP T (runFn T wf (k + 4)) (.tup (.cons (.tup .nil) (.cons (.cst (.non)) .nil)))).e (jE (dS []) .no .no .no) [.lst []] = .ok (.tup [.tup [], .non]) [.lst []] := ev_tup (as1 (ev_tup as0 (by decide)) (as1 rfl as0)) (by show 2 ≤ 5000; decide)
    rw [rf4 (f := i_code_in) rfl rfl rfl, e2, e3, nx t4, rt (ite_t t2 (rt (ret_ok t3)))]
    rfl
  have t2 : evalS T wf (runFn T wf (k + 5)) (.asg (.tp [1, 2]) (.call 37 (.cons (.var 0) .nil))) [.has (dS []), .no, .no] [] = .ok (.next [.has (dS []), .has (.tup []), .has .non]) [] := asgt_ok (ev_call (as1 (ev_var rfl) as0) h37) rfl
  rw [rf4 (f := i_read_listing) rfl rfl rfl, e0, e1, nx (ite_f t1), nx t2, nx (ite_f (s' := []) (ev_isNT (neg := true) (x := .non) (ev_var rfl))), rt (ret_ok (ev_var rfl))]
  rfl
end K66
set_option Elab.async false
set_option linter.all false
set_option maxRecDepth 100000
set_option maxHeartbeats 4000000
/-! R15: right lines are read; a line that cannot stand. -/
namespace K66
open CN
variable {wf k : Nat} {cells : List Int} {rest s : Hs}
abbrev lnP (a : Nat) (q : Nat × List Int) : List (List Nat) := numL a :: pcs q
def plns : Nat → List (Nat × List Int) → List (List (List Nat))
  | _, [] => []
  | a, q :: ps => lnP a q :: plns (a + (row q.1 q.2).length) ps
theorem lns_plns : ∀ (a : Nat) (ps), lns a ps = (plns a ps).map (joinL [32])
  | _, [] => rfl
  | a, q :: ps => by
    show lineL a q :: lns _ ps = joinL [32] (lnP a q) :: (plns _ ps).map (joinL [32])
    rw [lns_plns]
    rfl
theorem plns_len : ∀ (a : Nat) (ps), (plns a ps).length = ps.length
  | _, [] => rfl
  | a, q :: ps => by
    show (plns _ ps).length + 1 = ps.length + 1
    rw [plns_len]
theorem plns_app : ∀ (a : Nat) (p1 p2), plns a (p1 ++ p2) = plns a p1 ++ plns (a + (rowsAll p1).length) p2
  | _, [], _ => rfl
  | a, q :: p1, p2 => by
    show lnP a q :: plns _ (p1 ++ p2) = lnP a q :: (plns _ p1 ++ plns _ p2)
    rw [plns_app]
    have e : (rowsAll (q :: p1)).length = (row q.1 q.2).length + (rowsAll p1).length := List.length_append
    rw [e, Nat.add_assoc]
theorem numL_free' (n : Nat) : 32 ∉ numL n ∧ 10 ∉ numL n := ⟨TL.numL_free (.inl (by decide)), TL.numL_free (.inl (by decide))⟩
theorem wdL_free {j : Nat} (hj : j < 19) : 32 ∉ wdL j ∧ 10 ∉ wdL j := of_decide_eq_true (of_all (p := fun j => decide (32 ∉ wdL j ∧ 10 ∉ wdL j)) (by decide +kernel) hj)
theorem opL_free (c : Kd) (x : Int) : 32 ∉ opL c x ∧ 10 ∉ opL c x := by
  have h := numL_free' x.toNat
  cases c with
  | r =>
    show 32 ∉ 114 :: numL x.toNat ∧ 10 ∉ 114 :: numL x.toNat
    simp only [List.mem_cons, not_or]
    exact ⟨⟨by decide, h.1⟩, ⟨by decide, h.2⟩⟩
  | n => exact h
  | A => exact h
theorem opL_ok (c : Kd) (x : Int) : okT (opL c x) = true := by
  have h := numL_ok x.toNat
  cases c with
  | r =>
    show (114 :: numL x.toNat).all (· < 256) = true
    rw [List.all_cons]
    exact (Bool.and_eq_true _ _).mpr ⟨by decide, h⟩
  | n => exact h
  | A => exact h
theorem pcs_ok {q : Nat × List Int} (h : In q) : ∀ p ∈ pcs q, okT p = true ∧ p.length ≤ 100 ∧ 32 ∉ p ∧ 10 ∉ p := by
  intro p hp
  have hs := pcs_short h p hp
  rcases List.mem_cons.mp (show p ∈ wdL q.1 :: opsL (sh q.1) q.2 from hp) with rfl | hp
  · exact ⟨wdL_ok h.1, by omega, wdL_free h.1⟩
  · obtain ⟨c, x, hx, rfl⟩ := opsL_mem h.2 hp
    exact ⟨opL_ok c x, by omega, opL_free c x⟩
theorem num_pc {a : Nat} (ha : a < 100000) : okT (numL a) = true ∧ (numL a).length ≤ 100 ∧ 32 ∉ numL a ∧ 10 ∉ numL a := ⟨numL_ok a, by have := num_len5 ha; omega, numL_free' a⟩
theorem lnP_pc {a : Nat} (ha : a < 100000) {q : Nat × List Int} (h : In q) : Pc (lnP a q) where
  ne := List.cons_ne_nil _ _
  ok := fun p hp => by
    rcases List.mem_cons.mp hp with rfl | hp
    · exact num_pc ha
    · exact pcs_ok h p hp
  few := by
    have := pcs_len h
    rw [List.length_cons]
    omega
theorem plns_pc : ∀ {a : Nat} {ps}, Is ps → a + (rowsAll ps).length < 100000 → ∀ P ∈ plns a ps, Pc P
  | _, [], _, _, P, hP => by cases hP
  | a, q :: ps, h, ha, P, hP => by
    have e : (rowsAll (q :: ps)).length = (row q.1 q.2).length + (rowsAll ps).length := List.length_append
    rcases List.mem_cons.mp (show P ∈ lnP a q :: plns (a + (row q.1 q.2).length) ps from hP) with rfl | hP
    · exact lnP_pc (by omega) (h q List.mem_cons_self)
    · exact plns_pc (fun x hx => h x (List.mem_cons_of_mem _ hx)) (by omega) P hP
theorem opIn_opL {c : Kd} {x : Int} (h : 0 ≤ x ∧ x < c.lim) : opIn c (opL c x) = some x.toNat := by
  unfold opIn
  cases c with
  | r =>
    have hl : x < 8 := h.2
    rw [if_pos rfl, if_pos (show (opL .r x).head? = some 114 from rfl)]
    exact numIn_num (show x.toNat < 8 by omega)
  | n =>
    have hl : x < 256 := h.2
    rw [if_neg (by decide)]
    exact numIn_num (show x.toNat < 256 by omega)
  | A =>
    have hl : x < 65536 := h.2
    rw [if_neg (by decide)]
    exact numIn_num (show x.toNat < 65536 by omega)
theorem opsIn_opsL : ∀ {cs : List Kd} {ns : List Int}, vals cs ns → opsIn cs (opsL cs ns) = some ns
  | [], [], _ => rfl
  | [], _ :: _, h => h.elim
  | _ :: _, [], h => h.elim
  | c :: cs, x :: xs, h => by
    show (match opIn c (opL c x) with | none => none | some n => (opsIn cs (opsL cs xs)).map (((n : Nat) : Int) :: ·)) = _
    rw [opIn_opL h.1, opsIn_opsL h.2]
    show some (((x.toNat : Nat) : Int) :: xs) = some (x :: xs)
    rw [Int.toNat_of_nonneg h.1.1]
theorem insIn_pcs {q : Nat × List Int} (h : In q) : insIn (pcs q) = some q := by
  show (match wIdx (wdL q.1) with | none => none | some j => if (opsL (sh q.1) q.2).length = (sh j).length then (opsIn (sh j) (opsL (sh q.1) q.2)).map fun ns => (j, ns) else none) = _
  rw [wIdx_wd h.1]
  dsimp only
  rw [if_pos (opsL_len h.2), opsIn_opsL h.2]
  rfl
theorem lnIn_lnP {a : Nat} {q : Nat × List Int} (h : In q) : lnIn a (lnP a q) = some q := by
  show (if numL a = numL a then insIn (pcs q) else none) = _
  rw [if_pos rfl, insIn_pcs h]
theorem cdIn_app : ∀ (ps : List (Nat × List Int)) (acc : List Int) (i : Nat) (R), Is ps → cdIn (plns acc.length ps ++ R) acc i = cdIn R (acc ++ rowsAll ps) (i + ps.length)
  | [], acc, i, R, _ => by
    show cdIn R acc i = cdIn R (acc ++ []) (i + 0)
    rw [List.append_nil, Nat.add_zero]
  | q :: ps, acc, i, R, h => by
    show (match lnIn acc.length (lnP acc.length q) with | none => (([], some i) : List Int × Option Nat) | some q' => cdIn (plns (acc.length + (row q.1 q.2).length) ps ++ R) (acc ++ row q'.1 q'.2) (i + 1)) = _
    rw [lnIn_lnP (h q List.mem_cons_self)]
    dsimp only
    have ih := cdIn_app ps (acc ++ row q.1 q.2) (i + 1) R fun x hx => h x (List.mem_cons_of_mem _ hx)
    rw [List.length_append] at ih
    rw [ih]
    show cdIn R (acc ++ row q.1 q.2 ++ rowsAll ps) (i + 1 + ps.length) = cdIn R (acc ++ (row q.1 q.2 ++ rowsAll ps)) (i + (ps.length + 1))
    rw [List.append_assoc, Nat.add_assoc, Nat.add_comm 1]
theorem cdIn_good (ps) (h : Is ps) : cdIn (plns 0 ps) [] 0 = (rowsAll ps, none) := by
  have e := cdIn_app ps [] 0 [] h
  rw [List.append_nil] at e
  exact e
theorem cdIn_bad (ps) (h : Is ps) {P : List (List Nat)} (R) (hb : lnIn (rowsAll ps).length P = none) : (cdIn (plns 0 ps ++ P :: R) [] 0).2 = some ps.length := by
  have e := cdIn_app ps [] 0 (P :: R) h
  have e2 : cdIn (plns 0 ps ++ P :: R) [] 0 = cdIn (P :: R) ([] ++ rowsAll ps) (0 + ps.length) := e
  rw [e2, List.nil_append, Nat.zero_add]
  show (match lnIn (rowsAll ps).length P with | none => (([], some ps.length) : List Int × Option Nat) | some q => cdIn R (rowsAll ps ++ row q.1 q.2) (ps.length + 1)).2 = _
  rw [hb]
theorem txt_app_ne {Ps R : List (List (List Nat))} {P : List (List Nat)} (h : joinL [32] P ≠ [] ∨ Ps ≠ [] ∨ R ≠ []) : txt (Ps ++ P :: R) ≠ [] := by
  unfold txt
  rw [List.map_append, List.map_cons]
  have two : ∀ (p q : List Nat) (r), joinL [10] (p :: q :: r) ≠ [] := fun p q r e => by
    rw [joinL_two] at e
    have := congrArg List.length e
    simp at this
  cases Ps with
  | nil =>
    cases R with
    | nil =>
      rcases h with h | h | h
      · exact h
      · exact absurd rfl h
      · exact absurd rfl h
    | cons r R => exact two _ _ _
  | cons p Ps =>
    cases Ps with
    | nil => exact two _ _ _
    | cons p2 Ps => exact two _ _ _
theorem lineP_ne (a : Nat) (ps : List (List Nat)) : joinL [32] (numL a :: ps) ≠ [] := by
  intro e
  cases ps with
  | nil =>
    rw [joinL_one] at e
    exact TL.numL_ne a e
  | cons p ps =>
    rw [joinL_two] at e
    have := congrArg List.length e
    simp at this
theorem tx_good (ps) (h : Is ps) (hn : ps ≠ []) (hl : (rowsAll ps).length < 90000) (h6 : ps.length ≤ 650) : Tx (plns 0 ps) where
  pc := plns_pc h (by omega)
  ne := by
    cases ps with
    | nil => exact absurd rfl hn
    | cons q ps => exact txt_app_ne (Ps := []) (.inl (lineP_ne 0 (pcs q)))
  few := by rw [plns_len]; exact h6
/-- what read_listing tells of right lines -/
theorem r36_good (ps) (h : Is ps) (hl : (rowsAll ps).length < 90000) (h6 : ps.length ≤ 650) (s : Hs) : runFn T wf (k + 6) 36 [dS (joinL [10] (lns 0 ps))] s = .ok (.tup ((rowsAll ps).map D.int)) s := by
  rw [lns_plns]
  cases ps with
  | nil => exact r36_nil s
  | cons q ps =>
    have e := r36 (wf := wf) (k := k) (tx_good (q :: ps) h (List.cons_ne_nil _ _) hl h6) s
    rw [cdIn_good _ h] at e
    exact e
/-- .. of right lines with one behind them that cannot stand -/
theorem r36_bad (ps) (h : Is ps) (hl : (rowsAll ps).length < 90000) {P : List (List Nat)} {R} (hP : Pc P) (hR : ∀ Q ∈ R, Pc Q) (h6 : ps.length + R.length ≤ 640) (hne : joinL [32] P ≠ [] ∨ ps ≠ [] ∨ R ≠ []) (hb : lnIn (rowsAll ps).length P = none) (s : Hs) :
    runFn T wf (k + 6) 36 [dS (txt (plns 0 ps ++ P :: R))] s = .err 1 [(0, .int (ps.length : Nat)), (1, dS (txt (plns 0 ps ++ P :: R)))] s := by
  have tx : Tx (plns 0 ps ++ P :: R) := by
    refine ⟨fun Q hQ => ?_, txt_app_ne ?_, ?_⟩
    · rcases List.mem_append.mp hQ with hQ | hQ
      · exact plns_pc h (by omega) Q hQ
      · rcases List.mem_cons.mp hQ with rfl | hQ
        · exact hP
        · exact hR Q hQ
    · rcases hne with z | z | z
      · exact .inl z
      · refine .inr (.inl ?_)
        cases ps with
        | nil => exact absurd rfl z
        | cons q ps => exact List.cons_ne_nil _ _
      · exact .inr (.inr z)
    · rw [List.length_append, plns_len, List.length_cons]
      omega
  have e := r36 (wf := wf) (k := k) tx s
  rw [cdIn_bad ps h R hb] at e
  exact e
end K66
set_option Elab.async false
set_option linter.all false
set_option maxRecDepth 100000
set_option maxHeartbeats 4000000
/-! Q8: what is no instruction. -/
namespace K66
open CN
variable {wf k : Nat}
/-- the law's look for the shape -/
def nS : Ex := .bm .split (.cst (.str "set copy add sub mul low ask tell get put less same jump call back push pop out stop")) (.cons (.cst (.str " ")) .nil)
theorem nS_ok {call : Nat → List D → Hs → Res D} (env : CN.Env) (s : Hs) : (evP T call nS).e env s = .ok (.tl (wds.map D.str)) s := by kernel_rfl
theorem nI_ok : ∀ (j : Nat), j < 19 → ∀ s : Hs, bmeth s .index (.tl (wds.map D.str)) [.str (wd j)] = .ok (.int (j : Int)) s
  | 0, _, s => by kernel_rfl
  | 1, _, s => by kernel_rfl
  | 2, _, s => by kernel_rfl
  | 3, _, s => by kernel_rfl
  | 4, _, s => by kernel_rfl
  | 5, _, s => by kernel_rfl
  | 6, _, s => by kernel_rfl
  | 7, _, s => by kernel_rfl
  | 8, _, s => by kernel_rfl
  | 9, _, s => by kernel_rfl
  | 10, _, s => by kernel_rfl
  | 11, _, s => by kernel_rfl
  | 12, _, s => by kernel_rfl
  | 13, _, s => by kernel_rfl
  | 14, _, s => by kernel_rfl
  | 15, _, s => by kernel_rfl
  | 16, _, s => by kernel_rfl
  | 17, _, s => by kernel_rfl
  | 18, _, s => by kernel_rfl
  | j + 19, h, _ => absurd h (by omega)
theorem atI_sgn {j : Nat} (hj : j < 19) {i : Nat} {c : Kd} (hc : (sh j)[i]? = some c) (s : Hs) : idxop T.tabs s (.str (ss j)) (.int (i : Int)) = some (.str c.sgn) := by
  have hl : (ss j).length ≤ PySem.sizeLine := by rw [ss_len hj]; exact Nat.le_trans (sh_len hj) (by decide)
  have hi : i < (sh j).length := (List.getElem?_eq_some_iff.mp hc).1
  have h1 : (signs (ss j))[i]? = some (.str c.sgn) := by rw [signs_ss hj, List.getElem?_map, hc]; rfl
  have hlen : (ss j).cps.toList.length = (sh j).length := ss_len hj
  show (if (ss j).length ≤ PySem.sizeLine then (L2.atI (ss j).cps.toList (i : Int)).map fun c => D.str ⟨#[c]⟩ else none) = _
  rw [if_pos hl, atI_nat _ _ (by rw [hlen]; exact hi)]
  unfold signs at h1
  rw [List.getElem?_map] at h1
  exact h1
end K66
set_option Elab.async false
set_option linter.all false
set_option maxRecDepth 100000
set_option maxHeartbeats 4000000
/-! R16: _law_lines. -/
namespace K66
open CN
variable {wf k : Nat} {cells : List Int} {rest s : Hs}
theorem All2_get {α β : Type} {R : α → β → Prop} : ∀ {as : List α} {bs : List β}, as.length = bs.length → (∀ (i : Nat) (a : α) (b : β), as[i]? = some a → bs[i]? = some b → R a b) → All2 R as bs
  | [], [], _, _ => trivial
  | [], _ :: _, h, _ => by simp at h
  | _ :: _, [], h, _ => by simp at h
  | a :: as, b :: bs, h, r => ⟨r 0 a b rfl rfl, All2_get (by simpa using h) fun i x y hx hy => r (i + 1) x y (by simpa using hx) (by simpa using hy)⟩
theorem opsL_get : ∀ {cs : List Kd} {ns : List Int} {i : Nat} {p : List Nat}, vals cs ns → (opsL cs ns)[i]? = some p → ∃ c x, cs[i]? = some c ∧ ns[i]? = some x ∧ (0 ≤ x ∧ x < c.lim) ∧ p = opL c x
  | [], [], i, p, _, h => by simp [opsL] at h
  | [], _ :: _, i, p, h, _ => h.elim
  | _ :: _, [], i, p, h, _ => h.elim
  | c :: cs, x :: xs, 0, p, h, e => by
    have e' : opL c x = p := by simpa [opsL] using e
    exact ⟨c, x, rfl, rfl, h.1, e'.symm⟩
  | c :: cs, x :: xs, i + 1, p, h, e => by
    have e' : (opsL cs xs)[i]? = some p := by simpa [opsL] using e
    obtain ⟨c', x', h1, h2, h3, h4⟩ := opsL_get h.2 e'
    exact ⟨c', x', by simpa using h1, by simpa using h2, h3, h4⟩
theorem rangeD_at {n i : Nat} {d : D} (h : (rangeD 0 n)[i]? = some d) : i < n ∧ d = .int (i : Nat) := by
  unfold rangeD at h
  rw [List.getElem?_map] at h
  cases e : (List.range n)[i]? with
  | none => rw [e] at h; cases h
  | some j =>
    rw [e] at h
    obtain ⟨hi, e2⟩ := List.getElem?_eq_some_iff.mp e
    rw [List.length_range] at hi
    rw [List.getElem_range] at e2
    subst e2
    cases h
    exact ⟨hi, by show D.int (0 + (i : Int)) = _; rw [Int.zero_add]⟩
theorem len_sgn {j : Nat} (hj : j < 19) (s : Hs) : bifun s .len [.str (ss j)] = some (.int ((sh j).length : Nat)) := by
  show (if (ss j).length ≤ PySem.sizeLine then some (D.int (ss j).length) else none) = _
  rw [ss_len hj, if_pos (small5 (Nat.le_trans (sh_len hj) (by decide)))]
def lE4 : Ex := .idx (.call 5 (.cons (.bm .index nS (.cons (.idx (.var 3) (.cst (.int 0))) .nil)) .nil)) (.cst (.int 1))
def lElt : Ex := .bin .add (.ite (.cmp .eq (.idx (.var 4) (.var 6)) (.cst (.str "r"))) (.cst (.str "r")) (.cst (.str ""))) (.bi .str (.cons (.idx (.var 3) (.bin .add (.var 6) (.cst (.int 1)))) .nil))
def lE5 : Ex := .comp lElt (.nm 6) [6] (.range1 (.bi .len (.cons (.var 4) .nil))) .no
def lE7 : Ex := .bm .join (.cst (.str " ")) (.cons (.bin .add (.lst (.cons (.bi .str (.cons (.var 2) .nil)) (.cons (.idx (.var 3) (.cst (.int 0))) .nil))) (.var 5)) .nil)
theorem lE4_ok {q : Nat × List Int} (h : In q) {env : CN.Env} (h3 : env[3]? = some (.has (insD q.1 q.2))) : (evP T (runFn T wf (k + 1)) lE4).e env s = .ok (.str (ss q.1)) s :=
  ev_idx (ev_call (as1 (ev_bm (nS_ok env s) rfl (as1 (ev_idx (ev_var h3) rfl (idx_ins0 _ _ _ _)) as0) (nI_ok q.1 h.1 s)) as0) (r5 (k := k) q.1 h.1 s)) rfl rfl
theorem lE5_ok {c : Nat → List D → Hs → Res D} {q : Nat × List Int} (h : In q) (x0 x1 x2 x5 x6 : Sl) : (evP T c lE5).e [x0, x1, x2, .has (insD q.1 q.2), .has (.str (ss q.1)), x5, x6] s = .ok (.tl ((opsL (sh q.1) q.2).map dS)) s := by
  refine ev_comp (w := none) (ds := rangeD 0 (sh q.1).length) (iq_range1 (ev_bi (as1 (ev_var rfl) as0) (len_sgn h.1 s)) (Nat.le_trans (sh_len h.1) (by decide))) rfl (All2_get (by simp [rangeD, opsL_len h.2]) fun i d r hd hr => ?_) (by simp [rangeD]; have := sh_len h.1; omega)
  obtain ⟨hi, rfl⟩ := rangeD_at hd
  rw [List.getElem?_map] at hr
  cases e : (opsL (sh q.1) q.2)[i]? with
  | none => rw [e] at hr; cases hr
  | some p =>
    rw [e] at hr
    cases hr
    obtain ⟨cc, x, h1, h2, h3, rfl⟩ := opsL_get h.2 e
    have hl : cc.lim ≤ 65536 := by cases cc <;> decide
    have hx : idxop T.tabs s (insD q.1 q.2) (.int ((i : Int) + 1)) = some (.int x) := by
      have z : ((i : Int) + 1) = ((i + 1 : Nat) : Int) := by omega
      have hn : i < q.2.length := (List.getElem?_eq_some_iff.mp h2).1
      show L2.atI (D.str (wd q.1) :: q.2.map D.int) ((i : Int) + 1) = _
      rw [z, atI_nat _ _ (by rw [List.length_cons, List.length_map]; omega), List.getElem?_cons_succ, List.getElem?_map, h2]
      rfl
    have hs := str_nat s h3.1 (by omega : x < 100000)
    have h5 := num_len5 (n := x.toNat) (by omega)
    have tR : (evP T c (.cmp .eq (.idx (.var 4) (.var 6)) (.cst (.str "r")))).t [x0, x1, x2, .has (insD q.1 q.2), .has (.str (ss q.1)), x5, .has (.int (i : Nat))] s = .ok (decide (cc = .r)) s := ev_cmpT (ev_idx (ev_var rfl) (ev_var rfl) (atI_sgn h.1 h1 s)) rfl (isR cc s)
    have tS : (evP T c (.bi .str (.cons (.idx (.var 3) (.bin .add (.var 6) (.cst (.int 1)))) .nil))).e [x0, x1, x2, .has (insD q.1 q.2), .has (.str (ss q.1)), x5, .has (.int (i : Nat))] s = .ok (dS (numL x.toNat)) s := ev_bi (as1 (ev_idx (ev_var rfl) (ev_bin (ev_var rfl) rfl rfl) hx) as0) hs
    have tA : (evP T c lElt).e [x0, x1, x2, .has (insD q.1 q.2), .has (.str (ss q.1)), x5, .has (.int (i : Nat))] s = .ok (dS (opL cc x)) s := by
      by_cases hc : cc = .r
      · rw [decide_eq_true hc] at tR
        have ha : binop s .add (.str "r") (dS (numL x.toNat)) = some (dS (114 :: numL x.toNat)) := by
          rw [d_r]
          exact add_S s (a := [114]) (b := numL x.toNat) (small5 (by show 1 + (numL x.toNat).length ≤ 5000; omega))
        rw [hc]
        exact ev_bin (ev_iteT tR rfl) tS ha
      · rw [decide_eq_false hc] at tR
        have ha : binop s .add (.str "") (dS (numL x.toNat)) = some (dS (numL x.toNat)) := by
          rw [d_e]
          exact add_S s (a := []) (b := numL x.toNat) (small5 (by show 0 + (numL x.toNat).length ≤ 5000; omega))
        have eo : opL cc x = numL x.toNat := by cases cc <;> first | rfl | exact absurd rfl hc
        rw [eo]
        exact ev_bin (ev_iteF tR rfl) tS ha
    exact ev_step (env' := [x0, x1, x2, .has (insD q.1 q.2), .has (.str (ss q.1)), x5, .has (.int (i : Nat))]) rfl tA
theorem lE7_ok {c : Nat → List D → Hs → Res D} {a : Nat} (ha : a < 100000) {q : Nat × List Int} (h : In q) (x0 x1 x4 x6 : Sl) : (evP T c lE7).e [x0, x1, .has (.int (a : Nat)), .has (insD q.1 q.2), x4, .has (.tl ((opsL (sh q.1) q.2).map dS)), x6] s = .ok (dS (lineL a q)) s := by
  have h3 := sumL_le (line_pcs ha h)
  have h4 := pcs_len h
  have h6 : binop s .add (.tl [dS (numL a), .str (wd q.1)]) (.tl ((opsL (sh q.1) q.2).map dS)) = some (.tl ((numL a :: pcs q).map dS)) := by
    have h5 : (opsL (sh q.1) q.2).length ≤ 3 := by rw [opsL_len h.2]; exact sh_len h.1
    show (if [dS (numL a), .str (wd q.1)].length + ((opsL (sh q.1) q.2).map dS).length ≤ PySem.sizeLine then some (D.tl ([dS (numL a), .str (wd q.1)] ++ (opsL (sh q.1) q.2).map dS)) else none) = _
    rw [if_pos (small5 (by rw [List.length_map]; simp; omega)), wd_S]
    rfl
  have hj := bm_join s [32] (numL a :: pcs q) (.tl ((numL a :: pcs q).map dS)) rfl (by rw [List.length_cons] at *; show _ + _ * 1 ≤ _; omega)
  rw [← d_sp] at hj
  exact ev_bm rfl rfl (as1 (ev_bin (ev_lst (as1 (ev_bi (as1 (ev_var rfl) as0) (str_int s a (by omega))) (as1 (ev_idx (ev_var rfl) rfl (idx_ins0 _ _ _ _)) as0)) (by show 2 ≤ 5000; decide)) (ev_var rfl) h6) as0) hj
def lnB : Sts := .cons (.asg (.nm 4) lE4) (.cons (.asg (.nm 5) lE5) (.cons (.expr (.bm .append (.var 1) (.cons lE7 .nil))) .nil))
abbrev lnE (n m : Nat) (x2 x3 x4 x5 x6 : Sl) : CN.Env := [.has (.ref n), .has (.ref m), x2, x3, x4, x5, x6]
theorem lnTurn (n : Nat) {a : Nat} (ha : a < 100000) {q : Nat × List Int} (h : In q) (x2 x3 x4 x5 x6 : Sl) (acc : List D) (hl : acc.length + 1 ≤ 5000) :
    forStep (.tp [2, 3]) (evalSs T wf (runFn T wf (k + 1)) lnB) (.tup [.int (a : Nat), insD q.1 q.2]) (lnE n s.length x2 x3 x4 x5 x6) (s ++ [.lst acc]) = .ok (.next (lnE n s.length (.has (.int (a : Nat))) (.has (insD q.1 q.2)) (.has (.str (ss q.1))) (.has (.tl ((opsL (sh q.1) q.2).map dS))) x6)) (s ++ [.lst (acc ++ [dS (lineL a q)])]) := by
  have e : forStep (.tp [2, 3]) (evalSs T wf (runFn T wf (k + 1)) lnB) (.tup [.int (a : Nat), insD q.1 q.2]) (lnE n s.length x2 x3 x4 x5 x6) (s ++ [.lst acc]) = evalSs T wf (runFn T wf (k + 1)) lnB (lnE n s.length (.has (.int (a : Nat))) (.has (insD q.1 q.2)) x4 x5 x6) (s ++ [.lst acc]) := rfl
  rw [e]
  unfold lnB
  rw [nx (asg_ok (i := 4) (lE4_ok (wf := wf) (k := k) h rfl))]
  show evalSs T wf (runFn T wf (k + 1)) _ (lnE n s.length (.has (.int (a : Nat))) (.has (insD q.1 q.2)) (.has (.str (ss q.1))) x5 x6) _ = _
  rw [nx (asg_ok (i := 5) (lE5_ok (c := runFn T wf (k + 1)) h _ _ _ _ _))]
  show evalSs T wf (runFn T wf (k + 1)) _ (lnE n s.length (.has (.int (a : Nat))) (.has (insD q.1 q.2)) (.has (.str (ss q.1))) (.has (.tl ((opsL (sh q.1) q.2).map dS))) x6) _ = _
  rw [nx (app_ok (n := s.length) (ds := acc) rfl (by simp) (lE7_ok (c := runFn T wf (k + 1)) ha h _ _ _ _) hl)]
  simp [evalSs]
theorem lnLoop (n : Nat) (w : Option (Nat × List D)) (hw : ∀ acc, stays w (s ++ [.lst acc]) = true) : ∀ (a : Nat) (ps) (x2 x3 x4 x5 x6 : Sl) (acc : List D), Is ps → a + (rowsAll ps).length < 100000 → acc.length + ps.length ≤ 5000 →
    ∃ x2' x3' x4' x5' x6', loopFor (forStep (.tp [2, 3]) (evalSs T wf (runFn T wf (k + 1)) lnB)) w (prs a ps) (lnE n s.length x2 x3 x4 x5 x6) (s ++ [.lst acc]) = .ok (.next (lnE n s.length x2' x3' x4' x5' x6')) (s ++ [.lst (acc ++ (lns a ps).map dS)])
  | a, [], x2, x3, x4, x5, x6, acc, _, _, _ => ⟨x2, x3, x4, x5, x6, by show Res.ok _ _ = _; simp [lns]⟩
  | a, q :: ps, x2, x3, x4, x5, x6, acc, h, ha, hl => by
    have e : (rowsAll (q :: ps)).length = (row q.1 q.2).length + (rowsAll ps).length := List.length_append
    rw [List.length_cons] at hl
    have t := lnTurn (wf := wf) (k := k) (s := s) n (a := a) (by omega) (h q List.mem_cons_self) x2 x3 x4 x5 x6 acc (by omega)
    obtain ⟨y2, y3, y4, y5, y6, r⟩ := lnLoop n w hw (a + (row q.1 q.2).length) ps (.has (.int (a : Nat))) (.has (insD q.1 q.2)) (.has (.str (ss q.1))) (.has (.tl ((opsL (sh q.1) q.2).map dS))) x6 (acc ++ [dS (lineL a q)]) (fun x hx => h x (List.mem_cons_of_mem _ hx)) (by omega) (by simp; omega)
    refine ⟨y2, y3, y4, y5, y6, ?_⟩
    show loopFor _ w (.tup [.int (a : Nat), insD q.1 q.2] :: prs (a + (row q.1 q.2).length) ps) _ _ = _
    rw [loopFor_nx t (hw _), r]
    simp [lns]
theorem r7 {n : Nat} (ps) (hs : s[n]? = some (.lst (prs 0 ps))) (h : Is ps) (hl : (rowsAll ps).length < 90000) (hp : ps.length ≤ 5000) : runFn T wf (k + 2) 7 [.ref n] s = .ok (.tl ((lns 0 ps).map dS)) s := by
  have e0 : i__law_lines.body = .cons (.asg (.nm 1) (.box (.lst .nil))) (.cons (.for_ (.tp [2, 3]) (.seq (.var 0)) lnB) (.cons (.ret (.var 1)) .nil)) := rfl
  have e1 : startE i__law_lines.slots [.ref n] = [.has (.ref n), .no, .no, .no, .no, .no, .no] := rfl
  have hn : n < s.length := (List.getElem?_eq_some_iff.mp hs).1
  have t1 : evalS T wf (runFn T wf (k + 1)) (.asg (.nm 1) (.box (.lst .nil))) [.has (.ref n), .no, .no, .no, .no, .no, .no] s = .ok (.next (lnE n s.length .no .no .no .no .no)) (s ++ [.lst []]) := asg_ok (i := 1) (ev_box (s1 := s) (ev_lst as0 (by decide)))
  have hs2 : ∀ acc, (s ++ [GO.lst acc])[n]? = some (.lst (prs 0 ps)) := fun acc => by rw [List.getElem?_append_left hn, hs]
  have t2 : evI T (runFn T wf (k + 1)) (.seq (.var 0)) (lnE n s.length .no .no .no .no .no) (s ++ [.lst []]) = .ok (prs 0 ps, some (n, prs 0 ps)) (s ++ [.lst []]) := iq_ref (ev_var rfl) (hs2 [])
  have hw : ∀ acc, stays (some (n, prs 0 ps)) (s ++ [GO.lst acc]) = true := fun acc => by
    show (match (s ++ [GO.lst acc])[n]? with | some (.lst es) => D.eqbs es (prs 0 ps) | _ => false) = true
    rw [hs2]
    exact D.eqbs_refl _
  obtain ⟨y2, y3, y4, y5, y6, r⟩ := lnLoop (wf := wf) (k := k) n _ hw 0 ps .no .no .no .no .no [] h (by omega) (by simpa using hp)
  rw [rf (f := i__law_lines) rfl rfl, e0, e1, nx t1, nx (for_ok t2 r), rt (ret_ok (ev_var rfl)), List.nil_append]
  show back 3 s (.ref s.length) (s ++ [.lst ((lns 0 ps).map dS)]) = _
  unfold back
  rw [if_neg (by decide), if_neg (by decide), if_pos rfl]
  dsimp only
  rw [show (s ++ [GO.lst ((lns 0 ps).map dS)])[s.length]? = some (.lst ((lns 0 ps).map dS)) by simp]
  dsimp only
  rw [if_pos (by rw [decide_eq_true (Nat.le_refl _), noRefs_dS, List.take_left, eqHs_refl]; rfl)]
end K66
set_option Elab.async false
set_option linter.all false
set_option maxRecDepth 100000
set_option maxHeartbeats 4000000
/-! R17: _law_place, _law_refused. -/
namespace K66
open CN
variable {wf k : Nat} {cells : List Int} {rest s : Hs}
def pA : Ex := .bi .int (.cons (.cmp .eq (.var 5) (.cst (.str "A"))) .nil)
def pT : Ex := .or (.cons (.cmp .ge (.bin .add (.var 4) pA) (.bi .len (.cons (.var 0) .nil))) (.cons (.and (.cons (.cmp .eq (.var 5) (.cst (.str "r"))) (.cons (.cmp .gt (.idx (.var 0) (.var 4)) (.cst (.int 7))) .nil))) .nil))
def pN : CN.St := .asg (.nm 4) (.bin .add (.bin .add (.var 4) (.cst (.int 1))) pA)
def pB : Sts := .cons (.ite pT (.cons (.ret (.var 1)) .nil) .nil) (.cons pN .nil)
abbrev pE (xs : List Int) (p : Nat) (x2 x3 : Sl) (pl : Nat) (x5 : Sl) : CN.Env := [.has (.tup (xs.map D.int)), .has (.int (p : Nat)), x2, x3, .has (.int (pl : Nat)), x5]
theorem pA_ok {c : Nat → List D → Hs → Res D} (xs : List Int) (p : Nat) (x2 x3 : Sl) (pl : Nat) (cc : Kd) : (evP T c pA).e (pE xs p x2 x3 pl (.has (.str cc.sgn))) s = .ok (.int ((if cc = .A then 1 else 0 : Nat) : Int)) s := by
  have h := ev_cmp (T := T) (c := c) (env := pE xs p x2 x3 pl (.has (.str cc.sgn))) (s := s) (op := .eq) (a := .var 5) (b := .cst (.str "A")) (ev_var rfl) rfl (isA cc s)
  by_cases hc : cc = .A
  · rw [decide_eq_true hc] at h
    rw [if_pos hc]
    exact ev_bi (as1 h as0) rfl
  · rw [decide_eq_false hc] at h
    rw [if_neg hc]
    exact ev_bi (as1 h as0) rfl
theorem ge_nat (tabs : List (List (PySem.Str × D))) (s : Hs) (a b : Nat) : cmpop tabs s .ge (.int (a : Int)) (.int (b : Int)) = some (decide (b ≤ a)) := by
  rw [cge_ii]
  by_cases h : b ≤ a
  · rw [decide_eq_true h, decide_eq_true (by omega)]
  · rw [decide_eq_false h, decide_eq_false (by omega)]
theorem len_ints (s : Hs) (xs : List Int) : bifun s .len [.tup (xs.map D.int)] = some (.int (xs.length : Nat)) := by
  show some (D.int (((xs.map D.int).length : Nat) : Int)) = _
  rw [List.length_map]
theorem rd1_cases {xs : List Int} {p : Nat} (c : Kd) : rd1 c (xs.drop p) = none ↔ (xs.length ≤ p + (if c = .A then 1 else 0) ∨ (c = .r ∧ ∃ x, xs[p]? = some x ∧ 7 < x)) := by
  cases ed : xs.drop p with
  | nil =>
    have hp : xs.length ≤ p := by
      have := congrArg List.length ed
      rw [List.length_drop] at this
      simp at this
      omega
    constructor
    · intro _; exact .inl (by omega)
    · intro _; cases c <;> rfl
  | cons x r =>
    obtain ⟨hp, hx, hr⟩ := at_drop ed
    cases c with
    | r =>
      show (if x < 8 then some x else none) = none ↔ _
      constructor
      · intro h
        split at h
        · cases h
        · exact .inr ⟨rfl, x, hx, by omega⟩
      · rintro (h | ⟨_, y, hy, h7⟩)
        · exact absurd h (by show ¬ xs.length ≤ p + 0; omega)
        · rw [hx] at hy
          cases hy
          rw [if_neg (by omega)]
    | n =>
      show some x = none ↔ _
      constructor
      · intro h; cases h
      · rintro (h | ⟨h, _⟩)
        · exact absurd h (by show ¬ xs.length ≤ p + 0; omega)
        · cases h
    | A =>
      cases r with
      | nil =>
        have h1 : xs.length ≤ p + 1 := by
          have := congrArg List.length ed
          rw [List.length_drop] at this
          simp at this
          omega
        constructor
        · intro _; exact .inl h1
        · intro _; rfl
      | cons y r2 =>
        obtain ⟨hp2, _, _⟩ := at_drop hr
        show some (x * 256 + y) = none ↔ _
        constructor
        · intro h; cases h
        · rintro (h | ⟨h, _⟩)
          · exact absurd h (by show ¬ xs.length ≤ p + 1; omega)
          · cases h
theorem pT_ok {c : Nat → List D → Hs → Res D} (xs : List Int) (p : Nat) (x2 x3 : Sl) (pl : Nat) (cc : Kd) : (evP T c pT).t (pE xs p x2 x3 pl (.has (.str cc.sgn))) s = .ok (decide (rd1 cc (xs.drop pl) = none)) s := by
  have h1 : (evP T c (.cmp .ge (.bin .add (.var 4) pA) (.bi .len (.cons (.var 0) .nil)))).t (pE xs p x2 x3 pl (.has (.str cc.sgn))) s = .ok (decide (xs.length ≤ pl + (if cc = .A then 1 else 0))) s := by
    refine ev_cmpT (x := .int ((pl + (if cc = .A then 1 else 0) : Nat) : Int)) (ev_bin (ev_var rfl) (pA_ok xs p x2 x3 pl cc) ?_) (ev_bi (as1 (ev_var rfl) as0) (len_ints s xs)) (ge_nat _ _ _ _)
    show some (D.int ((pl : Int) + ((if cc = .A then 1 else 0 : Nat) : Int))) = _
    rw [Int.natCast_add]
  by_cases hA : xs.length ≤ pl + (if cc = .A then 1 else 0)
  · rw [decide_eq_true hA] at h1
    rw [decide_eq_true ((rd1_cases cc).mpr (.inl hA))]
    exact or_t h1
  · rw [decide_eq_false hA] at h1
    have h2 : (evP T c (.cmp .eq (.var 5) (.cst (.str "r")))).t (pE xs p x2 x3 pl (.has (.str cc.sgn))) s = .ok (decide (cc = .r)) s := ev_cmpT (ev_var rfl) rfl (isR cc s)
    by_cases hR : cc = .r
    · rw [decide_eq_true hR] at h2
      have hp : pl < xs.length := by omega
      have hx : xs[pl]? = some xs[pl] := List.getElem?_eq_getElem hp
      have hi := atI_map hp hx
      have h3 : (evP T c (.cmp .gt (.idx (.var 0) (.var 4)) (.cst (.int 7)))).t (pE xs p x2 x3 pl (.has (.str cc.sgn))) s = .ok (decide (7 < xs[pl])) s := ev_cmpT (ev_idx (ev_var rfl) (ev_var rfl) hi) rfl (cgt_ii _ _ _ _)
      have e : decide (rd1 cc (xs.drop pl) = none) = decide (7 < xs[pl]) := by
        by_cases h7 : 7 < xs[pl]
        · rw [decide_eq_true h7, decide_eq_true ((rd1_cases cc).mpr (.inr ⟨hR, _, hx, h7⟩))]
        · rw [decide_eq_false h7, decide_eq_false]
          intro z
          rcases (rd1_cases cc).mp z with z | ⟨_, y, hy, h8⟩
          · exact hA z
          · rw [hx] at hy
            cases hy
            exact h7 h8
      rw [e]
      exact or_f h1 (or_1 (and_t h2 (and_1 h3)))
    · rw [decide_eq_false hR] at h2
      have e : decide (rd1 cc (xs.drop pl) = none) = false := decide_eq_false fun z => by
        rcases (rd1_cases cc).mp z with z | ⟨z, _⟩
        · exact hA z
        · exact hR z
      rw [e]
      exact or_f h1 (or_1 (and_f h2))
theorem pN_ok {c : Nat → List D → Hs → Res D} (xs : List Int) (p : Nat) (x2 x3 : Sl) (pl : Nat) (cc : Kd) : evalS T wf c pN (pE xs p x2 x3 pl (.has (.str cc.sgn))) s = .ok (.next (pE xs p x2 x3 (pl + cc.size) (.has (.str cc.sgn)))) s := by
  have h := pA_ok (c := c) (s := s) xs p x2 x3 pl cc
  have e : ((pl : Int) + 1 + ((if cc = .A then 1 else 0 : Nat) : Int)) = ((pl + cc.size : Nat) : Int) := by cases cc <;> simp [Kd.size] <;> omega
  have h2 : (evP T c (.bin .add (.bin .add (.var 4) (.cst (.int 1))) pA)).e (pE xs p x2 x3 pl (.has (.str cc.sgn))) s = .ok (.int ((pl + cc.size : Nat) : Int)) s := by
    rw [← e]
    exact ev_bin (ev_bin (ev_var rfl) rfl rfl) h rfl
  exact asg_ok h2
theorem pLoop {c : Nat → List D → Hs → Res D} (xs : List Int) (p : Nat) (x2 x3 : Sl) : ∀ (cs : List Kd) (pl : Nat) (x5 : Sl),
    (∃ ns x5', rd cs (xs.drop pl) = some ns ∧ loopFor (forStep (.nm 5) (evalSs T wf c pB)) none (cs.map fun (cc : Kd) => D.str cc.sgn) (pE xs p x2 x3 pl x5) s = .ok (.next (pE xs p x2 x3 (pl + sz cs) x5')) s) ∨
    (rd cs (xs.drop pl) = none ∧ loopFor (forStep (.nm 5) (evalSs T wf c pB)) none (cs.map fun (cc : Kd) => D.str cc.sgn) (pE xs p x2 x3 pl x5) s = .ok (.ret (.int (p : Nat))) s)
  | [], pl, x5 => .inl ⟨[], x5, rfl, rfl⟩
  | cc :: cs, pl, x5 => by
    have e : forStep (.nm 5) (evalSs T wf c pB) (.str cc.sgn) (pE xs p x2 x3 pl x5) s = evalSs T wf c pB (pE xs p x2 x3 pl (.has (.str cc.sgn))) s := rfl
    have t1 := pT_ok (c := c) (s := s) xs p x2 x3 pl cc
    rw [rd_cons, List.drop_drop]
    cases h1 : rd1 cc (xs.drop pl) with
    | none =>
      rw [h1, decide_eq_true rfl] at t1
      refine .inr ⟨rfl, ?_⟩
      rw [List.map_cons, loopFor, e]
      unfold pB
      rw [rt (ite_t (s' := s) (d := .int (p : Nat)) t1 (rt (ret_ok (ev_var rfl))))]
      rfl
    | some x =>
      rw [h1, decide_eq_false (by intro z; cases z)] at t1
      have t : forStep (.nm 5) (evalSs T wf c pB) (.str cc.sgn) (pE xs p x2 x3 pl x5) s = .ok (.next (pE xs p x2 x3 (pl + cc.size) (.has (.str cc.sgn)))) s := by
        rw [e]
        unfold pB
        rw [nx (ite_f t1), nx (pN_ok xs p x2 x3 pl cc)]
        rfl
      dsimp only
      rcases pLoop xs p x2 x3 cs (pl + cc.size) (.has (.str cc.sgn)) with ⟨ns, x5', h2, h3⟩ | ⟨h2, h3⟩
      · refine .inl ⟨x :: ns, x5', by rw [h2]; rfl, ?_⟩
        rw [List.map_cons, loopFor_nx t rfl, h3, Nat.add_assoc]
        rfl
      · refine .inr ⟨by rw [h2]; rfl, ?_⟩
        rw [List.map_cons, loopFor_nx t rfl, h3]
def oT1 : Ex := .cmp .eq (.var 1) (.bi .len (.cons (.var 0) .nil))
def oT2 : Ex := .or (.cons (.cmp .lt (.idx (.var 0) (.var 1)) (.cst (.int 1))) (.cons (.cmp .gt (.idx (.var 0) (.var 1)) (.cst (.int 19))) .nil))
def o3 : CN.St := .asg (.nm 3) (.idx (.call 5 (.cons (.bin .sub (.idx (.var 0) (.var 1)) (.cst (.int 1))) .nil)) (.cst (.int 1)))
def o4 : CN.St := .asg (.nm 4) (.bin .add (.var 1) (.cst (.int 1)))
def o6 : CN.St := .asg (.nm 1) (.var 4)
def oB : Sts := .cons (.ite oT1 (.cons .brk .nil) .nil) (.cons (.ite oT2 (.cons (.ret (.var 1)) .nil) .nil) (.cons o3 (.cons o4 (.cons (.for_ (.nm 5) (.seq (.var 3)) pB) (.cons o6 .nil)))))
abbrev oE (xs : List Int) (p : Nat) (x2 x3 x4 x5 : Sl) : CN.Env := [.has (.tup (xs.map D.int)), .has (.int (p : Nat)), x2, x3, x4, x5]
theorem eq_nat (tabs : List (List (PySem.Str × D))) (s : Hs) (a b : Nat) : cmpop tabs s .eq (.int (a : Int)) (.int (b : Int)) = some (decide (a = b)) := by
  rw [ce_ii]
  by_cases h : a = b
  · rw [decide_eq_true h, decide_eq_true (by omega)]
  · rw [decide_eq_false h, decide_eq_false (by omega)]
theorem oT1_ok {c : Nat → List D → Hs → Res D} (xs : List Int) (p : Nat) (x2 x3 x4 x5 : Sl) : (evP T c oT1).t (oE xs p x2 x3 x4 x5) s = .ok (decide (p = xs.length)) s := ev_cmpT (ev_var rfl) (ev_bi (as1 (ev_var rfl) as0) (len_ints s xs)) (eq_nat _ _ _ _)
theorem oT2_ok {c : Nat → List D → Hs → Res D} (xs : List Int) {p : Nat} {x : Int} (hp : p < xs.length) (hx : xs[p]? = some x) (x2 x3 x4 x5 : Sl) : (evP T c oT2).t (oE xs p x2 x3 x4 x5) s = .ok (!decide (1 ≤ x ∧ x ≤ 19)) s := by
  have hi := atI_map hp hx
  by_cases h1 : x < 1
  · have t := cl_ii T.tabs s x 1
    rw [decide_eq_true h1] at t
    rw [decide_eq_false (show ¬ (1 ≤ x ∧ x ≤ 19) by omega)]
    exact or_t (ev_cmpT (ev_idx (ev_var rfl) (ev_var rfl) hi) rfl t)
  · have t := cl_ii T.tabs s x 1
    rw [decide_eq_false h1] at t
    have e : (!decide (1 ≤ x ∧ x ≤ 19)) = decide (19 < x) := by
      by_cases h2 : 19 < x
      · rw [decide_eq_true h2, decide_eq_false (show ¬ (1 ≤ x ∧ x ≤ 19) by omega)]
        rfl
      · rw [decide_eq_false h2, decide_eq_true (show (1 ≤ x ∧ x ≤ 19) by omega)]
        rfl
    rw [e]
    exact or_f (ev_cmpT (ev_idx (ev_var rfl) (ev_var rfl) hi) rfl t) (or_1 (ev_cmpT (ev_idx (ev_var rfl) (ev_var rfl) hi) rfl (cgt_ii _ _ _ _)))
theorem oTurn (xs : List Int) {p : Nat} (hp : p < xs.length) (d : D) (x2 x3 x4 x5 : Sl) :
    (∃ q x3' x4' x5', decN xs p = some q ∧ forStep (.nm 2) (evalSs T wf (runFn T wf (k + 1)) oB) d (oE xs p x2 x3 x4 x5) s = .ok (.next (oE xs (p + 1 + sz (sh q.1)) (.has d) x3' x4' x5')) s) ∨
    (decN xs p = none ∧ forStep (.nm 2) (evalSs T wf (runFn T wf (k + 1)) oB) d (oE xs p x2 x3 x4 x5) s = .ok (.ret (.int (p : Nat))) s) := by
  have e : forStep (.nm 2) (evalSs T wf (runFn T wf (k + 1)) oB) d (oE xs p x2 x3 x4 x5) s = evalSs T wf (runFn T wf (k + 1)) oB (oE xs p (.has d) x3 x4 x5) s := rfl
  have t1 := oT1_ok (c := runFn T wf (k + 1)) (s := s) xs p (.has d) x3 x4 x5
  rw [decide_eq_false (by omega)] at t1
  have hx : xs[p]? = some xs[p] := List.getElem?_eq_getElem hp
  have hd : xs.drop p = xs[p] :: xs.drop (p + 1) := List.drop_eq_getElem_cons hp
  have hi := atI_map hp hx
  have t2 := oT2_ok (c := runFn T wf (k + 1)) (s := s) xs hp hx (.has d) x3 x4 x5
  generalize xs[p] = op at hx hd hi t2
  have edec : decN xs p = if 1 ≤ op ∧ op ≤ 19 then (rd (sh (op - 1).toNat) (xs.drop (p + 1))).map fun ns => ((op - 1).toNat, ns) else none := by
    unfold decN
    rw [hd]
    rfl
  rw [e, edec]
  unfold oB
  by_cases ho : 1 ≤ op ∧ op ≤ 19
  · rw [decide_eq_true ho] at t2
    obtain ⟨j, hj, rfl⟩ : ∃ j : Nat, j < 19 ∧ op = (j : Int) + 1 := ⟨(op - 1).toNat, by omega, by omega⟩
    have ej : ((j : Int) + 1 - 1).toNat = j := by omega
    have ej2 : (j : Int) + 1 - 1 = (j : Int) := by omega
    rw [if_pos ho, ej]
    have t3 : evalS T wf (runFn T wf (k + 1)) o3 (oE xs p (.has d) x3 x4 x5) s = .ok (.next (oE xs p (.has d) (.has (.str (ss j))) x4 x5)) s := by
      have hb : binop s .sub (.int ((j : Int) + 1)) (.int 1) = some (.int (j : Int)) := by
        show some (D.int ((j : Int) + 1 - 1)) = _
        rw [ej2]
      exact asg_ok (i := 3) (ev_idx (ev_call (as1 (ev_bin (ev_idx (ev_var rfl) (ev_var rfl) hi) rfl hb) as0) (r5 (k := k) j hj s)) rfl rfl)
    have t4 : evalS T wf (runFn T wf (k + 1)) o4 (oE xs p (.has d) (.has (.str (ss j))) x4 x5) s = .ok (.next (pE xs p (.has d) (.has (.str (ss j))) (p + 1) x5)) s := asg_ok (i := 4) (ev_bin (ev_var rfl) rfl rfl)
    have t5 : evI T (runFn T wf (k + 1)) (.seq (.var 3)) (pE xs p (.has d) (.has (.str (ss j))) (p + 1) x5) s = .ok ((sh j).map fun (c : Kd) => D.str c.sgn, none) s := by
      rw [← signs_ss hj]
      exact iq_str (ev_var rfl)
    rw [nx (ite_f t1), nx (ite_f t2), nx t3, nx t4]
    rcases pLoop (wf := wf) (c := runFn T wf (k + 1)) (s := s) xs p (.has d) (.has (.str (ss j))) (sh j) (p + 1) x5 with ⟨ns, x5', h2, h3⟩ | ⟨h2, h3⟩
    · refine .inl ⟨(j, ns), .has (.str (ss j)), .has (.int ((p + 1 + sz (sh j) : Nat) : Int)), x5', by rw [h2]; rfl, ?_⟩
      have t6 : evalS T wf (runFn T wf (k + 1)) o6 (pE xs p (.has d) (.has (.str (ss j))) (p + 1 + sz (sh j)) x5') s = .ok (.next (oE xs (p + 1 + sz (sh j)) (.has d) (.has (.str (ss j))) (.has (.int ((p + 1 + sz (sh j) : Nat) : Int))) x5')) s := asg_ok (i := 1) (ev_var rfl)
      rw [nx (for_ok t5 h3), nx t6]
      rfl
    · refine .inr ⟨by rw [h2]; rfl, ?_⟩
      rw [rt (for_ok t5 h3)]
  · rw [decide_eq_false ho] at t2
    refine .inr ⟨by rw [if_neg ho], ?_⟩
    rw [nx (ite_f t1), rt (ite_t t2 (rt (ret_ok (ev_var rfl))))]
theorem oBrk (xs : List Int) (d : D) (x2 x3 x4 x5 : Sl) : forStep (.nm 2) (evalSs T wf (runFn T wf (k + 1)) oB) d (oE xs xs.length x2 x3 x4 x5) s = .ok (.brk (oE xs xs.length (.has d) x3 x4 x5)) s := by
  have e : forStep (.nm 2) (evalSs T wf (runFn T wf (k + 1)) oB) d (oE xs xs.length x2 x3 x4 x5) s = evalSs T wf (runFn T wf (k + 1)) oB (oE xs xs.length (.has d) x3 x4 x5) s := rfl
  have t1 := oT1_ok (c := runFn T wf (k + 1)) (s := s) xs xs.length (.has d) x3 x4 x5
  rw [decide_eq_true rfl] at t1
  rw [e]
  unfold oB
  rw [evalSs]
  dsimp only
  rw [ite_tn t1 rfl]
  rfl
theorem plLoop (xs : List Int) : ∀ (ds : List D) (p : Nat) (x2 x3 x4 x5 : Sl), p ≤ xs.length →
    (∃ f, (wl ds.length xs p).2 = some f ∧ loopFor (forStep (.nm 2) (evalSs T wf (runFn T wf (k + 1)) oB)) none ds (oE xs p x2 x3 x4 x5) s = .ok (.ret (.int (f : Nat))) s) ∨
    ((wl ds.length xs p).2 = none ∧ ∃ e', loopFor (forStep (.nm 2) (evalSs T wf (runFn T wf (k + 1)) oB)) none ds (oE xs p x2 x3 x4 x5) s = .ok (.next e') s)
  | [], p, x2, x3, x4, x5, _ => .inr ⟨rfl, _, rfl⟩
  | d :: ds, p, x2, x3, x4, x5, hp => by
    rw [List.length_cons]
    unfold wl
    by_cases h : xs.length ≤ p
    · have e : p = xs.length := by omega
      subst e
      rw [if_pos h]
      refine .inr ⟨rfl, oE xs xs.length (.has d) x3 x4 x5, ?_⟩
      rw [loopFor, oBrk]
      rfl
    · rw [if_neg h]
      rcases oTurn (wf := wf) (k := k) (s := s) xs (p := p) (by omega) d x2 x3 x4 x5 with ⟨q, x3', x4', x5', h1, t⟩ | ⟨h1, t⟩
      · rw [h1]
        dsimp only
        have hq := (decN_some h1).2.1
        rcases plLoop xs ds (p + 1 + sz (sh q.1)) (.has d) x3' x4' x5' hq with ⟨f, h2, h3⟩ | ⟨h2, e', h3⟩
        · exact .inl ⟨f, h2, by rw [loopFor_nx t rfl, h3]⟩
        · exact .inr ⟨h2, e', by rw [loopFor_nx t rfl, h3]⟩
      · rw [h1]
        refine .inl ⟨p, rfl, ?_⟩
        rw [loopFor, t]
        rfl
theorem r44 (xs : List Int) (hl : xs.length ≤ 5000) (s : Hs) : runFn T wf (k + 2) 44 [.tup (xs.map D.int)] s = .ok (optN (wl xs.length xs 0).2) s := by
  have e0 : i__law_place.body = .cons (.asg (.nm 1) (.cst (.int 0))) (.cons (.for_ (.nm 2) (.range1 (.bi .len (.cons (.var 0) .nil))) oB) (.cons (.ret (.cst (.non))) .nil)) := rfl
  have e1 : startE i__law_place.slots [.tup (xs.map D.int)] = [.has (.tup (xs.map D.int)), .no, .no, .no, .no, .no] := rfl
  have t1 : evalS T wf (runFn T wf (k + 1)) (.asg (.nm 1) (.cst (.int 0))) [.has (.tup (xs.map D.int)), .no, .no, .no, .no, .no] [] = .ok (.next (oE xs 0 .no .no .no .no)) [] := rfl
  have t2 : evI T (runFn T wf (k + 1)) (.range1 (.bi .len (.cons (.var 0) .nil))) (oE xs 0 .no .no .no .no) [] = .ok (rangeD 0 xs.length, none) [] := iq_range1 (ev_bi (as1 (ev_var rfl) as0) (len_ints [] xs)) hl
  have el : (rangeD 0 xs.length).length = xs.length := by simp [rangeD]
  rw [rf4 (f := i__law_place) rfl rfl (nr_ints xs), e0, e1, nx t1]
  have hL := plLoop (wf := wf) (k := k) (s := []) xs (rangeD 0 xs.length) 0 .no .no .no .no (Nat.zero_le _)
  rw [el] at hL
  rcases hL with ⟨f, h2, h3⟩ | ⟨h2, e', h3⟩
  · rw [rt (for_ok t2 h3), h2]
    rfl
  · rw [nx (for_ok t2 h3), rt (ret_ok (d := .non) (s' := []) rfl), h2]
    rfl
/-! try -/
theorem try_nx {T : Tb} {c : Nat → List D → Hs → Res D} {env env' : CN.Env} {s s1 : Hs} {b : Sts} {hs : Hds} (h : evalSs T wf c b env s = .ok (.next env') s1) : evalS T wf c (.try_ b hs) env s = .ok (.next env') s1 := by
  rw [evalS]
  unfold tryM
  rw [h]
  rfl
theorem try_x {T : Tb} {c : Nat → List D → Hs → Res D} {env env' : CN.Env} {s s1 s2 : Hs} {b hb : Sts} {n m i : Nat} {fs : List (Nat × D)} {d : D} (h : evalSs T wf c b env s = .ok (.exc env' n fs) s1) (hx : T.xsup.getD n [] = m :: []) (hh : evalSs T wf c hb (env'.set i (.xc n fs)) s1 = .ok (.ret d) s2) :
    evalS T wf c (.try_ b (.cons m i hb .nil)) env s = .ok (.ret d) s2 := by
  rw [evalS]
  unfold tryM
  rw [h]
  show evalHs T wf c (.cons m i hb .nil) env' n fs s1 = _
  rw [evalHs]
  dsimp only
  unfold nextHd
  rw [hx, if_pos (List.mem_singleton.mpr rfl), hh]
  rfl
def rfB : Sts := .cons (.ite (.cmp .eq (.var 1) (.cst (.int 0))) (.cons (.expr (.call 8 (.cons (.var 0) .nil))) .nil) (.cons (.expr (.call 18 (.cons (.var 0) .nil))) .nil)) .nil
def rfS : CN.St := .try_ rfB (.cons 0 2 (.cons (.ret (.lst (.cons (.xf 2 0) .nil))) .nil) .nil)
theorem r32_body : i__law_refused.body = .cons rfS (.cons (.ret (.lst .nil)) .nil) := rfl
/-- a value that both refuse with one place -/
structure Rf (d v : D) : Prop where
  h8 : ∀ (k : Nat) (s : Hs), runFn T 1000 (k + 7) 8 [d] s = .err 0 [(0, v)] s
  h18 : ∀ (k : Nat) (s : Hs), runFn T 1000 (k + 7) 18 [d] s = .err 0 [(0, v)] s
theorem rf_bad {d : D} (h : BadC d) : Rf d .non := ⟨fun k s => r8_bad (k := k + 1) h s, fun k s => r18_bad (k := k) h s⟩
theorem rf_fault {xs : List Int} (hb : Bytes xs) (hl : xs.length ≤ 900) {f : Nat} (hf : (wl xs.length xs 0).2 = some f) : Rf (.tup (xs.map D.int)) (.int (f : Nat)) := by
  refine ⟨fun k s => ?_, fun k s => r18_fault hb hl hf s⟩
  have e := r8 (k := k + 1) hb hl s
  rw [hf] at e
  exact e
theorem r32_x {d v : D} (h : Rf d v) {form : Int} (hf : form = 0 ∨ form = 1) (s : Hs) : runFn T 1000 (k + 8) 32 [d, .int form] s = .ok (.tl [v]) s := by
  have e1 : startE i__law_refused.slots [d, .int form] = [.has d, .has (.int form), .no] := rfl
  have tb : evalSs T 1000 (runFn T 1000 (k + 7)) rfB [.has d, .has (.int form), .no] s = .ok (.exc [.has d, .has (.int form), .no] 0 [(0, v)]) s := by
    unfold rfB
    rcases hf with rfl | rfl
    · exact xs_ok (ite_tn (s1 := s) (ev_cmpT (ev_var rfl) rfl (ce_ii _ _ 0 0)) (xs_ok (exprX (ev_callX (as1 (ev_var rfl) as0) (h.h8 k s)))))
    · exact xs_ok (ite_fn (s1 := s) (ev_cmpT (ev_var rfl) rfl (ce_ii _ _ 1 0)) (xs_ok (exprX (ev_callX (as1 (ev_var rfl) as0) (h.h18 k s)))))
  have th : evalSs T 1000 (runFn T 1000 (k + 7)) (.cons (.ret (.lst (.cons (.xf 2 0) .nil))) .nil) [.has d, .has (.int form), .xc 0 [(0, v)]] s = .ok (.ret (.tl [v])) s := rt (ret_ok (ev_lst (as1 (ev_xf rfl rfl) as0) (by show 1 ≤ 5000; decide)))
  rw [rf (f := i__law_refused) rfl rfl, r32_body, e1]
  unfold rfS
  rw [rt (try_x (m := 0) (i := 2) tb rfl th)]
  rfl
theorem r32_ok {xs : List Int} (hb : Bytes xs) (hl : xs.length ≤ 900) (hf0 : (wl xs.length xs 0).2 = none) (hg : ∃ t, ∀ (k : Nat) (s : Hs), runFn T 1000 (k + 7) 18 [.tup (xs.map D.int)] s = .ok t s) {form : Int} (hf : form = 0 ∨ form = 1) (s : Hs) : runFn T 1000 (k + 8) 32 [.tup (xs.map D.int), .int form] s = .ok (.tl []) s := by
  have e1 : startE i__law_refused.slots [.tup (xs.map D.int), .int form] = [.has (.tup (xs.map D.int)), .has (.int form), .no] := rfl
  have h8 := r8 (k := k + 1) hb hl s
  rw [hf0] at h8
  obtain ⟨t, hg⟩ := hg
  have tb : evalSs T 1000 (runFn T 1000 (k + 7)) rfB [.has (.tup (xs.map D.int)), .has (.int form), .no] s = .ok (.next [.has (.tup (xs.map D.int)), .has (.int form), .no]) s := by
    unfold rfB
    rcases hf with rfl | rfl
    · rw [nx (ite_tn (s1 := s) (ev_cmpT (ev_var rfl) rfl (ce_ii _ _ 0 0)) (nx (expr_ok (ev_call (as1 (ev_var rfl) as0) h8))))]
      rfl
    · rw [nx (ite_fn (s1 := s) (ev_cmpT (ev_var rfl) rfl (ce_ii _ _ 1 0)) (nx (expr_ok (ev_call (as1 (ev_var rfl) as0) (hg k s)))))]
      rfl
  rw [rf (f := i__law_refused) rfl rfl, r32_body, e1]
  unfold rfS
  rw [nx (try_nx tb), rt (ret_ok (ev_lst as0 (by decide)))]
  rfl
end K66
set_option Elab.async false
set_option linter.all false
set_option maxRecDepth 100000
set_option maxHeartbeats 4000000
/-! R18: _law_spoilt. -/
namespace K66
open CN
variable {wf k : Nat} {cells : List Int} {rest s : Hs}
theorem rd_enc : ∀ {cs : List Kd} {xs ns : List Int}, rd cs xs = some ns → Bytes xs → vals cs ns ∧ xs = encs cs ns ++ xs.drop (sz cs)
  | [], xs, ns, h, _ => by
    cases h
    exact ⟨trivial, rfl⟩
  | c :: cs, xs, ns, h, hb => by
    rw [rd_cons] at h
    cases e : rd1 c xs with
    | none => rw [e] at h; cases h
    | some x =>
      rw [e] at h
      dsimp only at h
      cases e2 : rd cs (xs.drop c.size) with
      | none => rw [e2] at h; cases h
      | some ms =>
        rw [e2] at h
        cases h
        obtain ⟨h1, h2⟩ := rd_enc e2 fun y hy => hb y (List.mem_of_mem_drop hy)
        rw [List.drop_drop] at h2
        cases xs with
        | nil => cases c <;> cases e
        | cons y ys =>
          have hy := hb y List.mem_cons_self
          cases c with
          | r =>
            have e' : (if y < 8 then some y else none) = some x := e
            split at e'
            · cases e'
              refine ⟨⟨⟨hy.1, by assumption⟩, h1⟩, ?_⟩
              show x :: ys = x :: (encs cs ms ++ (x :: ys).drop (1 + sz cs))
              exact congrArg (x :: ·) h2
            · cases e'
          | n =>
            cases e
            refine ⟨⟨hy, h1⟩, ?_⟩
            show x :: ys = x :: (encs cs ms ++ (x :: ys).drop (1 + sz cs))
            exact congrArg (x :: ·) h2
          | A =>
            cases ys with
            | nil => cases e
            | cons z zs =>
              have hz := hb z (List.mem_cons_of_mem _ List.mem_cons_self)
              cases e
              have a1 : (y * 256 + z) / 256 = y := by omega
              have a2 : (y * 256 + z) % 256 = z := by omega
              refine ⟨⟨⟨by omega, by show y * 256 + z < 65536; omega⟩, h1⟩, ?_⟩
              show y :: z :: zs = (y * 256 + z) / 256 :: (y * 256 + z) % 256 :: (encs cs ms ++ (y :: z :: zs).drop (2 + sz cs))
              rw [a1, a2]
              exact congrArg (fun t => y :: z :: t) h2
theorem decN_row' {xs : List Int} {p : Nat} {q : Nat × List Int} (h : decN xs p = some q) (hb : Bytes xs) : In q ∧ xs.drop p = row q.1 q.2 ++ xs.drop (p + 1 + sz (sh q.1)) := by
  have hj := (decN_some h).1
  unfold decN at h
  cases ed : xs.drop p with
  | nil => rw [ed] at h; cases h
  | cons op r =>
    rw [ed] at h
    have h' : (if 1 ≤ op ∧ op ≤ 19 then (rd (sh (op - 1).toNat) r).map fun ns => ((op - 1).toNat, ns) else none) = some q := h
    by_cases ho : 1 ≤ op ∧ op ≤ 19
    · rw [if_pos ho] at h'
      cases er : rd (sh (op - 1).toNat) r with
      | none => rw [er] at h'; cases h'
      | some ns =>
        rw [er] at h'
        cases h'
        have hr : r = xs.drop (p + 1) := (at_drop ed).2.2.symm
        obtain ⟨h1, h2⟩ := rd_enc er fun y hy => hb y (by rw [hr] at hy; exact List.mem_of_mem_drop hy)
        refine ⟨⟨hj, h1⟩, ?_⟩
        have e1 : (((op - 1).toNat + 1 : Nat) : Int) = op := by omega
        show op :: r = ((((op - 1).toNat + 1 : Nat) : Int) :: encs (sh (op - 1).toNat) ns) ++ xs.drop (p + 1 + sz (sh (op - 1).toNat))
        rw [e1, ← List.drop_drop, ← hr]
        exact congrArg (op :: ·) h2
    · rw [if_neg ho] at h'
      cases h'
theorem wl_none {xs : List Int} (hb : Bytes xs) : ∀ (n p : Nat), xs.length ≤ p + n → p ≤ xs.length → (wl n xs p).2 = none → ∃ ps, Is ps ∧ xs.drop p = rowsAll ps
  | 0, p, h1, h2, _ => ⟨[], fun q hq => (by cases hq), by rw [List.drop_eq_nil_of_le (by omega)]; rfl⟩
  | n + 1, p, h1, h2, h => by
    unfold wl at h
    by_cases hp : xs.length ≤ p
    · exact ⟨[], fun q hq => (by cases hq), by rw [List.drop_eq_nil_of_le hp]; rfl⟩
    · rw [if_neg hp] at h
      cases hd : decN xs p with
      | none => rw [hd] at h; cases h
      | some q =>
        rw [hd] at h
        obtain ⟨a, b⟩ := decN_row' hd hb
        have hq := (decN_some hd).2.1
        obtain ⟨ps, i, e⟩ := wl_none hb n (p + 1 + sz (sh q.1)) (by omega) hq h
        refine ⟨q :: ps, fun x hx => ?_, by rw [b, e]; rfl⟩
        rcases List.mem_cons.mp hx with rfl | hx
        · exact a
        · exact i x hx
theorem fits {xs : List Int} (hb : Bytes xs) (hl : xs.length ≤ 900) (h : (wl xs.length xs 0).2 = none) : ∃ t, ∀ (k : Nat) (s : Hs), runFn T 1000 (k + 7) 18 [.tup (xs.map D.int)] s = .ok t s := by
  obtain ⟨ps, i, e⟩ := wl_none hb xs.length 0 (by omega) (Nat.zero_le _) h
  rw [List.drop_zero] at e
  subst e
  exact ⟨_, fun k s => r18_good ps i hl s⟩
theorem cut_to (ds : List D) (i : Nat) : CN.cut ds none (some (i : Int)) = ds.take i := by
  have e : HT.sIx ds.length ds.length (some (i : Int)) = min i ds.length := by
    show (if ((i : Int)) < 0 then ((i : Int) + (ds.length : Int)).toNat else min ((i : Int)).toNat ds.length) = _
    rw [if_neg (by omega), Int.toNat_natCast]
  unfold CN.cut
  rw [e]
  show (ds.drop 0).take (min i ds.length - 0) = ds.take i
  rw [List.drop_zero, Nat.sub_zero]
  by_cases h : i ≤ ds.length
  · rw [Nat.min_eq_left h]
  · rw [Nat.min_eq_right (by omega), List.take_of_length_le (Nat.le_refl _), List.take_of_length_le (by omega)]
theorem cut_from (ds : List D) (i : Nat) : CN.cut ds (some (i : Int)) none = ds.drop i := by
  have e : HT.sIx ds.length 0 (some (i : Int)) = min i ds.length := by
    show (if ((i : Int)) < 0 then ((i : Int) + (ds.length : Int)).toNat else min ((i : Int)).toNat ds.length) = _
    rw [if_neg (by omega), Int.toNat_natCast]
  unfold CN.cut
  rw [e]
  show (ds.drop (min i ds.length)).take (ds.length - min i ds.length) = ds.drop i
  by_cases h : i ≤ ds.length
  · rw [Nat.min_eq_left h]
    exact List.take_of_length_le (by rw [List.length_drop]; exact Nat.le_refl _)
  · rw [Nat.min_eq_right (by omega), Nat.sub_self, List.take_zero, List.drop_eq_nil_of_le (by omega)]
theorem sl_to (s : Hs) (xs : List Int) (i : Nat) : slop s (.tup (xs.map D.int)) none (some (i : Int)) = some (.tup ((xs.take i).map D.int)) := by
  show some (D.tup (CN.cut (xs.map D.int) none (some (i : Int)))) = _
  rw [cut_to, List.map_take]
theorem sl_from (s : Hs) (xs : List Int) (i : Nat) : slop s (.tup (xs.map D.int)) (some (i : Int)) none = some (.tup ((xs.drop i).map D.int)) := by
  show some (D.tup (CN.cut (xs.map D.int) (some (i : Int)) none)) = _
  rw [cut_from, List.map_drop]
theorem addT (s : Hs) (a b : List D) (h : a.length + b.length ≤ 5000) : binop s .add (.tup a) (.tup b) = some (.tup (a ++ b)) := if_pos (small5 h)
theorem addTi (s : Hs) (a b : List Int) (h : a.length + b.length ≤ 5000) : binop s .add (.tup (a.map D.int)) (.tup (b.map D.int)) = some (.tup ((a ++ b).map D.int)) := by
  rw [addT s _ _ (by rw [List.length_map, List.length_map]; exact h), List.map_append]
/-! the end of it -/
def s8 : CN.St := .asg (.nm 6) (.call 44 (.cons (.var 5) .nil))
def s9E : Ex := .cmp .eq (.bi .len (.cons (.call 32 (.cons (.var 5) (.cons (.var 2) .nil))) .nil)) (.cst (.int 0))
def s10E (v : Ex) : Ex := .call 19 (.cons (.bi .tuple (.cons (.call 32 (.cons (.var 5) (.cons (.var 2) .nil))) .nil)) (.cons (.tup (.cons v .nil)) .nil))
def sEnd : Sts := .cons s8 (.cons (.ite (.isN false (.var 6)) (.cons (.ret s9E) .nil) .nil) (.cons (.ret (s10E (.var 6))) .nil))
abbrev sE_ (d : D) (form : Int) (x0 x1 x3 x4 : Sl) (x6 : Sl) : CN.Env := [x0, x1, .has (.int form), x3, x4, .has d, x6]
theorem s10_ok {d v : D} (h : Rf d v) (hv : sameOk v = true) (hd : dep v = 0) {form : Int} (hf : form = 0 ∨ form = 1) (x0 x1 x3 x4 x6 : Sl) (e : Ex) (he : (evP T (runFn T 1000 (k + 8)) e).e (sE_ d form x0 x1 x3 x4 x6) s = .ok v s) :
    (evP T (runFn T 1000 (k + 8)) (s10E e)).e (sE_ d form x0 x1 x3 x4 x6) s = .ok (.bl true) s := by
  have h32 := r32_x (k := k) h hf s
  -- the call is one level deeper
  have hs := same_ok (T := T) (gs := 19) (wf := 1000) (k := k + 6) rfl 1 (.tup [v]) s (by show max (dep v) 0 + 1 ≤ 1; omega) (by show (decide (1 ≤ 5000) && (sameOk v && true)) = true; rw [hv]; rfl)
  exact ev_call (as1 (ev_bi (as1 (ev_call (as1 (ev_var rfl) (as1 (ev_var rfl) as0)) h32) as0) rfl) (as1 (ev_tup (as1 he as0) (by show 1 ≤ 5000; decide)) as0)) hs
theorem sEnd_ok {xs : List Int} (hb : Bytes xs) (hl : xs.length ≤ 900) {form : Int} (hf : form = 0 ∨ form = 1) (x0 x1 x3 x4 x6 : Sl) : evalSs T 1000 (runFn T 1000 (k + 8)) sEnd (sE_ (.tup (xs.map D.int)) form x0 x1 x3 x4 x6) s = .ok (.ret (.bl true)) s := by
  have t8 : evalS T 1000 (runFn T 1000 (k + 8)) s8 (sE_ (.tup (xs.map D.int)) form x0 x1 x3 x4 x6) s = .ok (.next (sE_ (.tup (xs.map D.int)) form x0 x1 x3 x4 (.has (optN (wl xs.length xs 0).2)))) s := asg_ok (i := 6) (ev_call (as1 (ev_var rfl) as0) (r44 (k := k + 6) xs (by omega) s))
  unfold sEnd
  rw [nx t8]
  cases hw : (wl xs.length xs 0).2 with
  | none =>
    have h32 := r32_ok (k := k) hb hl hw (fits hb hl hw) hf s
    have t9 : (evP T (runFn T 1000 (k + 8)) s9E).e (sE_ (.tup (xs.map D.int)) form x0 x1 x3 x4 (.has (optN none))) s = .ok (.bl true) s := ev_cmp (ev_bi (as1 (ev_call (as1 (ev_var rfl) (as1 (ev_var rfl) as0)) h32) as0) (len_tl s [])) rfl (ce_ii _ _ 0 0)
    rw [rt (ite_t (s1 := s) (ev_isNT (neg := false) (x := optN none) (ev_var rfl)) (rt (ret_ok t9)))]
  | some f =>
    rw [nx (ite_f (s' := s) (ev_isNT (neg := false) (x := optN (some f)) (ev_var rfl))), rt (ret_ok (s10_ok (rf_fault hb hl hw) rfl rfl hf x0 x1 x3 x4 (.has (optN (some f))) (.var 6) (ev_var rfl)))]
/-! drawn spoils -/
theorem badC_no {d : D} (h : notTup d = true) (hn : noRef d = true) : BadC d := ⟨hn, fun wf k s => r22_no h s⟩
def m3 : CN.St := .asg (.nm 5) (.sl (.var 1) .no (.so (.var 3)))
def m4a : CN.St := .asg (.nm 5) (.bin .add (.bin .add (.sl (.var 1) .no (.so (.var 3))) (.tup (.cons (.idx (.lst (.cons (.cst (.int 0)) (.cons (.cst (.int 20)) (.cons (.cst (.int 255)) (.cons (.cst (.int 8)) .nil))))) (.call 3 (.cons (.var 0) (.cons (.cst (.int 4)) .nil)))) .nil))) (.sl (.var 1) (.so (.var 3)) .no))
def m5a : CN.St := .asg (.nm 5) (.bin .add (.bin .add (.sl (.var 1) .no (.so (.var 3))) (.tup (.cons (.cst (.int 7)) (.cons (.cst (.int 8)) .nil)))) (.sl (.var 1) (.so (.var 3)) .no))
def m6a : CN.St := .asg (.nm 5) (.bin .add (.var 1) (.tup (.cons (.idx (.lst (.cons (.cst (.int 1)) (.cons (.cst (.int 3)) (.cons (.cst (.int 9)) (.cons (.cst (.int 13)) (.cons (.cst (.int 18)) .nil)))))) (.call 3 (.cons (.var 0) (.cons (.cst (.int 5)) .nil)))) .nil)))
def m7a : CN.St := .asg (.nm 5) (.idx (.lst (.cons (.bi .list (.cons (.var 1) .nil)) (.cons (.bin .add (.var 1) (.tup (.cons (.cst (.int 256)) .nil))) (.cons (.bin .add (.tup (.cons (.cst (.bl true)) .nil)) (.var 1)) (.cons (.cst (.non)) (.cons (.bin .add (.var 1) (.tup (.cons (.bin .sub (.cst (.int 0)) (.cst (.int 1))) .nil))) (.cons (.cst (.str "back")) .nil))))))) (.call 3 (.cons (.var 0) (.cons (.cst (.int 6)) .nil))))
def mIf (n : Int) (b : Sts) : CN.St := .ite (.cmp .eq (.var 4) (.cst (.int n))) b .nil
theorem r43_body : i__law_spoilt.body = .cons (.asg (.nm 3) (.call 3 (.cons (.var 0) (.cons (.bin .add (.bi .len (.cons (.var 1) .nil)) (.cst (.int 1))) .nil)))) (.cons (.asg (.nm 4) (.call 3 (.cons (.var 0) (.cons (.cst (.int 5)) .nil)))) (.cons m3 (.cons (mIf 1 (.cons m4a .nil)) (.cons (mIf 2 (.cons m5a .nil)) (.cons (mIf 3 (.cons m6a .nil)) (.cons (mIf 4 (.cons m7a (.cons (.ret (s10E (.cst (.non)))) .nil))) sEnd)))))) := rfl
abbrev mE (xs : List Int) (form at_ kd : Int) (x5 : Sl) : CN.Env := [.has (.ref 0), .has (.tup (xs.map D.int)), .has (.int form), .has (.int at_), .has (.int kd), x5, .no]
theorem mIf_no {c : Nat → List D → Hs → Res D} (xs : List Int) (form at_ kd : Int) (x5 : Sl) (n : Int) (h : kd ≠ n) (b : Sts) : evalS T wf c (mIf n b) (mE xs form at_ kd x5) s = .ok (.next (mE xs form at_ kd x5)) s := by
  have t := ce_ii T.tabs s kd n
  rw [decide_eq_false h] at t
  exact ite_f (ev_cmpT (ev_var rfl) rfl t)
theorem mIf_yes {c : Nat → List D → Hs → Res D} (xs : List Int) (form at_ kd : Int) (x5 : Sl) (b : Sts) {r : Res Flow} (h : evalSs T wf c b (mE xs form at_ kd x5) s = r) : evalS T wf c (mIf kd b) (mE xs form at_ kd x5) s = r := by
  have t := ce_ii T.tabs s kd kd
  rw [decide_eq_true rfl] at t
  exact ite_tn (ev_cmpT (ev_var rfl) rfl t) h
theorem bytes_app {a b : List Int} (ha : Bytes a) (hb : Bytes b) : Bytes (a ++ b) := fun x hx => (List.mem_append.mp hx).elim (ha x) (hb x)
theorem bytes_take {a : List Int} (ha : Bytes a) (n : Nat) : Bytes (a.take n) := fun x hx => ha x (List.mem_of_mem_take hx)
theorem bytes_drop {a : List Int} (ha : Bytes a) (n : Nat) : Bytes (a.drop n) := fun x hx => ha x (List.mem_of_mem_drop hx)
theorem r43 {xs : List Int} (hb : Bytes xs) (hl : xs.length ≤ 700) {form : Int} (hf : form = 0 ∨ form = 1) (hc : 0 < cells.length) (hJ : JarS cells rest s) : ∃ s', JarS cells rest s' ∧ runFn T 1000 (k + 9) 43 [.ref 0, .tup (xs.map D.int), .int form] s = .ok (.bl true) s' := by
  obtain ⟨v, s1, v0, v1, j1, h1⟩ := drawK (wf := 1000) (k := k + 7) hc hJ (lim := (xs.length : Int) + 1) (by omega) (by omega)
  obtain ⟨kd, s2, k0, k1, j2, h2⟩ := drawK (wf := 1000) (k := k + 7) hc j1 (show (0 : Int) < 5 by decide) (by decide)
  obtain ⟨i, rfl⟩ : ∃ i : Nat, v = (i : Int) := ⟨v.toNat, by omega⟩
  have hi : i ≤ xs.length := by omega
  have e1 : startE i__law_spoilt.slots [.ref 0, .tup (xs.map D.int), .int form] = [.has (.ref 0), .has (.tup (xs.map D.int)), .has (.int form), .no, .no, .no, .no] := rfl
  have t1 : evalS T 1000 (runFn T 1000 (k + 8)) (.asg (.nm 3) (.call 3 (.cons (.var 0) (.cons (.bin .add (.bi .len (.cons (.var 1) .nil)) (.cst (.int 1))) .nil)))) [.has (.ref 0), .has (.tup (xs.map D.int)), .has (.int form), .no, .no, .no, .no] s = .ok (.next [.has (.ref 0), .has (.tup (xs.map D.int)), .has (.int form), .has (.int (i : Int)), .no, .no, .no]) s1 := asg_ok (i := 3) (ev_call (as1 (ev_var rfl) (as1 (ev_bin (ev_bi (as1 (ev_var rfl) as0) (len_ints s xs)) rfl rfl) as0)) h1)
  have t2 : evalS T 1000 (runFn T 1000 (k + 8)) (.asg (.nm 4) (.call 3 (.cons (.var 0) (.cons (.cst (.int 5)) .nil)))) [.has (.ref 0), .has (.tup (xs.map D.int)), .has (.int form), .has (.int (i : Int)), .no, .no, .no] s1 = .ok (.next (mE xs form i kd .no)) s2 := asg_ok (i := 4) (ev_call (as1 (ev_var rfl) (as1 rfl as0)) h2)
  have t3 : ∀ s, evalS T 1000 (runFn T 1000 (k + 8)) m3 (mE xs form i kd .no) s = .ok (.next (mE xs form i kd (.has (.tup ((xs.take i).map D.int))))) s := fun s => asg_ok (i := 5) (ev_sl0 (ev_var rfl) (ev_var rfl) (sl_to s xs i))
  have bt := bytes_take hb i
  have bd := bytes_drop hb i
  have lt : (xs.take i).length = i := by rw [List.length_take]; omega
  have ld : (xs.drop i).length = xs.length - i := List.length_drop
  rw [rf (f := i__law_spoilt) rfl rfl, r43_body, e1, nx t1, nx t2, nx (t3 s2)]
  have kk : kd = 0 ∨ kd = 1 ∨ kd = 2 ∨ kd = 3 ∨ kd = 4 := by omega
  rcases kk with rfl | rfl | rfl | rfl | rfl
  · refine ⟨s2, j2, ?_⟩
    rw [nx (mIf_no _ _ _ _ _ _ (by decide) _), nx (mIf_no _ _ _ _ _ _ (by decide) _), nx (mIf_no _ _ _ _ _ _ (by decide) _), nx (mIf_no _ _ _ _ _ _ (by decide) _), sEnd_ok bt (by omega) hf]
    rfl
  · obtain ⟨v3, s3, v30, v31, j3, h3⟩ := drawK (wf := 1000) (k := k + 7) hc j2 (show (0 : Int) < 4 by decide) (by decide)
    obtain ⟨_, p1, ⟨y, rfl, y0, y1⟩⟩ := pickL (xs := [D.int 0, .int 20, .int 255, .int 8]) (inB 0 256) v30 v31 (by
      intro z hz
      simp only [List.mem_cons, List.not_mem_nil, or_false] at hz
      rcases hz with rfl | rfl | rfl | rfl <;> exact inB_int (by decide) (by decide))
    have by_ : Bytes [y] := fun x hx => by rw [List.mem_singleton.mp hx]; exact ⟨y0, y1⟩
    have t4 : evalS T 1000 (runFn T 1000 (k + 8)) m4a (mE xs form i 1 (.has (.tup ((xs.take i).map D.int)))) s2 = .ok (.next (mE xs form i 1 (.has (.tup ((xs.take i ++ [y] ++ xs.drop i).map D.int))))) s3 := by
      refine asg_ok (i := 5) (ev_bin (ev_bin (ev_sl0 (ev_var rfl) (ev_var rfl) (sl_to _ xs i)) (ev_tup (as1 (ev_idx (x := .tl [D.int 0, .int 20, .int 255, .int 8]) (ev_lst (as1 rfl (as1 rfl (as1 rfl (as1 rfl as0)))) (by show 4 ≤ 5000; decide)) (ev_call (as1 (ev_var rfl) (as1 rfl as0)) h3) p1) as0) (by show 1 ≤ 5000; decide)) (addTi s3 (xs.take i) [y] (by rw [lt, List.length_singleton]; omega))) (ev_sl1 (ev_var rfl) (ev_var rfl) (sl_from _ xs i)) (addTi s3 (xs.take i ++ [y]) (xs.drop i) (by rw [List.length_append, lt, ld, List.length_singleton]; omega)))
    refine ⟨s3, j3, ?_⟩
    rw [nx (mIf_yes _ _ _ _ _ _ (nx t4)), nx (mIf_no _ _ _ _ _ _ (by decide) _), nx (mIf_no _ _ _ _ _ _ (by decide) _), nx (mIf_no _ _ _ _ _ _ (by decide) _), sEnd_ok (bytes_app (bytes_app bt by_) bd) (by rw [List.length_append, List.length_append, lt, ld, List.length_singleton]; omega) hf]
    rfl
  · have by_ : Bytes [7, 8] := fun x hx => by
      rcases List.mem_cons.mp hx with rfl | hx
      · exact ⟨by decide, by decide⟩
      · rw [List.mem_singleton.mp hx]; exact ⟨by decide, by decide⟩
    have t5 : evalS T 1000 (runFn T 1000 (k + 8)) m5a (mE xs form i 2 (.has (.tup ((xs.take i).map D.int)))) s2 = .ok (.next (mE xs form i 2 (.has (.tup ((xs.take i ++ [7, 8] ++ xs.drop i).map D.int))))) s2 := by
      refine asg_ok (i := 5) (ev_bin (ev_bin (ev_sl0 (ev_var rfl) (ev_var rfl) (sl_to _ xs i)) (ev_tup (as1 rfl (as1 rfl as0)) (by show 2 ≤ 5000; decide)) (addTi s2 (xs.take i) [7, 8] (by rw [lt]; show i + 2 ≤ 5000; omega))) (ev_sl1 (ev_var rfl) (ev_var rfl) (sl_from _ xs i)) (addTi s2 (xs.take i ++ [7, 8]) (xs.drop i) (by rw [List.length_append, lt, ld]; show i + 2 + _ ≤ 5000; omega)))
    refine ⟨s2, j2, ?_⟩
    rw [nx (mIf_no _ _ _ _ _ _ (by decide) _), nx (mIf_yes _ _ _ _ _ _ (nx t5)), nx (mIf_no _ _ _ _ _ _ (by decide) _), nx (mIf_no _ _ _ _ _ _ (by decide) _), sEnd_ok (bytes_app (bytes_app bt by_) bd) (by rw [List.length_append, List.length_append, lt, ld]; show i + 2 + _ ≤ 900; omega) hf]
    rfl
  · obtain ⟨v3, s3, v30, v31, j3, h3⟩ := drawK (wf := 1000) (k := k + 7) hc j2 (show (0 : Int) < 5 by decide) (by decide)
    obtain ⟨_, p1, ⟨y, rfl, y0, y1⟩⟩ := pickL (xs := [D.int 1, .int 3, .int 9, .int 13, .int 18]) (inB 0 256) v30 v31 (by
      intro z hz
      simp only [List.mem_cons, List.not_mem_nil, or_false] at hz
      rcases hz with rfl | rfl | rfl | rfl | rfl <;> exact inB_int (by decide) (by decide))
    have by_ : Bytes [y] := fun x hx => by rw [List.mem_singleton.mp hx]; exact ⟨y0, y1⟩
    have t6 : evalS T 1000 (runFn T 1000 (k + 8)) m6a (mE xs form i 3 (.has (.tup ((xs.take i).map D.int)))) s2 = .ok (.next (mE xs form i 3 (.has (.tup ((xs ++ [y]).map D.int))))) s3 := by
      refine asg_ok (i := 5) (ev_bin (ev_var rfl) (ev_tup (as1 (ev_idx (x := .tl [D.int 1, .int 3, .int 9, .int 13, .int 18]) (ev_lst (as1 rfl (as1 rfl (as1 rfl (as1 rfl (as1 rfl as0))))) (by show 5 ≤ 5000; decide)) (ev_call (as1 (ev_var rfl) (as1 rfl as0)) h3) p1) as0) (by show 1 ≤ 5000; decide)) (addTi s3 xs [y] (by rw [List.length_singleton]; omega)))
    refine ⟨s3, j3, ?_⟩
    rw [nx (mIf_no _ _ _ _ _ _ (by decide) _), nx (mIf_no _ _ _ _ _ _ (by decide) _), nx (mIf_yes _ _ _ _ _ _ (nx t6)), nx (mIf_no _ _ _ _ _ _ (by decide) _), sEnd_ok (bytes_app hb by_) (by rw [List.length_append, List.length_singleton]; omega) hf]
    rfl
  · obtain ⟨v3, s3, v30, v31, j3, h3⟩ := drawK (wf := 1000) (k := k + 7) hc j2 (show (0 : Int) < 6 by decide) (by decide)
    obtain ⟨y, p1, hy⟩ := pickL (xs := [D.tl (xs.map D.int), .tup (xs.map D.int ++ [.int 256]), .tup ([.bl true] ++ xs.map D.int), .non, .tup (xs.map D.int ++ [.int (0 - 1)]), .str "back"]) BadC v30 v31 (by
      intro z hz
      simp only [List.mem_cons, List.not_mem_nil, or_false] at hz
      rcases hz with rfl | rfl | rfl | rfl | rfl | rfl
      · exact badC_no rfl (noRefs_ints xs)
      · exact badC_mid (a := xs) (b := []) rfl rfl (by decide) (by show xs.length + 0 + 1 ≤ 5000; omega)
      · exact badC_mid (a := []) (b := xs) rfl rfl (by decide) (by show 0 + xs.length + 1 ≤ 5000; omega)
      · exact badC_no rfl rfl
      · exact badC_mid (a := xs) (b := []) rfl rfl (by decide) (by show xs.length + 0 + 1 ≤ 5000; omega)
      · exact badC_no rfl rfl)
    have la : bifun s2 .list [.tup (xs.map D.int)] = some (.tl (xs.map D.int)) := rfl
    have lm : (xs.map D.int).length = xs.length := List.length_map _
    have t7 : evalS T 1000 (runFn T 1000 (k + 8)) m7a (mE xs form i 4 (.has (.tup ((xs.take i).map D.int)))) s2 = .ok (.next (mE xs form i 4 (.has y))) s3 := by
      refine asg_ok (i := 5) (ev_idx (ev_lst (as1 (ev_bi (as1 (ev_var rfl) as0) la) (as1 (ev_bin (ev_var rfl) (ev_tup (as1 rfl as0) (by show 1 ≤ 5000; decide)) (addT s2 _ _ (by rw [lm]; show xs.length + 1 ≤ 5000; omega))) (as1 (ev_bin (ev_tup (as1 rfl as0) (by show 1 ≤ 5000; decide)) (ev_var rfl) (addT s2 _ _ (by rw [lm]; show 1 + xs.length ≤ 5000; omega))) (as1 rfl (as1 (ev_bin (ev_var rfl) (ev_tup (as1 (ev_bin rfl rfl rfl) as0) (by show 1 ≤ 5000; decide)) (addT s2 _ _ (by rw [lm]; show xs.length + 1 ≤ 5000; omega))) (as1 rfl as0)))))) (by show 6 ≤ 5000; decide)) (ev_call (as1 (ev_var rfl) (as1 rfl as0)) h3) p1)
    have t10 := s10_ok (k := k) (s := s3) (rf_bad hy) (v := .non) rfl rfl hf (.has (.ref 0)) (.has (.tup (xs.map D.int))) (.has (.int (i : Int))) (.has (.int 4)) .no (.cst (.non)) rfl
    refine ⟨s3, j3, ?_⟩
    rw [nx (mIf_no _ _ _ _ _ _ (by decide) _), nx (mIf_no _ _ _ _ _ _ (by decide) _), nx (mIf_no _ _ _ _ _ _ (by decide) _), rt (mIf_yes _ _ _ _ _ _ ((nx t7).trans (rt (ret_ok t10))))]
    rfl
end K66
set_option Elab.async false
set_option linter.all false
set_option maxRecDepth 100000
set_option maxHeartbeats 4000000
/-! R19: broken lines, plainly. -/
namespace K66
open CN
variable {wf k : Nat} {cells : List Int} {rest s : Hs}
theorem joinL_cons (p : List Nat) {W : List (List Nat)} (h : W ≠ []) : joinL [32] (p :: W) = p ++ ([32] ++ joinL [32] W) := by
  cases W with
  | nil => exact absurd rfl h
  | cons q W => rfl
theorem joinL_snoc (p : List Nat) : ∀ {W : List (List Nat)}, W ≠ [] → joinL [32] (W ++ [p]) = joinL [32] W ++ ([32] ++ p)
  | [], h => absurd rfl h
  | [q], _ => rfl
  | q :: r :: W, _ => by
    rw [List.cons_append, joinL_cons q (W := (r :: W) ++ [p]) (by simp), joinL_snoc p (W := r :: W) (by simp), joinL_cons q (W := r :: W) (by simp)]
    simp
/-- what a broken listing is: right lines, one that cannot stand, others -/
def Brk (L : List D) (f : Nat) : Prop := ∃ (ps : List (Nat × List Int)) (P : List (List Nat)) (R : List (List (List Nat))), Is ps ∧ (rowsAll ps).length < 90000 ∧ Pc P ∧ (∀ Q ∈ R, Pc Q) ∧ ps.length + R.length ≤ 640 ∧ (joinL [32] P ≠ [] ∨ ps ≠ [] ∨ R ≠ []) ∧ lnIn (rowsAll ps).length P = none ∧
  L = (plns 0 ps ++ P :: R).map (fun P => dS (joinL [32] P)) ∧ f = ps.length
theorem lnsD (a : Nat) (ps) : (lns a ps).map dS = (plns a ps).map (fun P => dS (joinL [32] P)) := by
  rw [lns_plns, List.map_map]
  rfl
/-! lines that cannot stand at an address -/
theorem bad_head {a : Nat} {p : List Nat} {ps : List (List Nat)} (h : p ≠ numL a) : lnIn a (p :: ps) = none := if_neg h
theorem bad_ins {a : Nat} {ps : List (List Nat)} (h : insIn ps = none) : lnIn a (numL a :: ps) = none := by
  show (if numL a = numL a then insIn ps else none) = none
  rw [if_pos rfl, h]
theorem bad_word {w : List Nat} {ps : List (List Nat)} (h : wIdx w = none) : insIn (w :: ps) = none := by
  show (match wIdx w with | none => none | some j => if ps.length = (sh j).length then (opsIn (sh j) ps).map fun ns => (j, ns) else none) = _
  rw [h]
theorem bad_many {j : Nat} (hj : j < 19) {ps : List (List Nat)} (h : ps.length ≠ (sh j).length) : insIn (wdL j :: ps) = none := by
  show (match wIdx (wdL j) with | none => none | some j => if ps.length = (sh j).length then (opsIn (sh j) ps).map fun ns => (j, ns) else none) = _
  rw [wIdx_wd hj]
  dsimp only
  rw [if_neg h]
theorem bad_ops {j : Nat} (hj : j < 19) {ps : List (List Nat)} (h : opsIn (sh j) ps = none) : insIn (wdL j :: ps) = none := by
  show (match wIdx (wdL j) with | none => none | some j => if ps.length = (sh j).length then (opsIn (sh j) ps).map fun ns => (j, ns) else none) = _
  rw [wIdx_wd hj]
  dsimp only
  split
  · rw [h]; rfl
  · rfl
theorem opsIn_bad {b : List Nat} : ∀ {cs : List Kd} {ns : List Int} (d : Nat), vals cs ns → d < cs.length → (∀ c, opIn c b = none) → opsIn cs ((opsL cs ns).take d ++ b :: (opsL cs ns).drop (d + 1)) = none
  | [], _, d, _, h, _ => by simp at h
  | _ :: _, [], d, h, _, _ => h.elim
  | c :: cs, x :: xs, 0, _, _, hb => by
    show (match opIn c b with | none => none | some n => _) = none
    rw [hb c]
  | c :: cs, x :: xs, d + 1, hv, hd, hb => by
    show (match opIn c (opL c x) with | none => none | some n => (opsIn cs ((opsL cs xs).take d ++ b :: (opsL cs xs).drop (d + 1))).map (((n : Nat) : Int) :: ·)) = none
    rw [opIn_opL hv.1, opsIn_bad d hv.2 (by simpa using hd) hb]
    rfl
def badOps : List (List Nat) := [[114, 56], [54, 53, 53, 51, 54], [120], [82, 48], [114, 48, 49], [45, 49], [48, 48], [114], [48, 120, 49], [114, 45, 48]]
def badWds : List (List Nat) := [[110, 111, 112], [83, 101, 116], [115, 101, 116, 115], [49, 53], [114, 48]]
theorem badOps_ok : ∀ b ∈ badOps, (∀ c, opIn c b = none) ∧ okT b = true ∧ b.length ≤ 100 ∧ 32 ∉ b ∧ 10 ∉ b := by
  have h : (badOps.all fun b => decide (opIn .r b = none) && decide (opIn .n b = none) && decide (opIn .A b = none) && okT b && decide (b.length ≤ 100) && decide (32 ∉ b) && decide (10 ∉ b)) = true := by decide +kernel
  intro b hb
  have q := List.all_eq_true.mp h b hb
  simp only [Bool.and_eq_true, decide_eq_true_eq] at q
  obtain ⟨⟨⟨⟨⟨⟨q1, q2⟩, q3⟩, q4⟩, q5⟩, q6⟩, q7⟩ := q
  exact ⟨fun c => by cases c <;> assumption, q4, q5, q6, q7⟩
theorem badWds_ok : ∀ b ∈ badWds, wIdx b = none ∧ okT b = true ∧ b.length ≤ 100 ∧ 32 ∉ b ∧ 10 ∉ b := by
  have h : (badWds.all fun b => decide (wIdx b = none) && okT b && decide (b.length ≤ 100) && decide (32 ∉ b) && decide (10 ∉ b)) = true := by decide +kernel
  intro b hb
  have q := List.all_eq_true.mp h b hb
  simp only [Bool.and_eq_true, decide_eq_true_eq] at q
  obtain ⟨⟨⟨⟨q1, q2⟩, q3⟩, q4⟩, q5⟩ := q
  exact ⟨q1, q2, q3, q4, q5⟩
/-! pieces -/
theorem pc_of {P : List (List Nat)} (hn : P ≠ []) (h : ∀ p ∈ P, okT p = true ∧ p.length ≤ 100 ∧ 32 ∉ p ∧ 10 ∉ p) (hl : P.length ≤ 20) : Pc P := ⟨hn, h, hl⟩
abbrev Gp (p : List Nat) : Prop := okT p = true ∧ p.length ≤ 100 ∧ 32 ∉ p ∧ 10 ∉ p
theorem Gp.nil : Gp [] := ⟨rfl, by decide, by decide, by decide⟩
theorem numG {a : Nat} (h : a < 100000) : Gp (numL a) := num_pc h
theorem Gp.cons {p : List Nat} {P : List (List Nat)} (h : Gp p) (hP : ∀ q ∈ P, Gp q) : ∀ q ∈ p :: P, Gp q := fun q hq => by
  rcases List.mem_cons.mp hq with rfl | hq
  · exact h
  · exact hP q hq
theorem Gp.app {P Q : List (List Nat)} (h : ∀ q ∈ P, Gp q) (hQ : ∀ q ∈ Q, Gp q) : ∀ q ∈ P ++ Q, Gp q := fun q hq => (List.mem_append.mp hq).elim (h q) (hQ q)
theorem Gp.none : ∀ q ∈ ([] : List (List Nat)), Gp q := fun q hq => by cases hq
theorem ops_G {q : Nat × List Int} (h : In q) : ∀ p ∈ opsL (sh q.1) q.2, Gp p := fun p hp => pcs_ok h p (List.mem_cons_of_mem _ hp)
theorem ops_len {q : Nat × List Int} (h : In q) : (opsL (sh q.1) q.2).length = (sh q.1).length ∧ (sh q.1).length ≤ 3 := ⟨opsL_len h.2, sh_len h.1⟩
theorem wd_G {j : Nat} (hj : j < 19) : Gp (wdL j) := ⟨wdL_ok hj, by have := wdL_len hj; omega, wdL_free hj⟩
theorem nil_ne (a : Nat) : ([] : List Nat) ≠ numL a := fun e => TL.numL_ne a e.symm
theorem zero_ne (a : Nat) : 48 :: numL a ≠ numL a := fun e => by
  have := congrArg List.length e
  simp at this
theorem succ_ne (a b : Nat) (h : a ≠ b) : numL a ≠ numL b := fun e => h (TL.numL_inj e)
theorem row_pos {q : Nat × List Int} (h : In q) : 1 ≤ (row q.1 q.2).length := by rw [row_sz h]; omega
/-! each broken line at its place -/
section
variable {a : Nat} (ha : a < 90000) {q : Nat × List Int} (h : In q)
/-- the line of P cannot stand at a -/
structure Nb (a : Nat) (P : List (List Nat)) : Prop where
  pc : Pc P
  no : lnIn a P = none
include ha h
theorem nb_default : Nb a ([] :: lnP a q) := ⟨pc_of (List.cons_ne_nil _ _) (Gp.nil.cons (Gp.cons (numG (by omega)) fun p hp => pcs_ok h p hp)) (by have := pcs_len h; simp; omega), bad_head (nil_ne a)⟩
theorem nb3 : Nb a (lnP a q ++ [[]]) := by
  have hl := ops_len h
  refine ⟨pc_of (by simp) (Gp.app (Gp.cons (numG (by omega)) fun p hp => pcs_ok h p hp) (Gp.nil.cons Gp.none)) (by have := pcs_len h; simp; omega), ?_⟩
  show lnIn a (numL a :: wdL q.1 :: (opsL (sh q.1) q.2 ++ [[]])) = none
  exact bad_ins (bad_many h.1 (ps := opsL (sh q.1) q.2 ++ [[]]) (by rw [List.length_append]; simp; omega))
theorem nb8 : Nb a (lnP a q ++ [[48]]) := by
  have hl := ops_len h
  refine ⟨pc_of (by simp) (Gp.app (Gp.cons (numG (by omega)) fun p hp => pcs_ok h p hp) (Gp.cons ⟨rfl, by decide, by decide, by decide⟩ Gp.none)) (by have := pcs_len h; simp; omega), ?_⟩
  show lnIn a (numL a :: wdL q.1 :: (opsL (sh q.1) q.2 ++ [[48]])) = none
  exact bad_ins (bad_many h.1 (ps := opsL (sh q.1) q.2 ++ [[48]]) (by rw [List.length_append]; simp; omega))
theorem nb4 : Nb a ((48 :: numL a) :: pcs q) := by
  have hn := num_pc (a := a) (by omega)
  have h5 := num_len5 (n := a) (by omega)
  refine ⟨pc_of (List.cons_ne_nil _ _) (Gp.cons ⟨?_, by rw [List.length_cons]; omega, ?_, ?_⟩ fun p hp => pcs_ok h p hp) (by have := pcs_len h; simp; omega), bad_head (zero_ne a)⟩
  · exact okT_app (a := [48]) rfl hn.1
  · simp only [List.mem_cons, not_or]
    exact ⟨by decide, hn.2.2.1⟩
  · simp only [List.mem_cons, not_or]
    exact ⟨by decide, hn.2.2.2⟩
theorem nb5 : Nb a (numL (a + 1) :: pcs q) := ⟨pc_of (List.cons_ne_nil _ _) (Gp.cons (numG (by omega)) fun p hp => pcs_ok h p hp) (by have := pcs_len h; simp; omega), bad_head (succ_ne _ _ (by omega))⟩
theorem nb6 : Nb a (numL a :: [] :: pcs q) := ⟨pc_of (List.cons_ne_nil _ _) (Gp.cons (numG (by omega)) (Gp.nil.cons fun p hp => pcs_ok h p hp)) (by have := pcs_len h; simp; omega), bad_ins (bad_word (by decide +kernel))⟩
theorem nb7 {b : List Nat} (hb : b ∈ badWds) : Nb a (numL a :: b :: opsL (sh q.1) q.2) := by
  have hl := ops_len h
  have w := badWds_ok b hb
  exact ⟨pc_of (List.cons_ne_nil _ _) (Gp.cons (numG (by omega)) (Gp.cons w.2 (ops_G h))) (by simp; omega), bad_ins (bad_word w.1)⟩
theorem nb9 (hn : 0 < (opsL (sh q.1) q.2).length) : Nb a (numL a :: wdL q.1 :: (opsL (sh q.1) q.2).take ((opsL (sh q.1) q.2).length - 1)) := by
  have hl := ops_len h
  refine ⟨pc_of (List.cons_ne_nil _ _) (Gp.cons (numG (by omega)) (Gp.cons (wd_G h.1) fun p hp => ops_G h p (List.mem_of_mem_take hp))) (by simp; omega), ?_⟩
  exact bad_ins (bad_many h.1 (by rw [List.length_take]; omega))
theorem nb11 {b : List Nat} (hb : b ∈ badOps) {d : Nat} (hd : d < (opsL (sh q.1) q.2).length) : Nb a (numL a :: wdL q.1 :: ((opsL (sh q.1) q.2).take d ++ b :: (opsL (sh q.1) q.2).drop (d + 1))) := by
  have hl := ops_len h
  have w := badOps_ok b hb
  refine ⟨pc_of (List.cons_ne_nil _ _) (Gp.cons (numG (by omega)) (Gp.cons (wd_G h.1) (Gp.app (fun p hp => ops_G h p (List.mem_of_mem_take hp)) (Gp.cons w.2 fun p hp => ops_G h p (List.mem_of_mem_drop hp))))) (by simp; omega), ?_⟩
  exact bad_ins (bad_ops h.1 (opsIn_bad d h.2 (by omega) w.1))
omit h ha
theorem nbE : Nb a [[]] := ⟨pc_of (List.cons_ne_nil _ _) (Gp.nil.cons Gp.none) (by decide), bad_head (nil_ne a)⟩
theorem nbE2 : Nb a [[], []] := ⟨pc_of (List.cons_ne_nil _ _) (Gp.nil.cons (Gp.nil.cons Gp.none)) (by decide), bad_head (nil_ne a)⟩
theorem nbE3 : Nb a [[], [], []] := ⟨pc_of (List.cons_ne_nil _ _) (Gp.nil.cons (Gp.nil.cons (Gp.nil.cons Gp.none))) (by decide), bad_head (nil_ne a)⟩
theorem nb0 : Nb a [[48]] := by
  refine ⟨pc_of (List.cons_ne_nil _ _) (Gp.cons ⟨rfl, by decide, by decide, by decide⟩ Gp.none) (by decide), ?_⟩
  show (if [48] = numL a then insIn [] else none) = none
  split <;> rfl
theorem nb0s : Nb a [[48], [115, 116, 111, 112], [120]] := by
  refine ⟨pc_of (List.cons_ne_nil _ _) (Gp.cons ⟨rfl, by decide, by decide, by decide⟩ (Gp.cons ⟨rfl, by decide, by decide, by decide⟩ (Gp.cons ⟨rfl, by decide, by decide, by decide⟩ Gp.none))) (by decide), ?_⟩
  have e : insIn [[115, 116, 111, 112], [120]] = none := by decide +kernel
  show (if [48] = numL a then insIn [[115, 116, 111, 112], [120]] else none) = none
  rw [e]
  split <;> rfl
end
/-- a broken listing of a broken line -/
theorem Brk.mk {ps : List (Nat × List Int)} (h : Is ps) (hl : (rowsAll ps).length < 90000) {P : List (List Nat)} {R : List (List (List Nat))} (n : Nb (rowsAll ps).length P) (hR : ∀ Q ∈ R, Pc Q) (h6 : ps.length + R.length ≤ 640) (hne : joinL [32] P ≠ [] ∨ ps ≠ [] ∨ R ≠ []) :
    Brk ((lns 0 ps).map dS ++ dS (joinL [32] P) :: R.map (fun P => dS (joinL [32] P))) ps.length :=
  ⟨ps, P, R, h, hl, n.pc, hR, h6, hne, n.no, by rw [lnsD, List.map_append, List.map_cons], rfl⟩
end K66
set_option Elab.async false
set_option linter.all false
set_option maxRecDepth 100000
set_option maxHeartbeats 4000000
/-! R20: _law_broken. -/
namespace K66
open CN
variable {wf k : Nat} {cells : List Int} {rest s : Hs}
def u0 : CN.St := .asg (.nm 3) (.call 3 (.cons (.var 0) (.cons (.bi .len (.cons (.var 2) (.nil))) (.nil))))
def u1 : CN.St := .par [6, 7] (.cons (.idx (.var 2) (.var 3)) (.cons (.call 3 (.cons (.var 0) (.cons (.cst (.int 14)) (.nil)))) (.nil)))
def u2 : CN.St := .asg (.nm 4) (.bm .split (.var 6) (.cons (.cst (.str " ")) (.nil)))
def u3 : CN.St := .ite (.and (.cons (.cmp .eq (.var 7) (.cst (.int 0))) (.cons (.cmp .lt (.bin .add (.var 3) (.cst (.int 1))) (.bi .len (.cons (.var 2) (.nil)))) (.nil)))) (.cons (.ret (.tup (.cons (.bin .add (.sl (.var 2) .no (.so (.var 3))) (.sl (.var 2) (.so (.bin .add (.var 3) (.cst (.int 1)))) .no)) (.cons (.var 3) (.nil))))) (.nil)) (.nil)
def u4 : CN.St := .ite (.and (.cons (.cmp .eq (.var 7) (.cst (.int 1))) (.cons (.cmp .lt (.bin .add (.var 3) (.cst (.int 1))) (.bi .len (.cons (.var 2) (.nil)))) (.nil)))) (.cons (.ret (.tup (.cons (.bin .add (.bin .add (.sl (.var 2) .no (.so (.var 3))) (.lst (.cons (.idx (.var 2) (.bin .add (.var 3) (.cst (.int 1)))) (.cons (.var 6) (.nil))))) (.sl (.var 2) (.so (.bin .add (.var 3) (.cst (.int 2)))) .no)) (.cons (.var 3) (.nil))))) (.nil)) (.nil)
def u5 : CN.St := .ite (.cmp .eq (.var 7) (.cst (.int 2))) (.cons (.ret (.tup (.cons (.bin .add (.var 2) (.lst (.cons (.cst (.str "")) (.nil)))) (.cons (.bi .len (.cons (.var 2) (.nil))) (.nil))))) (.nil)) (.nil)
def u6 : CN.St := .asg (.nm 5) (.bin .add (.cst (.str " ")) (.var 6))
def u7 : CN.St := .ite (.cmp .eq (.var 7) (.cst (.int 3))) (.cons (.asg (.nm 5) (.bin .add (.var 6) (.cst (.str " ")))) (.nil)) (.nil)
def u8 : CN.St := .ite (.cmp .eq (.var 7) (.cst (.int 4))) (.cons (.asg (.nm 5) (.bin .add (.cst (.str "0")) (.var 6))) (.nil)) (.nil)
def u9 : CN.St := .ite (.cmp .eq (.var 7) (.cst (.int 5))) (.cons (.asg (.nm 5) (.bm .join (.cst (.str " ")) (.cons (.bin .add (.lst (.cons (.bi .str (.cons (.bin .add (.idx (.idx (.var 1) (.var 3)) (.cst (.int 0))) (.cst (.int 1))) (.nil))) (.nil))) (.sl (.var 4) (.so (.cst (.int 1))) .no)) (.nil)))) (.nil)) (.nil)
def u10 : CN.St := .ite (.cmp .eq (.var 7) (.cst (.int 6))) (.cons (.asg (.nm 5) (.bin .add (.bin .add (.idx (.var 4) (.cst (.int 0))) (.cst (.str "  "))) (.bm .join (.cst (.str " ")) (.cons (.sl (.var 4) (.so (.cst (.int 1))) .no) (.nil))))) (.nil)) (.nil)
def u11 : CN.St := .ite (.cmp .eq (.var 7) (.cst (.int 7))) (.cons (.asg (.nm 5) (.bm .join (.cst (.str " ")) (.cons (.bin .add (.lst (.cons (.idx (.var 4) (.cst (.int 0))) (.cons (.idx (.lst (.cons (.cst (.str "nop")) (.cons (.cst (.str "Set")) (.cons (.cst (.str "sets")) (.cons (.cst (.str "15")) (.cons (.cst (.str "r0")) (.nil))))))) (.call 3 (.cons (.var 0) (.cons (.cst (.int 5)) (.nil))))) (.nil)))) (.sl (.var 4) (.so (.cst (.int 2))) .no)) (.nil)))) (.nil)) (.nil)
def u12 : CN.St := .ite (.cmp .eq (.var 7) (.cst (.int 8))) (.cons (.asg (.nm 5) (.bin .add (.var 6) (.cst (.str " 0")))) (.nil)) (.nil)
def u13 : CN.St := .ite (.and (.cons (.cmp .eq (.var 7) (.cst (.int 9))) (.cons (.cmp .gt (.bi .len (.cons (.var 4) (.nil))) (.cst (.int 2))) (.nil)))) (.cons (.asg (.nm 5) (.bm .join (.cst (.str " ")) (.cons (.sl (.var 4) .no (.so (.bin .sub (.bi .len (.cons (.var 4) (.nil))) (.cst (.int 1))))) (.nil)))) (.nil)) (.nil)
def u14 : CN.St := .ite (.cmp .eq (.var 7) (.cst (.int 10))) (.cons (.asg (.nm 5) (.ite (.cmp .gt (.var 3) (.cst (.int 0))) (.cst (.str "")) (.cst (.str "  ")))) (.nil)) (.nil)
def u15 : CN.St := .ite (.and (.cons (.cmp .gt (.var 7) (.cst (.int 10))) (.cons (.cmp .gt (.bi .len (.cons (.var 4) (.nil))) (.cst (.int 2))) (.nil)))) (.cons (.asg (.nm 8) (.bin .add (.cst (.int 2)) (.call 3 (.cons (.var 0) (.cons (.bin .sub (.bi .len (.cons (.var 4) (.nil))) (.cst (.int 2))) (.nil)))))) (.cons (.asg (.nm 9) (.idx (.lst (.cons (.cst (.str "r8")) (.cons (.cst (.str "65536")) (.cons (.cst (.str "x")) (.cons (.cst (.str "R0")) (.cons (.cst (.str "r01")) (.cons (.cst (.str "-1")) (.cons (.cst (.str "00")) (.cons (.cst (.str "r")) (.cons (.cst (.str "0x1")) (.cons (.cst (.str "r-0")) (.nil)))))))))))) (.call 3 (.cons (.var 0) (.cons (.cst (.int 10)) (.nil)))))) (.cons (.asg (.nm 5) (.bm .join (.cst (.str " ")) (.cons (.bin .add (.bin .add (.sl (.var 4) .no (.so (.var 8))) (.lst (.cons (.var 9) (.nil)))) (.sl (.var 4) (.so (.bin .add (.var 8) (.cst (.int 1)))) .no)) (.nil)))) (.nil)))) (.nil)
def u16 : CN.St := .ite (.cmp .eq (.var 7) (.cst (.int 13))) (.cons (.ret (.tup (.cons (.bin .add (.bin .add (.sl (.var 2) .no (.so (.var 3))) (.lst (.cons (.idx (.lst (.cons (.ite (.cmp .gt (.var 3) (.cst (.int 0))) (.cst (.str "")) (.cst (.str " "))) (.cons (.cst (.str "  ")) (.cons (.cst (.str "0")) (.cons (.cst (.str "0 stop x")) (.nil)))))) (.call 3 (.cons (.var 0) (.cons (.cst (.int 4)) (.nil))))) (.nil)))) (.sl (.var 2) (.so (.var 3)) .no)) (.cons (.var 3) (.nil))))) (.nil)) (.nil)
def u17 : CN.St := .ret (.tup (.cons (.bin .add (.bin .add (.sl (.var 2) .no (.so (.var 3))) (.lst (.cons (.var 5) (.nil)))) (.sl (.var 2) (.so (.bin .add (.var 3) (.cst (.int 1)))) .no)) (.cons (.var 3) (.nil))))
theorem u_body : i__law_broken.body = .cons u0 (.cons u1 (.cons u2 (.cons u3 (.cons u4 (.cons u5 (.cons u6 (.cons u7 (.cons u8 (.cons u9 (.cons u10 (.cons u11 (.cons u12 (.cons u13 (.cons u14 (.cons u15 (.cons u16 (.cons u17 (.nil)))))))))))))))))) := rfl

theorem lns_app (a : Nat) (p1 p2) : lns a (p1 ++ p2) = lns a p1 ++ lns (a + (rowsAll p1).length) p2 := by
  rw [lns_plns, lns_plns, lns_plns, plns_app, List.map_append]
theorem prs_get : ∀ (a : Nat) (p1 : List (Nat × List Int)) (q) (p2), (prs a (p1 ++ q :: p2))[p1.length]? = some (.tup [.int ((a + (rowsAll p1).length : Nat) : Int), insD q.1 q.2])
  | a, [], q, p2 => by
    show some (D.tup [.int ((a : Nat) : Int), insD q.1 q.2]) = _
    rfl
  | a, r :: p1, q, p2 => by
    have ih := prs_get (a + (row r.1 r.2).length) p1 q p2
    have e : (rowsAll (r :: p1)).length = (row r.1 r.2).length + (rowsAll p1).length := List.length_append
    rw [e, ← Nat.add_assoc]
    exact ih
theorem slL_to (s : Hs) (ds : List D) (i : Nat) : slop s (.tl ds) none (some (i : Int)) = some (.tl (ds.take i)) := by
  show some (D.tl (CN.cut ds none (some (i : Int)))) = _
  rw [cut_to]
theorem slL_from (s : Hs) (ds : List D) (i : Nat) : slop s (.tl ds) (some (i : Int)) none = some (.tl (ds.drop i)) := by
  show some (D.tl (CN.cut ds (some (i : Int)) none)) = _
  rw [cut_from]
theorem addL (s : Hs) (a b : List D) (h : a.length + b.length ≤ 5000) : binop s .add (.tl a) (.tl b) = some (.tl (a ++ b)) := by
  show (if a.length + b.length ≤ PySem.sizeLine then some (D.tl (a ++ b)) else none) = _
  rw [if_pos (small5 h)]
theorem idxL (tabs : List (List (PySem.Str × D))) (s : Hs) (ds : List D) (i : Nat) {d : D} (h : ds[i]? = some d) : idxop tabs s (.tl ds) (.int (i : Int)) = some d := by
  show L2.atI ds (i : Int) = _
  rw [atI_nat ds i (List.getElem?_eq_some_iff.mp h).1, h]
/-- the env: L the lines, W the line's pieces, o the line -/
abbrev bE (L : List D) (j : Nat) (W : List (List Nat)) (o : D) (x5 : Sl) (f : Int) (k8 b9 : Sl) : CN.Env := [.has (.ref 0), .has (.ref 1), .has (.tl L), .has (.int (j : Int)), .has (.tl (W.map dS)), x5, .has o, .has (.int f), k8, b9]
section
variable {c : Nat → List D → Hs → Res D} {L : List D} {j : Nat} {W : List (List Nat)} {o : D} {x5 k8 b9 : Sl} {f : Int}
theorem uSkip {n : Int} (h : f ≠ n) (b : Sts) : evalS T wf c (.ite (.cmp .eq (.var 7) (.cst (.int n))) b .nil) (bE L j W o x5 f k8 b9) s = .ok (.next (bE L j W o x5 f k8 b9)) s := by
  have t := ce_ii T.tabs s f n
  rw [decide_eq_false h] at t
  exact ite_f (ev_cmpT (ev_var rfl) rfl t)
theorem uSkipA {n : Int} (h : f ≠ n) (x : Ex) (b : Sts) : evalS T wf c (.ite (.and (.cons (.cmp .eq (.var 7) (.cst (.int n))) (.cons x .nil))) b .nil) (bE L j W o x5 f k8 b9) s = .ok (.next (bE L j W o x5 f k8 b9)) s := by
  have t := ce_ii T.tabs s f n
  rw [decide_eq_false h] at t
  exact ite_f (and_f (ev_cmpT (ev_var rfl) rfl t))
theorem uSkipG (h : ¬ 10 < f) (x : Ex) (b : Sts) : evalS T wf c (.ite (.and (.cons (.cmp .gt (.var 7) (.cst (.int 10))) (.cons x .nil))) b .nil) (bE L j W o x5 f k8 b9) s = .ok (.next (bE L j W o x5 f k8 b9)) s := by
  have t := cgt_ii T.tabs s f 10
  rw [decide_eq_false h] at t
  exact ite_f (and_f (ev_cmpT (ev_var rfl) rfl t))
theorem uYes (n : Int) {b : Sts} {r : Res Flow} (h : evalSs T wf c b (bE L j W o x5 n k8 b9) s = r) : evalS T wf c (.ite (.cmp .eq (.var 7) (.cst (.int n))) b .nil) (bE L j W o x5 n k8 b9) s = r := by
  have t := ce_ii T.tabs s n n
  rw [decide_eq_true rfl] at t
  exact ite_tn (ev_cmpT (ev_var rfl) rfl t) h
theorem uEqT (n : Int) : (evP T c (.cmp .eq (.var 7) (.cst (.int n)))).t (bE L j W o x5 n k8 b9) s = .ok true s := by
  have t := ce_ii T.tabs s n n
  rw [decide_eq_true rfl] at t
  exact ev_cmpT (ev_var rfl) rfl t
theorem uMore : (evP T c (.cmp .lt (.bin .add (.var 3) (.cst (.int 1))) (.bi .len (.cons (.var 2) .nil)))).t (bE L j W o x5 f k8 b9) s = .ok (decide (j + 1 < L.length)) s :=
  ev_cmpT (x := .int ((j + 1 : Nat) : Int)) (ev_bin (ev_var rfl) rfl rfl) (ev_bi (as1 (ev_var rfl) as0) (len_tl s L)) (lt_nat _ _ _ _)
theorem uWds : (evP T c (.cmp .gt (.bi .len (.cons (.var 4) .nil)) (.cst (.int 2)))).t (bE L j W o x5 f k8 b9) s = .ok (decide (2 < W.length)) s := by
  have t := gt_nat T.tabs s (W.map dS).length 2
  rw [List.length_map] at t
  exact ev_cmpT (ev_bi (as1 (ev_var rfl) as0) (len_tl s _)) rfl (by rw [List.length_map]; exact t)
/-- the last statement -/
theorem u17_ok {A B : List D} {n : D} (hA : A.length = j) (hl : A.length + B.length + 2 ≤ 5000) : evalS T wf c u17 (bE (A ++ o :: B) j W o (.has n) f k8 b9) s = .ok (.ret (.tup [.tl (A ++ n :: B), .int (j : Int)])) s := by
  subst hA
  have h1 : (A ++ o :: B).take A.length = A := List.take_left
  have h2 : (A ++ o :: B).drop (A.length + 1) = B := by
    rw [← List.drop_drop, List.drop_left]
    rfl
  have t1 := slL_to s (A ++ o :: B) A.length
  rw [h1] at t1
  have t2 := slL_from s (A ++ o :: B) (A.length + 1)
  rw [h2] at t2
  have e : A ++ [n] ++ B = A ++ n :: B := by simp
  refine ret_ok (ev_tup (as1 (ev_bin (ev_bin (ev_sl0 (ev_var rfl) (ev_var rfl) t1) (ev_lst (as1 (ev_var rfl) as0) (by show 1 ≤ 5000; decide)) (addL s A [n] (by simp; omega))) (ev_sl1 (i := ((A.length + 1 : Nat) : Int)) (ev_var rfl) (ev_bin (ev_var rfl) rfl rfl) t2) ((addL s (A ++ [n]) B (by simp; omega)).trans (by rw [e]))) (as1 (ev_var rfl) as0)) (by show 2 ≤ 5000; decide))
/-! the new line -/
variable {a : Nat} (ha : a < 90000) {q : Nat × List Int} (h : In q)
include ha h
theorem one_len : (joinL [32] (lnP a q)).length ≤ 40 := lineL_len (by omega) h
theorem u6_ok : evalS T wf c u6 (bE L j (lnP a q) (dS (lineL a q)) x5 f k8 b9) s = .ok (.next (bE L j (lnP a q) (dS (lineL a q)) (.has (dS (joinL [32] ([] :: lnP a q)))) f k8 b9)) s := by
  have hl := one_len ha h
  have t : binop s .add (.str " ") (dS (lineL a q)) = some (dS (joinL [32] ([] :: lnP a q))) := by
    rw [d_sp, joinL_cons [] (W := lnP a q) (by simp)]
    exact add_S s (a := [32]) (b := lineL a q) (small5 (by show 1 + (joinL [32] (lnP a q)).length ≤ 5000; omega))
  exact asg_ok (i := 5) (ev_bin rfl (ev_var rfl) t)
theorem n3_asg : evalS T wf c (.asg (.nm 5) (.bin .add (.var 6) (.cst (.str " ")))) (bE L j (lnP a q) (dS (lineL a q)) x5 f k8 b9) s = .ok (.next (bE L j (lnP a q) (dS (lineL a q)) (.has (dS (joinL [32] (lnP a q ++ [[]])))) f k8 b9)) s := by
  have hl := one_len ha h
  have t : binop s .add (dS (lineL a q)) (.str " ") = some (dS (joinL [32] (lnP a q ++ [[]]))) := by
    rw [d_sp, joinL_snoc [] (W := lnP a q) (by simp)]
    exact add_S s (a := lineL a q) (b := [32]) (small5 (by show (joinL [32] (lnP a q)).length + 1 ≤ 5000; omega))
  exact asg_ok (i := 5) (ev_bin (ev_var rfl) rfl t)
theorem n8_asg : evalS T wf c (.asg (.nm 5) (.bin .add (.var 6) (.cst (.str " 0")))) (bE L j (lnP a q) (dS (lineL a q)) x5 f k8 b9) s = .ok (.next (bE L j (lnP a q) (dS (lineL a q)) (.has (dS (joinL [32] (lnP a q ++ [[48]])))) f k8 b9)) s := by
  have hl := one_len ha h
  have d : (D.str " 0") = dS [32, 48] := congrArg D.str (tx " 0" [32, 48] (by decide +kernel))
  have t : binop s .add (dS (lineL a q)) (.str " 0") = some (dS (joinL [32] (lnP a q ++ [[48]]))) := by
    rw [d, joinL_snoc [48] (W := lnP a q) (by simp)]
    exact add_S s (a := lineL a q) (b := [32, 48]) (small5 (by show (joinL [32] (lnP a q)).length + 2 ≤ 5000; omega))
  exact asg_ok (i := 5) (ev_bin (ev_var rfl) rfl t)
theorem n4_asg : evalS T wf c (.asg (.nm 5) (.bin .add (.cst (.str "0")) (.var 6))) (bE L j (lnP a q) (dS (lineL a q)) x5 f k8 b9) s = .ok (.next (bE L j (lnP a q) (dS (lineL a q)) (.has (dS (joinL [32] ((48 :: numL a) :: pcs q)))) f k8 b9)) s := by
  have hl := one_len ha h
  have t : binop s .add (.str "0") (dS (lineL a q)) = some (dS (joinL [32] ((48 :: numL a) :: pcs q))) := by
    rw [d_0, joinL_cons (48 :: numL a) (W := pcs q) (List.cons_ne_nil _ _)]
    have e : (48 :: numL a) ++ ([32] ++ joinL [32] (pcs q)) = [48] ++ lineL a q := by
      show 48 :: (numL a ++ ([32] ++ joinL [32] (pcs q))) = 48 :: joinL [32] (numL a :: pcs q)
      rw [joinL_cons (numL a) (W := pcs q) (List.cons_ne_nil _ _)]
    rw [e]
    exact add_S s (a := [48]) (b := lineL a q) (small5 (by show 1 + (joinL [32] (lnP a q)).length ≤ 5000; omega))
  exact asg_ok (i := 5) (ev_bin rfl (ev_var rfl) t)
theorem wds_from (n : Nat) : slop s (.tl ((lnP a q).map dS)) (some (n : Int)) none = some (.tl (((lnP a q).drop n).map dS)) := by
  rw [slL_from, List.map_drop]
theorem wds_to (n : Nat) : slop s (.tl ((lnP a q).map dS)) none (some (n : Int)) = some (.tl (((lnP a q).take n).map dS)) := by
  rw [slL_to, List.map_take]
/-- join of pieces that can stand in a line -/
theorem jn {P : List (List Nat)} (hP : Pc P) {e : Ex} {env : CN.Env} {s1 : Hs} (he : (evP T c e).e env s = .ok (.tl (P.map dS)) s1) : (evP T c (.bm .join (.cst (.str " ")) (.cons e .nil))).e env s = .ok (dS (joinL [32] P)) s1 := by
  have h1 := sumL_le (ps := P) (m := 100) fun p hp => (hP.ok p hp).2.1
  have h2 := hP.few
  have hj := bm_join s1 [32] P (.tl (P.map dS)) rfl (by show _ + _ * 1 ≤ _; omega)
  rw [← d_sp] at hj
  exact ev_bm rfl rfl (as1 he as0) hj
theorem n5_asg (hs : s[1]? = some (.lst (prs 0 ps))) (hr : (prs 0 ps)[j]? = some (.tup [.int (a : Nat), insD q.1 q.2])) : evalS T wf c (.asg (.nm 5) (.bm .join (.cst (.str " ")) (.cons (.bin .add (.lst (.cons (.bi .str (.cons (.bin .add (.idx (.idx (.var 1) (.var 3)) (.cst (.int 0))) (.cst (.int 1))) .nil)) .nil)) (.sl (.var 4) (.so (.cst (.int 1))) .no)) .nil))) (bE L j (lnP a q) (dS (lineL a q)) x5 f k8 b9) s = .ok (.next (bE L j (lnP a q) (dS (lineL a q)) (.has (dS (joinL [32] (numL (a + 1) :: pcs q)))) f k8 b9)) s := by
  have hi : idxop T.tabs s (.ref 1) (.int (j : Int)) = some (.tup [.int (a : Nat), insD q.1 q.2]) := by
    rw [idx_ref _ _ _ _ _ hs, atI_nat _ _ (List.getElem?_eq_some_iff.mp hr).1, hr]
  have hd := wds_from (s := s) ha h 1
  refine asg_ok (i := 5) (jn ha h (nb5 ha h).pc (ev_bin (ev_lst (as1 (ev_bi (as1 (ev_bin (x := .int (a : Nat)) (ev_idx (ev_idx (ev_var rfl) (ev_var rfl) hi) rfl (at0 _ _)) rfl rfl) as0) (str_int s (a + 1) (by omega))) as0) (by show 1 ≤ 5000; decide)) (ev_sl1 (i := ((1 : Nat) : Int)) (ev_var rfl) rfl hd) ?_))
  exact addL s [dS (numL (a + 1))] ((pcs q).map dS) (by have := pcs_len h; simp; omega)
theorem n6_asg : evalS T wf c (.asg (.nm 5) (.bin .add (.bin .add (.idx (.var 4) (.cst (.int 0))) (.cst (.str "  "))) (.bm .join (.cst (.str " ")) (.cons (.sl (.var 4) (.so (.cst (.int 1))) .no) .nil)))) (bE L j (lnP a q) (dS (lineL a q)) x5 f k8 b9) s = .ok (.next (bE L j (lnP a q) (dS (lineL a q)) (.has (dS (joinL [32] (numL a :: [] :: pcs q)))) f k8 b9)) s := by
  have hl := one_len ha h
  have h5 := num_len5 (n := a) (by omega)
  have d : (D.str "  ") = dS [32, 32] := congrArg D.str (tx "  " [32, 32] (by decide +kernel))
  have hp : Pc (pcs q) := pc_of (List.cons_ne_nil _ _) (fun p hp => pcs_ok h p hp) (by have := pcs_len h; omega)
  have hl2 := hp.len
  have hd := wds_from (s := s) ha h 1
  have t1 : binop s .add (dS (numL a)) (.str "  ") = some (dS (numL a ++ [32, 32])) := by
    rw [d]
    exact add_S s (small5 (by show (numL a).length + 2 ≤ 5000; omega))
  have t2 : binop s .add (dS (numL a ++ [32, 32])) (dS (joinL [32] (pcs q))) = some (dS (joinL [32] (numL a :: [] :: pcs q))) := by
    rw [add_S s (small5 (by rw [List.length_append]; show (numL a).length + 2 + _ ≤ 5000; omega)), joinL_cons (numL a) (W := [] :: pcs q) (by simp), joinL_cons [] (W := pcs q) (List.cons_ne_nil _ _), List.append_assoc]
    rfl
  exact asg_ok (i := 5) (ev_bin (ev_bin (ev_idx (ev_var rfl) rfl (at0 _ _)) rfl t1) (jn ha h hp (ev_sl1 (i := ((1 : Nat) : Int)) (ev_var rfl) rfl hd)) t2)
theorem n9_asg (hn : 0 < (opsL (sh q.1) q.2).length) : evalS T wf c (.asg (.nm 5) (.bm .join (.cst (.str " ")) (.cons (.sl (.var 4) .no (.so (.bin .sub (.bi .len (.cons (.var 4) .nil)) (.cst (.int 1))))) .nil))) (bE L j (lnP a q) (dS (lineL a q)) x5 f k8 b9) s = .ok (.next (bE L j (lnP a q) (dS (lineL a q)) (.has (dS (joinL [32] (numL a :: wdL q.1 :: (opsL (sh q.1) q.2).take ((opsL (sh q.1) q.2).length - 1))))) f k8 b9)) s := by
  have hd := wds_to (s := s) ha h ((opsL (sh q.1) q.2).length + 1)
  have e : (lnP a q).take ((opsL (sh q.1) q.2).length + 1) = numL a :: wdL q.1 :: (opsL (sh q.1) q.2).take ((opsL (sh q.1) q.2).length - 1) := by
    obtain ⟨m, hm⟩ : ∃ m, (opsL (sh q.1) q.2).length = m + 1 := ⟨(opsL (sh q.1) q.2).length - 1, by omega⟩
    rw [hm]
    rfl
  rw [e] at hd
  have el : bifun s .len [.tl ((lnP a q).map dS)] = some (.int (((opsL (sh q.1) q.2).length + 2 : Nat) : Int)) := by
    rw [len_tl, List.length_map]
    rfl
  have es : binop s .sub (.int (((opsL (sh q.1) q.2).length + 2 : Nat) : Int)) (.int 1) = some (.int (((opsL (sh q.1) q.2).length + 1 : Nat) : Int)) := by
    show some (D.int (_ - 1)) = _
    congr 2
    omega
  exact asg_ok (i := 5) (jn ha h (nb9 ha h hn).pc (ev_sl0 (ev_var rfl) (ev_bin (ev_bi (as1 (ev_var rfl) as0) el) rfl es) hd))
end
end K66
set_option Elab.async false
set_option linter.all false
set_option maxRecDepth 100000
set_option maxHeartbeats 4000000
/-! R21: _law_broken, whole. -/
namespace K66
open CN
variable {wf k : Nat} {cells : List Int} {rest s : Hs}
section
variable {c : Nat → List D → Hs → Res D} {L : List D} {j : Nat} {W : List (List Nat)} {o : D} {x5 k8 b9 : Sl} {f : Int}
def badWD : List D := [.str "nop", .str "Set", .str "sets", .str "15", .str "r0"]
theorem badWD_ok : badWD = badWds.map dS := by
  unfold badWD badWds
  simp only [List.map_cons, List.map_nil]
  rw [congrArg D.str (tx "nop" [110, 111, 112] (by decide +kernel)), congrArg D.str (tx "Set" [83, 101, 116] (by decide +kernel)), congrArg D.str (tx "sets" [115, 101, 116, 115] (by decide +kernel)), congrArg D.str (tx "15" [49, 53] (by decide +kernel)), congrArg D.str (tx "r0" [114, 48] (by decide +kernel))]
def badOD : List D := [.str "r8", .str "65536", .str "x", .str "R0", .str "r01", .str "-1", .str "00", .str "r", .str "0x1", .str "r-0"]
theorem badOD_ok : badOD = badOps.map dS := by
  unfold badOD badOps
  simp only [List.map_cons, List.map_nil]
  rw [congrArg D.str (tx "r8" [114, 56] (by decide +kernel)), congrArg D.str (tx "65536" [54, 53, 53, 51, 54] (by decide +kernel)), congrArg D.str (tx "x" [120] (by decide +kernel)), congrArg D.str (tx "R0" [82, 48] (by decide +kernel)), congrArg D.str (tx "r01" [114, 48, 49] (by decide +kernel)), congrArg D.str (tx "-1" [45, 49] (by decide +kernel)), congrArg D.str (tx "00" [48, 48] (by decide +kernel)), congrArg D.str (tx "r" [114] (by decide +kernel)), congrArg D.str (tx "0x1" [48, 120, 49] (by decide +kernel)), congrArg D.str (tx "r-0" [114, 45, 48] (by decide +kernel))]
theorem pickS {xs : List (List Nat)} {v : Int} (h0 : 0 ≤ v) (h1 : v < xs.length) : ∃ b ∈ xs, L2.atI (xs.map dS) v = some (dS b) := by
  obtain ⟨i, rfl⟩ : ∃ i : Nat, v = (i : Int) := ⟨v.toNat, by omega⟩
  have hi : i < xs.length := by omega
  exact ⟨xs[i], List.getElem_mem hi, by rw [atI_nat _ _ (by rw [List.length_map]; exact hi), List.getElem?_map, List.getElem?_eq_getElem hi]; rfl⟩
variable {a : Nat} (ha : a < 90000) {q : Nat × List Int} (h : In q)
include ha h
theorem n7_asg (hc : 0 < cells.length) (hJ : JarS cells rest s) : ∃ b s', b ∈ badWds ∧ JarS cells rest s' ∧ evalS T wf (runFn T wf (k + 1)) (.asg (.nm 5) (.bm .join (.cst (.str " ")) (.cons (.bin .add (.lst (.cons (.idx (.var 4) (.cst (.int 0))) (.cons (.idx (.lst (.cons (.cst (.str "nop")) (.cons (.cst (.str "Set")) (.cons (.cst (.str "sets")) (.cons (.cst (.str "15")) (.cons (.cst (.str "r0")) .nil)))))) (.call 3 (.cons (.var 0) (.cons (.cst (.int 5)) .nil)))) .nil))) (.sl (.var 4) (.so (.cst (.int 2))) .no)) .nil))) (bE L j (lnP a q) (dS (lineL a q)) x5 f k8 b9) s = .ok (.next (bE L j (lnP a q) (dS (lineL a q)) (.has (dS (joinL [32] (numL a :: b :: opsL (sh q.1) q.2)))) f k8 b9)) s' := by
  obtain ⟨v, s1, v0, v1, j1, h1⟩ := drawK (wf := wf) (k := k) hc hJ (show (0 : Int) < 5 by decide) (by decide)
  obtain ⟨b, hb, p1⟩ := pickS (xs := badWds) v0 v1
  rw [← badWD_ok] at p1
  have hd := wds_from (s := s1) ha h 2
  have hl := ops_len h
  refine ⟨b, s1, hb, j1, asg_ok (i := 5) (jn ha h (nb7 ha h hb).pc (ev_bin (ev_lst (as1 (ev_idx (ev_var rfl) rfl (at0 _ _)) (as1 (ev_idx (x := .tl badWD) (ev_lst (as1 rfl (as1 rfl (as1 rfl (as1 rfl (as1 rfl as0))))) (by show 5 ≤ 5000; decide)) (ev_call (as1 (ev_var rfl) (as1 rfl as0)) h1) p1) as0)) (by show 2 ≤ 5000; decide)) (ev_sl1 (i := ((2 : Nat) : Int)) (ev_var rfl) rfl hd) ?_))⟩
  exact addL s1 [dS (numL a), dS b] ((opsL (sh q.1) q.2).map dS) (by rw [List.length_map]; show 2 + _ ≤ 5000; omega)
theorem n11_blk (hn : 0 < (opsL (sh q.1) q.2).length) (hc : 0 < cells.length) (hJ : JarS cells rest s) : ∃ b d s' k8' b9', b ∈ badOps ∧ d < (opsL (sh q.1) q.2).length ∧ JarS cells rest s' ∧ evalSs T wf (runFn T wf (k + 1)) (.cons (.asg (.nm 8) (.bin .add (.cst (.int 2)) (.call 3 (.cons (.var 0) (.cons (.bin .sub (.bi .len (.cons (.var 4) .nil)) (.cst (.int 2))) .nil))))) (.cons (.asg (.nm 9) (.idx (.lst (.cons (.cst (.str "r8")) (.cons (.cst (.str "65536")) (.cons (.cst (.str "x")) (.cons (.cst (.str "R0")) (.cons (.cst (.str "r01")) (.cons (.cst (.str "-1")) (.cons (.cst (.str "00")) (.cons (.cst (.str "r")) (.cons (.cst (.str "0x1")) (.cons (.cst (.str "r-0")) .nil))))))))))) (.call 3 (.cons (.var 0) (.cons (.cst (.int 10)) .nil))))) (.cons (.asg (.nm 5) (.bm .join (.cst (.str " ")) (.cons (.bin .add (.bin .add (.sl (.var 4) .no (.so (.var 8))) (.lst (.cons (.var 9) .nil))) (.sl (.var 4) (.so (.bin .add (.var 8) (.cst (.int 1)))) .no)) .nil))) .nil))) (bE L j (lnP a q) (dS (lineL a q)) x5 f k8 b9) s = .ok (.next (bE L j (lnP a q) (dS (lineL a q)) (.has (dS (joinL [32] (numL a :: wdL q.1 :: ((opsL (sh q.1) q.2).take d ++ b :: (opsL (sh q.1) q.2).drop (d + 1)))))) f k8' b9')) s' := by
  have hl := ops_len h
  obtain ⟨v, s1, v0, v1, j1, h1⟩ := drawK (wf := wf) (k := k) hc hJ (lim := (((opsL (sh q.1) q.2).length : Nat) : Int)) (by omega) (by omega)
  obtain ⟨v2, s2, v20, v21, j2, h2⟩ := drawK (wf := wf) (k := k) hc j1 (show (0 : Int) < 10 by decide) (by decide)
  obtain ⟨b, hb, p1⟩ := pickS (xs := badOps) v20 v21
  rw [← badOD_ok] at p1
  obtain ⟨d, rfl⟩ : ∃ d : Nat, v = (d : Int) := ⟨v.toNat, by omega⟩
  have hd : d < (opsL (sh q.1) q.2).length := by omega
  have el : bifun s .len [.tl ((lnP a q).map dS)] = some (.int (((opsL (sh q.1) q.2).length + 2 : Nat) : Int)) := by
    rw [len_tl, List.length_map]
    rfl
  have es : binop s .sub (.int (((opsL (sh q.1) q.2).length + 2 : Nat) : Int)) (.int 2) = some (.int (((opsL (sh q.1) q.2).length : Nat) : Int)) := by
    show some (D.int (_ - 2)) = _
    congr 2
    omega
  have ea : binop s1 .add (.int 2) (.int (d : Int)) = some (.int ((d + 2 : Nat) : Int)) := by
    show some (D.int (2 + (d : Int))) = _
    congr 2
    omega
  have t1 : evalS T wf (runFn T wf (k + 1)) (.asg (.nm 8) (.bin .add (.cst (.int 2)) (.call 3 (.cons (.var 0) (.cons (.bin .sub (.bi .len (.cons (.var 4) .nil)) (.cst (.int 2))) .nil))))) (bE L j (lnP a q) (dS (lineL a q)) x5 f k8 b9) s = .ok (.next (bE L j (lnP a q) (dS (lineL a q)) x5 f (.has (.int ((d + 2 : Nat) : Int))) b9)) s1 := asg_ok (i := 8) (ev_bin rfl (ev_call (as1 (ev_var rfl) (as1 (ev_bin (ev_bi (as1 (ev_var rfl) as0) el) rfl es) as0)) h1) ea)
  have t2 : evalS T wf (runFn T wf (k + 1)) (.asg (.nm 9) (.idx (.lst (.cons (.cst (.str "r8")) (.cons (.cst (.str "65536")) (.cons (.cst (.str "x")) (.cons (.cst (.str "R0")) (.cons (.cst (.str "r01")) (.cons (.cst (.str "-1")) (.cons (.cst (.str "00")) (.cons (.cst (.str "r")) (.cons (.cst (.str "0x1")) (.cons (.cst (.str "r-0")) .nil))))))))))) (.call 3 (.cons (.var 0) (.cons (.cst (.int 10)) .nil))))) (bE L j (lnP a q) (dS (lineL a q)) x5 f (.has (.int ((d + 2 : Nat) : Int))) b9) s1 = .ok (.next (bE L j (lnP a q) (dS (lineL a q)) x5 f (.has (.int ((d + 2 : Nat) : Int))) (.has (dS b)))) s2 := asg_ok (i := 9) (ev_idx (x := .tl badOD) (ev_lst (as1 rfl (as1 rfl (as1 rfl (as1 rfl (as1 rfl (as1 rfl (as1 rfl (as1 rfl (as1 rfl (as1 rfl as0)))))))))) (by show 10 ≤ 5000; decide)) (ev_call (as1 (ev_var rfl) (as1 rfl as0)) h2) p1)
  have w1 := wds_to (s := s2) ha h (d + 2)
  have w2 := wds_from (s := s2) ha h (d + 2 + 1)
  have e1 : (lnP a q).take (d + 2) = numL a :: wdL q.1 :: (opsL (sh q.1) q.2).take d := rfl
  have e2 : (lnP a q).drop (d + 2 + 1) = (opsL (sh q.1) q.2).drop (d + 1) := rfl
  rw [e1] at w1
  rw [e2] at w2
  have t3 : evalS T wf (runFn T wf (k + 1)) (.asg (.nm 5) (.bm .join (.cst (.str " ")) (.cons (.bin .add (.bin .add (.sl (.var 4) .no (.so (.var 8))) (.lst (.cons (.var 9) .nil))) (.sl (.var 4) (.so (.bin .add (.var 8) (.cst (.int 1)))) .no)) .nil))) (bE L j (lnP a q) (dS (lineL a q)) x5 f (.has (.int ((d + 2 : Nat) : Int))) (.has (dS b))) s2 = .ok (.next (bE L j (lnP a q) (dS (lineL a q)) (.has (dS (joinL [32] (numL a :: wdL q.1 :: ((opsL (sh q.1) q.2).take d ++ b :: (opsL (sh q.1) q.2).drop (d + 1)))))) f (.has (.int ((d + 2 : Nat) : Int))) (.has (dS b)))) s2 := by
    refine asg_ok (i := 5) (jn ha h (nb11 ha h hb hd).pc (ev_bin (ev_bin (ev_sl0 (ev_var rfl) (ev_var rfl) w1) (ev_lst (as1 (ev_var rfl) as0) (by show 1 ≤ 5000; decide)) (addL s2 _ [dS b] (by simp; omega))) (ev_sl1 (i := ((d + 2 + 1 : Nat) : Int)) (ev_var rfl) (ev_bin (ev_var rfl) rfl rfl) w2) ?_))
    rw [addL s2 _ _ (by simp; omega)]
    simp
  exact ⟨b, d, s2, _, _, hb, hd, j2, by rw [nx t1, nx t2, nx t3]; rfl⟩
omit ha h
theorem n10_asg : evalS T wf c (.asg (.nm 5) (.ite (.cmp .gt (.var 3) (.cst (.int 0))) (.cst (.str "")) (.cst (.str "  ")))) (bE L j W o x5 f k8 b9) s = .ok (.next (bE L j W o (.has (dS (if 0 < j then joinL [32] [[]] else joinL [32] [[], [], []]))) f k8 b9)) s := by
  have t := gt_nat T.tabs s j 0
  have d : (D.str "  ") = dS [32, 32] := congrArg D.str (tx "  " [32, 32] (by decide +kernel))
  by_cases hj : 0 < j
  · rw [decide_eq_true hj] at t
    rw [if_pos hj]
    have e : (evP T c (.ite (.cmp .gt (.var 3) (.cst (.int 0))) (.cst (.str "")) (.cst (.str "  ")))).e (bE L j W o x5 f k8 b9) s = .ok (.str "") s := ev_iteT (ev_cmpT (ev_var rfl) rfl t) rfl
    rw [d_e] at e
    exact asg_ok (i := 5) (by rw [d_e]; exact e)
  · rw [decide_eq_false hj] at t
    rw [if_neg hj]
    have e : (evP T c (.ite (.cmp .gt (.var 3) (.cst (.int 0))) (.cst (.str "")) (.cst (.str "  ")))).e (bE L j W o x5 f k8 b9) s = .ok (.str "  ") s := ev_iteF (ev_cmpT (ev_var rfl) rfl t) rfl
    have e2 : (evP T c (.ite (.cmp .gt (.var 3) (.cst (.int 0))) (.cst (.str "")) (.cst (.str "  ")))).e (bE L j W o x5 f k8 b9) s = .ok (dS (joinL [32] [[], [], []])) s := e.trans (by rw [d]; rfl)
    exact asg_ok (i := 5) e2
end

section
variable {p1 p2 : List (Nat × List Int)} {q : Nat × List Int}
/-- the answer of _law_broken -/
def Ans (r : D) : Prop := ∃ L f, r = .tup [.tl L, .int (f : Nat)] ∧ Brk L f
theorem split_is (h : Is (p1 ++ q :: p2)) : Is p1 ∧ In q ∧ Is p2 := ⟨fun x hx => h x (List.mem_append_left _ hx), h q (List.mem_append_right _ List.mem_cons_self), fun x hx => h x (List.mem_append_right _ (List.mem_cons_of_mem _ hx))⟩
theorem rows_split : (rowsAll (p1 ++ q :: p2)).length = (rowsAll p1).length + ((row q.1 q.2).length + (rowsAll p2).length) := by
  have e : ∀ (x y : List (Nat × List Int)), rowsAll (x ++ y) = rowsAll x ++ rowsAll y := rowsAll_app
  rw [e, List.length_append]
  have e2 : (rowsAll (q :: p2)).length = (row q.1 q.2).length + (rowsAll p2).length := List.length_append
  rw [e2]
variable (h : Is (p1 ++ q :: p2)) (hl : (rowsAll (p1 ++ q :: p2)).length ≤ 700) (hn : (p1 ++ q :: p2).length ≤ 600)
include h hl hn
/-- one line exchanged -/
theorem ans_new {P : List (List Nat)} (n : Nb (rowsAll p1).length P) (hne : joinL [32] P ≠ [] ∨ p1 ≠ []) : Ans (.tup [.tl ((lns 0 p1).map dS ++ dS (joinL [32] P) :: (lns ((rowsAll p1).length + (row q.1 q.2).length) p2).map dS), .int (p1.length : Nat)]) := by
  obtain ⟨h1, hq, h2⟩ := split_is h
  rw [rows_split] at hl
  rw [List.length_append, List.length_cons] at hn
  refine ⟨_, _, rfl, ?_⟩
  rw [lnsD ((rowsAll p1).length + (row q.1 q.2).length) p2]
  exact Brk.mk h1 (by omega) n (plns_pc h2 (by omega)) (by rw [plns_len]; omega) (hne.imp id .inl)
/-- one line put in -/
theorem ans_in {P : List (List Nat)} (n : Nb (rowsAll p1).length P) : Ans (.tup [.tl ((lns 0 p1).map dS ++ dS (joinL [32] P) :: (dS (lineL (rowsAll p1).length q) :: (lns ((rowsAll p1).length + (row q.1 q.2).length) p2).map dS)), .int (p1.length : Nat)]) := by
  obtain ⟨h1, hq, h2⟩ := split_is h
  rw [rows_split] at hl
  rw [List.length_append, List.length_cons] at hn
  refine ⟨_, _, rfl, ?_⟩
  rw [lnsD ((rowsAll p1).length + (row q.1 q.2).length) p2]
  refine Brk.mk (R := lnP (rowsAll p1).length q :: plns ((rowsAll p1).length + (row q.1 q.2).length) p2) h1 (by omega) n (fun Q hQ => ?_) (by rw [List.length_cons, plns_len]; omega) (.inr (.inr (List.cons_ne_nil _ _)))
  rcases List.mem_cons.mp hQ with rfl | hQ
  · exact lnP_pc (by omega) hq
  · exact plns_pc h2 (by omega) Q hQ
/-- one line behind all -/
theorem ans_end : Ans (.tup [.tl ((lns 0 (p1 ++ q :: p2)).map dS ++ [dS []]), .int ((p1 ++ q :: p2).length : Nat)]) :=
  ⟨_, _, rfl, Brk.mk (P := [[]]) (R := []) h (by omega) nbE (fun Q hQ => by cases hQ) (by show _ + 0 ≤ 640; omega) (.inr (.inl (by simp)))⟩
omit h hl hn
theorem other_line {a b : Nat} (hab : a ≠ b) (hb : b < 100000) {r : Nat × List Int} (hr : In r) : Nb a (lnP b r) := ⟨lnP_pc hb hr, bad_head (succ_ne _ _ (Ne.symm hab))⟩
/-- a line left out -/
theorem ans_out {r : Nat × List Int} {p3 : List (Nat × List Int)} (h : Is (p1 ++ q :: r :: p3)) (hl : (rowsAll (p1 ++ q :: r :: p3)).length ≤ 700) (hn : (p1 ++ q :: r :: p3).length ≤ 600) : Ans (.tup [.tl ((lns 0 p1).map dS ++ (lns ((rowsAll p1).length + (row q.1 q.2).length) (r :: p3)).map dS), .int (p1.length : Nat)]) := by
  obtain ⟨h1, hq, h2⟩ := split_is h
  rw [rows_split] at hl
  have e : (rowsAll (r :: p3)).length = (row r.1 r.2).length + (rowsAll p3).length := List.length_append
  rw [List.length_append, List.length_cons, List.length_cons] at hn
  have hp := row_pos hq
  refine ⟨_, _, rfl, ?_⟩
  have e2 : (lns ((rowsAll p1).length + (row q.1 q.2).length) (r :: p3)).map dS = dS (joinL [32] (lnP ((rowsAll p1).length + (row q.1 q.2).length) r)) :: (plns ((rowsAll p1).length + (row q.1 q.2).length + (row r.1 r.2).length) p3).map (fun P => dS (joinL [32] P)) := by
    rw [lnsD]
    rfl
  rw [e2]
  exact Brk.mk h1 (by omega) (other_line (by omega) (by omega) (h2 r List.mem_cons_self)) (plns_pc (fun x hx => h2 x (List.mem_cons_of_mem _ hx)) (by omega)) (by rw [plns_len]; omega) (.inl (lineP_ne _ _))
/-- two lines exchanged -/
theorem ans_swap {r : Nat × List Int} {p3 : List (Nat × List Int)} (h : Is (p1 ++ q :: r :: p3)) (hl : (rowsAll (p1 ++ q :: r :: p3)).length ≤ 700) (hn : (p1 ++ q :: r :: p3).length ≤ 600) : Ans (.tup [.tl ((lns 0 p1).map dS ++ [dS (lineL ((rowsAll p1).length + (row q.1 q.2).length) r), dS (lineL (rowsAll p1).length q)] ++ (lns ((rowsAll p1).length + (row q.1 q.2).length + (row r.1 r.2).length) p3).map dS), .int (p1.length : Nat)]) := by
  obtain ⟨h1, hq, h2⟩ := split_is h
  rw [rows_split] at hl
  have e : (rowsAll (r :: p3)).length = (row r.1 r.2).length + (rowsAll p3).length := List.length_append
  rw [List.length_append, List.length_cons, List.length_cons] at hn
  have hp := row_pos hq
  refine ⟨_, _, rfl, ?_⟩
  rw [lnsD ((rowsAll p1).length + (row q.1 q.2).length + (row r.1 r.2).length) p3, List.append_assoc]
  refine Brk.mk (P := lnP ((rowsAll p1).length + (row q.1 q.2).length) r) (R := lnP (rowsAll p1).length q :: plns ((rowsAll p1).length + (row q.1 q.2).length + (row r.1 r.2).length) p3) h1 (by omega) (other_line (by omega) (by omega) (h2 r List.mem_cons_self)) (fun Q hQ => ?_) (by rw [List.length_cons, plns_len]; omega) (.inl (lineP_ne _ _))
  rcases List.mem_cons.mp hQ with rfl | hQ
  · exact lnP_pc (by omega) hq
  · exact plns_pc (fun x hx => h2 x (List.mem_cons_of_mem _ hx)) (by omega) Q hQ
end
end K66
set_option Elab.async false
set_option linter.all false
set_option maxRecDepth 100000
set_option maxHeartbeats 4000000
/-! R22: _law_broken, form by form (printed by gen22.py). -/
namespace K66
open CN
variable {wf k : Nat} {cells : List Int} {rest s : Hs}

def u3_ : Sts := .cons (.ite (.and (.cons (.cmp .eq (.var 7) (.cst (.int 0))) (.cons (.cmp .lt (.bin .add (.var 3) (.cst (.int 1))) (.bi .len (.cons (.var 2) (.nil)))) (.nil)))) (.cons (.ret (.tup (.cons (.bin .add (.sl (.var 2) .no (.so (.var 3))) (.sl (.var 2) (.so (.bin .add (.var 3) (.cst (.int 1)))) .no)) (.cons (.var 3) (.nil))))) (.nil)) (.nil)) (.cons (.ite (.and (.cons (.cmp .eq (.var 7) (.cst (.int 1))) (.cons (.cmp .lt (.bin .add (.var 3) (.cst (.int 1))) (.bi .len (.cons (.var 2) (.nil)))) (.nil)))) (.cons (.ret (.tup (.cons (.bin .add (.bin .add (.sl (.var 2) .no (.so (.var 3))) (.lst (.cons (.idx (.var 2) (.bin .add (.var 3) (.cst (.int 1)))) (.cons (.var 6) (.nil))))) (.sl (.var 2) (.so (.bin .add (.var 3) (.cst (.int 2)))) .no)) (.cons (.var 3) (.nil))))) (.nil)) (.nil)) (.cons (.ite (.cmp .eq (.var 7) (.cst (.int 2))) (.cons (.ret (.tup (.cons (.bin .add (.var 2) (.lst (.cons (.cst (.str "")) (.nil)))) (.cons (.bi .len (.cons (.var 2) (.nil))) (.nil))))) (.nil)) (.nil)) (.cons (u6) (.cons (.ite (.cmp .eq (.var 7) (.cst (.int 3))) (.cons (.asg (.nm 5) (.bin .add (.var 6) (.cst (.str " ")))) (.nil)) (.nil)) (.cons (.ite (.cmp .eq (.var 7) (.cst (.int 4))) (.cons (.asg (.nm 5) (.bin .add (.cst (.str "0")) (.var 6))) (.nil)) (.nil)) (.cons (.ite (.cmp .eq (.var 7) (.cst (.int 5))) (.cons (.asg (.nm 5) (.bm .join (.cst (.str " ")) (.cons (.bin .add (.lst (.cons (.bi .str (.cons (.bin .add (.idx (.idx (.var 1) (.var 3)) (.cst (.int 0))) (.cst (.int 1))) (.nil))) (.nil))) (.sl (.var 4) (.so (.cst (.int 1))) .no)) (.nil)))) (.nil)) (.nil)) (.cons (.ite (.cmp .eq (.var 7) (.cst (.int 6))) (.cons (.asg (.nm 5) (.bin .add (.bin .add (.idx (.var 4) (.cst (.int 0))) (.cst (.str "  "))) (.bm .join (.cst (.str " ")) (.cons (.sl (.var 4) (.so (.cst (.int 1))) .no) (.nil))))) (.nil)) (.nil)) (.cons (.ite (.cmp .eq (.var 7) (.cst (.int 7))) (.cons (.asg (.nm 5) (.bm .join (.cst (.str " ")) (.cons (.bin .add (.lst (.cons (.idx (.var 4) (.cst (.int 0))) (.cons (.idx (.lst (.cons (.cst (.str "nop")) (.cons (.cst (.str "Set")) (.cons (.cst (.str "sets")) (.cons (.cst (.str "15")) (.cons (.cst (.str "r0")) (.nil))))))) (.call 3 (.cons (.var 0) (.cons (.cst (.int 5)) (.nil))))) (.nil)))) (.sl (.var 4) (.so (.cst (.int 2))) .no)) (.nil)))) (.nil)) (.nil)) (.cons (.ite (.cmp .eq (.var 7) (.cst (.int 8))) (.cons (.asg (.nm 5) (.bin .add (.var 6) (.cst (.str " 0")))) (.nil)) (.nil)) (.cons (.ite (.and (.cons (.cmp .eq (.var 7) (.cst (.int 9))) (.cons (.cmp .gt (.bi .len (.cons (.var 4) (.nil))) (.cst (.int 2))) (.nil)))) (.cons (.asg (.nm 5) (.bm .join (.cst (.str " ")) (.cons (.sl (.var 4) .no (.so (.bin .sub (.bi .len (.cons (.var 4) (.nil))) (.cst (.int 1))))) (.nil)))) (.nil)) (.nil)) (.cons (.ite (.cmp .eq (.var 7) (.cst (.int 10))) (.cons (.asg (.nm 5) (.ite (.cmp .gt (.var 3) (.cst (.int 0))) (.cst (.str "")) (.cst (.str "  ")))) (.nil)) (.nil)) (.cons (.ite (.and (.cons (.cmp .gt (.var 7) (.cst (.int 10))) (.cons (.cmp .gt (.bi .len (.cons (.var 4) (.nil))) (.cst (.int 2))) (.nil)))) (.cons (.asg (.nm 8) (.bin .add (.cst (.int 2)) (.call 3 (.cons (.var 0) (.cons (.bin .sub (.bi .len (.cons (.var 4) (.nil))) (.cst (.int 2))) (.nil)))))) (.cons (.asg (.nm 9) (.idx (.lst (.cons (.cst (.str "r8")) (.cons (.cst (.str "65536")) (.cons (.cst (.str "x")) (.cons (.cst (.str "R0")) (.cons (.cst (.str "r01")) (.cons (.cst (.str "-1")) (.cons (.cst (.str "00")) (.cons (.cst (.str "r")) (.cons (.cst (.str "0x1")) (.cons (.cst (.str "r-0")) (.nil)))))))))))) (.call 3 (.cons (.var 0) (.cons (.cst (.int 10)) (.nil)))))) (.cons (.asg (.nm 5) (.bm .join (.cst (.str " ")) (.cons (.bin .add (.bin .add (.sl (.var 4) .no (.so (.var 8))) (.lst (.cons (.var 9) (.nil)))) (.sl (.var 4) (.so (.bin .add (.var 8) (.cst (.int 1)))) .no)) (.nil)))) (.nil)))) (.nil)) (.cons (.ite (.cmp .eq (.var 7) (.cst (.int 13))) (.cons (.ret (.tup (.cons (.bin .add (.bin .add (.sl (.var 2) .no (.so (.var 3))) (.lst (.cons (.idx (.lst (.cons (.ite (.cmp .gt (.var 3) (.cst (.int 0))) (.cst (.str "")) (.cst (.str " "))) (.cons (.cst (.str "  ")) (.cons (.cst (.str "0")) (.cons (.cst (.str "0 stop x")) (.nil)))))) (.call 3 (.cons (.var 0) (.cons (.cst (.int 4)) (.nil))))) (.nil)))) (.sl (.var 2) (.so (.var 3)) .no)) (.cons (.var 3) (.nil))))) (.nil)) (.nil)) (.cons (u17) (.nil)))))))))))))))
theorem u_body2 : i__law_broken.body = .cons u0 (.cons u1 (.cons u2 u3_)) := rfl
section
variable {c : Nat → List D → Hs → Res D} {L : List D} {j : Nat} {W : List (List Nat)} {o : D} {x5 k8 b9 : Sl} {f : Int}
theorem uNoMore (n : Int) (h : ¬ j + 1 < L.length) (b : Sts) : evalS T wf c (.ite (.and (.cons (.cmp .eq (.var 7) (.cst (.int n))) (.cons (.cmp .lt (.bin .add (.var 3) (.cst (.int 1))) (.bi .len (.cons (.var 2) .nil))) .nil))) b .nil) (bE L j W o x5 n k8 b9) s = .ok (.next (bE L j W o x5 n k8 b9)) s := by
  have t := uMore (c := c) (s := s) (L := L) (j := j) (W := W) (o := o) (x5 := x5) (k8 := k8) (b9 := b9) (f := n)
  rw [decide_eq_false h] at t
  exact ite_f (and_t (uEqT n) (and_1 t))
theorem uYesMore (n : Int) (h : j + 1 < L.length) {b : Sts} {r : Res Flow} (hb : evalSs T wf c b (bE L j W o x5 n k8 b9) s = r) : evalS T wf c (.ite (.and (.cons (.cmp .eq (.var 7) (.cst (.int n))) (.cons (.cmp .lt (.bin .add (.var 3) (.cst (.int 1))) (.bi .len (.cons (.var 2) .nil))) .nil))) b .nil) (bE L j W o x5 n k8 b9) s = r := by
  have t := uMore (c := c) (s := s) (L := L) (j := j) (W := W) (o := o) (x5 := x5) (k8 := k8) (b9 := b9) (f := n)
  rw [decide_eq_true h] at t
  exact ite_tn (and_t (uEqT n) (and_1 t)) hb
theorem uNoW (n : Int) (h : ¬ 2 < W.length) (b : Sts) : evalS T wf c (.ite (.and (.cons (.cmp .eq (.var 7) (.cst (.int n))) (.cons (.cmp .gt (.bi .len (.cons (.var 4) .nil)) (.cst (.int 2))) .nil))) b .nil) (bE L j W o x5 n k8 b9) s = .ok (.next (bE L j W o x5 n k8 b9)) s := by
  have t := uWds (c := c) (s := s) (L := L) (j := j) (W := W) (o := o) (x5 := x5) (k8 := k8) (b9 := b9) (f := n)
  rw [decide_eq_false h] at t
  exact ite_f (and_t (uEqT n) (and_1 t))
theorem uYesW (n : Int) (h : 2 < W.length) {b : Sts} {r : Res Flow} (hb : evalSs T wf c b (bE L j W o x5 n k8 b9) s = r) : evalS T wf c (.ite (.and (.cons (.cmp .eq (.var 7) (.cst (.int n))) (.cons (.cmp .gt (.bi .len (.cons (.var 4) .nil)) (.cst (.int 2))) .nil))) b .nil) (bE L j W o x5 n k8 b9) s = r := by
  have t := uWds (c := c) (s := s) (L := L) (j := j) (W := W) (o := o) (x5 := x5) (k8 := k8) (b9 := b9) (f := n)
  rw [decide_eq_true h] at t
  exact ite_tn (and_t (uEqT n) (and_1 t)) hb
theorem uGt (n : Int) (h : 10 < n) : (evP T c (.cmp .gt (.var 7) (.cst (.int 10)))).t (bE L j W o x5 n k8 b9) s = .ok true s := by
  have t := cgt_ii T.tabs s n 10
  rw [decide_eq_true h] at t
  exact ev_cmpT (ev_var rfl) rfl t
theorem uNoG {n : Int} (hn : 10 < n) (h : ¬ 2 < W.length) (b : Sts) : evalS T wf c (.ite (.and (.cons (.cmp .gt (.var 7) (.cst (.int 10))) (.cons (.cmp .gt (.bi .len (.cons (.var 4) .nil)) (.cst (.int 2))) .nil))) b .nil) (bE L j W o x5 n k8 b9) s = .ok (.next (bE L j W o x5 n k8 b9)) s := by
  have t := uWds (c := c) (s := s) (L := L) (j := j) (W := W) (o := o) (x5 := x5) (k8 := k8) (b9 := b9) (f := n)
  rw [decide_eq_false h] at t
  exact ite_f (and_t (uGt n hn) (and_1 t))
theorem uYesG {n : Int} (hn : 10 < n) (h : 2 < W.length) {b : Sts} {r : Res Flow} (hb : evalSs T wf c b (bE L j W o x5 n k8 b9) s = r) : evalS T wf c (.ite (.and (.cons (.cmp .gt (.var 7) (.cst (.int 10))) (.cons (.cmp .gt (.bi .len (.cons (.var 4) .nil)) (.cst (.int 2))) .nil))) b .nil) (bE L j W o x5 n k8 b9) s = r := by
  have t := uWds (c := c) (s := s) (L := L) (j := j) (W := W) (o := o) (x5 := x5) (k8 := k8) (b9 := b9) (f := n)
  rw [decide_eq_true h] at t
  exact ite_tn (and_t (uGt n hn) (and_1 t)) hb
end
section
variable {p1 p2 : List (Nat × List Int)} {q : Nat × List Int} (h : Is (p1 ++ q :: p2)) (hl : (rowsAll (p1 ++ q :: p2)).length ≤ 700) (hn : (p1 ++ q :: p2).length ≤ 600) (hc : 0 < cells.length) (hJ : JarS cells rest s) (hr : rest[0]? = some (.lst (prs 0 (p1 ++ q :: p2))))
include h hl hn
theorem fA : ((lns 0 p1).map dS).length = p1.length := by rw [List.length_map, lns_len]
theorem fL : ((lns 0 p1).map dS).length + ((lns ((rowsAll p1).length + (row q.1 q.2).length) p2).map dS).length + 2 ≤ 5000 := by
  rw [List.length_map, List.length_map, lns_len, lns_len]
  rw [List.length_append, List.length_cons] at hn
  omega
theorem fa : (rowsAll p1).length < 90000 := by
  rw [rows_split] at hl
  omega
theorem fLen : ((((lns 0 p1).map dS) ++ dS (lineL (rowsAll p1).length q) :: ((lns ((rowsAll p1).length + (row q.1 q.2).length) p2).map dS))).length = p1.length + 1 + p2.length := by
  rw [List.length_append, List.length_cons, List.length_map, List.length_map, lns_len, lns_len]
  omega

include hJ
theorem b3 : ∃ r s', Ans r ∧ JarS cells rest s' ∧ evalSs T wf (runFn T wf (k + 1)) u3_ (bE (((lns 0 p1).map dS) ++ dS (lineL (rowsAll p1).length q) :: ((lns ((rowsAll p1).length + (row q.1 q.2).length) p2).map dS)) p1.length (lnP (rowsAll p1).length q) (dS (lineL (rowsAll p1).length q)) .no 3 .no .no) s = .ok (.ret r) s' := by
  have hq := (split_is h).2.1
  have ha := fa h hl hn
  have hA := fA h hl hn
  have hL := fL h hl hn
  exact ⟨_, s, ans_new h hl hn (P := lnP (rowsAll p1).length q ++ [[]]) (nb3 ha hq) (.inl (by rw [joinL_snoc [] (W := lnP (rowsAll p1).length q) (by simp)]; simp)), hJ, by unfold u3_; rw [nx (uSkipA (by decide) _ _), nx (uSkipA (by decide) _ _), nx (uSkip (by decide) _), nx (u6_ok ha hq), nx (uYes 3 (nx (n3_asg ha hq))), nx (uSkip (by decide) _), nx (uSkip (by decide) _), nx (uSkip (by decide) _), nx (uSkip (by decide) _), nx (uSkip (by decide) _), nx (uSkipA (by decide) _ _), nx (uSkip (by decide) _), nx (uSkipG (by decide) _ _), nx (uSkip (by decide) _), rt (u17_ok hA hL)]⟩
include hJ
theorem b4 : ∃ r s', Ans r ∧ JarS cells rest s' ∧ evalSs T wf (runFn T wf (k + 1)) u3_ (bE (((lns 0 p1).map dS) ++ dS (lineL (rowsAll p1).length q) :: ((lns ((rowsAll p1).length + (row q.1 q.2).length) p2).map dS)) p1.length (lnP (rowsAll p1).length q) (dS (lineL (rowsAll p1).length q)) .no 4 .no .no) s = .ok (.ret r) s' := by
  have hq := (split_is h).2.1
  have ha := fa h hl hn
  have hA := fA h hl hn
  have hL := fL h hl hn
  exact ⟨_, s, ans_new h hl hn (P := (48 :: numL (rowsAll p1).length) :: pcs q) (nb4 ha hq) (.inl (by rw [joinL_cons (48 :: numL (rowsAll p1).length) (W := pcs q) (List.cons_ne_nil _ _)]; simp)), hJ, by unfold u3_; rw [nx (uSkipA (by decide) _ _), nx (uSkipA (by decide) _ _), nx (uSkip (by decide) _), nx (u6_ok ha hq), nx (uSkip (by decide) _), nx (uYes 4 (nx (n4_asg ha hq))), nx (uSkip (by decide) _), nx (uSkip (by decide) _), nx (uSkip (by decide) _), nx (uSkip (by decide) _), nx (uSkipA (by decide) _ _), nx (uSkip (by decide) _), nx (uSkipG (by decide) _ _), nx (uSkip (by decide) _), rt (u17_ok hA hL)]⟩
include hJ
theorem b6 : ∃ r s', Ans r ∧ JarS cells rest s' ∧ evalSs T wf (runFn T wf (k + 1)) u3_ (bE (((lns 0 p1).map dS) ++ dS (lineL (rowsAll p1).length q) :: ((lns ((rowsAll p1).length + (row q.1 q.2).length) p2).map dS)) p1.length (lnP (rowsAll p1).length q) (dS (lineL (rowsAll p1).length q)) .no 6 .no .no) s = .ok (.ret r) s' := by
  have hq := (split_is h).2.1
  have ha := fa h hl hn
  have hA := fA h hl hn
  have hL := fL h hl hn
  exact ⟨_, s, ans_new h hl hn (P := numL (rowsAll p1).length :: [] :: pcs q) (nb6 ha hq) (.inl (lineP_ne _ _)), hJ, by unfold u3_; rw [nx (uSkipA (by decide) _ _), nx (uSkipA (by decide) _ _), nx (uSkip (by decide) _), nx (u6_ok ha hq), nx (uSkip (by decide) _), nx (uSkip (by decide) _), nx (uSkip (by decide) _), nx (uYes 6 (nx (n6_asg ha hq))), nx (uSkip (by decide) _), nx (uSkip (by decide) _), nx (uSkipA (by decide) _ _), nx (uSkip (by decide) _), nx (uSkipG (by decide) _ _), nx (uSkip (by decide) _), rt (u17_ok hA hL)]⟩
include hJ
theorem b8 : ∃ r s', Ans r ∧ JarS cells rest s' ∧ evalSs T wf (runFn T wf (k + 1)) u3_ (bE (((lns 0 p1).map dS) ++ dS (lineL (rowsAll p1).length q) :: ((lns ((rowsAll p1).length + (row q.1 q.2).length) p2).map dS)) p1.length (lnP (rowsAll p1).length q) (dS (lineL (rowsAll p1).length q)) .no 8 .no .no) s = .ok (.ret r) s' := by
  have hq := (split_is h).2.1
  have ha := fa h hl hn
  have hA := fA h hl hn
  have hL := fL h hl hn
  exact ⟨_, s, ans_new h hl hn (P := lnP (rowsAll p1).length q ++ [[48]]) (nb8 ha hq) (.inl (by rw [joinL_snoc [48] (W := lnP (rowsAll p1).length q) (by simp)]; simp)), hJ, by unfold u3_; rw [nx (uSkipA (by decide) _ _), nx (uSkipA (by decide) _ _), nx (uSkip (by decide) _), nx (u6_ok ha hq), nx (uSkip (by decide) _), nx (uSkip (by decide) _), nx (uSkip (by decide) _), nx (uSkip (by decide) _), nx (uSkip (by decide) _), nx (uYes 8 (nx (n8_asg ha hq))), nx (uSkipA (by decide) _ _), nx (uSkip (by decide) _), nx (uSkipG (by decide) _ _), nx (uSkip (by decide) _), rt (u17_ok hA hL)]⟩
include hr
theorem b5 : ∃ r s', Ans r ∧ JarS cells rest s' ∧ evalSs T wf (runFn T wf (k + 1)) u3_ (bE (((lns 0 p1).map dS) ++ dS (lineL (rowsAll p1).length q) :: ((lns ((rowsAll p1).length + (row q.1 q.2).length) p2).map dS)) p1.length (lnP (rowsAll p1).length q) (dS (lineL (rowsAll p1).length q)) .no 5 .no .no) s = .ok (.ret r) s' := by
  have hq := (split_is h).2.1
  have ha := fa h hl hn
  have hA := fA h hl hn
  have hL := fL h hl hn
  have hs : s[1]? = some (.lst (prs 0 (p1 ++ q :: p2))) := by
    obtain ⟨i, l, d, _, _, _, rfl⟩ := hJ
    exact hr
  have hp := prs_get 0 p1 q p2
  rw [Nat.zero_add] at hp
  exact ⟨_, s, ans_new h hl hn (P := numL ((rowsAll p1).length + 1) :: pcs q) (nb5 ha hq) (.inl (lineP_ne _ _)), hJ, by unfold u3_; rw [nx (uSkipA (by decide) _ _), nx (uSkipA (by decide) _ _), nx (uSkip (by decide) _), nx (u6_ok ha hq), nx (uSkip (by decide) _), nx (uSkip (by decide) _), nx (uYes 5 (nx (n5_asg (ps := p1 ++ q :: p2) ha hq hs hp))), nx (uSkip (by decide) _), nx (uSkip (by decide) _), nx (uSkip (by decide) _), nx (uSkipA (by decide) _ _), nx (uSkip (by decide) _), nx (uSkipG (by decide) _ _), nx (uSkip (by decide) _), rt (u17_ok hA hL)]⟩
omit hr
theorem b0no (he : p2 = []) : ∃ r s', Ans r ∧ JarS cells rest s' ∧ evalSs T wf (runFn T wf (k + 1)) u3_ (bE (((lns 0 p1).map dS) ++ dS (lineL (rowsAll p1).length q) :: ((lns ((rowsAll p1).length + (row q.1 q.2).length) p2).map dS)) p1.length (lnP (rowsAll p1).length q) (dS (lineL (rowsAll p1).length q)) .no 0 .no .no) s = .ok (.ret r) s' := by
  have he2 : p2.length = 0 := by rw [he]; rfl
  have hq := (split_is h).2.1
  have ha := fa h hl hn
  have hA := fA h hl hn
  have hL := fL h hl hn
  exact ⟨_, s, ans_new h hl hn (P := [] :: lnP (rowsAll p1).length q) (nb_default ha hq) (.inl (by rw [joinL_cons [] (W := lnP (rowsAll p1).length q) (by simp)]; simp)), hJ, by unfold u3_; rw [nx (uNoMore 0 (by rw [fLen h hl hn]; omega) _), nx (uSkipA (by decide) _ _), nx (uSkip (by decide) _), nx (u6_ok ha hq), nx (uSkip (by decide) _), nx (uSkip (by decide) _), nx (uSkip (by decide) _), nx (uSkip (by decide) _), nx (uSkip (by decide) _), nx (uSkip (by decide) _), nx (uSkipA (by decide) _ _), nx (uSkip (by decide) _), nx (uSkipG (by decide) _ _), nx (uSkip (by decide) _), rt (u17_ok hA hL)]⟩
theorem b1no (he : p2 = []) : ∃ r s', Ans r ∧ JarS cells rest s' ∧ evalSs T wf (runFn T wf (k + 1)) u3_ (bE (((lns 0 p1).map dS) ++ dS (lineL (rowsAll p1).length q) :: ((lns ((rowsAll p1).length + (row q.1 q.2).length) p2).map dS)) p1.length (lnP (rowsAll p1).length q) (dS (lineL (rowsAll p1).length q)) .no 1 .no .no) s = .ok (.ret r) s' := by
  have he2 : p2.length = 0 := by rw [he]; rfl
  have hq := (split_is h).2.1
  have ha := fa h hl hn
  have hA := fA h hl hn
  have hL := fL h hl hn
  exact ⟨_, s, ans_new h hl hn (P := [] :: lnP (rowsAll p1).length q) (nb_default ha hq) (.inl (by rw [joinL_cons [] (W := lnP (rowsAll p1).length q) (by simp)]; simp)), hJ, by unfold u3_; rw [nx (uSkipA (by decide) _ _), nx (uNoMore 1 (by rw [fLen h hl hn]; omega) _), nx (uSkip (by decide) _), nx (u6_ok ha hq), nx (uSkip (by decide) _), nx (uSkip (by decide) _), nx (uSkip (by decide) _), nx (uSkip (by decide) _), nx (uSkip (by decide) _), nx (uSkip (by decide) _), nx (uSkipA (by decide) _ _), nx (uSkip (by decide) _), nx (uSkipG (by decide) _ _), nx (uSkip (by decide) _), rt (u17_ok hA hL)]⟩
theorem b2 : ∃ r s', Ans r ∧ JarS cells rest s' ∧ evalSs T wf (runFn T wf (k + 1)) u3_ (bE (((lns 0 p1).map dS) ++ dS (lineL (rowsAll p1).length q) :: ((lns ((rowsAll p1).length + (row q.1 q.2).length) p2).map dS)) p1.length (lnP (rowsAll p1).length q) (dS (lineL (rowsAll p1).length q)) .no 2 .no .no) s = .ok (.ret r) s' := by
  have hq := (split_is h).2.1
  have ha := fa h hl hn
  have hA := fA h hl hn
  have hL := fL h hl hn
  have e : (((lns 0 p1).map dS) ++ dS (lineL (rowsAll p1).length q) :: ((lns ((rowsAll p1).length + (row q.1 q.2).length) p2).map dS)) = (lns 0 (p1 ++ q :: p2)).map dS := by
    rw [lns_app, List.map_append, Nat.zero_add]
    rfl
  have t : evalSs T wf (runFn T wf (k + 1)) (.cons (.ret (.tup (.cons (.bin .add (.var 2) (.lst (.cons (.cst (.str "")) .nil))) (.cons (.bi .len (.cons (.var 2) .nil)) .nil)))) .nil) (bE (((lns 0 p1).map dS) ++ dS (lineL (rowsAll p1).length q) :: ((lns ((rowsAll p1).length + (row q.1 q.2).length) p2).map dS)) p1.length (lnP (rowsAll p1).length q) (dS (lineL (rowsAll p1).length q)) .no 2 .no .no) s = .ok (.ret (.tup [.tl ((lns 0 (p1 ++ q :: p2)).map dS ++ [dS []]), .int ((p1 ++ q :: p2).length : Nat)])) s := by
    have e2 : D.int ((((((lns 0 p1).map dS) ++ dS (lineL (rowsAll p1).length q) :: ((lns ((rowsAll p1).length + (row q.1 q.2).length) p2).map dS))).length : Nat) : Int) = .int ((p1 ++ q :: p2).length : Nat) := by rw [e, List.length_map, lns_len]
    rw [← e2, ← e, ← d_e]
    exact rt (ret_ok (ev_tup (as1 (ev_bin (ev_var rfl) (ev_lst (as1 rfl as0) (by show 1 ≤ 5000; decide)) (addL s _ _ (by rw [fLen h hl hn]; rw [List.length_append, List.length_cons] at hn; show _ + 1 ≤ 5000; omega))) (as1 (ev_bi (as1 (ev_var rfl) as0) (len_tl s _)) as0)) (by show 2 ≤ 5000; decide)))
  exact ⟨_, s, ans_end h hl hn, hJ, by unfold u3_; rw [nx (uSkipA (by decide) _ _), nx (uSkipA (by decide) _ _), rt (uYes 2 t)]⟩
theorem b10 : ∃ r s', Ans r ∧ JarS cells rest s' ∧ evalSs T wf (runFn T wf (k + 1)) u3_ (bE (((lns 0 p1).map dS) ++ dS (lineL (rowsAll p1).length q) :: ((lns ((rowsAll p1).length + (row q.1 q.2).length) p2).map dS)) p1.length (lnP (rowsAll p1).length q) (dS (lineL (rowsAll p1).length q)) .no 10 .no .no) s = .ok (.ret r) s' := by
  have hq := (split_is h).2.1
  have ha := fa h hl hn
  have hA := fA h hl hn
  have hL := fL h hl hn
  by_cases h0 : 0 < p1.length
  · have ne : p1 ≠ [] := fun z => by rw [z] at h0; exact absurd h0 (by decide)
    exact ⟨_, s, ans_new h hl hn (P := [[]]) nbE (.inr ne), hJ, by unfold u3_; rw [nx (uSkipA (by decide) _ _), nx (uSkipA (by decide) _ _), nx (uSkip (by decide) _), nx (u6_ok ha hq), nx (uSkip (by decide) _), nx (uSkip (by decide) _), nx (uSkip (by decide) _), nx (uSkip (by decide) _), nx (uSkip (by decide) _), nx (uSkip (by decide) _), nx (uSkipA (by decide) _ _), nx (uYes 10 (nx n10_asg)), nx (uSkipG (by decide) _ _), nx (uSkip (by decide) _), rt (u17_ok hA hL), if_pos h0]⟩
  · exact ⟨_, s, ans_new h hl hn (P := [[], [], []]) nbE3 (.inl (by decide)), hJ, by unfold u3_; rw [nx (uSkipA (by decide) _ _), nx (uSkipA (by decide) _ _), nx (uSkip (by decide) _), nx (u6_ok ha hq), nx (uSkip (by decide) _), nx (uSkip (by decide) _), nx (uSkip (by decide) _), nx (uSkip (by decide) _), nx (uSkip (by decide) _), nx (uSkip (by decide) _), nx (uSkipA (by decide) _ _), nx (uYes 10 (nx n10_asg)), nx (uSkipG (by decide) _ _), nx (uSkip (by decide) _), rt (u17_ok hA hL), if_neg h0]⟩
theorem b9 : ∃ r s', Ans r ∧ JarS cells rest s' ∧ evalSs T wf (runFn T wf (k + 1)) u3_ (bE (((lns 0 p1).map dS) ++ dS (lineL (rowsAll p1).length q) :: ((lns ((rowsAll p1).length + (row q.1 q.2).length) p2).map dS)) p1.length (lnP (rowsAll p1).length q) (dS (lineL (rowsAll p1).length q)) .no 9 .no .no) s = .ok (.ret r) s' := by
  have hq := (split_is h).2.1
  have ha := fa h hl hn
  have hA := fA h hl hn
  have hL := fL h hl hn
  have el : (lnP (rowsAll p1).length q).length = (opsL (sh q.1) q.2).length + 2 := rfl
  by_cases hw : 2 < (lnP (rowsAll p1).length q).length
  · exact ⟨_, s, ans_new h hl hn (nb9 ha hq (by rw [el] at hw; omega)) (.inl (lineP_ne _ _)), hJ, by unfold u3_; rw [nx (uSkipA (by decide) _ _), nx (uSkipA (by decide) _ _), nx (uSkip (by decide) _), nx (u6_ok ha hq), nx (uSkip (by decide) _), nx (uSkip (by decide) _), nx (uSkip (by decide) _), nx (uSkip (by decide) _), nx (uSkip (by decide) _), nx (uSkip (by decide) _), nx (uYesW 9 hw (nx (n9_asg ha hq (by rw [el] at hw; omega)))), nx (uSkip (by decide) _), nx (uSkipG (by decide) _ _), nx (uSkip (by decide) _), rt (u17_ok hA hL)]⟩
  · exact ⟨_, s, ans_new h hl hn (P := [] :: lnP (rowsAll p1).length q) (nb_default ha hq) (.inl (by rw [joinL_cons [] (W := lnP (rowsAll p1).length q) (by simp)]; simp)), hJ, by unfold u3_; rw [nx (uSkipA (by decide) _ _), nx (uSkipA (by decide) _ _), nx (uSkip (by decide) _), nx (u6_ok ha hq), nx (uSkip (by decide) _), nx (uSkip (by decide) _), nx (uSkip (by decide) _), nx (uSkip (by decide) _), nx (uSkip (by decide) _), nx (uSkip (by decide) _), nx (uNoW 9 hw _), nx (uSkip (by decide) _), nx (uSkipG (by decide) _ _), nx (uSkip (by decide) _), rt (u17_ok hA hL)]⟩
include hc
theorem b7 : ∃ r s', Ans r ∧ JarS cells rest s' ∧ evalSs T wf (runFn T wf (k + 1)) u3_ (bE (((lns 0 p1).map dS) ++ dS (lineL (rowsAll p1).length q) :: ((lns ((rowsAll p1).length + (row q.1 q.2).length) p2).map dS)) p1.length (lnP (rowsAll p1).length q) (dS (lineL (rowsAll p1).length q)) .no 7 .no .no) s = .ok (.ret r) s' := by
  have hq := (split_is h).2.1
  have ha := fa h hl hn
  have hA := fA h hl hn
  have hL := fL h hl hn
  obtain ⟨b, s1, hb, j1, t⟩ := n7_asg (wf := wf) (k := k) (L := (((lns 0 p1).map dS) ++ dS (lineL (rowsAll p1).length q) :: ((lns ((rowsAll p1).length + (row q.1 q.2).length) p2).map dS))) (j := p1.length) (x5 := .has (dS (joinL [32] ([] :: lnP (rowsAll p1).length q)))) (k8 := .no) (b9 := .no) (f := 7) ha hq hc hJ
  exact ⟨_, s1, ans_new h hl hn (nb7 ha hq hb) (.inl (lineP_ne _ _)), j1, by unfold u3_; rw [nx (uSkipA (by decide) _ _), nx (uSkipA (by decide) _ _), nx (uSkip (by decide) _), nx (u6_ok ha hq), nx (uSkip (by decide) _), nx (uSkip (by decide) _), nx (uSkip (by decide) _), nx (uSkip (by decide) _), nx (uYes 7 (nx t)), nx (uSkip (by decide) _), nx (uSkipA (by decide) _ _), nx (uSkip (by decide) _), nx (uSkipG (by decide) _ _), nx (uSkip (by decide) _), rt (u17_ok hA hL)]⟩
theorem b11 : ∃ r s', Ans r ∧ JarS cells rest s' ∧ evalSs T wf (runFn T wf (k + 1)) u3_ (bE (((lns 0 p1).map dS) ++ dS (lineL (rowsAll p1).length q) :: ((lns ((rowsAll p1).length + (row q.1 q.2).length) p2).map dS)) p1.length (lnP (rowsAll p1).length q) (dS (lineL (rowsAll p1).length q)) .no 11 .no .no) s = .ok (.ret r) s' := by
  have hq := (split_is h).2.1
  have ha := fa h hl hn
  have hA := fA h hl hn
  have hL := fL h hl hn
  have el : (lnP (rowsAll p1).length q).length = (opsL (sh q.1) q.2).length + 2 := rfl
  by_cases hw : 2 < (lnP (rowsAll p1).length q).length
  · obtain ⟨b, d, s1, k8', b9', hb, hd, j1, t⟩ := n11_blk (wf := wf) (k := k) (L := (((lns 0 p1).map dS) ++ dS (lineL (rowsAll p1).length q) :: ((lns ((rowsAll p1).length + (row q.1 q.2).length) p2).map dS))) (j := p1.length) (x5 := .has (dS (joinL [32] ([] :: lnP (rowsAll p1).length q)))) (k8 := .no) (b9 := .no) (f := 11) ha hq (by rw [el] at hw; omega) hc hJ
    exact ⟨_, s1, ans_new h hl hn (nb11 ha hq hb hd) (.inl (lineP_ne _ _)), j1, by unfold u3_; rw [nx (uSkipA (by decide) _ _), nx (uSkipA (by decide) _ _), nx (uSkip (by decide) _), nx (u6_ok ha hq), nx (uSkip (by decide) _), nx (uSkip (by decide) _), nx (uSkip (by decide) _), nx (uSkip (by decide) _), nx (uSkip (by decide) _), nx (uSkip (by decide) _), nx (uSkipA (by decide) _ _), nx (uSkip (by decide) _), nx (uYesG (by decide) hw t), nx (uSkip (by decide) _), rt (u17_ok hA hL)]⟩
  · exact ⟨_, s, ans_new h hl hn (P := [] :: lnP (rowsAll p1).length q) (nb_default ha hq) (.inl (by rw [joinL_cons [] (W := lnP (rowsAll p1).length q) (by simp)]; simp)), hJ, by unfold u3_; rw [nx (uSkipA (by decide) _ _), nx (uSkipA (by decide) _ _), nx (uSkip (by decide) _), nx (u6_ok ha hq), nx (uSkip (by decide) _), nx (uSkip (by decide) _), nx (uSkip (by decide) _), nx (uSkip (by decide) _), nx (uSkip (by decide) _), nx (uSkip (by decide) _), nx (uSkipA (by decide) _ _), nx (uSkip (by decide) _), nx (uNoG (by decide) hw _), nx (uSkip (by decide) _), rt (u17_ok hA hL)]⟩
theorem b12 : ∃ r s', Ans r ∧ JarS cells rest s' ∧ evalSs T wf (runFn T wf (k + 1)) u3_ (bE (((lns 0 p1).map dS) ++ dS (lineL (rowsAll p1).length q) :: ((lns ((rowsAll p1).length + (row q.1 q.2).length) p2).map dS)) p1.length (lnP (rowsAll p1).length q) (dS (lineL (rowsAll p1).length q)) .no 12 .no .no) s = .ok (.ret r) s' := by
  have hq := (split_is h).2.1
  have ha := fa h hl hn
  have hA := fA h hl hn
  have hL := fL h hl hn
  have el : (lnP (rowsAll p1).length q).length = (opsL (sh q.1) q.2).length + 2 := rfl
  by_cases hw : 2 < (lnP (rowsAll p1).length q).length
  · obtain ⟨b, d, s1, k8', b9', hb, hd, j1, t⟩ := n11_blk (wf := wf) (k := k) (L := (((lns 0 p1).map dS) ++ dS (lineL (rowsAll p1).length q) :: ((lns ((rowsAll p1).length + (row q.1 q.2).length) p2).map dS))) (j := p1.length) (x5 := .has (dS (joinL [32] ([] :: lnP (rowsAll p1).length q)))) (k8 := .no) (b9 := .no) (f := 12) ha hq (by rw [el] at hw; omega) hc hJ
    exact ⟨_, s1, ans_new h hl hn (nb11 ha hq hb hd) (.inl (lineP_ne _ _)), j1, by unfold u3_; rw [nx (uSkipA (by decide) _ _), nx (uSkipA (by decide) _ _), nx (uSkip (by decide) _), nx (u6_ok ha hq), nx (uSkip (by decide) _), nx (uSkip (by decide) _), nx (uSkip (by decide) _), nx (uSkip (by decide) _), nx (uSkip (by decide) _), nx (uSkip (by decide) _), nx (uSkipA (by decide) _ _), nx (uSkip (by decide) _), nx (uYesG (by decide) hw t), nx (uSkip (by decide) _), rt (u17_ok hA hL)]⟩
  · exact ⟨_, s, ans_new h hl hn (P := [] :: lnP (rowsAll p1).length q) (nb_default ha hq) (.inl (by rw [joinL_cons [] (W := lnP (rowsAll p1).length q) (by simp)]; simp)), hJ, by unfold u3_; rw [nx (uSkipA (by decide) _ _), nx (uSkipA (by decide) _ _), nx (uSkip (by decide) _), nx (u6_ok ha hq), nx (uSkip (by decide) _), nx (uSkip (by decide) _), nx (uSkip (by decide) _), nx (uSkip (by decide) _), nx (uSkip (by decide) _), nx (uSkip (by decide) _), nx (uSkipA (by decide) _ _), nx (uSkip (by decide) _), nx (uNoG (by decide) hw _), nx (uSkip (by decide) _), rt (u17_ok hA hL)]⟩
end
end K66
set_option Elab.async false
set_option linter.all false
set_option maxRecDepth 100000
set_option maxHeartbeats 4000000
/-! R23: _law_broken: the other forms; _law_unread (printed by gen23.py). -/
namespace K66
open CN
variable {wf k : Nat} {cells : List Int} {rest s : Hs}
theorem take_at {α : Type} (A : List α) (o : α) (B : List α) : (A ++ o :: B).take A.length = A := List.take_left
theorem drop_at {α : Type} (A : List α) (o : α) (B : List α) : (A ++ o :: B).drop A.length = o :: B := List.drop_left
theorem drop_at1 {α : Type} (A : List α) (o : α) (B : List α) : (A ++ o :: B).drop (A.length + 1) = B := by
  rw [← List.drop_drop, List.drop_left]
  rfl
section
variable {c : Nat → List D → Hs → Res D} {j : Nat} {W : List (List Nat)} {o : D} {x5 k8 b9 : Sl} {f : Int} {A B : List D}
theorem ret0_ok (hA : A.length = j) (hl : A.length + B.length + 2 ≤ 5000) : evalSs T wf c (.cons (.ret (.tup (.cons (.bin .add (.sl (.var 2) .no (.so (.var 3))) (.sl (.var 2) (.so (.bin .add (.var 3) (.cst (.int 1)))) .no)) (.cons (.var 3) (.nil))))) (.nil)) (bE (A ++ o :: B) j W o x5 f k8 b9) s = .ok (.ret (.tup [.tl (A ++ B), .int (j : Int)])) s := by
  subst hA
  have t1 := slL_to s (A ++ o :: B) A.length
  rw [take_at] at t1
  have t2 := slL_from s (A ++ o :: B) (A.length + 1)
  rw [drop_at1] at t2
  exact rt (ret_ok (ev_tup (as1 (ev_bin (ev_sl0 (ev_var rfl) (ev_var rfl) t1) (ev_sl1 (i := ((A.length + 1 : Nat) : Int)) (ev_var rfl) (ev_bin (ev_var rfl) rfl rfl) t2) (addL s A B (by omega))) (as1 (ev_var rfl) as0)) (by show 2 ≤ 5000; decide)))
theorem ret1_ok {o2 : D} (hA : A.length = j) (hl : A.length + B.length + 3 ≤ 5000) : evalSs T wf c (.cons (.ret (.tup (.cons (.bin .add (.bin .add (.sl (.var 2) .no (.so (.var 3))) (.lst (.cons (.idx (.var 2) (.bin .add (.var 3) (.cst (.int 1)))) (.cons (.var 6) (.nil))))) (.sl (.var 2) (.so (.bin .add (.var 3) (.cst (.int 2)))) .no)) (.cons (.var 3) (.nil))))) (.nil)) (bE (A ++ o :: o2 :: B) j W o x5 f k8 b9) s = .ok (.ret (.tup [.tl (A ++ [o2, o] ++ B), .int (j : Int)])) s := by
  subst hA
  have t1 := slL_to s (A ++ o :: o2 :: B) A.length
  rw [take_at] at t1
  have t2 := slL_from s (A ++ o :: o2 :: B) (A.length + 2)
  have e2 : (A ++ o :: o2 :: B).drop (A.length + 2) = B := by
    rw [← List.drop_drop, List.drop_left]
    rfl
  rw [e2] at t2
  have t3 : idxop T.tabs s (.tl (A ++ o :: o2 :: B)) (.int ((A.length + 1 : Nat) : Int)) = some o2 := idxL _ _ _ _ (by simp)
  exact rt (ret_ok (ev_tup (as1 (ev_bin (ev_bin (ev_sl0 (ev_var rfl) (ev_var rfl) t1) (ev_lst (as1 (ev_idx (y := .int ((A.length + 1 : Nat) : Int)) (ev_var rfl) (ev_bin (ev_var rfl) rfl rfl) t3) (as1 (ev_var rfl) as0)) (by show 2 ≤ 5000; decide)) (addL s A [o2, o] (by simp; omega))) (ev_sl1 (i := ((A.length + 2 : Nat) : Int)) (ev_var rfl) (ev_bin (ev_var rfl) rfl rfl) t2) (addL s (A ++ [o2, o]) B (by simp; omega))) (as1 (ev_var rfl) as0)) (by show 2 ≤ 5000; decide)))
abbrev e13 : Ex := .idx (.lst (.cons (.ite (.cmp .gt (.var 3) (.cst (.int 0))) (.cst (.str "")) (.cst (.str " "))) (.cons (.cst (.str "  ")) (.cons (.cst (.str "0")) (.cons (.cst (.str "0 stop x")) (.nil)))))) (.call 3 (.cons (.var 0) (.cons (.cst (.int 4)) (.nil))))
theorem e13_ok {L : List D} (hc : 0 < cells.length) (hJ : JarS cells rest s) (a : Nat) : ∃ P s', Nb a P ∧ JarS cells rest s' ∧ (evP T (runFn T wf (k + 1)) e13).e (bE L j W o x5 f k8 b9) s = .ok (dS (joinL [32] P)) s' := by
  obtain ⟨v, s1, v0, v1, j1, h1⟩ := drawK (wf := wf) (k := k) hc hJ (show (0 : Int) < 4 by decide) (by decide)
  have t := gt_nat T.tabs s j 0
  have d2 : (D.str "  ") = dS (joinL [32] [[], [], []]) := congrArg D.str (tx "  " [32, 32] (by decide +kernel))
  have d3 : (D.str "0") = dS (joinL [32] [[48]]) := d_0
  have d4 : (D.str "0 stop x") = dS (joinL [32] [[48], [115, 116, 111, 112], [120]]) := congrArg D.str (tx "0 stop x" [48, 32, 115, 116, 111, 112, 32, 120] (by decide +kernel))
  have d1 : (D.str " ") = dS (joinL [32] [[], []]) := d_sp
  have d0 : (D.str "") = dS (joinL [32] [[]]) := d_e
  obtain ⟨x, hx, hP0⟩ : ∃ x P, x = dS (joinL [32] P) ∧ Nb a P ∧ (evP T (runFn T wf (k + 1)) (.ite (.cmp .gt (.var 3) (.cst (.int 0))) (.cst (.str "")) (.cst (.str " ")))).e (bE L j W o x5 f k8 b9) s = .ok x s := by
    by_cases h0 : 0 < j
    · rw [decide_eq_true h0] at t
      exact ⟨.str "", [[]], d0, nbE, ev_iteT (ev_cmpT (ev_var rfl) rfl t) rfl⟩
    · rw [decide_eq_false h0] at t
      exact ⟨.str " ", [[], []], d1, nbE2, ev_iteF (ev_cmpT (ev_var rfl) rfl t) rfl⟩
  obtain ⟨y, py, P, rfl, hN⟩ := pickL (xs := [x, D.str "  ", .str "0", .str "0 stop x"]) (fun y => ∃ P, y = dS (joinL [32] P) ∧ Nb a P) v0 v1 (by
    intro z hz
    simp only [List.mem_cons, List.not_mem_nil, or_false] at hz
    rcases hz with rfl | rfl | rfl | rfl
    · exact ⟨hx, hP0.1, hP0.2.1⟩
    · exact ⟨_, d2, nbE3⟩
    · exact ⟨_, d3, nb0⟩
    · exact ⟨_, d4, nb0s⟩)
  exact ⟨P, s1, hN, j1, ev_idx (ev_lst (as1 hP0.2.2 (as1 rfl (as1 rfl (as1 rfl as0)))) (by show 4 ≤ 5000; decide)) (ev_call (as1 (ev_var rfl) (as1 rfl as0)) h1) py⟩
theorem ret13_ok (hA : A.length = j) (hl : A.length + B.length + 2 ≤ 5000) {d : D} {s' : Hs} (he : (evP T c e13).e (bE (A ++ o :: B) j W o x5 f k8 b9) s = .ok d s') : evalSs T wf c (.cons (.ret (.tup (.cons (.bin .add (.bin .add (.sl (.var 2) .no (.so (.var 3))) (.lst (.cons e13 (.nil)))) (.sl (.var 2) (.so (.var 3)) .no)) (.cons (.var 3) (.nil))))) (.nil)) (bE (A ++ o :: B) j W o x5 f k8 b9) s = .ok (.ret (.tup [.tl (A ++ d :: (o :: B)), .int (j : Int)])) s' := by
  subst hA
  have t1 := slL_to s (A ++ o :: B) A.length
  rw [take_at] at t1
  have t2 := slL_from s' (A ++ o :: B) A.length
  rw [drop_at] at t2
  have e : A ++ [d] ++ o :: B = A ++ d :: (o :: B) := by simp
  exact rt (ret_ok (ev_tup (as1 (ev_bin (ev_bin (ev_sl0 (ev_var rfl) (ev_var rfl) t1) (ev_lst (as1 he as0) (by show 1 ≤ 5000; decide)) (addL s' A [d] (by simp; omega))) (ev_sl1 (ev_var rfl) (ev_var rfl) t2) ((addL s' (A ++ [d]) (o :: B) (by simp; omega)).trans (by rw [e]))) (as1 (ev_var rfl) as0)) (by show 2 ≤ 5000; decide)))
end
section
variable {p1 p2 : List (Nat × List Int)} {q : Nat × List Int} (h : Is (p1 ++ q :: p2)) (hl : (rowsAll (p1 ++ q :: p2)).length ≤ 700) (hn : (p1 ++ q :: p2).length ≤ 600) (hc : 0 < cells.length) (hJ : JarS cells rest s) (hr : rest[0]? = some (.lst (prs 0 (p1 ++ q :: p2))))
include h hl hn hJ
theorem b0 : ∃ r s', Ans r ∧ JarS cells rest s' ∧ evalSs T wf (runFn T wf (k + 1)) u3_ (bE (((lns 0 p1).map dS) ++ dS (lineL (rowsAll p1).length q) :: ((lns ((rowsAll p1).length + (row q.1 q.2).length) p2).map dS)) p1.length (lnP (rowsAll p1).length q) (dS (lineL (rowsAll p1).length q)) .no 0 .no .no) s = .ok (.ret r) s' := by
  by_cases he : p2 = []
  · exact b0no h hl hn hJ he
  · have hA := fA h hl hn
    have hL := fL h hl hn
    have hm : p1.length + 1 < (((lns 0 p1).map dS) ++ dS (lineL (rowsAll p1).length q) :: ((lns ((rowsAll p1).length + (row q.1 q.2).length) p2).map dS)).length := by
      rw [fLen h hl hn]
      have := List.length_pos_iff.mpr he
      omega
    refine ⟨_, s, ?_, hJ, by unfold u3_; rw [rt (uYesMore 0 hm (ret0_ok hA hL))]⟩
    cases p2 with
    | nil => exact absurd rfl he
    | cons r p3 => exact ans_out h hl hn
theorem b1 : ∃ r s', Ans r ∧ JarS cells rest s' ∧ evalSs T wf (runFn T wf (k + 1)) u3_ (bE (((lns 0 p1).map dS) ++ dS (lineL (rowsAll p1).length q) :: ((lns ((rowsAll p1).length + (row q.1 q.2).length) p2).map dS)) p1.length (lnP (rowsAll p1).length q) (dS (lineL (rowsAll p1).length q)) .no 1 .no .no) s = .ok (.ret r) s' := by
  by_cases he : p2 = []
  · exact b1no h hl hn hJ he
  · have hA := fA h hl hn
    have hL := fL h hl hn
    have hm : p1.length + 1 < (((lns 0 p1).map dS) ++ dS (lineL (rowsAll p1).length q) :: ((lns ((rowsAll p1).length + (row q.1 q.2).length) p2).map dS)).length := by
      rw [fLen h hl hn]
      have := List.length_pos_iff.mpr he
      omega
    cases p2 with
    | nil => exact absurd rfl he
    | cons r p3 =>
      refine ⟨_, s, ans_swap h hl hn, hJ, ?_⟩
      have hL2 : ((lns 0 p1).map dS).length + ((lns ((rowsAll p1).length + (row q.1 q.2).length + (row r.1 r.2).length) p3).map dS).length + 3 ≤ 5000 := by
        rw [List.length_map, List.length_map, lns_len, lns_len]
        rw [List.length_append, List.length_cons, List.length_cons] at hn
        omega
      have t := ret1_ok (wf := wf) (c := runFn T wf (k + 1)) (s := s) (j := p1.length) (W := lnP (rowsAll p1).length q) (o := dS (lineL (rowsAll p1).length q)) (x5 := .no) (k8 := .no) (b9 := .no) (f := 1) (o2 := dS (lineL ((rowsAll p1).length + (row q.1 q.2).length) r)) hA hL2
      unfold u3_
      rw [nx (uSkipA (by decide) _ _), rt (uYesMore 1 hm t)]
include hc
theorem b13 : ∃ r s', Ans r ∧ JarS cells rest s' ∧ evalSs T wf (runFn T wf (k + 1)) u3_ (bE (((lns 0 p1).map dS) ++ dS (lineL (rowsAll p1).length q) :: ((lns ((rowsAll p1).length + (row q.1 q.2).length) p2).map dS)) p1.length (lnP (rowsAll p1).length q) (dS (lineL (rowsAll p1).length q)) .no 13 .no .no) s = .ok (.ret r) s' := by

  have hq := (split_is h).2.1
  have ha := fa h hl hn
  have hA := fA h hl hn
  have hL := fL h hl hn
  have el : (lnP (rowsAll p1).length q).length = (opsL (sh q.1) q.2).length + 2 := rfl
  by_cases hw : 2 < (lnP (rowsAll p1).length q).length
  · obtain ⟨b, d, s1, k8', b9', hb, hd, j1, t⟩ := n11_blk (wf := wf) (k := k) (L := (((lns 0 p1).map dS) ++ dS (lineL (rowsAll p1).length q) :: ((lns ((rowsAll p1).length + (row q.1 q.2).length) p2).map dS))) (j := p1.length) (x5 := .has (dS (joinL [32] ([] :: lnP (rowsAll p1).length q)))) (k8 := .no) (b9 := .no) (f := 13) ha hq (by rw [el] at hw; omega) hc hJ
    obtain ⟨P, s2, hN, j2, te⟩ := e13_ok (wf := wf) (k := k) (L := (((lns 0 p1).map dS) ++ dS (lineL (rowsAll p1).length q) :: ((lns ((rowsAll p1).length + (row q.1 q.2).length) p2).map dS))) (j := p1.length) (W := lnP (rowsAll p1).length q) (o := dS (lineL (rowsAll p1).length q)) (x5 := .has (dS (joinL [32] (numL (rowsAll p1).length :: wdL q.1 :: ((opsL (sh q.1) q.2).take d ++ b :: (opsL (sh q.1) q.2).drop (d + 1)))))) (f := 13) (k8 := k8') (b9 := b9') hc j1 (rowsAll p1).length
    exact ⟨_, s2, ans_in h hl hn hN, j2, by unfold u3_; rw [nx (uSkipA (by decide) _ _), nx (uSkipA (by decide) _ _), nx (uSkip (by decide) _), nx (u6_ok ha hq), nx (uSkip (by decide) _), nx (uSkip (by decide) _), nx (uSkip (by decide) _), nx (uSkip (by decide) _), nx (uSkip (by decide) _), nx (uSkip (by decide) _), nx (uSkipA (by decide) _ _), nx (uSkip (by decide) _), nx (uYesG (by decide) hw t), rt (uYes 13 (ret13_ok hA hL te))]⟩
  · obtain ⟨P, s2, hN, j2, te⟩ := e13_ok (wf := wf) (k := k) (L := (((lns 0 p1).map dS) ++ dS (lineL (rowsAll p1).length q) :: ((lns ((rowsAll p1).length + (row q.1 q.2).length) p2).map dS))) (j := p1.length) (W := lnP (rowsAll p1).length q) (o := dS (lineL (rowsAll p1).length q)) (x5 := .has (dS (joinL [32] ([] :: lnP (rowsAll p1).length q)))) (f := 13) (k8 := .no) (b9 := .no) hc hJ (rowsAll p1).length
    exact ⟨_, s2, ans_in h hl hn hN, j2, by unfold u3_; rw [nx (uSkipA (by decide) _ _), nx (uSkipA (by decide) _ _), nx (uSkip (by decide) _), nx (u6_ok ha hq), nx (uSkip (by decide) _), nx (uSkip (by decide) _), nx (uSkip (by decide) _), nx (uSkip (by decide) _), nx (uSkip (by decide) _), nx (uSkip (by decide) _), nx (uSkipA (by decide) _ _), nx (uSkip (by decide) _), nx (uNoG (by decide) hw _), rt (uYes 13 (ret13_ok hA hL te))]⟩
include hr
theorem b_all (f : Int) (f0 : 0 ≤ f) (f1 : f < 14) : ∃ r s', Ans r ∧ JarS cells rest s' ∧ evalSs T wf (runFn T wf (k + 1)) u3_ (bE (((lns 0 p1).map dS) ++ dS (lineL (rowsAll p1).length q) :: ((lns ((rowsAll p1).length + (row q.1 q.2).length) p2).map dS)) p1.length (lnP (rowsAll p1).length q) (dS (lineL (rowsAll p1).length q)) .no f .no .no) s = .ok (.ret r) s' := by
  have c : f = 0 ∨ f = 1 ∨ f = 2 ∨ f = 3 ∨ f = 4 ∨ f = 5 ∨ f = 6 ∨ f = 7 ∨ f = 8 ∨ f = 9 ∨ f = 10 ∨ f = 11 ∨ f = 12 ∨ f = 13 := by omega
  rcases c with rfl | rfl | rfl | rfl | rfl | rfl | rfl | rfl | rfl | rfl | rfl | rfl | rfl | rfl
  · exact b0 h hl hn hJ
  · exact b1 h hl hn hJ
  · exact b2 h hl hn hJ
  · exact b3 h hl hn hJ
  · exact b4 h hl hn hJ
  · exact b5 h hl hn hJ hr
  · exact b6 h hl hn hJ
  · exact b7 h hl hn hc hJ
  · exact b8 h hl hn hJ
  · exact b9 h hl hn hJ
  · exact b10 h hl hn hJ
  · exact b11 h hl hn hc hJ
  · exact b12 h hl hn hc hJ
  · exact b13 h hl hn hc hJ
end
theorem r46 {ps : List (Nat × List Int)} (h : Is ps) (h0 : ps ≠ []) (hl : (rowsAll ps).length ≤ 700) (hn : ps.length ≤ 600) (hc : 0 < cells.length) (hJ : JarS cells rest s) (hr : rest[0]? = some (.lst (prs 0 ps))) : ∃ r s', Ans r ∧ JarS cells rest s' ∧ runFn T wf (k + 2) 46 [.ref 0, .ref 1, .tl ((lns 0 ps).map dS)] s = .ok r s' := by
  have hp := List.length_pos_iff.mpr h0
  have hlen : ((lns 0 ps).map dS).length = ps.length := by rw [List.length_map, lns_len]
  obtain ⟨v, s1, v0, v1, j1, h1⟩ := drawK (wf := wf) (k := k) hc hJ (lim := ((((lns 0 ps).map dS).length : Nat) : Int)) (by omega) (by omega)
  obtain ⟨f, s2, f0, f1, j2, h2⟩ := drawK (wf := wf) (k := k) hc j1 (show (0 : Int) < 14 by decide) (by decide)
  obtain ⟨j, rfl⟩ : ∃ j : Nat, v = (j : Int) := ⟨v.toNat, by omega⟩
  have hj : j < ps.length := by omega
  obtain ⟨p1, q, p2, rfl, rfl⟩ : ∃ p1 q p2, ps = p1 ++ q :: p2 ∧ p1.length = j := ⟨ps.take j, ps[j], ps.drop (j + 1), by rw [← List.drop_eq_getElem_cons hj, List.take_append_drop], by rw [List.length_take]; omega⟩
  have hq := (split_is h).2.1
  have ha := fa h hl hn
  have eL : (lns 0 (p1 ++ q :: p2)).map dS = (((lns 0 p1).map dS) ++ dS (lineL (rowsAll p1).length q) :: ((lns ((rowsAll p1).length + (row q.1 q.2).length) p2).map dS)) := by
    rw [lns_app, List.map_append, Nat.zero_add]
    rfl
  obtain ⟨r, s3, hA, j3, t3⟩ := b_all (wf := wf) (k := k) h hl hn hc j2 hr f f0 f1
  refine ⟨r, s3, hA, j3, ?_⟩
  have e1 : startE i__law_broken.slots [.ref 0, .ref 1, .tl ((lns 0 (p1 ++ q :: p2)).map dS)] = [.has (.ref 0), .has (.ref 1), .has (.tl ((lns 0 (p1 ++ q :: p2)).map dS)), .no, .no, .no, .no, .no, .no, .no] := rfl
  have t0 : evalS T wf (runFn T wf (k + 1)) u0 [.has (.ref 0), .has (.ref 1), .has (.tl ((lns 0 (p1 ++ q :: p2)).map dS)), .no, .no, .no, .no, .no, .no, .no] s = .ok (.next [.has (.ref 0), .has (.ref 1), .has (.tl ((lns 0 (p1 ++ q :: p2)).map dS)), .has (.int (p1.length : Int)), .no, .no, .no, .no, .no, .no]) s1 := asg_ok (i := 3) (ev_call (as1 (ev_var rfl) (as1 (ev_bi (as1 (ev_var rfl) as0) (len_tl s _)) as0)) h1)
  have hi : idxop T.tabs s1 (.tl ((lns 0 (p1 ++ q :: p2)).map dS)) (.int (p1.length : Int)) = some (dS (lineL (rowsAll p1).length q)) := by
    rw [eL]
    have e := fA h hl hn
    refine idxL _ _ _ _ ?_
    rw [← e]
    simp
  have t1 : evalS T wf (runFn T wf (k + 1)) u1 [.has (.ref 0), .has (.ref 1), .has (.tl ((lns 0 (p1 ++ q :: p2)).map dS)), .has (.int (p1.length : Int)), .no, .no, .no, .no, .no, .no] s1 = .ok (.next [.has (.ref 0), .has (.ref 1), .has (.tl ((lns 0 (p1 ++ q :: p2)).map dS)), .has (.int (p1.length : Int)), .no, .no, .has (dS (lineL (rowsAll p1).length q)), .has (.int f), .no, .no]) s2 := par_ok (as1 (ev_idx (ev_var rfl) (ev_var rfl) hi) (as1 (ev_call (as1 (ev_var rfl) (as1 rfl as0)) h2) as0)) rfl
  have hs := bm_split s2 (l := lineL (rowsAll p1).length q) (c := 32) (by decide) (small5 (by have := lineL_len (a := (rowsAll p1).length) (by omega) hq; omega))
  have es : spl 32 (lineL (rowsAll p1).length q) = lnP (rowsAll p1).length q := spl_joinL (List.cons_ne_nil _ _) fun p hp => ((lnP_pc (a := (rowsAll p1).length) (by omega) hq).ok p hp).2.2.1
  rw [es, ← d_sp] at hs
  have t2 : evalS T wf (runFn T wf (k + 1)) u2 [.has (.ref 0), .has (.ref 1), .has (.tl ((lns 0 (p1 ++ q :: p2)).map dS)), .has (.int (p1.length : Int)), .no, .no, .has (dS (lineL (rowsAll p1).length q)), .has (.int f), .no, .no] s2 = .ok (.next (bE (((lns 0 p1).map dS) ++ dS (lineL (rowsAll p1).length q) :: ((lns ((rowsAll p1).length + (row q.1 q.2).length) p2).map dS)) p1.length (lnP (rowsAll p1).length q) (dS (lineL (rowsAll p1).length q)) .no f .no .no)) s2 := by
    rw [← eL]
    exact asg_ok (i := 4) (ev_bm (ev_var rfl) rfl (as1 rfl as0) hs)
  rw [rf (f := i__law_broken) rfl rfl, u_body2, e1, nx t0, nx t1, nx t2, t3]
  rfl
/-! _law_unread -/
theorem Brk.noR {L : List D} {f : Nat} (h : Brk L f) : noRefs L = true := by
  obtain ⟨ps, P, R, _, _, _, _, _, _, _, rfl, _⟩ := h
  rw [show (plns 0 ps ++ P :: R).map (fun P => dS (joinL [32] P)) = ((plns 0 ps ++ P :: R).map (joinL [32])).map dS by rw [List.map_map]; rfl]
  exact noRefs_dS _
theorem same_dS {l : List Nat} (h : okT l = true) (s : Hs) : runFn T wf (k + 1) 19 [dS l, dS l] s = .ok (.bl true) s := same_str (gs := 19) rfl (S l) (strOk_S h) s
theorem same_nat (n : Nat) (s : Hs) : runFn T wf (k + 1) 19 [.int (n : Int), .int (n : Int)] s = .ok (.bl true) s := same_int (gs := 19) rfl (n : Int) s
theorem r45 {ps : List (Nat × List Int)} (h : Is ps) (h0 : ps ≠ []) (hl : (rowsAll ps).length ≤ 700) (hn : ps.length ≤ 600) (hc : 0 < cells.length) (hJ : JarS cells rest s) (hr : rest[0]? = some (.lst (prs 0 ps))) : ∃ s', JarS cells rest s' ∧ runFn T wf (k + 7) 45 [.ref 0, .ref 1, .tl ((lns 0 ps).map dS)] s = .ok (.bl true) s' := by
  obtain ⟨r, s1, ⟨L, f, rfl, hB⟩, j1, t46⟩ := r46 (wf := wf) (k := k + 4) h h0 hl hn hc hJ hr
  obtain ⟨qs, P, R, q1, q2, q3, q4, q5, q6, q7, rfl, rfl⟩ := hB
  have h36 := r36_bad (wf := wf) (k := k) qs q1 q2 q3 q4 q5 q6 q7 s1
  have tx : Tx (plns 0 qs ++ P :: R) := by
    refine ⟨fun Q hQ => ?_, txt_app_ne (q6.imp id (Or.imp (fun z e => ?_) id)), ?_⟩
    · rcases List.mem_append.mp hQ with hQ | hQ
      · exact plns_pc q1 (by omega) Q hQ
      · rcases List.mem_cons.mp hQ with rfl | hQ
        · exact q3
        · exact q4 Q hQ
    · cases qs with
      | nil => exact z rfl
      | cons a b => cases e
    · rw [List.length_append, plns_len, List.length_cons]
      omega
  have e0 : i__law_unread.body = .cons (.asg (.tp [5, 6]) (.call 46 (.cons (.var 0) (.cons (.var 1) (.cons (.var 2) .nil))))) (.cons (.asg (.nm 3) (.bm .join (.cst (.str "\n")) (.cons (.var 5) .nil))) (.cons (.try_ (.cons (.expr (.call 36 (.cons (.var 3) .nil))) .nil) (.cons 1 4 (.cons (.ret (.and (.cons (.call 19 (.cons (.xf 4 1) (.cons (.var 3) .nil))) (.cons (.call 19 (.cons (.xf 4 0) (.cons (.var 6) .nil))) .nil)))) .nil) .nil)) (.cons (.ret (.cst (.bl false))) .nil))) := rfl
  have e1 : startE i__law_unread.slots [.ref 0, .ref 1, .tl ((lns 0 ps).map dS)] = [.has (.ref 0), .has (.ref 1), .has (.tl ((lns 0 ps).map dS)), .no, .no, .no, .no] := rfl
  have t1 : evalS T wf (runFn T wf (k + 6)) (.asg (.tp [5, 6]) (.call 46 (.cons (.var 0) (.cons (.var 1) (.cons (.var 2) .nil))))) [.has (.ref 0), .has (.ref 1), .has (.tl ((lns 0 ps).map dS)), .no, .no, .no, .no] s = .ok (.next [.has (.ref 0), .has (.ref 1), .has (.tl ((lns 0 ps).map dS)), .no, .no, .has (.tl ((plns 0 qs ++ P :: R).map (fun P => dS (joinL [32] P)))), .has (.int (qs.length : Nat))]) s1 := asgt_ok (ev_call (as1 (ev_var rfl) (as1 (ev_var rfl) (as1 (ev_var rfl) as0))) t46) rfl
  have hj := bm_join s1 [10] ((plns 0 qs ++ P :: R).map (joinL [32])) (.tl ((plns 0 qs ++ P :: R).map (fun P => dS (joinL [32] P)))) (by rw [List.map_map]; rfl) (by
    have h2 := sumL_le (ps := (plns 0 qs ++ P :: R).map (joinL [32])) (m := 3000) fun l hl => (tx.lines l hl).2.1
    have h3 := tx.few
    rw [List.length_map] at h2
    rw [List.length_map]
    show _ + _ * 1 ≤ _
    omega)
  rw [← d_nl] at hj
  have t2 : evalS T wf (runFn T wf (k + 6)) (.asg (.nm 3) (.bm .join (.cst (.str "\n")) (.cons (.var 5) .nil))) [.has (.ref 0), .has (.ref 1), .has (.tl ((lns 0 ps).map dS)), .no, .no, .has (.tl ((plns 0 qs ++ P :: R).map (fun P => dS (joinL [32] P)))), .has (.int (qs.length : Nat))] s1 = .ok (.next [.has (.ref 0), .has (.ref 1), .has (.tl ((lns 0 ps).map dS)), .has (dS (txt (plns 0 qs ++ P :: R))), .no, .has (.tl ((plns 0 qs ++ P :: R).map (fun P => dS (joinL [32] P)))), .has (.int (qs.length : Nat))]) s1 := asg_ok (i := 3) (ev_bm rfl rfl (as1 (ev_var rfl) as0) hj)
  have tb : evalSs T wf (runFn T wf (k + 6)) (.cons (.expr (.call 36 (.cons (.var 3) .nil))) .nil) [.has (.ref 0), .has (.ref 1), .has (.tl ((lns 0 ps).map dS)), .has (dS (txt (plns 0 qs ++ P :: R))), .no, .has (.tl ((plns 0 qs ++ P :: R).map (fun P => dS (joinL [32] P)))), .has (.int (qs.length : Nat))] s1 = .ok (.exc [.has (.ref 0), .has (.ref 1), .has (.tl ((lns 0 ps).map dS)), .has (dS (txt (plns 0 qs ++ P :: R))), .no, .has (.tl ((plns 0 qs ++ P :: R).map (fun P => dS (joinL [32] P)))), .has (.int (qs.length : Nat))] 1 [(0, .int (qs.length : Nat)), (1, dS (txt (plns 0 qs ++ P :: R)))]) s1 := xs_ok (exprX (ev_callX (as1 (ev_var rfl) as0) h36))
  have th : evalSs T wf (runFn T wf (k + 6)) (.cons (.ret (.and (.cons (.call 19 (.cons (.xf 4 1) (.cons (.var 3) .nil))) (.cons (.call 19 (.cons (.xf 4 0) (.cons (.var 6) .nil))) .nil)))) .nil) [.has (.ref 0), .has (.ref 1), .has (.tl ((lns 0 ps).map dS)), .has (dS (txt (plns 0 qs ++ P :: R))), .xc 1 [(0, .int (qs.length : Nat)), (1, dS (txt (plns 0 qs ++ P :: R)))], .has (.tl ((plns 0 qs ++ P :: R).map (fun P => dS (joinL [32] P)))), .has (.int (qs.length : Nat))] s1 = .ok (.ret (.bl true)) s1 := rt (ret_ok (ev_and_t (ev_call (as1 (ev_xf rfl rfl) (as1 (ev_var rfl) as0)) (same_dS (k := k + 5) tx.ok s1)) (ev_and_1 (ev_call (as1 (ev_xf rfl rfl) (as1 (ev_var rfl) as0)) (same_nat (k := k + 5) qs.length s1)))))
  refine ⟨s1, j1, ?_⟩
  rw [rf (f := i__law_unread) rfl rfl, e0, e1, nx t1, nx t2, rt (try_x (m := 1) (i := 4) tb rfl th)]
  rfl
end K66

set_option Elab.async false
set_option linter.all false
set_option maxRecDepth 100000
set_option maxHeartbeats 4000000
/-! R24: _law_all, the law. -/
namespace K66
open CN
variable {wf k : Nat} {cells : List Int} {rest s : Hs}
abbrev two (ps : List (Nat × List Int)) : Hs := [.lst (prs 0 ps), .lst ((rowsAll ps).map D.int)]
theorem bel_ints (m : Nat) : ∀ xs : List Int, belows m (xs.map D.int) = true
  | [] => rfl
  | x :: xs => by show (true && belows m (xs.map D.int)) = true; rw [bel_ints m xs]; rfl
theorem bel_prs (m : Nat) : ∀ (a : Nat) (ps), belows m (prs a ps) = true
  | _, [] => rfl
  | a, q :: ps => by
    show ((true && ((true && belows m (q.2.map D.int)) && true)) && belows m (prs _ ps)) = true
    rw [bel_ints, bel_prs]
    rfl
theorem two_bel (ps) : (two ps).all (belowG ((two ps).length + 1)) = true := by
  show (belows _ (prs 0 ps) && (belows _ ((rowsAll ps).map D.int) && true)) = true
  rw [bel_prs, bel_ints]
  rfl
theorem prs_snoc : ∀ (a : Nat) (ps) (q : Nat × List Int), prs a (ps ++ [q]) = prs a ps ++ [.tup [.int ((a + (rowsAll ps).length : Nat) : Int), insD q.1 q.2]]
  | a, [], q => rfl
  | a, p :: ps, q => by
    have e : (rowsAll (p :: ps)).length = (row p.1 p.2).length + (rowsAll ps).length := List.length_append
    show _ :: prs _ (ps ++ [q]) = _ :: (prs _ ps ++ _)
    rw [prs_snoc, e, Nat.add_assoc]
theorem rows_snoc (ps) (q : Nat × List Int) : rowsAll (ps ++ [q]) = rowsAll ps ++ row q.1 q.2 := by
  rw [rowsAll_app]
  show _ ++ (row q.1 q.2 ++ []) = _
  rw [List.append_nil]
abbrev aE (sc : D) (g kk x4 : Sl) (x5 : D) (o t : Sl) : CN.Env := [.has sc, .has (.ref 0), g, kk, x4, .has x5, .has (.ref 1), o, t]
def v1 : CN.St := .asg (.tp [7, 8]) (.call 4 (.cons (.var 1) .nil))
def v2T : Ex := .cmp .gt (.bin .add (.bi .len (.cons (.var 5) .nil)) (.bi .len (.cons (.var 8) .nil))) (.cst (.int 600))
def v3 : CN.St := .expr (.bm .append (.var 6) (.cons (.tup (.cons (.bi .len (.cons (.var 5) .nil)) (.cons (.var 7) .nil))) .nil))
def v4 : CN.St := .expr (.bm .extend (.var 5) (.cons (.var 8) .nil))
def vB : Sts := .cons v1 (.cons (.ite v2T (.cons .brk .nil) .nil) (.cons v3 (.cons v4 .nil)))
theorem v1_ok (ps) (hc : 0 < cells.length) (hJ : JarS cells (two ps) s) (sc : D) (g kk x4 o t : Sl) : ∃ q s', In q ∧ JarS cells (two ps) s' ∧ evalS T wf (runFn T wf (k + 2)) v1 (aE sc g kk x4 (.ref 2) o t) s = .ok (.next (aE sc g kk x4 (.ref 2) (.has (insD q.1 q.2)) (.has (.tup ((row q.1 q.2).map D.int))))) s' := by
  obtain ⟨j, ns, s', h1, h2, h3, h4⟩ := r4 (wf := wf) (k := k) hc (two_bel ps) hJ
  exact ⟨(j, ns), s', ⟨h1, h2⟩, h3, asgt_ok (ev_call (as1 (ev_var rfl) as0) h4) rfl⟩
theorem len_code (ps) (i l d : Int) : bifun (jl cells i l d :: two ps) .len [.ref 2] = some (.int ((rowsAll ps).length : Nat)) := by
  show some (D.int ((((rowsAll ps).map D.int).length : Nat) : Int)) = _
  rw [List.length_map]
theorem v2_ok {c : Nat → List D → Hs → Res D} (ps) (q : Nat × List Int) (i l d : Int) (sc : D) (g kk x4 o : Sl) : (evP T c v2T).t (aE sc g kk x4 (.ref 2) o (.has (.tup ((row q.1 q.2).map D.int)))) (jl cells i l d :: two ps) = .ok (decide (600 < (rowsAll ps).length + (row q.1 q.2).length)) (jl cells i l d :: two ps) :=
  ev_cmpT (x := .int (((rowsAll ps).length + (row q.1 q.2).length : Nat) : Int)) (ev_bin (ev_bi (as1 (ev_var rfl) as0) (len_code ps i l d)) (ev_bi (as1 (ev_var rfl) as0) (len_ints _ _)) rfl) rfl (gt_nat _ _ _ 600)
theorem v34_ok {c : Nat → List D → Hs → Res D} (ps : List (Nat × List Int)) (q : Nat × List Int) (i l d : Int) (sc : D) (g kk x4 : Sl) (h1 : ps.length + 1 ≤ 5000) (h2 : (rowsAll ps).length + (row q.1 q.2).length ≤ 5000) :
    evalSs T wf c (.cons v3 (.cons v4 .nil)) (aE sc g kk x4 (.ref 2) (.has (insD q.1 q.2)) (.has (.tup ((row q.1 q.2).map D.int)))) (jl cells i l d :: two ps) = .ok (.next (aE sc g kk x4 (.ref 2) (.has (insD q.1 q.2)) (.has (.tup ((row q.1 q.2).map D.int))))) (jl cells i l d :: two (ps ++ [q])) := by
  have t3 : evalS T wf c v3 (aE sc g kk x4 (.ref 2) (.has (insD q.1 q.2)) (.has (.tup ((row q.1 q.2).map D.int)))) (jl cells i l d :: two ps) = .ok (.next (aE sc g kk x4 (.ref 2) (.has (insD q.1 q.2)) (.has (.tup ((row q.1 q.2).map D.int))))) (jl cells i l d :: [.lst (prs 0 ps ++ [.tup [.int ((rowsAll ps).length : Nat), insD q.1 q.2]]), .lst ((rowsAll ps).map D.int)]) := app_ok (n := 1) (ds := prs 0 ps) rfl rfl (ev_tup (as1 (ev_bi (as1 (ev_var rfl) as0) (len_code ps i l d)) (as1 (ev_var rfl) as0)) (by show 2 ≤ 5000; decide)) (by rw [prs_len]; exact h1)
  have t4 : evalS T wf c v4 (aE sc g kk x4 (.ref 2) (.has (insD q.1 q.2)) (.has (.tup ((row q.1 q.2).map D.int)))) (jl cells i l d :: [.lst (prs 0 ps ++ [.tup [.int ((rowsAll ps).length : Nat), insD q.1 q.2]]), .lst ((rowsAll ps).map D.int)]) = .ok (.next (aE sc g kk x4 (.ref 2) (.has (insD q.1 q.2)) (.has (.tup ((row q.1 q.2).map D.int))))) (jl cells i l d :: [.lst (prs 0 ps ++ [.tup [.int ((rowsAll ps).length : Nat), insD q.1 q.2]]), .lst ((rowsAll ps).map D.int ++ (row q.1 q.2).map D.int)]) := ext_ok (n := 2) (ds := (rowsAll ps).map D.int) (es := (row q.1 q.2).map D.int) rfl rfl (ev_var rfl) rfl (by rw [List.length_map, List.length_map]; exact h2)
  have e : two (ps ++ [q]) = [.lst (prs 0 ps ++ [.tup [.int ((rowsAll ps).length : Nat), insD q.1 q.2]]), .lst ((rowsAll ps).map D.int ++ (row q.1 q.2).map D.int)] := by
    unfold two
    rw [prs_snoc, rows_snoc, List.map_append, Nat.zero_add]
  rw [nx t3, nx t4, e]
  rfl
theorem vLoop (hc : 0 < cells.length) (sc : D) (g x4 : Sl) : ∀ (xs : List D) (ps : List (Nat × List Int)) (kk o t : Sl) (s : Hs), ps.length + xs.length ≤ 4000 → Is ps → (rowsAll ps).length ≤ 600 → JarS cells (two ps) s →
    ∃ ps' s' kk' o' t', Is ps' ∧ (rowsAll ps').length ≤ 600 ∧ ps'.length ≤ ps.length + xs.length ∧ JarS cells (two ps') s' ∧ loopFor (forStep (.nm 3) (evalSs T wf (runFn T wf (k + 2)) vB)) none xs (aE sc g kk x4 (.ref 2) o t) s = .ok (.next (aE sc g kk' x4 (.ref 2) o' t')) s'
  | [], ps, kk, o, t, s, _, hI, hz, hJ => ⟨ps, s, kk, o, t, hI, hz, Nat.le_refl _, hJ, rfl⟩
  | x :: xs, ps, kk, o, t, s, hl, hI, hz, hJ => by
    rw [List.length_cons] at hl
    obtain ⟨q, s1, h1, h3, t1⟩ := v1_ok (wf := wf) (k := k) ps hc hJ sc g (.has x) x4 o t
    obtain ⟨i, l, d, a, b, c, rfl⟩ := h3
    have t2 := v2_ok (cells := cells) (c := runFn T wf (k + 2)) ps q i l d sc g (.has x) x4 (.has (insD q.1 q.2))
    have e : forStep (.nm 3) (evalSs T wf (runFn T wf (k + 2)) vB) x (aE sc g kk x4 (.ref 2) o t) s = evalSs T wf (runFn T wf (k + 2)) vB (aE sc g (.has x) x4 (.ref 2) o t) s := rfl
    have hrl := row_len h1.1 q.2
    by_cases hb : 600 < (rowsAll ps).length + (row q.1 q.2).length
    · rw [decide_eq_true hb] at t2
      refine ⟨ps, _, .has x, .has (insD q.1 q.2), .has (.tup ((row q.1 q.2).map D.int)), hI, hz, by omega, ⟨i, l, d, a, b, c, rfl⟩, ?_⟩
      have tt : forStep (.nm 3) (evalSs T wf (runFn T wf (k + 2)) vB) x (aE sc g kk x4 (.ref 2) o t) s = .ok (.brk (aE sc g (.has x) x4 (.ref 2) (.has (insD q.1 q.2)) (.has (.tup ((row q.1 q.2).map D.int))))) (jl cells i l d :: two ps) := by
        rw [e]
        unfold vB
        rw [nx t1, evalSs]
        dsimp only
        rw [ite_tn t2 rfl]
        rfl
      rw [loopFor, tt]
      rfl
    · rw [decide_eq_false hb] at t2
      have tt : forStep (.nm 3) (evalSs T wf (runFn T wf (k + 2)) vB) x (aE sc g kk x4 (.ref 2) o t) s = .ok (.next (aE sc g (.has x) x4 (.ref 2) (.has (insD q.1 q.2)) (.has (.tup ((row q.1 q.2).map D.int))))) (jl cells i l d :: two (ps ++ [q])) := by
        rw [e]
        unfold vB
        rw [nx t1, nx (ite_f t2)]
        exact v34_ok ps q i l d sc g _ x4 (by omega) (by omega)
      have hI' : Is (ps ++ [q]) := fun p hp => by
        rcases List.mem_append.mp hp with hp | hp
        · exact hI p hp
        · rw [List.mem_singleton.mp hp]
          exact h1
      have hz' : (rowsAll (ps ++ [q])).length ≤ 600 := by
        rw [rows_snoc, List.length_append]
        omega
      obtain ⟨ps', s', kk', o', t', g1, g2, g3, g4, g5⟩ := vLoop hc sc g x4 xs (ps ++ [q]) (.has x) (.has (insD q.1 q.2)) (.has (.tup ((row q.1 q.2).map D.int))) _ (by simp; omega) hI' hz' ⟨i, l, d, a, b, c, rfl⟩
      refine ⟨ps', s', kk', o', t', g1, g2, by simp at g3; simp; omega, g4, ?_⟩
      rw [loopFor_nx tt rfl, g5]
def vIt : It := .range1 (.ite (.var 2) (.cst (.int 190)) (.idx (.lst (.cons (.cst (.int 0)) (.cons (.cst (.int 1)) (.cons (.cst (.int 4)) (.cons (.cst (.int 12)) (.cons (.cst (.int 12)) (.cons (.cst (.int 8)) .nil))))))) (.call 3 (.cons (.var 1) (.cons (.cst (.int 6)) .nil)))))
theorem vIt_ok (hc : 0 < cells.length) (hJ : JarS cells rest s) (sc : D) (b : Bool) (kk x4 o t : Sl) : ∃ (n : Nat) (s' : Hs), n ≤ 190 ∧ JarS cells rest s' ∧ evI T (runFn T wf (k + 1)) vIt (aE sc (.has (.bl b)) kk x4 (.ref 2) o t) s = .ok (rangeD 0 n, none) s' := by
  cases b with
  | true => exact ⟨190, s, by decide, hJ, iq_range1 (n := 190) (ev_iteT (s1 := s) (tT rfl (ev_var (d := .bl true) rfl) rfl) rfl) (by decide)⟩
  | false =>
    obtain ⟨v, s1, v0, v1, j1, h1⟩ := drawK (wf := wf) (k := k) hc hJ (show (0 : Int) < 6 by decide) (by decide)
    obtain ⟨x, hx, ⟨n, rfl, hn⟩⟩ := pickL (xs := [D.int 0, .int 1, .int 4, .int 12, .int 12, .int 8]) (fun d => ∃ n : Nat, d = .int (n : Int) ∧ n ≤ 190) v0 v1 (by
      intro z hz
      simp only [List.mem_cons, List.not_mem_nil, or_false] at hz
      rcases hz with rfl | rfl | rfl | rfl | rfl | rfl
      · exact ⟨0, rfl, by decide⟩
      · exact ⟨1, rfl, by decide⟩
      · exact ⟨4, rfl, by decide⟩
      · exact ⟨12, rfl, by decide⟩
      · exact ⟨12, rfl, by decide⟩
      · exact ⟨8, rfl, by decide⟩)
    exact ⟨n, s1, hn, j1, iq_range1 (ev_iteF (s1 := s) (tT rfl (ev_var (d := .bl false) rfl) rfl) (ev_idx (x := .tl [D.int 0, .int 1, .int 4, .int 12, .int 12, .int 8]) (ev_lst (as1 rfl (as1 rfl (as1 rfl (as1 rfl (as1 rfl (as1 rfl as0)))))) (by show 6 ≤ 5000; decide)) (ev_call (as1 (ev_var rfl) (as1 rfl as0)) h1) hx)) (by omega)⟩
/-! the tests -/
theorem same_ints : ∀ xs : List Int, sameOks (xs.map D.int) = true ∧ deps (xs.map D.int) = 0
  | [] => ⟨rfl, rfl⟩
  | x :: xs => by
    obtain ⟨h1, h2⟩ := same_ints xs
    refine ⟨?_, ?_⟩
    · show (true && sameOks (xs.map D.int)) = true
      rw [h1]
      rfl
    · show max 0 (deps (xs.map D.int)) = 0
      rw [h2]
      rfl
theorem same_ins {q : Nat × List Int} (h : In q) : sameOk (insD q.1 q.2) = true ∧ dep (insD q.1 q.2) ≤ 1 := by
  obtain ⟨h1, h2⟩ := same_ints q.2
  have h3 := vals_len h.2
  have h4 := sh_len h.1
  refine ⟨?_, ?_⟩
  · show (decide ((D.str (wd q.1) :: q.2.map D.int).length ≤ 5000) && (PySem.PyData.strOk (wd q.1) && sameOks (q.2.map D.int))) = true
    rw [h1, strOk_wd h.1, decide_eq_true (by rw [List.length_cons, List.length_map]; omega)]
    rfl
  · show max 0 (deps (q.2.map D.int)) + 1 ≤ 1
    rw [h2]
    decide
theorem same_prs : ∀ (a : Nat) {ps}, Is ps → sameOks (prs a ps) = true ∧ deps (prs a ps) ≤ 2
  | _, [], _ => ⟨rfl, Nat.zero_le _⟩
  | a, q :: ps, h => by
    obtain ⟨h1, h2⟩ := same_ins (h q List.mem_cons_self)
    obtain ⟨h3, h4⟩ := same_prs (a + (row q.1 q.2).length) fun x hx => h x (List.mem_cons_of_mem q hx)
    refine ⟨?_, ?_⟩
    · show ((decide (2 ≤ 5000) && (true && (sameOk (insD q.1 q.2) && true))) && sameOks (prs _ ps)) = true
      rw [h1, h3]
      rfl
    · show max (max 0 (max (dep (insD q.1 q.2)) 0) + 1) (deps (prs _ ps)) ≤ 2
      omega
def wJ : Ex := .bm .join (.cst (.str "\n")) (.cons (.var 4) .nil)
def w7T : Ex := .or (.cons (.not (.call 19 (.cons (.call 8 (.cons (.var 5) .nil)) (.cons (.bi .tuple (.cons (.var 6) .nil)) .nil)))) (.cons (.not (.call 19 (.cons (.call 18 (.cons (.var 5) .nil)) (.cons wJ .nil)))) .nil))
def w8T : Ex := .not (.call 6 (.cons (.call 36 (.cons wJ .nil)) (.cons (.var 5) .nil)))
def w10T : Ex := .not (.call 43 (.cons (.var 1) (.cons (.var 5) (.cons (.call 3 (.cons (.var 1) (.cons (.cst (.int 2)) .nil))) .nil))))
def w11E : Ex := .or (.cons (.cmp .eq (.bi .len (.cons (.var 4) .nil)) (.cst (.int 0))) (.cons (.and (.cons (.call 45 (.cons (.var 1) (.cons (.var 6) (.cons (.var 4) .nil)))) (.cons (.call 45 (.cons (.var 1) (.cons (.var 6) (.cons (.var 4) .nil)))) .nil))) .nil))
def retF : Sts := .cons (.ret (.cst (.bl false))) .nil
theorem law_body : i__law_all.body = .cons (.asg (.nm 1) (.call 2 (.cons (.var 0) .nil))) (.cons (.par [6, 5] (.cons (.box (.lst .nil)) (.cons (.box (.lst .nil)) .nil))) (.cons (.asg (.nm 2) (.cmp .eq (.call 3 (.cons (.var 1) (.cons (.cst (.int 60)) .nil))) (.cst (.int 0)))) (.cons (.for_ (.nm 3) vIt vB) (.cons (.asg (.nm 4) (.call 7 (.cons (.var 6) .nil))) (.cons (.asg (.nm 5) (.bi .tuple (.cons (.var 5) .nil))) (.cons (.ite w7T retF .nil) (.cons (.ite w8T retF .nil) (.cons (.ite (.var 2) (.cons (.ret (.cst (.bl true))) .nil) .nil) (.cons (.ite w10T retF .nil) (.cons (.ret w11E) .nil)))))))))) := rfl
section
variable {ps : List (Nat × List Int)} (hI : Is ps) (hz : (rowsAll ps).length ≤ 600) (hn : ps.length ≤ 190)
include hI hz hn
theorem text_ok : okT (joinL [10] (lns 0 ps)) = true := by
  rw [lns_plns]
  refine ok_join (by decide) fun l hl => ?_
  obtain ⟨P, hP, rfl⟩ := List.mem_map.mp hl
  exact ok_join (by decide) fun p hp => ((plns_pc hI (by omega) P hP).ok p hp).1
theorem wJ_ok {c : Nat → List D → Hs → Res D} {env : CN.Env} (h4 : env[4]? = some (.has (.tl ((lns 0 ps).map dS)))) : (evP T c wJ).e env s = .ok (dS (joinL [10] (lns 0 ps))) s := by
  have h1 := sumL_le (lns_short (a := 0) hI (by omega))
  rw [lns_len] at h1
  have hj := bm_join s [10] (lns 0 ps) (.tl ((lns 0 ps).map dS)) rfl (by rw [lns_len]; show _ + _ * 1 ≤ _; omega)
  rw [← d_nl] at hj
  exact ev_bm rfl rfl (as1 (ev_var h4) as0) hj
theorem w7_ok (hJ : JarS cells (two ps) s) (sc : D) (g kk o t : Sl) : (evP T (runFn T 1000 (k + 9)) w7T).t (aE sc g kk (.has (.tl ((lns 0 ps).map dS))) (.tup ((rowsAll ps).map D.int)) o t) s = .ok false s := by
  obtain ⟨i, l, d, _, _, _, rfl⟩ := hJ
  obtain ⟨h1, h2⟩ := same_prs 0 hI
  have s1 := same_ok (T := T) (gs := 19) (wf := 1000) (k := k + 5) rfl 3 (.tup (prs 0 ps)) (jl cells i l d :: two ps) (by show deps (prs 0 ps) + 1 ≤ 3; omega) (by show (decide ((prs 0 ps).length ≤ 5000) && sameOks (prs 0 ps)) = true; rw [h1, decide_eq_true (by rw [prs_len]; omega)]; rfl)
  have s2 := same_dS (wf := 1000) (k := k + 8) (text_ok hI hz hn) (jl cells i l d :: two ps)
  have g8 := r8_good (k := k + 3) ps hI (by omega) (jl cells i l d :: two ps)
  have g18 := r18_good (k := k + 2) ps hI (by omega) (jl cells i l d :: two ps)
  exact or_f (ev_notT (v := true) (ev_callT (as1 (ev_call (as1 (ev_var rfl) as0) g8) (as1 (ev_bi (as1 (ev_var rfl) as0) rfl) as0)) s1)) (or_1 (ev_notT (v := true) (ev_callT (as1 (ev_call (as1 (ev_var rfl) as0) g18) (as1 (wJ_ok hI hz hn rfl) as0)) s2)))
theorem w8_ok (sc : D) (g kk o t : Sl) : (evP T (runFn T 1000 (k + 9)) w8T).t (aE sc g kk (.has (.tl ((lns 0 ps).map dS))) (.tup ((rowsAll ps).map D.int)) o t) s = .ok false s :=
  ev_notT (v := true) (ev_callT (as1 (ev_call (as1 (wJ_ok hI hz hn rfl) as0) (r36_good (k := k + 3) ps hI (by omega) (by omega) s)) (as1 (ev_var rfl) as0)) (bytes_tup (k := k + 8) (rowsAll ps) s (by omega)))
theorem w10_ok (hc : 0 < cells.length) (hJ : JarS cells (two ps) s) (sc : D) (g kk o t : Sl) : ∃ s', JarS cells (two ps) s' ∧ (evP T (runFn T 1000 (k + 9)) w10T).t (aE sc g kk (.has (.tl ((lns 0 ps).map dS))) (.tup ((rowsAll ps).map D.int)) o t) s = .ok false s' := by
  obtain ⟨v, s1, v0, v1, j1, h1⟩ := drawK (wf := 1000) (k := k + 8) hc hJ (show (0 : Int) < 2 by decide) (by decide)
  obtain ⟨s2, j2, h43⟩ := r43 (k := k) (rowsAll_bytes hI) (by omega) (form := v) (by omega) hc j1
  exact ⟨s2, j2, ev_notT (v := true) (ev_callT (as1 (ev_var rfl) (as1 (ev_var rfl) (as1 (ev_call (as1 (ev_var rfl) (as1 rfl as0)) h1) as0))) h43)⟩
theorem w11_ok (hc : 0 < cells.length) (hJ : JarS cells (two ps) s) (sc : D) (g kk o t : Sl) : ∃ s', JarS cells (two ps) s' ∧ (evP T (runFn T 1000 (k + 9)) w11E).e (aE sc g kk (.has (.tl ((lns 0 ps).map dS))) (.tup ((rowsAll ps).map D.int)) o t) s = .ok (.bl true) s' := by
  have hl : bifun s .len [.tl ((lns 0 ps).map dS)] = some (.int (ps.length : Nat)) := by rw [len_tl, List.length_map, lns_len]
  have t0 := eq_nat T.tabs s ps.length 0
  by_cases h0 : ps = []
  · have e : ps.length = 0 := by rw [h0]; rfl
    rw [decide_eq_true e] at t0
    exact ⟨s, hJ, ev_or_t (ev_cmp (ev_bi (as1 (ev_var rfl) as0) hl) rfl t0)⟩
  · have e : ¬ ps.length = 0 := fun z => h0 (List.eq_nil_of_length_eq_zero z)
    rw [decide_eq_false e] at t0
    obtain ⟨s1, j1, h1⟩ := r45 (wf := 1000) (k := k + 2) hI h0 (by omega) (by omega) hc hJ rfl
    obtain ⟨s2, j2, h2⟩ := r45 (wf := 1000) (k := k + 2) hI h0 (by omega) (by omega) hc j1 rfl
    exact ⟨s2, j2, ev_or_f (ev_cmp (ev_bi (as1 (ev_var rfl) as0) hl) rfl t0) (ev_or_1 (ev_and_t (ev_call (as1 (ev_var rfl) (as1 (ev_var rfl) (as1 (ev_var rfl) as0))) h1) (ev_and_1 (ev_call (as1 (ev_var rfl) (as1 (ev_var rfl) (as1 (ev_var rfl) as0))) h2))))⟩
end
theorem r1 (ns : List Int) (hn : ns.length ≤ 63) (d : D) (hd : d = D.tl (ns.map D.int) ∨ d = D.kl (ns.map D.int)) : ∃ s', runFn T 1000 (k + 10) 1 [d] [] = .ok (.bl true) s' := by
  obtain ⟨cells, hc, hj⟩ := jar_ok (T := T) (wf := 1000) (k := k + 8) (gj := 2) rfl ns hn d hd
  have e1 : startE i__law_all.slots [d] = [.has d, .no, .no, .no, .no, .no, .no, .no, .no] := rfl
  have t1 : evalS T 1000 (runFn T 1000 (k + 9)) (.asg (.nm 1) (.call 2 (.cons (.var 0) .nil))) [.has d, .no, .no, .no, .no, .no, .no, .no, .no] [] = .ok (.next [.has d, .has (.ref 0), .no, .no, .no, .no, .no, .no, .no]) [jl cells 0 0 0] := asg_ok (ev_call (as1 (ev_var rfl) as0) hj)
  have t2 : evalS T 1000 (runFn T 1000 (k + 9)) (.par [6, 5] (.cons (.box (.lst .nil)) (.cons (.box (.lst .nil)) .nil))) [.has d, .has (.ref 0), .no, .no, .no, .no, .no, .no, .no] [jl cells 0 0 0] = .ok (.next (aE d .no .no .no (.ref 2) .no .no)) (jl cells 0 0 0 :: two []) := rfl
  have J1 : JarS cells (two []) (jl cells 0 0 0 :: two []) := ⟨0, 0, 0, by decide, by decide, by decide, rfl⟩
  obtain ⟨v, s1, v0, v1, j1, h3⟩ := drawK (wf := 1000) (k := k + 8) hc J1 (show (0 : Int) < 60 by decide) (by decide)
  have t3 : evalS T 1000 (runFn T 1000 (k + 9)) (.asg (.nm 2) (.cmp .eq (.call 3 (.cons (.var 1) (.cons (.cst (.int 60)) .nil))) (.cst (.int 0)))) (aE d .no .no .no (.ref 2) .no .no) (jl cells 0 0 0 :: two []) = .ok (.next (aE d (.has (.bl (decide (v = 0)))) .no .no (.ref 2) .no .no)) s1 := asg_ok (i := 2) (ev_cmp (ev_call (as1 (ev_var rfl) (as1 rfl as0)) h3) rfl (ce_ii _ _ _ _))
  obtain ⟨n, s2, hn1, j2, t4⟩ := vIt_ok (wf := 1000) (k := k + 8) hc j1 d (decide (v = 0)) .no .no .no .no
  obtain ⟨ps, s3, kk, o, t, hI, hz, hpl, j3, t5⟩ := vLoop (wf := 1000) (k := k + 7) hc d (.has (.bl (decide (v = 0)))) .no (rangeD 0 n) [] .no .no .no s2 (by simp [rangeD]; omega) (fun p hp => nomatch hp) (by decide) j2
  have hpl' : ps.length ≤ 190 := by simp [rangeD] at hpl; omega
  have hs1 : s3[1]? = some (.lst (prs 0 ps)) := by
    obtain ⟨i, l, dd, _, _, _, rfl⟩ := j3
    rfl
  have hs2 : bifun s3 .tuple [.ref 2] = some (.tup ((rowsAll ps).map D.int)) := by
    obtain ⟨i, l, dd, _, _, _, rfl⟩ := j3
    rfl
  have t6 : evalS T 1000 (runFn T 1000 (k + 9)) (.asg (.nm 4) (.call 7 (.cons (.var 6) .nil))) (aE d (.has (.bl (decide (v = 0)))) kk .no (.ref 2) o t) s3 = .ok (.next (aE d (.has (.bl (decide (v = 0)))) kk (.has (.tl ((lns 0 ps).map dS))) (.ref 2) o t)) s3 := asg_ok (i := 4) (ev_call (as1 (ev_var rfl) as0) (r7 (k := k + 7) ps hs1 hI (by omega) (by omega)))
  have t7 : evalS T 1000 (runFn T 1000 (k + 9)) (.asg (.nm 5) (.bi .tuple (.cons (.var 5) .nil))) (aE d (.has (.bl (decide (v = 0)))) kk (.has (.tl ((lns 0 ps).map dS))) (.ref 2) o t) s3 = .ok (.next (aE d (.has (.bl (decide (v = 0)))) kk (.has (.tl ((lns 0 ps).map dS))) (.tup ((rowsAll ps).map D.int)) o t)) s3 := asg_ok (i := 5) (ev_bi (as1 (ev_var rfl) as0) hs2)
  have t8 := w7_ok (k := k) hI hz hpl' j3 d (.has (.bl (decide (v = 0)))) kk o t
  have t9 := w8_ok (k := k) (s := s3) hI hz hpl' d (.has (.bl (decide (v = 0)))) kk o t
  have t10 : (evP T (runFn T 1000 (k + 9)) (.var 2)).t (aE d (.has (.bl (decide (v = 0)))) kk (.has (.tl ((lns 0 ps).map dS))) (.tup ((rowsAll ps).map D.int)) o t) s3 = .ok (decide (v = 0)) s3 := tT rfl (ev_var rfl) rfl
  rw [rf (f := i__law_all) rfl rfl, law_body, e1, nx t1, nx t2, nx t3, nx (for_ok t4 t5), nx t6, nx t7, nx (ite_f t8), nx (ite_f t9)]
  by_cases hv : v = 0
  · rw [decide_eq_true hv] at t10 ⊢
    exact ⟨s3, by rw [rt (ite_t t10 (rt (ret_ok (d := .bl true) (s' := s3) rfl)))]; rfl⟩
  · rw [decide_eq_false hv] at t10 ⊢
    obtain ⟨s4, j4, t11⟩ := w10_ok (k := k) hI hz hpl' hc j3 d (.has (.bl false)) kk o t
    obtain ⟨s5, j5, t12⟩ := w11_ok (k := k) hI hz hpl' hc j4 d (.has (.bl false)) kk o t
    exact ⟨s5, by rw [nx (ite_f t10), nx (ite_f t11), rt (ret_ok t12)]; rfl⟩
theorem runs : LawRuns T 1000 20 0 := by
  intro ns hn d hd
  obtain ⟨s', h⟩ := r1 (k := 10) ns hn d hd
  refine ⟨s', ?_⟩
  rw [rf (f := i_law) rfl rfl]
  have e0 : i_law.body = .cons (.thru (.cons (.ret (.call 1 (.cons (.var 0) .nil))) .nil)) .nil := rfl
  have e1 : startE i_law.slots [d] = [.has d] := rfl
  have t : evalS T 1000 (runFn T 1000 20) (.thru (.cons (.ret (.call 1 (.cons (.var 0) .nil))) .nil)) [.has d] [] = .ok (.ret (.bl true)) s' := by
    rw [evalS]
    unfold thruM
    rw [rt (ret_ok (call1 rfl h))]
    rfl
  rw [e0, e1, rt t]
  rfl
end K66
set_option Elab.async false
set_option linter.all false
set_option maxRecDepth 100000
set_option maxHeartbeats 0
/-! the top of codenotary_k66_listings_written_and_read: one run of the kernel's for each answer of the row -/
namespace K66
open PySem PySem.W PyProof.Rows
abbrev hk : PySem.W.Hook := LD.hook 5
def ob (s : PySem.W.SharedT) : hk.α := LD.obs 5 (HandSHeadRun.getT s)
theorem ob_eq (s : PySem.W.SharedT) : ob s = hk.obs s.abs := LD.obs_eq (HandSHeadRun.getT_eq s)
def names : List PySem.Str := (["is_integer", "is_number_below", "is_byte", "is_string", "are_bytes", "BOXES", "BYTES", "WORDS", "NUMBERS", "OPERANDS", "LIMITS", "SIZES", "is_opcode", "word_of", "is_word_known", "length_of", "high_and_low", "joined_bytes", "operand_bytes", "encoded", "operand_at", "decoded", "behind", "walked", "NotaryError", "InvalidText", "InvalidBytes", "FIGURES", "lines_of", "number_in"] : List PySem.Str) ++ (["line_of", "text_of", "operand_piece", "operand_in", "instruction_pieces", "instruction_in", "listing_line", "listing_of", "instruction_of_line", "code_in", "check_code", "listed", "write_listing", "read_listing", "_law_jar", "_law_draw", "_law_same", "_law_bytes", "_law_table", "_law_instruction", "_law_place", "_law_lines", "_law_refused", "_law_spoilt", "_law_broken", "_law_unread", "_law_all"] : List PySem.Str)
theorem run0 (w : World) : HandSHeadRun.RunEq R (view R.prog [65]) hk ob 6000 names (w.withFollow "special-get-raises" false) := by
  intro os
  kernel_rfl
theorem run1 (w : World) : HandSHeadRun.RunEq R (view R.prog [65]) hk ob 6000 names (w.withFollow "special-get-raises" true) := by
  intro os
  kernel_rfl
theorem run (w : World) : HandSHeadRun.RunEq R (view R.prog [65]) hk ob 6000 names w := PySem.W.byRow2 "special-get-raises" (P := fun w => HandSHeadRun.RunEq R (view R.prog [65]) hk ob 6000 names w) run0 run1 w
end K66
set_option Elab.async false
set_option linter.all false
set_option maxRecDepth 100000
set_option maxHeartbeats 0
/-! k66: the whole, given that the interpreter answers True. -/
namespace K66
open PySem PySem.Spec PyProof.Rows L2 CN
theorem facts {P : Program} {w : World} {K : PySem.W.Frag} {h : Heap} {mg : Str → Option Value} {fa : Addr} {wf k : Nat} (run : LawRuns T wf k 0) (hP : POk T P) (X : K.In h) (N : h.Ns mainGlobals mg) (hfa : mg ("law" : Str) = some (.ref fa)) (c : Says LD w h K) :
    ∃ fd : FuncData, (∀ (s : Shared) (v : Value), BindsTo s fd ⟨[v], []⟩ [("script", v)]) ∧ ∀ base : Heap, K.In base → base.Ns mainGlobals mg → FnOk P w K mg base CX0 (2 * k + 4) fa fd ["script"] (spLaw K) := by
  have st : Stat LD.T LD.G (LD.ad K) w K mg := stat_of good allc allhot xcs X N c
  obtain ⟨fd, F⟩ := He.SaysD.defs c.x.t.d (List.mem_of_getElem? (show LD.fn[0]? = some d_law from rfl))
  have e : He.fAd K d_law.at_ = fa := by
    obtain ⟨a, h1, h2⟩ := st.glob 0 "law" rfl
    have h3 : (LD.ad K).fn 0 = some (He.fAd K d_law.at_) := rfl
    rw [h3] at h1
    rw [hfa] at h2
    exact (Option.some.inj h1).trans (Value.ref.inj (Option.some.inj h2)).symm
  subst e
  obtain ⟨_, _, ps, N', hb, hc⟩ := c_law
  refine ⟨fd, fun s v => FunD.bindsA (ps := ["script"]) F (fun _ _ _ _ _ _ us hl => match us, hl with | [_], _ => rfl) s [v] rfl, fun base _ _ => ?_⟩
  exact law_fn (D := LD) st hP (d := d_law) (f := i_law) rfl rfl F (N := ["script"]) (by decide +kernel) rfl run
end K66
open PySem PySem.W PySem.Calls PyProof.Rows
theorem k66_of {wf k : Nat} (run : CN.LawRuns K66.T wf 20 0) : PySem.Challenge.rw_codenotary_k66_listings_written_and_read.Holds := by
  w_on; o_law
  refine HandSHeadRun.head_any (r := OpenLaw.row PySem.Challenge.rw_codenotary_k66_listings_written_and_read) (q := view (OpenLaw.row PySem.Challenge.rw_codenotary_k66_listings_written_and_read).prog [65]) (H := K66.hk) (ob := K66.ob) (M := 6000) (loose := K66.names) (d := HandSHeadRun.topDef (OpenLaw.row PySem.Challenge.rw_codenotary_k66_listings_written_and_read).prog 65) (kwd := []) K66.ob_eq
    (by kernel_rfl) (fun s => by kernel_rfl) K66.run (by kernel_rfl) (by kernel_rfl) (by kernel_rfl) (by rfl) (by first | assumption | decide +kernel) (by decide +kernel) ⟨rfl, rfl, rfl, rfl, rfl, by decide +kernel⟩ ?hw ?hc
  case hw => w_witness2
  case hc =>
    refine L2.walk_ofE (l := PySem.Challenge.rw_codenotary_k66_listings_written_and_read) (n := 63) (k := 44) (x := "script") (CX := L2.CX0) rfl (by decide) (by kernel_rfl) ⟨rfl, by decide, by decide⟩ ?F (fun _ _ _ _ z => z)
    intro w mg fa h Y G hmg0
    obtain ⟨K, KX, c⟩ := Y
    have hmg : mg ("law" : PySem.Str) = some (.ref fa) := by
      have e : (HandSHeadRun.topDef (OpenLaw.row PySem.Challenge.rw_codenotary_k66_listings_written_and_read).prog 65).name = ("law" : PySem.Str) := by kernel_rfl
      rw [← e]
      exact hmg0
    obtain ⟨fd, hb, hF⟩ := K66.facts (P := (PySem.Challenge.rw_codenotary_k66_listings_written_and_read).prog) (w := w) run ⟨by kernel_rfl, by kernel_rfl⟩ KX G hmg (CN.says_of c)
    exact ⟨K, fd, CN.spLaw K, KX, hb, fun H a ns hl _ hS => ⟨a, ns, rfl, hS, hl, fun _ => rfl⟩, hF⟩
theorem PySem.Challenge.cw_codenotary_k66_listings_written_and_read_holds : PySem.Challenge.rw_codenotary_k66_listings_written_and_read.Holds := by
  exact k66_of (wf := 1000) (k := 0) K66.runs
