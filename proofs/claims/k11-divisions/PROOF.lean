import PyProof.Rows.All
import Wide.All
import OpenK.AllK
import Wide.FinOn
import KE.KStateDown
import Lean
import HandS.ForExc
import HandS.Comp
import HandS.Iter
import HandS.Text
import HandS.Wide
import HandS.WideMore
import HandS.TupAny
import HandS.TupLe
import HandS.Style
import HandS.Zip
import HandS.Rev
import HandS.Conv
import HandS.More
import HandS.Small
import HandS.IsInst
import HandS.TryMany
import HandS.CallLocal
import HandS.Defaults
import HandS.RaiseMore
import HandS.TupMul
import KE.GoesMore
import KE.GoesEnum
import HandS.EndBits
import HandS.HeadEnd
import HandS.Head0
import HandS.Head1
import HandS.Head2
import HandS.HeadHook1
import HandS.HeadHook2
import KE.IntBitsLaws
import PyProof.ExcBaseAll.ValueError
import PySem.Challenge.RW_realplane_k11_divisions
set_option Elab.async false
set_option linter.all false
set_option maxRecDepth 100000
namespace Py
open PySem

inductive D where
  | non | bl (b : Bool) | int (i : Int) | str (s : Str) | tup (xs : List D) | loc (n : Nat) | fn (f : Nat)
  -- cl: a list that is never written (the script)
  | cl (xs : List D)
deriving Inhabited
/-- what stands in the store -/
inductive O where
  | lst (xs : List D)
deriving Inhabited
abbrev Sto := List O
/-- where items are read: what must stay as it is meanwhile -/
abbrev Src := Option (Nat × O)
/-- what an expression hands on: a value, or a list that nobody holds as yet -/
inductive W where
  | v (d : D) | f (xs : List D)
  -- it: what only a loop walks (range, enumerate, zip, reversed), its items known; an omitted part of a slice
  | it (xs : List D) (src : List Src)
deriving Inhabited
structure Exn where
  cls : Nat
  fs : List (Str × D) := []
deriving Inhabited
inductive R (α : Type) where
  | ok (a : α) (S : Sto) | exc (x : Exn) (S : Sto) | bad
namespace R
def bind {α β : Type} (r : R α) (k : α → Sto → R β) : R β := match r with
  | .ok a S => k a S
  | .exc x S => .exc x S
  | .bad => .bad
/-- no exception may leave -/
def nox {α : Type} (r : R α) : R α := match r with
  | .ok a S => .ok a S
  | _ => .bad
@[simp] theorem bind_ok {α β : Type} (a : α) (S : Sto) (k : α → Sto → R β) : (R.ok a S).bind k = k a S := rfl
@[simp] theorem bind_exc {α β : Type} (x : Exn) (S : Sto) (k : α → Sto → R β) : (R.exc x S : R α).bind k = .exc x S := rfl
@[simp] theorem bind_bad {α β : Type} (k : α → Sto → R β) : (R.bad : R α).bind k = .bad := rfl
@[simp] theorem nox_ok {α : Type} (a : α) (S : Sto) : (R.ok a S).nox = .ok a S := rfl
theorem bind_assoc {α β γ : Type} (r : R α) (k : α → Sto → R β) (l : β → Sto → R γ) : (r.bind k).bind l = r.bind fun a S => (k a S).bind l := by
  cases r <;> rfl
end R
def orBad {α : Type} (o : Option α) (S : Sto) : R α := match o with
  | some a => .ok a S
  | none => .bad
@[simp] theorem orBad_some {α : Type} (a : α) (S : Sto) : orBad (some a) S = .ok a S := rfl
@[simp] theorem orBad_none {α : Type} (S : Sto) : orBad (none : Option α) S = .bad := rfl

mutual
def flat : D → Bool
  | .loc _ => false
  | .tup xs => flats xs
  | .cl xs => flats xs
  | _ => true
def flats : List D → Bool
  | [] => true
  | x :: xs => flat x && flats xs
end
abbrev lim : Nat := 1048576

def toPy : Nat → Sto → D → Option PyData
  | 0, _, _ => none
  | _ + 1, _, .non => some .none
  | _ + 1, _, .bl b => some (.bool b)
  | _ + 1, _, .int i => some (.int i)
  | _ + 1, _, .str s => some (.str s)
  | n + 1, S, .tup xs => (xs.mapM (toPy n S)).map .tuple
  | n + 1, S, .loc k => match S[k]? with
    | some (.lst xs) => (xs.mapM (toPy n S)).map .list
    | none => none
  | n + 1, S, .cl xs => (xs.mapM (toPy n S)).map .list
  | _ + 1, _, .fn _ => none
def toPyW (S : Sto) : W → Option PyData
  | .v d => toPy 70 S d
  | .f xs => (xs.mapM (toPy 70 S)).map .list
  | .it _ _ => none
def eqW (S : Sto) (a b : W) : Option Bool := match toPyW S a, toPyW S b with
  | some x, some y => if SeqAt.shaped x && SeqAt.shaped y then some (PyData.eqv x y) else none
  | _, _ => none

def lstOf (S : Sto) : W → Option (List D)
  | .f xs => some xs
  | .v (.loc n) => match S[n]? with
    | some (.lst xs) => some xs
    | none => none
  | .v (.cl xs) => some xs
  | _ => none
/-- .. of a list that is no constant one -/
def lstP (S : Sto) : W → Option (List D)
  | .f xs => some xs
  | .v (.loc n) => match S[n]? with
    | some (.lst xs) => some xs
    | none => none
  | _ => none
def seqOf (S : Sto) : W → Option (List D)
  | .v (.tup xs) => some xs
  | w => lstOf S w

def mulOk (i j : Int) : Bool := decide (i.natAbs.log2 + j.natAbs.log2 < 100000000)
def divOk (j : Int) : Bool := decide (j ≠ 0) && decide (j.natAbs.log2 < 9000)
def powOk (i j : Int) : Bool := decide (0 ≤ j) && decide (j.toNat ≤ 1000000) && decide (i.natAbs < 2 ^ 64)
def repOk (n : Nat) (k : Int) : Bool := decide (k.natAbs < 2 ^ 62) && decide (n * k.toNat ≤ lim)
def repL (xs : List D) (k : Int) : List D := (List.replicate k.toNat xs).flatten
def intOp (op : Operator) (i j : Int) : Option Int := match op with
  | .Add => some (i + j)
  | .Sub => some (i - j)
  | .Mult => if mulOk i j then some (i * j) else none
  | .FloorDiv => if divOk j then some (i.fdiv j) else none
  | .Mod => if j = 0 then none else some (i.fmod j)
  | .Pow => if powOk i j then some (i ^ j.toNat) else none
  | _ => none
def binW (op : Operator) (a b : W) (S : Sto) : R W := match op, a, b with
  | op, .v (.int i), .v (.int j) => (orBad (intOp op i j) S).bind fun z S => .ok (.v (.int z)) S
  | .Add, .v (.str x), .v (.str y) => if x.length + y.length ≤ lim then .ok (.v (.str (x ++ y))) S else .bad
  | .Add, .v (.tup xs), .v (.tup ys) => if xs.length + ys.length ≤ lim then .ok (.v (.tup (xs ++ ys))) S else .bad
  | .Mult, .v (.tup xs), .v (.int k) => if repOk xs.length k then .ok (.v (.tup (repL xs k))) S else .bad
  | .Mult, a, .v (.int k) => match lstP S a with
    | some xs => if repOk xs.length k then .ok (.f (repL xs k)) S else .bad
    | none => .bad
  | .Add, a, b => match lstP S a, lstP S b with
    | some xs, some ys => if xs.length + ys.length ≤ lim then .ok (.f (xs ++ ys)) S else .bad
    | _, _ => .bad
  | _, _, _ => .bad
def atomB : D → Bool
  | .non => true
  | .bl _ => true
  | .int _ => true
  | .str _ => true
  | _ => false
def atomEq : D → D → Bool
  | .non, .non => true
  | .bl a, .bl b => a == b
  | .bl a, .int b => (if a then 1 else 0) == b
  | .int a, .bl b => a == (if b then 1 else 0)
  | .int a, .int b => a == b
  | .str a, .str b => a == b
  | _, _ => false
def inD (x : D) (xs : List D) : Option Bool := if atomB x && xs.all atomB then some (xs.any fun y => atomEq y x) else none
def isIn (S : Sto) (a b : W) : Option Bool := match a, b with
  | .v x, b => match seqOf S b with
    | some ys => inD x ys
    | none => none
  | _, _ => none
def isNon : D → Bool
  | .non => true
  | _ => false
def cmpB (op : CmpOp) (a b : W) (S : Sto) : Option Bool := match op, a, b with
  | .Lt, .v (.int i), .v (.int j) => some (decide (i < j))
  | .LtE, .v (.int i), .v (.int j) => some (decide (i ≤ j))
  | .Gt, .v (.int i), .v (.int j) => some (decide (j < i))
  | .GtE, .v (.int i), .v (.int j) => some (decide (j ≤ i))
  | .Eq, a, b => eqW S a b
  | .NotEq, a, b => (eqW S a b).map (!·)
  | .Is, .v (.bl x), .v (.bl y) => some (decide (x = y))
  | .IsNot, .v (.bl x), .v (.bl y) => some (!decide (x = y))
  | .Is, .v x, .v .non => some (isNon x)
  | .IsNot, .v x, .v .non => some (!isNon x)
  | .In, a, b => isIn S a b
  | .NotIn, a, b => (isIn S a b).map (!·)
  | _, _, _ => none
def cmpW (op : CmpOp) (a b : W) (S : Sto) : R W := (orBad (cmpB op a b S) S).bind fun z S => .ok (.v (.bl z)) S
def ixN (n : Nat) (i : Int) : Option Nat := if 0 ≤ i then (if i < n then some i.toNat else none) else if -(n : Int) ≤ i then some (i + n).toNat else none
def atI {α : Type} (xs : List α) (i : Int) : Option α := (ixN xs.length i).bind fun j => xs[j]?
def ixW (a b : W) (S : Sto) : Option D := match b with
  | .v (.int i) => match seqOf S a with
    | some xs => atI xs i
    | none => none
  | _ => none
def ixR (a b : W) (S : Sto) : R W := (orBad (ixW a b S) S).bind fun d S' => .ok (.v d) S'
def sIx (n d : Nat) : Option Int → Nat
  | none => d
  | some v => if v < 0 then (v + (n : Int)).toNat else min v.toNat n
def cut {α : Type} (xs : List α) (lo hi : Option Int) : List α := (xs.drop (sIx xs.length 0 lo)).take (sIx xs.length xs.length hi - sIx xs.length 0 lo)
def slW (a : W) (lo hi : Option Int) (S : Sto) : Option W := match a with
  | .v (.tup xs) => some (.v (.tup (cut xs lo hi)))
  | a => match lstOf S a with
    | some xs => some (.f (cut xs lo hi))
    | none => none
def revW (a : W) (S : Sto) : Option W := match a with
  | .v (.tup xs) => some (.v (.tup xs.reverse))
  | a => match lstOf S a with
    | some xs => some (.f xs.reverse)
    | none => none
/-- built-in types that isinstance is asked for -/
inductive Ty where
  | tint | tbool | tstr | ttup | tlst
deriving DecidableEq
def isTy (S : Sto) : W → Ty → Option Bool
  | .f _, t => some (decide (t = .tlst))
  | .it _ _, _ => none
  | .v .non, _ => some false
  | .v (.bl _), t => some (decide (t = .tint) || decide (t = .tbool))
  | .v (.int _), t => some (decide (t = .tint))
  | .v (.str _), t => some (decide (t = .tstr))
  | .v (.tup _), t => some (decide (t = .ttup))
  | .v (.loc n), t => match S[n]? with
    | some (.lst _) => some (decide (t = .tlst))
    | none => none
  | .v (.cl _), t => some (decide (t = .tlst))
  | .v (.fn _), _ => none
/-- built-in functions of one argument, of two -/
inductive B1 where
  | len | abs | int | tup | lst | all | any | sum | max | min | repr
deriving DecidableEq
inductive B2 where
  | max | min
deriving DecidableEq
def boolsOf (xs : List D) : Option (List Bool) := xs.mapM fun d => match d with
  | .bl b => some b
  | _ => none
def intsOf (xs : List D) : Option (List Int) := xs.mapM fun d => match d with
  | .int i => some i
  | _ => none
def maxL : Int → List Int → Int
  | m, [] => m
  | m, x :: xs => maxL (if m < x then x else m) xs
def minL : Int → List Int → Int
  | m, [] => m
  | m, x :: xs => minL (if x < m then x else m) xs
def b1W (f : B1) (a : W) (S : Sto) : Option W := match f, a with
  | .len, .v (.str s) => if s.length ≤ lim then some (.v (.int s.length)) else none
  | .len, a => match seqOf S a with
    | some xs => some (.v (.int xs.length))
    | none => none
  | .abs, .v (.int i) => some (.v (.int (if i < 0 then -i else i)))
  | .int, .v (.int i) => some (.v (.int i))
  | .int, .v (.bl b) => some (.v (.int (if b then 1 else 0)))
  | .tup, a => match seqOf S a with
    | some xs => some (.v (.tup xs))
    | none => none
  | .lst, a => match seqOf S a with
    | some xs => some (.f xs)
    | none => none
  | .all, a => match (lstOf S a).bind boolsOf with
    | some bs => some (.v (.bl (bs.all id)))
    | none => none
  | .any, a => match (lstOf S a).bind boolsOf with
    | some bs => some (.v (.bl (bs.any id)))
    | none => none
  | .sum, a => match (lstOf S a).bind intsOf with
    | some ns => some (.v (.int ns.sum))
    | none => none
  | .max, a => match (lstOf S a).bind intsOf with
    | some (n :: ns) => some (.v (.int (maxL n ns)))
    | _ => none
  | .min, a => match (lstOf S a).bind intsOf with
    | some (n :: ns) => some (.v (.int (minL n ns)))
    | _ => none
  | .repr, .v (.bl b) => some (.v (.str (if b then "True" else "False")))
  | _, _ => none
def b2W (f : B2) (a b : W) : Option W := match f, a, b with
  | .max, .v (.int i), .v (.int j) => some (.v (.int (if j > i then j else i)))
  | .min, .v (.int i), .v (.int j) => some (.v (.int (if j < i then j else i)))
  | _, _, _ => none
/-- methods of lists -/
inductive Mt where
  | pop | append | extend | insert
deriving DecidableEq
def mtW (m : Mt) (o : D) (as : List W) (S : Sto) : R W := match o with
  | .loc n => match S[n]? with
    | some (.lst xs) => match m, as with
      | .pop, [] => match xs[xs.length - 1]? with
        | some y => .ok (.v y) (S.set n (.lst xs.dropLast))
        | none => .bad
      | .append, [.v y] => if xs.length < lim then .ok (.v .non) (S.set n (.lst (xs ++ [y]))) else .bad
      | .extend, [w] => match lstP S w with
        | some ys => if xs.length + ys.length ≤ lim then .ok (.v .non) (S.set n (.lst (xs ++ ys))) else .bad
        | none => .bad
      | .insert, [.v (.int i), .v y] => if xs.length < lim ∧ 0 ≤ i ∧ i.natAbs < 2 ^ 62 then .ok (.v .non) (S.set n (.lst (xs.take i.toNat ++ [y] ++ xs.drop i.toNat))) else .bad
      | _, _ => .bad
    | _ => .bad
  | _ => .bad

inductive Tg where
  | name (i : Nat) | tup (ts : List Tg)
deriving Inhabited
inductive E where
  | int (i : Int) | bl (b : Bool) | non | str (s : Str)
  | var (i : Nat) | glob (i : Nat)
  | bin (op : Operator) (a b : E) | neg (a : E) | not (a : E)
  | cmp (op : CmpOp) (a b : E) | chain (o1 o2 : CmpOp) (a b c : E)
  | and (a b : E) | or (a b : E) | ife (c a b : E)
  | tup (es : List E) | lst (es : List E)
  | ix (a b : E) | sl (a lo hi : E) | omit | slr (a : E)
  | call (f : Nat) (es : List E) | callv (i : Nat) (es : List E)
  | b1 (f : B1) (a : E) | b2 (f : B2) (a b : E) | isi (a : E) (t : Ty)
  | meth (o : E) (m : Mt) (es : List E)
  | lc (e : E) (own : List (Str × Nat)) (tg : Tg) (it : E) | lcif (e : E) (own : List (Str × Nat)) (tg : Tg) (it c : E)
  | rng (es : List E) | enum (e : E) | zip (a b : E) | rev (e : E)
deriving Inhabited
/-- what an except suite may say -/
inductive HE where
  | int (i : Int) | bl (b : Bool) | non | str (s : Str) | var (i : Nat)
deriving Inhabited
inductive HS where
  | ret (e : HE) | retN | cnt | pass
deriving Inhabited
inductive Stm where
  | set (i : Nat) (e : E) | tset (tg : Tg) (e : E) | sset (o k e : E)
  | aug (i : Nat) (op : Operator) (e : E) | saug (o k : E) (op : Operator) (e : E)
  | ex (e : E) | ret (e : E) | retN
  | ite (c : E) (a b : List Stm) | whl (c : E) (b : List Stm) | for_ (tg : Tg) (it : E) (b : List Stm)
  | pass | brk | cnt | raise (c : Nat)
  | try_ (b : List Stm) (hs : List (Nat × HS))
deriving Inhabited
abbrev Env := List (Option D)
/-- what a program's names stand for: its defs (by numbers), its constants -/
structure Gm where
  call : Nat → List D → Sto → R W
  glob : Nat → Option D
  has : Nat → Bool

def alloc (w : W) (S : Sto) : R D := match w with
  | .v d => .ok d S
  | .f xs => .ok (.loc S.length) (S ++ [.lst xs])
  | .it _ _ => .bad
def srcOf (S : Sto) : W → Src
  | .v (.loc n) => match S[n]? with
    | some o => some (n, o)
    | none => none
  | _ => none
def srcOk (s : Src) (S : Sto) : Prop := match s with
  | some (n, o) => S[n]? = some o
  | none => True
mutual
def bindTg (S : Sto) : Tg → D → Env → Option Env
  | .name i, d, env => some (env.set i (some d))
  | .tup ts, d, env => match seqOf S (.v d) with
    | some ds => bindTgs S ts ds env
    | none => none
def bindTgs (S : Sto) : List Tg → List D → Env → Option Env
  | [], [], env => some env
  | t :: ts, d :: ds, env => (bindTg S t d env).bind fun env' => bindTgs S ts ds env'
  | _, _, _ => none
end
def wipe (env : Env) : List Nat → Env
  | [] => env
  | v :: vs => (wipe env vs).set v none
def rangeD (lo hi : Int) : List D := (List.range (hi - lo).toNat).map fun (k : Nat) => D.int (lo + k)
def small (i : Int) : Bool := decide (i.natAbs < 2 ^ 62)
def rngW (ws : List D) : Option (List D) := match ws with
  | [.int n] => if small n then some (rangeD 0 n) else none
  | [.int a, .int b] => if small a && small b then some (rangeD a b) else none
  | _ => none
def enumFrom (k : Nat) : List D → List D
  | [] => []
  | x :: xs => .tup [.int (k : Nat), x] :: enumFrom (k + 1) xs
def zipD : List D → List D → List D
  | x :: xs, y :: ys => .tup [x, y] :: zipD xs ys
  | _, _ => []
def partOf : W → Option (Option Int)
  | .v (.int i) => some (some i)
  | .it _ _ => some none
  | _ => none
def isTupW : W → Bool
  | .v (.tup _) => true
  | _ => false
def itemsOf (w : W) (S : Sto) : Option (List D × List Src) := match w with
  | .it xs src => some (xs, src)
  | w => match seqOf S w with
    | some xs => some (xs, [srcOf S w])
    | none => none
open Classical in
/-- the walk of a comprehension -/
noncomputable def lcM (src : List Src) (f : D → Sto → R (Option D)) : List D → Sto → R (List D)
  | [], S => if ∀ s ∈ src, srcOk s S then .ok [] S else .bad
  | x :: xs, S => if ∀ s ∈ src, srcOk s S then (f x S).bind fun o S1 => (lcM src f xs S1).bind fun ds S2 => .ok (o.toList ++ ds) S2 else .bad
/-- by a truth value -/
def onB {α : Type} (w : W) (t f : R α) : R α := match w with
  | .v (.bl true) => t
  | .v (.bl false) => f
  | _ => .bad
@[simp] theorem onB_true {α : Type} (t f : R α) : onB (.v (.bl true)) t f = t := rfl
@[simp] theorem onB_false {α : Type} (t f : R α) : onB (.v (.bl false)) t f = f := rfl
@[simp] theorem onB_bl {α : Type} (b : Bool) (t f : R α) : onB (.v (.bl b)) t f = if b = true then t else f := by cases b <;> rfl
def onI {α : Type} (w : W) (k : Int → R α) : R α := match w with
  | .v (.int i) => k i
  | _ => .bad
@[simp] theorem onI_int {α : Type} (i : Int) (k : Int → R α) : onI (.v (.int i)) k = k i := rfl
def onLoc {α : Type} (w : W) (k : Nat → R α) : R α := match w with
  | .v (.loc n) => k n
  | _ => .bad
@[simp] theorem onLoc_loc {α : Type} (n : Nat) (k : Nat → R α) : onLoc (.v (.loc n)) k = k n := rfl
mutual
noncomputable def ev (G : Gm) : E → Env → Sto → R W
  | .int i, _, S => .ok (.v (.int i)) S
  | .bl b, _, S => .ok (.v (.bl b)) S
  | .non, _, S => .ok (.v .non) S
  | .str s, _, S => .ok (.v (.str s)) S
  | .var i, env, S => match env[i]? with
    | some (some d) => .ok (.v d) S
    | _ => .bad
  | .glob x, _, S => match G.glob x with
    | some d => .ok (.v d) S
    | none => .bad
  | .bin op a b, env, S => (ev G a env S).bind fun x S1 => (ev G b env S1).bind fun y S2 => binW op x y S2
  | .neg a, env, S => (ev G a env S).bind fun x S1 => onI x fun i => .ok (.v (.int (-i))) S1
  | .not a, env, S => (ev G a env S).bind fun x S1 => onB x (.ok (.v (.bl false)) S1) (.ok (.v (.bl true)) S1)
  | .cmp op a b, env, S => (ev G a env S).bind fun x S1 => (ev G b env S1).bind fun y S2 => cmpW op x y S2
  | .chain o1 o2 a b c, env, S => (ev G a env S).bind fun x S1 => (ev G b env S1).bind fun y S2 => (cmpW o1 x y S2).bind fun z S3 => onB z ((ev G c env S3).bind fun t S4 => cmpW o2 y t S4) (.ok (.v (.bl false)) S3)
  | .and a b, env, S => (ev G a env S).bind fun x S1 => onB x (ev G b env S1) (.ok (.v (.bl false)) S1)
  | .or a b, env, S => (ev G a env S).bind fun x S1 => onB x (.ok (.v (.bl true)) S1) (ev G b env S1)
  | .ife c a b, env, S => (ev G c env S).bind fun x S1 => onB x (ev G a env S1) (ev G b env S1)
  | .tup es, env, S => (evs G es env S).bind fun ds S1 => if ds.length ≤ lim then .ok (.v (.tup ds)) S1 else .bad
  | .lst es, env, S => (evs G es env S).bind fun ds S1 => if ds.length ≤ lim then .ok (.f ds) S1 else .bad
  | .ix a b, env, S => (ev G a env S).bind fun x S1 => (ev G b env S1).bind fun y S2 => ixR x y S2
  | .sl a lo hi, env, S => (ev G a env S).bind fun x S1 => (ev G lo env S1).bind fun l S2 => (orBad (partOf l) S2).bind fun l' S3 => (ev G hi env S3).bind fun h S4 => (orBad (partOf h) S4).bind fun h' S5 => orBad (slW x l' h' S5) S5
  | .omit, _, S => .ok (.it [] []) S
  | .slr a, env, S => (ev G a env S).bind fun x S1 => orBad (revW x S1) S1
  | .call f es, env, S => (evs G es env S).bind fun ds S1 => G.call f ds S1
  | .callv i es, env, S => match env[i]? with
    | some (some (.fn f)) => if G.has f then (evs G es env S).bind fun ds S1 => G.call f ds S1 else .bad
    | _ => .bad
  | .b1 f a, env, S => (ev G a env S).bind fun x S1 => orBad (b1W f x S1) S1
  | .b2 f a b, env, S => (ev G a env S).bind fun x S1 => (ev G b env S1).bind fun y S2 => orBad (b2W f x y) S2
  | .isi a t, env, S => (ev G a env S).bind fun x S1 => (orBad (isTy S1 x t) S1).bind fun b S2 => .ok (.v (.bl b)) S2
  | .meth o m es, env, S => (ev G o env S).bind fun x S1 => onLoc x fun n => (evs G es env S1).bind fun ds S2 => mtW m (.loc n) (ds.map .v) S2
  | .lc e own tg it, env, S => (ev G it env S).bind fun w0 S0 => (orBad (itemsOf w0 S0) S0).bind fun p S1 =>
      (lcM p.2 (fun x T => (orBad (bindTg T tg x (wipe env (own.map (·.2)))) T).bind fun env' T1 => (ev G e env' T1).bind fun w T2 => (alloc w T2).bind fun d T3 => .ok (some d) T3) p.1 S1).nox.bind fun ds S2 =>
        if ds.length ≤ lim then .ok (.f ds) S2 else .bad
  | .lcif e own tg it c, env, S => (ev G it env S).bind fun w0 S0 => (orBad (itemsOf w0 S0) S0).bind fun p S1 =>
      (lcM p.2 (fun x T => (orBad (bindTg T tg x (wipe env (own.map (·.2)))) T).bind fun env' T1 => (ev G c env' T1).bind fun b T2 => onB b ((ev G e env' T2).bind fun w T3 => (alloc w T3).bind fun d T4 => .ok (some d) T4) (.ok none T2)) p.1 S1).nox.bind fun ds S2 =>
        if ds.length ≤ lim then .ok (.f ds) S2 else .bad
  | .rng es, env, S => (evs G es env S).bind fun ds S1 => (orBad (rngW ds) S1).bind fun xs S2 => .ok (.it xs []) S2
  | .enum e, env, S => (ev G e env S).bind fun w S1 => (orBad (seqOf S1 w) S1).bind fun xs S2 => .ok (.it (enumFrom 0 xs) [srcOf S1 w]) S2
  | .zip a b, env, S => (ev G a env S).bind fun x S1 => (ev G b env S1).bind fun y S2 => (orBad (seqOf S2 x) S2).bind fun xs S3 => (orBad (seqOf S3 y) S3).bind fun ys S4 => if isTupW x = isTupW y then .ok (.it (zipD xs ys) [srcOf S2 x, srcOf S2 y]) S4 else .bad
  | .rev e, env, S => (ev G e env S).bind fun w S1 => (orBad (seqOf S1 w) S1).bind fun xs S2 => .ok (.it xs.reverse [srcOf S1 w]) S2
noncomputable def evs (G : Gm) : List E → Env → Sto → R (List D)
  | [], _, S => .ok [] S
  | e :: es, env, S => (ev G e env S).bind fun w S1 => (alloc w S1).bind fun d S2 => (evs G es env S2).bind fun ds S3 => .ok (d :: ds) S3
end

inductive Fl where
  | nx | ret (w : W) | bk | ct
inductive RS where
  | ok (f : Fl) (env : Env) (S : Sto) | exc (x : Exn) (env : Env) (S : Sto) | bad
def R.st {α : Type} (r : R α) (env : Env) (k : α → Sto → RS) : RS := match r with
  | .ok a S => k a S
  | .exc x S => .exc x env S
  | .bad => .bad
@[simp] theorem R.st_ok {α : Type} (a : α) (S : Sto) (env : Env) (k : α → Sto → RS) : (R.ok a S).st env k = k a S := rfl
@[simp] theorem R.st_exc {α : Type} (x : Exn) (S : Sto) (env : Env) (k : α → Sto → RS) : (R.exc x S : R α).st env k = .exc x env S := rfl
@[simp] theorem R.st_bad {α : Type} (env : Env) (k : α → Sto → RS) : (R.bad : R α).st env k = .bad := rfl
/-- what follows a statement -/
def RS.seq (r : RS) (k : Env → Sto → RS) : RS := match r with
  | .ok .nx env S => k env S
  | r => r
@[simp] theorem RS.seq_nx (env : Env) (S : Sto) (k : Env → Sto → RS) : (RS.ok .nx env S).seq k = k env S := rfl
@[simp] theorem RS.seq_ret (w : W) (env : Env) (S : Sto) (k : Env → Sto → RS) : (RS.ok (.ret w) env S).seq k = .ok (.ret w) env S := rfl
@[simp] theorem RS.seq_bk (env : Env) (S : Sto) (k : Env → Sto → RS) : (RS.ok .bk env S).seq k = .ok .bk env S := rfl
@[simp] theorem RS.seq_ct (env : Env) (S : Sto) (k : Env → Sto → RS) : (RS.ok .ct env S).seq k = .ok .ct env S := rfl
@[simp] theorem RS.seq_exc (x : Exn) (env : Env) (S : Sto) (k : Env → Sto → RS) : (RS.exc x env S).seq k = .exc x env S := rfl
@[simp] theorem RS.seq_bad (k : Env → Sto → RS) : RS.bad.seq k = .bad := rfl
/-- what a loop's turn leaves: k the next turn -/
def RS.turn (r : RS) (k : Env → Sto → RS) : RS := match r with
  | .ok .nx env S => k env S
  | .ok .ct env S => k env S
  | .ok .bk env S => .ok .nx env S
  | r => r
@[simp] theorem RS.turn_nx (env : Env) (S : Sto) (k : Env → Sto → RS) : (RS.ok .nx env S).turn k = k env S := rfl
@[simp] theorem RS.turn_ct (env : Env) (S : Sto) (k : Env → Sto → RS) : (RS.ok .ct env S).turn k = k env S := rfl
@[simp] theorem RS.turn_bk (env : Env) (S : Sto) (k : Env → Sto → RS) : (RS.ok .bk env S).turn k = .ok .nx env S := rfl
@[simp] theorem RS.turn_ret (w : W) (env : Env) (S : Sto) (k : Env → Sto → RS) : (RS.ok (.ret w) env S).turn k = .ok (.ret w) env S := rfl
@[simp] theorem RS.turn_exc (x : Exn) (env : Env) (S : Sto) (k : Env → Sto → RS) : (RS.exc x env S).turn k = .exc x env S := rfl
@[simp] theorem RS.turn_bad (k : Env → Sto → RS) : RS.bad.turn k = .bad := rfl

def onBS (w : W) (t f : RS) : RS := match w with
  | .v (.bl true) => t
  | .v (.bl false) => f
  | _ => .bad
@[simp] theorem onBS_true (t f : RS) : onBS (.v (.bl true)) t f = t := rfl
@[simp] theorem onBS_false (t f : RS) : onBS (.v (.bl false)) t f = f := rfl
@[simp] theorem onBS_bl (b : Bool) (t f : RS) : onBS (.v (.bl b)) t f = if b = true then t else f := by cases b <;> rfl
def whileN (c : Env → Sto → R W) (b : Env → Sto → RS) : Nat → Env → Sto → RS
  | 0, _, _ => .bad
  | n + 1, env, S => (c env S).st env fun w S1 => onBS w ((b env S1).turn fun env2 S2 => whileN c b n env2 S2) (.ok .nx env S1)
open Classical in
noncomputable def whileM (c : Env → Sto → R W) (b : Env → Sto → RS) (env : Env) (S : Sto) : RS :=
  if h : ∃ n, whileN c b n env S ≠ .bad then whileN c b (choose h) env S else .bad
theorem whileN_more (c : Env → Sto → R W) (b : Env → Sto → RS) : ∀ n env S, whileN c b n env S ≠ .bad → whileN c b (n + 1) env S = whileN c b n env S
  | 0, _, _, h => absurd rfl h
  | n + 1, env, S, h => by
    show (c env S).st env (fun w S1 => onBS w ((b env S1).turn fun env2 S2 => whileN c b (n + 1) env2 S2) (.ok .nx env S1)) = (c env S).st env fun w S1 => onBS w ((b env S1).turn fun env2 S2 => whileN c b n env2 S2) (.ok .nx env S1)
    have h : ((c env S).st env fun w S1 => onBS w ((b env S1).turn fun env2 S2 => whileN c b n env2 S2) (.ok .nx env S1)) ≠ .bad := h
    cases e : c env S with
    | exc x S1 => rfl
    | bad => rfl
    | ok w S1 =>
      rw [e] at h
      have h : onBS w ((b env S1).turn fun env2 S2 => whileN c b n env2 S2) (.ok .nx env S1) ≠ .bad := h
      show onBS w ((b env S1).turn fun env2 S2 => whileN c b (n + 1) env2 S2) (.ok .nx env S1) = onBS w ((b env S1).turn fun env2 S2 => whileN c b n env2 S2) (.ok .nx env S1)
      unfold onBS at h ⊢
      split
      · have h : ((b env S1).turn fun env2 S2 => whileN c b n env2 S2) ≠ .bad := h
        cases e2 : b env S1 with
        | exc x env2 S2 => rfl
        | bad => rfl
        | ok f env2 S2 =>
          rw [e2] at h
          cases f with
          | nx => exact whileN_more c b n env2 S2 h
          | ct => exact whileN_more c b n env2 S2 h
          | bk => rfl
          | ret w => rfl
      · rfl
      · rfl
theorem whileN_le (c : Env → Sto → R W) (b : Env → Sto → RS) {n m : Nat} {env : Env} {S : Sto} (h : whileN c b n env S ≠ .bad) (hm : n ≤ m) : whileN c b m env S = whileN c b n env S := by
  induction m with
  | zero =>
    have : n = 0 := by omega
    rw [this]
  | succ m ih =>
    by_cases e : n = m + 1
    · rw [e]
    · have q := ih (by omega)
      rw [← q] at h ⊢
      exact whileN_more c b m env S h
theorem whileM_of {c : Env → Sto → R W} {b : Env → Sto → RS} {n : Nat} {env : Env} {S : Sto} (h : whileN c b n env S ≠ .bad) : whileM c b env S = whileN c b n env S := by
  have hx : ∃ n, whileN c b n env S ≠ .bad := ⟨n, h⟩
  unfold whileM
  rw [dif_pos hx]
  have h2 := Classical.choose_spec hx
  rcases Nat.le_total n (Classical.choose hx) with q | q
  · exact whileN_le c b h q
  · exact (whileN_le c b h2 q).symm
theorem whileM_no {c : Env → Sto → R W} {b : Env → Sto → RS} {env : Env} {S : Sto} (h : ∀ n, whileN c b n env S = .bad) : whileM c b env S = .bad := by
  unfold whileM
  rw [dif_neg (fun ⟨n, q⟩ => q (h n))]
/-- a loop's first turn -/
theorem whileM_eq (c : Env → Sto → R W) (b : Env → Sto → RS) (env : Env) (S : Sto) :
    whileM c b env S = (c env S).st env fun w S1 => onBS w ((b env S1).turn fun env2 S2 => whileM c b env2 S2) (.ok .nx env S1) := by
  have key : ∀ (env2 : Env) (S2 : Sto), (∀ n, (whileN c b n env2 S2 = .bad)) ∨ ∃ n, ∀ m, n ≤ m → whileN c b m env2 S2 = whileM c b env2 S2 := fun env2 S2 => by
    by_cases q : ∃ n, whileN c b n env2 S2 ≠ .bad
    · obtain ⟨n, q⟩ := q
      exact .inr ⟨n, fun m hm => by rw [whileM_of q, whileN_le c b q hm]⟩
    · exact .inl fun n => Classical.byContradiction fun z => q ⟨n, z⟩
  have go : ∃ n, ∀ m, n ≤ m → whileN c b (m + 1) env S = (c env S).st env fun w S1 => onBS w ((b env S1).turn fun env2 S2 => whileM c b env2 S2) (.ok .nx env S1) := by
    show ∃ n, ∀ m, n ≤ m → ((c env S).st env fun w S1 => onBS w ((b env S1).turn fun env2 S2 => whileN c b m env2 S2) (.ok .nx env S1)) = _
    cases e : c env S with
    | exc x S1 => exact ⟨0, fun _ _ => rfl⟩
    | bad => exact ⟨0, fun _ _ => rfl⟩
    | ok w S1 =>
      show ∃ n, ∀ m, n ≤ m → onBS w ((b env S1).turn fun env2 S2 => whileN c b m env2 S2) (.ok .nx env S1) = onBS w ((b env S1).turn fun env2 S2 => whileM c b env2 S2) (.ok .nx env S1)
      have turn : ∀ r : RS, ∃ n, ∀ m, n ≤ m → (r.turn fun env2 S2 => whileN c b m env2 S2) = r.turn fun env2 S2 => whileM c b env2 S2 := fun r => by
        have at_ : ∀ env2 S2, ∃ n, ∀ m, n ≤ m → whileN c b m env2 S2 = whileM c b env2 S2 := fun env2 S2 => by
          rcases key env2 S2 with q | q
          · exact ⟨0, fun m _ => by rw [q m, whileM_no q]⟩
          · exact q
        cases r with
        | exc x env2 S2 => exact ⟨0, fun _ _ => rfl⟩
        | bad => exact ⟨0, fun _ _ => rfl⟩
        | ok f env2 S2 =>
          cases f with
          | nx => exact at_ env2 S2
          | ct => exact at_ env2 S2
          | bk => exact ⟨0, fun _ _ => rfl⟩
          | ret w => exact ⟨0, fun _ _ => rfl⟩
      obtain ⟨n, hn⟩ := turn (b env S1)
      exact ⟨n, fun m hm => by rw [hn m hm]⟩
  obtain ⟨n, hn⟩ := go
  by_cases q : ∃ k, whileN c b k env S ≠ .bad
  · obtain ⟨k, q⟩ := q
    rw [whileM_of q, ← whileN_le c b q (Nat.le_trans (Nat.le_max_right n k) (Nat.le_succ _)), hn (max n k) (Nat.le_max_left ..)]
  · have all : ∀ n, whileN c b n env S = .bad := fun n => Classical.byContradiction fun z => q ⟨n, z⟩
    rw [whileM_no all, ← hn n (Nat.le_refl _), all]
open Classical in
noncomputable def forM (src : List Src) (tg : Tg) (b : Env → Sto → RS) : List D → Env → Sto → RS
  | [], env, S => if ∀ s ∈ src, srcOk s S then .ok .nx env S else .bad
  | x :: xs, env, S => if ∀ s ∈ src, srcOk s S then (match bindTg S tg x env with
    | some env1 => (b env1 S).turn fun env2 S2 => forM src tg b xs env2 S2
    | none => .bad) else .bad
def hev (e : HE) (env : Env) : Option D := match e with
  | .int i => some (.int i)
  | .bl b => some (.bl b)
  | .non => some .non
  | .str s => some (.str s)
  | .var i => match env[i]? with
    | some (some d) => some d
    | _ => none
def hexec (h : HS) (env : Env) (S : Sto) : RS := match h with
  | .ret e => match hev e env with
    | some d => .ok (.ret (.v d)) env S
    | none => .bad
  | .retN => .ok (.ret (.v .non)) env S
  | .cnt => .ok .ct env S
  | .pass => .ok .nx env S
def handle (hs : List (Nat × HS)) (x : Exn) (env : Env) (S : Sto) : RS := match hs with
  | [] => .exc x env S
  | (c, h) :: r => if c = x.cls then hexec h env S else handle r x env S
def RS.tried (r : RS) (hs : List (Nat × HS)) : RS := match r with
  | .exc x env S => handle hs x env S
  | r => r
/-- an item of a list that stands in the store -/
def ixL (o k : W) (S : Sto) : Option D := match o, k with
  | .v (.loc n), .v (.int i) => match S[n]? with
    | some (.lst xs) => atI xs i
    | _ => none
  | _, _ => none
def setL (o k : W) (d : D) (S : Sto) : Option Sto := match o, k with
  | .v (.loc n), .v (.int i) => match S[n]? with
    | some (.lst xs) => match ixN xs.length i with
      | some j => some (S.set n (.lst (xs.set j d)))
      | none => none
    | _ => none
  | _, _ => none
mutual
noncomputable def exec (G : Gm) : Stm → Env → Sto → RS
  | .set i e, env, S => (ev G e env S).st env fun w S1 => (alloc w S1).st env fun d S2 => .ok .nx (env.set i (some d)) S2
  | .tset tg e, env, S => (ev G e env S).st env fun w S1 => (alloc w S1).st env fun d S2 => match bindTg S2 tg d env with
    | some env' => .ok .nx env' S2
    | none => .bad
  | .sset o k e, env, S => (ev G e env S).st env fun w S1 => (alloc w S1).st env fun d S2 => (ev G o env S2).st env fun ow S3 => (ev G k env S3).st env fun kw S4 => match setL ow kw d S4 with
    | some S5 => .ok .nx env S5
    | none => .bad
  | .aug i op e, env, S => match env[i]? with
    | some (some d) => (ev G e env S).st env fun w S1 => match d, w with
      | .int a, .v (.int b) => match intOp op a b with
        | some z => .ok .nx (env.set i (some (.int z))) S1
        | none => .bad
      | _, _ => .bad
    | _ => .bad
  | .saug o k op e, env, S => (ev G o env S).st env fun ow S1 => (ev G k env S1).st env fun kw S2 => match ixL ow kw S2 with
    | some d => (ev G e env S2).st env fun w S3 => match d, w with
      | .int a, .v (.int b) => match intOp op a b with
        | some z => match setL ow kw (.int z) S3 with
          | some S4 => .ok .nx env S4
          | none => .bad
        | none => .bad
      | _, _ => .bad
    | none => .bad
  | .ex e, env, S => (ev G e env S).st env fun _ S1 => .ok .nx env S1
  | .ret e, env, S => (ev G e env S).st env fun w S1 => .ok (.ret w) env S1
  | .retN, env, S => .ok (.ret (.v .non)) env S
  | .ite c a b, env, S => (ev G c env S).st env fun w S1 => onBS w (execs G a env S1) (execs G b env S1)
  | .whl c b, env, S => whileM (ev G c) (execs G b) env S
  | .for_ tg it b, env, S => (ev G it env S).st env fun w S1 => match itemsOf w S1 with
    | some p => forM p.2 tg (execs G b) p.1 env S1
    | none => .bad
  | .pass, env, S => .ok .nx env S
  | .brk, env, S => .ok .bk env S
  | .cnt, env, S => .ok .ct env S
  | .raise c, env, S => .exc ⟨c, []⟩ env S
  | .try_ b hs, env, S => (execs G b env S).tried hs
noncomputable def execs (G : Gm) : List Stm → Env → Sto → RS
  | [], env, S => .ok .nx env S
  | s :: ss, env, S => (exec G s env S).seq fun env' S' => execs G ss env' S'
end

mutual
def und (n : Nat) : D → Bool
  | .loc m => decide (m < n)
  | .tup xs => unds n xs
  | .cl xs => unds n xs
  | _ => true
def unds (n : Nat) : List D → Bool
  | [] => true
  | x :: xs => und n x && unds n xs
end
def undO (n : Nat) : O → Bool
  | .lst xs => unds n xs
def gcOk (S S' : Sto) : Prop := S.length ≤ S'.length ∧ ∀ i o, i < S.length → S'[i]? = some o → S[i]? = some o ∨ undO S.length o = true
open Classical in
noncomputable def finish (S S' : Sto) (w : W) : R W := if gcOk S S' then (match w with
  | .v (.loc m) => if m < S.length then .ok (.v (.loc m)) (S'.take S.length) else (match S'[m]? with
    | some (.lst xs) => if unds S.length xs then .ok (.f xs) (S'.take S.length) else .bad
    | none => .bad)
  | .v d => if und S.length d then .ok (.v d) (S'.take S.length) else .bad
  | .f xs => if unds S.length xs then .ok (.f xs) (S'.take S.length) else .bad
  | .it _ _ => .bad) else .bad
open Classical in
noncomputable def finishX (S S' : Sto) (x : Exn) : R W := if gcOk S S' ∧ unds S.length (x.fs.map (·.2)) = true then .exc x (S'.take S.length) else .bad
noncomputable def RS.fin (r : RS) (S : Sto) : R W := match r with
  | .ok (.ret w) _ S' => finish S S' w
  | .ok .nx _ S' => finish S S' (.v .non)
  | .exc x _ S' => finishX S S' x
  | _ => .bad
structure FD where
  params : Nat
  names : List Str
  body : List Stm
deriving Inhabited
noncomputable def callF (G : Gm) (fd : FD) (ds : List D) (S : Sto) : R W :=
  if ds.length = fd.params then (execs G fd.body (ds.map some ++ List.replicate (fd.names.length - ds.length) none) S).fin S else .bad
/-- the program: its defs by numbers -/
abbrev Prog := Nat → Option FD
noncomputable def gm (p : Prog) (gl : Nat → Option D) (hs : Nat → Bool) : Nat → Gm
  | 0 => ⟨fun _ _ _ => .bad, gl, hs⟩
  | k + 1 => ⟨fun f ds S => match p f with
    | some fd => callF (gm p gl hs k) fd ds S
    | none => .bad, gl, hs⟩
end Py

namespace Py
open PySem PySem.Spec PyProof.Rows
open L2 (V HO Hp SqL SqT Rd upd upd_same upd_ne)

/-- the written part and where its defs stand -/
structure Gd where
  K : PySem.W.Frag
  at_ : Nat → Addr
  -- the classes of exceptions, by numbers
  ex : Nat → Bool

/-- a list that is known to the object or the module's own -/
def ClL (K : PySem.W.Frag) (H : Hp) (a : Addr) (vs : List V) : Prop := (∃ o, H a = some (.frz o (.lst vs))) ∨ ∀ H', SqL K H' a vs
theorem ClL.sq {K : PySem.W.Frag} {H : Hp} {a : Addr} {vs : List V} (h : ClL K H a vs) : SqL K H a vs := by
  rcases h with ⟨o, h⟩ | h
  · exact .inl (.inr ⟨o, h⟩)
  · exact h H
mutual
def Rep (G : Gd) (H : Hp) (μ : List Addr) : D → V → Prop
  | .non, v => v = .non
  | .bl b, v => v = .bl b
  | .int i, v => v = .int i
  | .str s, v => v = .str s
  | .tup ds, v => ∃ a vs, v = .ref a ∧ SqT G.K H a vs ∧ Reps G H μ ds vs
  | .loc n, v => ∃ a, μ[n]? = some a ∧ v = .ref a
  | .fn f, v => v = .ref (G.at_ f)
  | .cl ds, v => ∃ a vs, v = .ref a ∧ ClL G.K H a vs ∧ Reps G H μ ds vs
def Reps (G : Gd) (H : Hp) (μ : List Addr) : List D → List V → Prop
  | [], vs => vs = []
  | d :: ds, vs => ∃ v vs', vs = v :: vs' ∧ Rep G H μ d v ∧ Reps G H μ ds vs'
end
def RepO (G : Gd) (H : Hp) (μ : List Addr) (a : Addr) : O → Prop
  | .lst xs => ∃ vs, H a = some (.lst vs) ∧ Reps G H μ xs vs
structure Rel (G : Gd) (H : Hp) (μ : List Addr) (S : Sto) : Prop where
  len : μ.length = S.length
  nd : μ.Nodup
  obj : ∀ (n : Nat) (o : O) (a : Addr), S[n]? = some o → μ[n]? = some a → RepO G H μ a o
/-- what an evaluation does to what is tracked: only the store's objects change; new ones come -/
structure Step (μ μ' : List Addr) (H H' : Hp) : Prop where
  pre : ∃ ν, μ' = μ ++ ν ∧ ∀ a ∈ ν, H a = none
  keep : ∀ a o, H a = some o → a ∉ μ → H' a = some o
  dom : ∀ a, H' a = none → H a = none
def RepW (G : Gd) (H₀ H : Hp) (μ : List Addr) : W → V → Prop
  | .v d, v => Rep G H μ d v
  | .f xs, v => ∃ a vs, v = .ref a ∧ H₀ a = none ∧ a ∉ μ ∧ H a = some (.lst vs) ∧ Reps G H μ xs vs
  | .it _ _, _ => False
/-- .. as it stands now -/
def RepC (G : Gd) (H : Hp) (μ : List Addr) : W → V → Prop
  | .v d, v => Rep G H μ d v
  | .f xs, v => ∃ a vs, v = .ref a ∧ a ∉ μ ∧ H a = some (.lst vs) ∧ Reps G H μ xs vs
  | .it _ _, _ => False
structure REnv (G : Gd) (H : Hp) (μ : List Addr) (env : Env) (σ : L2.St) : Prop where
  len : env.length = σ.length
  get : ∀ (i : Nat) (d : D), env[i]? = some (some d) → ∃ v, σ[i]? = some (some v) ∧ Rep G H μ d v

section
variable {G : Gd} {H H' H₀ H1 H2 : Hp} {μ μ' μ1 μ2 : List Addr} {S S' : Sto}

theorem Step.refl : Step μ μ H H := ⟨⟨[], by simp, by simp⟩, fun _ _ h _ => h, fun _ h => h⟩
theorem Step.trans (a : Step μ μ1 H H1) (b : Step μ1 μ2 H1 H2) : Step μ μ2 H H2 := by
  obtain ⟨ν, e, hν⟩ := a.pre
  obtain ⟨ν', e', hν'⟩ := b.pre
  refine ⟨⟨ν ++ ν', by rw [e', e, List.append_assoc], fun x hx => ?_⟩, fun x o h hx => ?_, fun x h => a.dom x (b.dom x h)⟩
  · rcases List.mem_append.mp hx with h | h
    · exact hν x h
    · exact a.dom x (hν' x h)
  · refine b.keep x o (a.keep x o h hx) fun hm => ?_
    rw [e] at hm
    rcases List.mem_append.mp hm with h1 | h1
    · exact hx h1
    · rw [hν x h1] at h
      cases h
theorem Step.get (a : Step μ μ' H H') {n : Nat} {x : Addr} (h : μ[n]? = some x) : μ'[n]? = some x := by
  obtain ⟨ν, e, _⟩ := a.pre
  rw [e, List.getElem?_append_left (List.getElem?_eq_some_iff.mp h).1]
  exact h
theorem Step.notmem (a : Step μ μ' H H') {x : Addr} {o : HO} (h : H x = some o) (hx : x ∉ μ) : x ∉ μ' := by
  obtain ⟨ν, e, hν⟩ := a.pre
  rw [e]
  intro hm
  rcases List.mem_append.mp hm with h1 | h1
  · exact hx h1
  · rw [hν x h1] at h
    cases h
theorem Rel.isLst (r : Rel G H μ S) {a : Addr} (h : a ∈ μ) : ∃ vs, H a = some (.lst vs) := by
  obtain ⟨n, hn, e⟩ := List.getElem_of_mem h
  have hn' : n < S.length := by rw [← r.len]; exact hn
  have := r.obj n S[n] a (List.getElem?_eq_getElem hn') (by rw [List.getElem?_eq_getElem hn, e])
  cases q : S[n] with
  | lst xs =>
    rw [q] at this
    obtain ⟨vs, h1, _⟩ := this
    exact ⟨vs, h1⟩
theorem Rel.notin (r : Rel G H μ S) {a : Addr} (h : H a = none) : a ∉ μ := fun hm => by
  obtain ⟨vs, e⟩ := r.isLst hm
  rw [h] at e
  cases e
theorem Rel.sqT (r : Rel G H μ S) (st : Step μ μ' H H') {K : PySem.W.Frag} {a : Addr} {vs : List V} (h : SqT K H a vs) : SqT K H' a vs := by
  rcases h with (h | ⟨o, h⟩) | h
  · refine .inl (.inl (st.keep a _ h fun hm => ?_))
    obtain ⟨_, e⟩ := r.isLst hm
    rw [h] at e
    cases e
  · refine .inl (.inr ⟨o, st.keep a _ h fun hm => ?_⟩)
    obtain ⟨_, e⟩ := r.isLst hm
    rw [h] at e
    cases e
  · exact .inr h
theorem Rel.clL (r : Rel G H μ S) (st : Step μ μ' H H') {K : PySem.W.Frag} {a : Addr} {vs : List V} (h : ClL K H a vs) : ClL K H' a vs := by
  rcases h with ⟨o, h⟩ | h
  · refine .inl ⟨o, st.keep a _ h fun hm => ?_⟩
    obtain ⟨_, e⟩ := r.isLst hm
    rw [h] at e
    cases e
  · exact .inr h
mutual
theorem Rep.mono (r : Rel G H μ S) (st : Step μ μ' H H') : ∀ {d : D} {v : V}, Rep G H μ d v → Rep G H' μ' d v
  | .non, _, h => h
  | .bl _, _, h => h
  | .int _, _, h => h
  | .str _, _, h => h
  | .tup ds, v, h => by
    obtain ⟨a, vs, e, hs, hr⟩ := h
    exact ⟨a, vs, e, r.sqT st hs, Reps.mono r st hr⟩
  | .loc n, v, h => by
    obtain ⟨a, h1, h2⟩ := h
    exact ⟨a, st.get h1, h2⟩
  | .fn _, _, h => h
  | .cl ds, v, h => by
    obtain ⟨a, vs, e, hs, hr⟩ := h
    exact ⟨a, vs, e, r.clL st hs, Reps.mono r st hr⟩
theorem Reps.mono (r : Rel G H μ S) (st : Step μ μ' H H') : ∀ {ds : List D} {vs : List V}, Reps G H μ ds vs → Reps G H' μ' ds vs
  | [], _, h => h
  | d :: ds, _, h => by
    obtain ⟨v, vs', e, h1, h2⟩ := h
    exact ⟨v, vs', e, Rep.mono r st h1, Reps.mono r st h2⟩
end
theorem RepC.mono (r : Rel G H μ S) (st : Step μ μ' H H') : ∀ {w : W} {v : V}, RepC G H μ w v → RepC G H' μ' w v
  | .v d, v, h => Rep.mono r st (d := d) h
  | .f xs, v, h => by
    obtain ⟨a, vs, e, h1, h2, h3⟩ := h
    exact ⟨a, vs, e, st.notmem h2 h1, st.keep a _ h2 h1, Reps.mono r st h3⟩
theorem RepW.cur : ∀ {w : W} {v : V}, RepW G H₀ H μ w v → RepC G H μ w v
  | .v d, v, h => h
  | .f xs, v, h => by
    obtain ⟨a, vs, e, _, h1, h2, h3⟩ := h
    exact ⟨a, vs, e, h1, h2, h3⟩
theorem RepW.base (hd : ∀ a, H1 a = none → H₀ a = none) : ∀ {w : W} {v : V}, RepW G H1 H μ w v → RepW G H₀ H μ w v
  | .v d, v, h => h
  | .f xs, v, h => by
    obtain ⟨a, vs, e, h0, h1⟩ := h
    exact ⟨a, vs, e, hd a h0, h1⟩
theorem REnv.mono {env : Env} {σ : L2.St} (e : REnv G H μ env σ) (r : Rel G H μ S) (st : Step μ μ' H H') : REnv G H' μ' env σ := by
  refine ⟨e.len, fun i d h => ?_⟩
  obtain ⟨v, h1, h2⟩ := e.get i d h
  exact ⟨v, h1, Rep.mono r st h2⟩

theorem Reps.length : ∀ {ds : List D} {vs : List V}, Reps G H μ ds vs → ds.length = vs.length
  | [], _, h => by
    have h : _ = [] := h
    rw [h]
    rfl
  | d :: ds, _, h => by
    obtain ⟨v, vs', e, _, h2⟩ := h
    rw [e, List.length_cons, List.length_cons, Reps.length h2]
theorem Reps.getOf : ∀ {ds : List D} {vs : List V} {i : Nat} {d : D}, Reps G H μ ds vs → ds[i]? = some d → ∃ v, vs[i]? = some v ∧ Rep G H μ d v
  | [], _, _, _, _, h => by simp at h
  | d :: ds, _, 0, x, hr, h => by
    obtain ⟨v, vs', e, h1, _⟩ := hr
    have : d = x := Option.some.inj h
    subst this
    exact ⟨v, by rw [e]; rfl, h1⟩
  | d :: ds, _, i + 1, x, hr, h => by
    obtain ⟨v, vs', e, _, h2⟩ := hr
    obtain ⟨u, h3, h4⟩ := Reps.getOf (i := i) h2 h
    exact ⟨u, by rw [e]; exact h3, h4⟩
theorem Reps.append : ∀ {ds es : List D} {vs us : List V}, Reps G H μ ds vs → Reps G H μ es us → Reps G H μ (ds ++ es) (vs ++ us)
  | [], _, _, _, h, h' => by
    have h : _ = [] := h
    rw [h]
    exact h'
  | d :: ds, _, _, _, h, h' => by
    obtain ⟨v, vs', e, h1, h2⟩ := h
    rw [e]
    exact ⟨v, _, rfl, h1, Reps.append h2 h'⟩
theorem Reps.take : ∀ {ds : List D} {vs : List V} (n : Nat), Reps G H μ ds vs → Reps G H μ (ds.take n) (vs.take n)
  | _, _, 0, _ => rfl
  | [], _, n + 1, h => by
    have h : _ = [] := h
    rw [h]
    rfl
  | d :: ds, _, n + 1, h => by
    obtain ⟨v, vs', e, h1, h2⟩ := h
    rw [e]
    exact ⟨v, _, rfl, h1, Reps.take n h2⟩
theorem Reps.drop : ∀ {ds : List D} {vs : List V} (n : Nat), Reps G H μ ds vs → Reps G H μ (ds.drop n) (vs.drop n)
  | _, _, 0, h => h
  | [], _, n + 1, h => by
    have h : _ = [] := h
    rw [h]
    rfl
  | d :: ds, _, n + 1, h => by
    obtain ⟨v, vs', e, h1, h2⟩ := h
    rw [e]
    exact Reps.drop n h2
theorem Reps.set : ∀ {ds : List D} {vs : List V} (j : Nat) {d : D} {v : V}, Reps G H μ ds vs → Rep G H μ d v → Reps G H μ (ds.set j d) (vs.set j v)
  | [], _, j, _, _, h, _ => by
    have h : _ = [] := h
    rw [h]
    rfl
  | x :: ds, _, 0, d, v, h, hd => by
    obtain ⟨u, vs', e, h1, h2⟩ := h
    rw [e]
    exact ⟨v, _, rfl, hd, h2⟩
  | x :: ds, _, j + 1, d, v, h, hd => by
    obtain ⟨u, vs', e, h1, h2⟩ := h
    rw [e]
    exact ⟨u, _, rfl, h1, Reps.set j h2 hd⟩
theorem Reps.reverse : ∀ {ds : List D} {vs : List V}, Reps G H μ ds vs → Reps G H μ ds.reverse vs.reverse
  | [], _, h => by
    have h : _ = [] := h
    rw [h]
    rfl
  | d :: ds, _, h => by
    obtain ⟨v, vs', e, h1, h2⟩ := h
    rw [e, List.reverse_cons, List.reverse_cons]
    exact Reps.append (Reps.reverse h2) ⟨v, [], rfl, h1, rfl⟩
theorem Reps.dropLast : ∀ {ds : List D} {vs : List V}, Reps G H μ ds vs → Reps G H μ ds.dropLast vs.dropLast := fun {ds vs} h => by
  rw [List.dropLast_eq_take, List.dropLast_eq_take, ← Reps.length h]
  exact Reps.take _ h
theorem Reps.replicate {ds : List D} {vs : List V} (h : Reps G H μ ds vs) : ∀ n, Reps G H μ (List.replicate n ds).flatten (List.replicate n vs).flatten
  | 0 => rfl
  | n + 1 => by
    rw [List.replicate_succ, List.replicate_succ, List.flatten_cons, List.flatten_cons]
    exact Reps.append h (Reps.replicate h n)
theorem Reps.ints : ∀ {ns : List Int} {vs : List V}, Reps G H μ (ns.map D.int) vs → vs = ns.map V.int
  | [], _, h => h
  | n :: ns, _, h => by
    obtain ⟨v, vs', e, h1, h2⟩ := h
    have h1 : v = V.int n := h1
    rw [e, h1, Reps.ints h2]
    rfl
theorem Reps.of_ints : ∀ (ns : List Int), Reps G H μ (ns.map D.int) (ns.map V.int)
  | [] => rfl
  | n :: ns => ⟨_, _, rfl, rfl, Reps.of_ints ns⟩

/-- a new object that the store does not hold -/
theorem Step.new {p : Addr} {o : HO} (h : H p = none) : Step μ μ H (upd H p o) :=
  ⟨⟨[], by simp, by simp⟩, fun a u e _ => by rw [upd_ne (L2.ne_of_none e h)]; exact e, fun a e => by
    by_cases q : a = p
    · subst q
      rw [upd_same] at e
      cases e
    · rw [upd_ne q] at e
      exact e⟩
theorem Rel.mono (r : Rel G H μ S) (st : Step μ μ H H') (k : ∀ a ∈ μ, ∀ o, H a = some o → H' a = some o) : Rel G H' μ S := by
  refine ⟨r.len, r.nd, fun n o a h1 h2 => ?_⟩
  have q := r.obj n o a h1 h2
  cases o with
  | lst xs =>
    obtain ⟨vs, h3, h4⟩ := q
    exact ⟨vs, k a (List.mem_of_getElem? h2) _ h3, Reps.mono r st h4⟩
theorem Rel.new (r : Rel G H μ S) {p : Addr} {o : HO} (h : H p = none) : Rel G (upd H p o) μ S :=
  r.mono (Step.new h) fun a _ u e => by rw [upd_ne (L2.ne_of_none e h)]; exact e
/-- a list that nobody holds comes into the store -/
theorem Rel.alloc (r : Rel G H μ S) {a : Addr} {vs : List V} {xs : List D} (ha : a ∉ μ) (h : H a = some (.lst vs)) (hx : Reps G H μ xs vs) (h₀ : H₀ a = none) (st : Step μ1 μ H₀ H) :
    Rel G H (μ ++ [a]) (S ++ [.lst xs]) ∧ Step μ1 (μ ++ [a]) H₀ H := by
  have grow : ∀ {ds : List D} {us : List V}, Reps G H μ ds us → Reps G H (μ ++ [a]) ds us := by
    have : ∀ (n : Nat) (x : Addr), μ[n]? = some x → (μ ++ [a])[n]? = some x := fun n x e => by
      rw [List.getElem?_append_left (List.getElem?_eq_some_iff.mp e).1]
      exact e
    have go : ∀ m : Nat, (∀ (d : D) (u : V), sizeOf d < m → Rep G H μ d u → Rep G H (μ ++ [a]) d u) ∧ (∀ (ds : List D) (us : List V), sizeOf ds < m → Reps G H μ ds us → Reps G H (μ ++ [a]) ds us) := by
      intro m
      induction m with
      | zero => exact ⟨fun _ _ h => by omega, fun _ _ h => by omega⟩
      | succ m ih =>
        refine ⟨fun d u hd hr => ?_, fun ds us hd hr => ?_⟩
        · cases d with
          | loc n =>
            obtain ⟨x, h1, h2⟩ := hr
            exact ⟨x, this n x h1, h2⟩
          | tup ds =>
            obtain ⟨x, us, h1, h2, h3⟩ := hr
            exact ⟨x, us, h1, h2, ih.2 ds us (by simp at hd; omega) h3⟩
          | cl ds =>
            obtain ⟨x, us, h1, h2, h3⟩ := hr
            exact ⟨x, us, h1, h2, ih.2 ds us (by simp at hd; omega) h3⟩
          | _ => exact hr
        · cases ds with
          | nil => exact hr
          | cons d ds =>
            obtain ⟨x, us', h1, h2, h3⟩ := hr
            exact ⟨x, us', h1, ih.1 d x (by simp at hd; omega) h2, ih.2 ds us' (by simp at hd; omega) h3⟩
    intro ds us hr
    exact (go (sizeOf ds + 1)).2 ds us (by omega) hr
  refine ⟨⟨by simp [r.len], ?_, fun n o x h1 h2 => ?_⟩, ?_⟩
  · rw [List.nodup_append]
    refine ⟨r.nd, by simp, fun x hx y hy e => ?_⟩
    have : y = a := by simpa using hy
    subst this
    subst e
    exact ha hx
  · by_cases hn : n < S.length
    · rw [List.getElem?_append_left hn] at h1
      rw [List.getElem?_append_left (by rw [r.len]; exact hn)] at h2
      have q := r.obj n o x h1 h2
      cases o with
      | lst ys =>
        obtain ⟨us, h3, h4⟩ := q
        exact ⟨us, h3, grow h4⟩
    · have e : n = S.length := by
        have := (List.getElem?_eq_some_iff.mp h1).1
        rw [List.length_append] at this
        have h2 : ([O.lst xs] : List O).length = 1 := rfl
        omega
      subst e
      rw [List.getElem?_append_right (Nat.le_refl _), Nat.sub_self] at h1
      rw [← r.len, List.getElem?_append_right (Nat.le_refl _), Nat.sub_self] at h2
      have e1 : O.lst xs = o := Option.some.inj h1
      have e2 : a = x := Option.some.inj h2
      subst e1
      subst e2
      exact ⟨vs, h, grow hx⟩
  · obtain ⟨ν, e, hν⟩ := st.pre
    refine ⟨⟨ν ++ [a], by rw [e, List.append_assoc], fun x hx => ?_⟩, st.keep, st.dom⟩
    rcases List.mem_append.mp hx with q | q
    · exact hν x q
    · have : x = a := by simpa using q
      rw [this]
      exact h₀
/-- an object of the store is written -/
theorem Rel.write (r : Rel G H μ S) {n : Nat} {a : Addr} {xs ys : List D} {vs : List V} (hn : S[n]? = some (.lst xs)) (ha : μ[n]? = some a) (hy : Reps G H μ ys vs) :
    Rel G (upd H a (.lst vs)) μ (S.set n (.lst ys)) ∧ Step μ μ H (upd H a (.lst vs)) := by
  have st : Step μ μ H (upd H a (.lst vs)) := ⟨⟨[], by simp, by simp⟩, fun b o e hb => by
    rw [upd_ne fun q => hb (by rw [q]; exact List.mem_of_getElem? ha)]
    exact e, fun b e => by
    by_cases q : b = a
    · subst q
      rw [upd_same] at e
      cases e
    · rw [upd_ne q] at e
      exact e⟩
  refine ⟨⟨by rw [r.len, List.length_set], r.nd, fun m o b h1 h2 => ?_⟩, st⟩
  by_cases hm : m = n
  · subst hm
    rw [ha] at h2
    cases h2
    rw [List.getElem?_set_self (List.getElem?_eq_some_iff.mp hn).1] at h1
    cases h1
    exact ⟨vs, upd_same, Reps.mono r st hy⟩
  · rw [List.getElem?_set_ne (Ne.symm hm)] at h1
    have q := r.obj m o b h1 h2
    cases o with
    | lst zs =>
      obtain ⟨us, h3, h4⟩ := q
      refine ⟨us, ?_, Reps.mono r st h4⟩
      rw [upd_ne fun e => hm ?_]
      · exact h3
      · subst e
        obtain ⟨i1, e1⟩ := List.getElem?_eq_some_iff.mp h2
        obtain ⟨i2, e2⟩ := List.getElem?_eq_some_iff.mp ha
        exact (List.getElem_inj r.nd).mp (e1.trans e2.symm)
end
end Py

namespace Py
open PySem PySem.Spec PyProof.Rows
open L2 (V HO Hp SqL SqT Rd upd upd_same upd_ne Cx Inv EP VK OpR RelV R2 CallR XK WX Vals)

/-- an exception as it lies behind -/
def RepX (G : Gd) (H : Hp) (μ : List Addr) (x : Exn) (cls : Value) (d : Option Addr) : Prop := cls = .ref (G.at_ x.cls) ∧ x.fs = [] ∧ G.ex x.cls = true
/-- what is known behind an evaluation -/
def Aft {α β : Type} (G : Gd) (P : Hp → List Addr → α → β → Prop) (H : Hp) (μ : List Addr) (σ : L2.St) (U : WX) (Q : β → Hp → Prop) : R α → Prop
  | .ok a S' => ∀ b H' μ', Step μ μ' H H' → Rel G H' μ' S' → P H' μ' a b → Q b H'
  | .exc x S' => ∀ cls d H' μ', Step μ μ' H H' → Rel G H' μ' S' → RepX G H' μ' x cls d → U cls d σ H'
  | .bad => False
/-- .. where nothing is raised -/
abbrev Fin (G : Gd) (H : Hp) (μ : List Addr) (Q : VK) (r : R W) : Prop := Aft G (RepW G H) H μ [] (fun _ _ _ _ => False) Q (R.nox r)
section
variable {G : Gd} {H H' H1 : Hp} {μ μ' μ1 : List Addr} {S : Sto} {σ : L2.St} {U : WX} {Q : VK}

theorem fin_ok {w : W} {S' : Sto} (h : Fin G H μ Q (.ok w S')) {v : V} {H' : Hp} {μ' : List Addr} (st : Step μ μ' H H') (r : Rel G H' μ' S') (p : RepW G H H' μ' w v) : Q v H' := h v H' μ' st r p
theorem fin_orBad {o : Option W} (h : Fin G H μ Q (orBad o S)) : ∃ w, o = some w ∧ Fin G H μ Q (.ok w S) := by
  cases o with
  | none => exact False.elim h
  | some w => exact ⟨w, rfl, h⟩
/-- a value that is at hand -/
theorem fin_val {d : D} (h : Fin G H μ Q (.ok (.v d) S)) (r : Rel G H μ S) {v : V} (p : Rep G H μ d v) : Q v H := fin_ok h .refl r p
/-- a new tuple -/
theorem fin_tup {ds : List D} {vs : List V} (h : Fin G H μ Q (.ok (.v (.tup ds)) S)) (r : Rel G H μ S) (p : Reps G H μ ds vs) {a : Addr} (ha : H a = none) : Q (.ref a) (upd H a (.tup vs)) :=
  fin_ok h (Step.new ha) (r.new ha) ⟨a, vs, rfl, .inl (.inl upd_same), Reps.mono r (Step.new ha) p⟩
/-- a new list -/
theorem fin_lst {ds : List D} {vs : List V} (h : Fin G H μ Q (.ok (.f ds) S)) (r : Rel G H μ S) (p : Reps G H μ ds vs) {a : Addr} (ha : H a = none) : Q (.ref a) (upd H a (.lst vs)) :=
  fin_ok h (Step.new ha) (r.new ha) ⟨a, vs, rfl, ha, r.notin ha, upd_same, Reps.mono r (Step.new ha) p⟩

/-- the items of a list -/
theorem lstOf_rep {w : W} {xs : List D} {v : V} (r : Rel G H μ S) (h : RepC G H μ w v) (e : lstOf S w = some xs) : ∃ a vs, v = .ref a ∧ SqL G.K H a vs ∧ Reps G H μ xs vs := by
  cases w with
  | f ys =>
    cases e
    obtain ⟨a, vs, ev, _, h1, h2⟩ := h
    exact ⟨a, vs, ev, .inl (.inl h1), h2⟩
  | it _ _ => exact h.elim
  | v d =>
    cases d with
    | loc n =>
      obtain ⟨a, ha, ev⟩ := h
      have e : (match S[n]? with | some (.lst xs) => some xs | none => none) = some xs := e
      cases q : S[n]? with
      | none => rw [q] at e; cases e
      | some o =>
        cases o with
        | lst ys =>
          rw [q] at e
          cases e
          obtain ⟨vs, h1, h2⟩ := r.obj n _ a q ha
          exact ⟨a, vs, ev, .inl (.inl h1), h2⟩
    | cl ys =>
      cases e
      obtain ⟨a, vs, ev, h1, h2⟩ := h
      exact ⟨a, vs, ev, h1.sq, h2⟩
    | _ => cases e
theorem lstP_rep {w : W} {xs : List D} {v : V} (r : Rel G H μ S) (h : RepC G H μ w v) (e : lstP S w = some xs) : ∃ a vs, v = .ref a ∧ H a = some (.lst vs) ∧ Reps G H μ xs vs := by
  cases w with
  | f ys =>
    cases e
    obtain ⟨a, vs, ev, _, h1, h2⟩ := h
    exact ⟨a, vs, ev, h1, h2⟩
  | it _ _ => exact h.elim
  | v d =>
    cases d with
    | loc n =>
      obtain ⟨a, ha, ev⟩ := h
      have e : (match S[n]? with | some (.lst xs) => some xs | none => none) = some xs := e
      cases q : S[n]? with
      | none => rw [q] at e; cases e
      | some o =>
        cases o with
        | lst ys =>
          rw [q] at e
          cases e
          obtain ⟨vs, h1, h2⟩ := r.obj n _ a q ha
          exact ⟨a, vs, ev, h1, h2⟩
    | _ => cases e
theorem seqOf_rep {w : W} {xs : List D} {v : V} (r : Rel G H μ S) (h : RepC G H μ w v) (e : seqOf S w = some xs) : ∃ a vs, v = .ref a ∧ (SqL G.K H a vs ∨ SqT G.K H a vs) ∧ Reps G H μ xs vs := by
  have go : lstOf S w = some xs → ∃ a vs, v = .ref a ∧ (SqL G.K H a vs ∨ SqT G.K H a vs) ∧ Reps G H μ xs vs := fun e => by
    obtain ⟨a, vs, h1, h2, h3⟩ := lstOf_rep r h e
    exact ⟨a, vs, h1, .inl h2, h3⟩
  cases w with
  | f ys => exact go e
  | it _ _ => exact go e
  | v d =>
    cases d with
    | tup ys =>
      cases e
      obtain ⟨a, vs, h1, h2, h3⟩ := h
      exact ⟨a, vs, h1, .inr h2, h3⟩
    | _ => exact go e

theorem dpAll_of {n : Nat} (ih : ∀ (d : D) (v : V) (x : PyData), Rep G H μ d v → toPy n S d = some x → L2.Dp G.K H v x) : ∀ (ds : List D) (vs : List V) (xs : List PyData), Reps G H μ ds vs → ds.mapM (toPy n S) = some xs → L2.DpAll G.K H vs xs
  | [], vs, xs, h, e => by
    have h : vs = [] := h
    subst h
    simp at e
    subst e
    exact .nil
  | d :: ds, vs, xs, h, e => by
    obtain ⟨v, vs', rfl, h1, h2⟩ := h
    rw [List.mapM_cons] at e
    cases q : toPy n S d with
    | none => rw [q] at e; cases e
    | some x =>
      rw [q] at e
      cases q2 : ds.mapM (toPy n S) with
      | none => rw [q2] at e; cases e
      | some ys =>
        rw [q2] at e
        cases e
        exact .cons (ih d v x h1 q) (dpAll_of ih ds vs' ys h2 q2)
theorem dp_of (r : Rel G H μ S) : ∀ (n : Nat) (d : D) (v : V) (x : PyData), Rep G H μ d v → toPy n S d = some x → L2.Dp G.K H v x
  | 0, _, _, _, _, e => by
    simp [toPy] at e
  | n + 1, d, v, x, h, e => by
    cases d with
    | non => cases e; cases (show v = .non from h); exact .non
    | bl b => cases e; cases (show v = .bl b from h); exact .bl b
    | int i => cases e; cases (show v = .int i from h); exact .int i
    | str s => cases e; cases (show v = .str s from h); exact .str s
    | tup ds =>
      obtain ⟨a, vs, rfl, h1, h2⟩ := h
      have e : (ds.mapM (toPy n S)).map .tuple = some x := e
      cases q : ds.mapM (toPy n S) with
      | none => rw [q] at e; cases e
      | some xs =>
        rw [q] at e
        cases e
        exact .tup h1 (dpAll_of (dp_of r n) ds vs xs h2 q)
    | cl ds =>
      obtain ⟨a, vs, rfl, h1, h2⟩ := h
      have e : (ds.mapM (toPy n S)).map .list = some x := e
      cases q : ds.mapM (toPy n S) with
      | none => rw [q] at e; cases e
      | some xs =>
        rw [q] at e
        cases e
        exact .lst h1.sq (dpAll_of (dp_of r n) ds vs xs h2 q)
    | loc k =>
      obtain ⟨a, ha, rfl⟩ := h
      have e : (match S[k]? with | some (.lst xs) => (xs.mapM (toPy n S)).map .list | none => none) = some x := e
      cases qk : S[k]? with
      | none => rw [qk] at e; cases e
      | some o =>
        cases o with
        | lst ds =>
          rw [qk] at e
          obtain ⟨vs, h1, h2⟩ := r.obj k _ a qk ha
          have e : (ds.mapM (toPy n S)).map .list = some x := e
          cases q : ds.mapM (toPy n S) with
          | none => rw [q] at e; cases e
          | some xs =>
            rw [q] at e
            cases e
            exact .lst (.inl (.inl h1)) (dpAll_of (dp_of r n) ds vs xs h2 q)
    | fn f => cases e
theorem dpW_of (r : Rel G H μ S) {w : W} {v : V} {x : PyData} (h : RepC G H μ w v) (e : toPyW S w = some x) : L2.Dp G.K H v x := by
  cases w with
  | v d => exact dp_of r 70 d v x h e
  | f ds =>
    obtain ⟨a, vs, rfl, _, h1, h2⟩ := h
    have e : (ds.mapM (toPy 70 S)).map .list = some x := e
    cases q : ds.mapM (toPy 70 S) with
    | none => rw [q] at e; cases e
    | some xs =>
      rw [q] at e
      cases e
      exact .lst (.inl (.inl h1)) (dpAll_of (dp_of r 70) ds vs xs h2 q)
  | it _ _ => cases e
end

/-- two values under an operation of the evaluator -/
def rB (G : Gd) (f : W → W → Sto → R W) : R2 := fun x y H Q => ∃ μ S w1 w2, Rel G H μ S ∧ RepC G H μ w1 x ∧ RepC G H μ w2 y ∧ Fin G H μ Q (f w1 w2 S)
def rU1 (G : Gd) (f : W → Sto → R W) : V → Hp → VK → Prop := fun x H Q => ∃ μ S w, Rel G H μ S ∧ RepC G H μ w x ∧ Fin G H μ Q (f w S)
section
variable {X : Cx} {G : Gd}
def CDivA (j : Int) : Prop := j ≠ 0 ∧ j.natAbs.log2 < 9000
def CMulA (i j : Int) : Prop := i.natAbs.log2 + j.natAbs.log2 < 100000000
theorem CMulA.ok {i j : Int} (h : CMulA i j) : IntMulOk i j := by
  have b : ∀ x : Int, Builtin.Int.intBits x ≤ x.natAbs.log2 + 1 := fun x => by
    unfold Builtin.Int.intBits
    split <;> omega
  have h1 := b i
  have h2 := b j
  have h3 : i.natAbs.log2 + j.natAbs.log2 < 100000000 := h
  have e : bitsLine = 134217728 := by decide
  unfold IntMulOk
  intro z
  rw [Bool.and_eq_true] at z
  have z2 := z.2
  unfold Builtin.Int.intTooBig at z2
  have z3 := of_decide_eq_true z2
  rw [e] at z3
  omega
theorem op_mulA : OpR X (binaryOp .Mult) (L2.rI CMulA fun i j => .int (i * j)) := L2.opI fun _ _ _ _ _ _ _ hc q => mul_int q hc.ok
theorem iop_mulA : OpR X (inplaceOp .Mult) (L2.rI CMulA fun i j => .int (i * j)) := L2.opI fun _ _ _ _ _ _ _ hc q => imul_int q hc.ok
theorem op_fdivA : OpR X (binaryOp .FloorDiv) (L2.rI (fun _ j => CDivA j) fun i j => .int (i.fdiv j)) := L2.opI fun _ _ _ _ _ _ _ hc q => floordiv_int hc.1 q (.inl (PyProof.noPylong_of_log2 hc.2))
theorem intOp_ok {op : Operator} {i j z : Int} (e : intOp op i j = some z) {pins : List (Addr × Obj)} {s : Shared} {σ : L2.St} {H : Hp} {v u : Value} {Q : VK} (I : Inv X pins σ H s) (rx : RelV (.int i) v) (ry : RelV (.int j) u) (q : Q (.int z) H) :
    wpAny (model X.prog X.w) X.A (binaryOp op v u) (EP X pins σ Q) X.xe s := by
  cases op with
  | Add =>
    cases e
    exact L2.op_add pins s σ H _ _ v u Q I rx ry ⟨i, j, rfl, rfl, q⟩
  | Sub =>
    cases e
    exact L2.op_sub pins s σ H _ _ v u Q I rx ry ⟨i, j, rfl, rfl, q⟩
  | Mult =>
    have e : (if mulOk i j then some (i * j) else none) = some z := e
    by_cases hm : mulOk i j = true
    · rw [if_pos hm] at e
      cases e
      exact op_mulA pins s σ H _ _ v u Q I rx ry ⟨i, j, rfl, rfl, of_decide_eq_true (p := i.natAbs.log2 + j.natAbs.log2 < 100000000) hm, q⟩
    · rw [if_neg hm] at e
      cases e
  | FloorDiv =>
    have e : (if divOk j then some (i.fdiv j) else none) = some z := e
    by_cases hm : divOk j = true
    · rw [if_pos hm] at e
      cases e
      unfold divOk at hm
      rw [Bool.and_eq_true] at hm
      exact op_fdivA pins s σ H _ _ v u Q I rx ry ⟨i, j, rfl, rfl, ⟨of_decide_eq_true hm.1, of_decide_eq_true hm.2⟩, q⟩
    · rw [if_neg hm] at e
      cases e
  | Mod =>
    have e : (if j = 0 then none else some (i.fmod j)) = some z := e
    by_cases hm : j = 0
    · rw [if_pos hm] at e
      cases e
    · rw [if_neg hm] at e
      cases e
      exact L2.op_modN pins s σ H _ _ v u Q I rx ry ⟨i, j, rfl, rfl, hm, q⟩
  | Pow =>
    have e : (if powOk i j then some (i ^ j.toNat) else none) = some z := e
    by_cases hm : powOk i j = true
    · rw [if_pos hm] at e
      cases e
      unfold powOk at hm
      rw [Bool.and_eq_true, Bool.and_eq_true] at hm
      exact L2.op_pow pins s σ H _ _ v u Q I rx ry ⟨i, j, rfl, rfl, ⟨of_decide_eq_true hm.1.1, by have h1 := of_decide_eq_true hm.1.1; have h2 := of_decide_eq_true hm.1.2; omega, of_decide_eq_true hm.2⟩, q⟩
    · rw [if_neg hm] at e
      cases e
  | _ => cases e
end
end Py

namespace Py
open PySem PySem.Spec PyProof.Rows
open L2 (V HO Hp SqL SqT Rd upd upd_same upd_ne Cx Inv EP VK OpR RelV R2 CallR XK WX Vals)
theorem tuple_mul1 (l : Addr) (items : Array Value) (n : Nat) (dd : Option Addr) (sl : Array (Option Value)) (x : Int) (u : Tok) (c0 : (decide (x < -(2 ^ 63)) || decide (x ≥ 2 ^ 63)) = false) (c1 : (items.isEmpty || x == 1) = true) :
    Meets (Builtin.«tuple.__mul__» ⟨[.ref l, .int x u], []⟩) (fun _ R s => s.heap.get? l = some { cls := .type "tuple", dict := dd, data := .seq items n, slots := sl } ∧ R (.ok (.ret (Value.ref l))) s) :=
  .of_wp fun prog w A R s h => by
    obtain ⟨hp, g, d, tk, os⟩ := s
    obtain ⟨hl, h⟩ := h
    have f1 := AutoSeq1.idx_int
    wp_walk using wpAny_loadPart' hl
    repeat (first
      | (refine wpAny_ite_false (decide_eq_false (by rw [c0]; exact Bool.false_ne_true)) ?_; wp_walk using wpAny_loadPart' hl)
      | (refine wpAny_ite_true (decide_eq_true c1) ?_; wp_walk using wpAny_loadPart' hl))
    exact ⟨_, rfl, h⟩
theorem tuple_mul0 (l : Addr) (items : Array Value) (n : Nat) (dd : Option Addr) (sl : Array (Option Value)) (x : Int) (u : Tok) (c0 : (decide (x < -(2 ^ 63)) || decide (x ≥ 2 ^ 63)) = false) (c1 : (items.isEmpty || x == 1) = false) (c2 : (decide (x ≤ 0) || items.isEmpty) = true) :
    Meets (Builtin.«tuple.__mul__» ⟨[.ref l, .int x u], []⟩) (fun _ R s => s.heap.get? l = some { cls := .type "tuple", dict := dd, data := .seq items n, slots := sl } ∧
      R (.ok (.ret (Value.ref s.heap.objs.size))) { s with heap := s.heap.push { cls := Value.type "tuple", data := Data.seq #[] }, toks := s.toks }) :=
  .of_wp fun prog w A R s h => by
    obtain ⟨hp, g, d, tk, os⟩ := s
    obtain ⟨hl, h⟩ := h
    have f1 := AutoSeq1.idx_int
    wp_walk using wpAny_loadPart' hl
    repeat (first
      | (refine wpAny_ite_false (decide_eq_false (by rw [c0]; exact Bool.false_ne_true)) ?_; wp_walk using wpAny_loadPart' hl)
      | (refine wpAny_ite_false (decide_eq_false (by rw [c1]; exact Bool.false_ne_true)) ?_; wp_walk using wpAny_loadPart' hl)
      | (refine wpAny_ite_true (decide_eq_true c2) ?_; wp_walk using wpAny_loadPart' hl))
    exact ⟨_, rfl, h⟩

section
variable {X : Cx}
/-- t * k, any k -/
theorem op_repA : OpR X (binaryOp .Mult) (fun x y H Q => ∃ l k xs, x = .ref l ∧ y = .int k ∧ SqT X.K H l xs ∧ -(2 ^ 62) ≤ k ∧ k < 2 ^ 62 ∧ xs.length * k.toNat ≤ lim ∧
    (k = 1 ∨ xs = [] → Q (.ref l) H) ∧ (¬ (k = 1 ∨ xs = []) → ∀ p, H p = none → Q (.ref p) (upd H p (.tup (List.replicate k.toNat xs).flatten)))) := by
  intro pins s σ H x y v u Q I rx ry h
  obtain ⟨l, k, xs, rfl, rfl, hT, h1, h2, hz, q1, q2⟩ := h
  cases rx
  obtain ⟨t, rfl⟩ := ry
  obtain ⟨its, r, ⟨⟨cls, dd, data, sl⟩, ho, hc, n, hd⟩, hs⟩ := I.tuple hT
  simp only at hc hd
  subst hc hd
  have hle : its.length = xs.length := r.length.symm
  have c0 : (decide (k < -(2 ^ 63)) || decide (k ≥ 2 ^ 63)) = false := by
    rw [decide_eq_false (by omega), decide_eq_false (by omega)] <;> rfl
  by_cases hq : k = 1 ∨ xs = []
  · have c1 : (its.toArray.isEmpty || k == 1) = true := by
      rcases hq with e | e
      · rw [e]
        simp
      · rw [e] at hle
        have : its = [] := List.eq_nil_of_length_eq_zero hle
        rw [this]
        rfl
    refine wpAny_binaryOp_repeat_ref (T := "tuple") (U := "int") (by decide) ⟨_, ho, rfl⟩ (fun s' => typeIs_int s' k t) L2.noFill_tuple_mul F.fills_int_mul F.slot_int_rmul L2.repeat_tuple F.slot_int_index.lookup
      (call_meets F.slot_int_rmul (typeIs_int s k t) F.entry_int_rmul (F.args_int_rmul_2 _ _) (L2.int_rmul_tuple k t l its.toArray n dd sl)
        ⟨ho, rfl, ⟨_, ho, rfl⟩, call_meets F.slot_tuple_mul ⟨_, ho, rfl⟩ F.entry_tuple_mul (F.args_tuple_mul_2 _ _) (tuple_mul1 l its.toArray n dd sl k t c0 c1) ⟨ho, ?_⟩⟩)
    exact ⟨.ref l, H, I, rfl, q1 hq⟩
  · have hne : xs ≠ [] := fun e => hq (.inr e)
    have hk1 : k ≠ 1 := fun e => hq (.inl e)
    have hn : its ≠ [] := fun e => hne (by
      rw [e] at hle
      exact List.eq_nil_of_length_eq_zero hle.symm)
    have hi : its.toArray.isEmpty = false := by
      cases its with
      | nil => exact absurd rfl hn
      | cons a b => rfl
    have c1 : (its.toArray.isEmpty || k == 1) = false := by
      rw [hi, Bool.false_or]
      exact beq_eq_false_iff_ne.mpr hk1
    have sz1 : 1 ≤ xs.length := by
      cases xs with
      | nil => exact absurd rfl hne
      | cons a b => simp
    by_cases hk : k ≤ 0
    · have c2 : (decide (k ≤ 0) || its.toArray.isEmpty) = true := by rw [decide_eq_true hk] <;> rfl
      have e0 : (List.replicate k.toNat xs).flatten = [] := by
        have : k.toNat = 0 := by omega
        rw [this]
        rfl
      refine wpAny_binaryOp_repeat_ref (T := "tuple") (U := "int") (by decide) ⟨_, ho, rfl⟩ (fun s' => typeIs_int s' k t) L2.noFill_tuple_mul F.fills_int_mul F.slot_int_rmul L2.repeat_tuple F.slot_int_index.lookup
        (call_meets F.slot_int_rmul (typeIs_int s k t) F.entry_int_rmul (F.args_int_rmul_2 _ _) (L2.int_rmul_tuple k t l its.toArray n dd sl)
          ⟨ho, rfl, ⟨_, ho, rfl⟩, call_meets F.slot_tuple_mul ⟨_, ho, rfl⟩ F.entry_tuple_mul (F.args_tuple_mul_2 _ _) (tuple_mul0 l its.toArray n dd sl k t c0 c1 c2) ⟨ho, ?_⟩⟩)
      refine ⟨.ref s.heap.objs.size, _, I.laid (t' := s.toks) (o := .tup (List.replicate k.toNat xs).flatten) (fun b ob q => Heap.get?_push_of_some _ q) (Nat.le_refl _) ?_, rfl, q2 hq _ (I.hok.fresh (Nat.le_refl _))⟩
      rw [e0]
      exact ⟨Nat.zero_le _, [], .nil, IsTup.new _ _⟩
    · have hsz0 : its.toArray.size = xs.length := by rw [List.size_toArray, hle]
      have hz' : ((xs.length : Nat) : Int) * k ≤ 1048576 := by
        have e : ((xs.length * k.toNat : Nat) : Int) = (xs.length : Int) * k := by
          rw [Int.natCast_mul, Int.toNat_of_nonneg (by omega)]
        rw [← e]
        exact Int.ofNat_le.mpr hz
      have hm : ((its.toArray.size : Nat) : Int) * k ≤ 1048576 := by rw [hsz0]; exact hz'
      have flen : (List.replicate k.toNat its).flatten.length ≤ sizeLine := by
        rw [PyProof.Rows.lm_len_rep_flat, hle, sizeLine_eq, Nat.mul_comm]
        have : xs.length * k.toNat ≤ 1048576 := hz
        omega
      have c2 : (decide (k ≤ 0) || its.toArray.isEmpty) = false := by
        rw [hi, Bool.or_false]
        exact decide_eq_false hk
      have c4 : Builtin.Tuple.tupleTooMany (((its.toArray.size : Nat) : Int) * k) = false := by
        unfold Builtin.Tuple.tupleTooMany
        rw [sizeLine_eq]
        exact decide_eq_false (by omega)
      refine wpAny_binaryOp_repeat_ref (T := "tuple") (U := "int") (by decide) ⟨_, ho, rfl⟩ (fun s' => typeIs_int s' k t) L2.noFill_tuple_mul F.fills_int_mul F.slot_int_rmul L2.repeat_tuple F.slot_int_index.lookup
        (call_meets F.slot_int_rmul (typeIs_int s k t) F.entry_int_rmul (F.args_int_rmul_2 _ _) (L2.int_rmul_tuple k t l its.toArray n dd sl)
          ⟨ho, rfl, ⟨_, ho, rfl⟩, call_meets F.slot_tuple_mul ⟨_, ho, rfl⟩ F.entry_tuple_mul (F.args_tuple_mul_2 _ _) (L2.tuple_mulW l its.toArray n dd sl k t c0 c1 c2 (by omega) c4 (by rw [L2.size_rep, List.size_toArray]; exact flen)) ⟨ho, ?_⟩⟩)
      rw [L2.size_rep]
      refine ⟨.ref s.heap.objs.size, _, I.laid (t' := s.toks) (o := .tup (List.replicate k.toNat xs).flatten) (fun b ob q => Heap.get?_push_of_some _ q) (Nat.le_refl _) ?_, rfl, q2 hq _ (I.hok.fresh (Nat.le_refl _))⟩
      refine ⟨?_, _, r.rep k.toNat, IsTup.new _ _⟩
      rw [PyProof.Rows.lm_len_rep_flat, sizeLine_eq, Nat.mul_comm]
      have : xs.length * k.toNat ≤ 1048576 := hz
      omega
end

section
variable {X : Cx} {C : Addr} {bmB : List Value} {B newId initId : String}
theorem pmk_own0 {x : Str} {p pos : Pos} (F : ExcBaseFacts B newId initId bmB) (q : PySem.W.excIn X.K C bmB newId = true) (gC : X.mg x = some (.ref C)) (kC : PySem.W.keepIn X.K (.ref C) = true) (r : L2.Raises X (.ref C)) (hg : L2.Gl X x)
    (hdb : (x == ("__debug__" : Str)) = false := by decide) : L2.PMk X (.Call (.Name x p) [] [] pos) (fun _ H Q => Q (.ref C) none H) := by
  intro pins s σ H Q I h
  refine wpAny_Call_Name_kw (L2.ld_glob I hg gC ?_ hdb)
  refine PySem.W.callWith_K0 I.kIn kC ?_
  show wpAny _ _ (call (.ref C) []) _ _ _
  obtain ⟨bm, N, nm, qn, bs, hdct, sn, sub, ab, col, dd, k0, k1, k2, k3, k5, mN, hC, hN, hni, T⟩ := L2.exc_obj I.kIn q
  refine wpAny_call_exc_subT F T hC hN hni (fun h' e hm => ?_) (by show 0 ≤ sizeLine; exact Nat.zero_le _)
  exact L2.mk_of I hm r h (I.hok.gone hm.new)
end

theorem meets_enumerate_newT (l : Addr) (items : Array Value) :
    Meets (Builtin.«enumerate.__new__» ⟨[.type "enumerate", .ref l], []⟩) (fun _ R s => s.heap.IsTuple l items ∧
      R (.ok (.ret (.ref (s.heap.push { cls := .type "tuple_iterator", data := .fields #[.ref l, .int 0 0] }).objs.size)))
        { s with heap := (s.heap.push { cls := .type "tuple_iterator", data := .fields #[.ref l, .int 0 0] }).push { cls := .type "enumerate", data := .fields #[.none, .bool false, .ref s.heap.objs.size, rawInt 0, .none, .none] } }) :=
  .of_wp fun prog w A R s h => by
    obtain ⟨hp, g, d, tk, os⟩ := s; obtain ⟨hL, h⟩ := h
    have hsub := sub_enumerate
    wp_walk using wpAny_pyIter_tuple hL
    refine wpAny_stack_any fun st => wpAny_pure ?_
    split
    · rename_i c _ _ _ _ _
      cases (c == Value.type "enumerate")
      · wp_walk using wpAny_pyIter_tuple hL
        exact ⟨_, rfl, h⟩
      · wp_walk using wpAny_pyIter_tuple hL
        exact ⟨_, rfl, h⟩
    · wp_walk using wpAny_pyIter_tuple hL
      exact ⟨_, rfl, h⟩
theorem call_enumerate_tuple {prog : Program} {w : World} {A : Around} {E : Value → Shared → Prop} {s : Shared} {l : Addr} {items : Array Value} {Q : Value → Shared → Prop} (hL : s.heap.IsTuple l items)
    (h : ∀ h', IsEnum h' (s.heap.objs.size + 1) s.heap.objs.size 0 .none → h'.IsTupleIter s.heap.objs.size l 0 → h'.objs.size = s.heap.objs.size + 2 →
      (∀ b o, s.heap.get? b = some o → h'.get? b = some o) → Q (.ref (s.heap.objs.size + 1)) { s with heap := h' }) :
    wpAny (model prog w) A (call (.type "enumerate") [.ref l]) Q E s := by
  refine callType_new F.called_enumerate (by decide) (F.typeCall_enumerate_1 _) (F.newCall_enumerate_1 _) (fun obj => F.args_object_init_2 obj _) F.entry_enumerate_new
    (meets_enumerate_newT l items) ⟨hL, ?_⟩
  have hz : (s.heap.push { cls := .type "tuple_iterator", data := .fields #[.ref l, .int 0 0] }).objs.size = s.heap.objs.size + 1 := Heap.size_push ..
  show _ ∧ _
  rw [hz]
  have he : IsEnum ((s.heap.push { cls := .type "tuple_iterator", data := .fields #[.ref l, .int 0 0] }).push
      { cls := .type "enumerate", data := .fields #[.none, .bool false, .ref s.heap.objs.size, rawInt 0, .none, .none] }) (s.heap.objs.size + 1) s.heap.objs.size 0 .none := by
    have := Heap.get?_push_size (s.heap.push { cls := .type "tuple_iterator", data := .fields #[.ref l, .int 0 0] })
      (o := { cls := .type "enumerate", data := .fields #[.none, .bool false, .ref s.heap.objs.size, rawInt 0, .none, .none] }) rfl
    rw [hz] at this; exact this
  refine ⟨⟨_, he, rfl⟩, h _ he ⟨_, Heap.get?_push_of_some _ (Heap.get?_push_size _ rfl), rfl, rfl⟩ (by rw [Heap.size_push, hz]) fun b o x => Heap.get?_push_of_some _ (Heap.get?_push_of_some _ x)⟩
/-- the tuple at a, its items in new pairs -/
def IteT (K : PySem.W.Frag) (a : Addr) : L2.It :=
  ⟨fun i H => ∃ (xs : List V) (x : V), SqT K H a xs ∧ xs[i]? = some x,
    fun i H v H' => ∃ T x, v = .ref T ∧ H T = none ∧ H' = upd H T (.tup [.int (i : Nat), x]) ∧ ∀ xs, SqT K H a xs → xs[i]? = some x,
    fun i H => ∃ xs : List V, SqT K H a xs ∧ xs.length ≤ i⟩
theorem turn_enumT {P : Program} {w : World} {K : PySem.W.Frag} {elts : List Expr} {kk : Nat} {tpos : Pos} (a e it : Addr) :
    L2.Turn P w K (.Tuple elts kk tpos) (IteT K a) [e, it] e (fun i h => (∃ old, IsEnum h e it ((i : Nat) : Int) old) ∧ h.IsTupleIter it a i ∧ e ≠ it ∧ a ≠ it ∧ a ≠ e) where
  mem := by simp
  obj := fun i h st b hb => by
    obtain ⟨⟨old, he⟩, ⟨o, ho, hc, hd⟩, _⟩ := st
    have e' : b = e ∨ b = it := by simpa using hb
    rcases e' with z | z
    · rw [z]; exact ⟨_, he, fun v q => nomatch q⟩
    · rw [z]; exact ⟨o, ho, fun v q => by rw [hd] at q; cases q⟩
  keep := fun i h h' st k => let ⟨⟨old, he⟩, hi, hne⟩ := st; ⟨⟨old, k e (by simp) _ he⟩, hi.at fun o q => k it (by simp) o q, hne⟩
  item := by
    intro X hP hw hK hc i pins s σ H E I hf st hg
    subst hP hw hK
    obtain ⟨⟨old, he⟩, hit, hne, hai, hae⟩ := st
    obtain ⟨xs, x, hq, hx⟩ := hg
    obtain ⟨its, rv, p, hz⟩ := I.tuple hq
    obtain ⟨u, hu, ru⟩ := rv.get hx
    have hil : i < its.toArray.size := by
      rw [List.size_toArray]
      exact (List.getElem?_eq_some_iff.mp hu).1
    have hel : e < s.heap.objs.size := Heap.lt_size he
    have hill : it < s.heap.objs.size := by obtain ⟨_, q, _⟩ := hit; exact Heap.lt_size q
    have pT : s.heap.IsTuple a its.toArray := p
    refine wpAny_pyNext_enum_itemD (Draws.tuple (show X.A.in1.handled = none from I.ok.hd hc) it a hai its.toArray) he ⟨hit, pT⟩ hil hne (by simp [hne, Ne.symm hae]) fun v h' tk hv ho hs' hT hsz hk => ?_
    have ev : v = u := by
      have h1 : its.toArray[i]? = some v := hv
      rw [List.getElem?_toArray, hu] at h1
      exact (Option.some.inj h1).symm
    subst ev
    refine ⟨_, rfl, wpAny_letOwnedTupleGo_enum (s := { s with heap := h', toks := tk + 1 }) ho fun h'' he' sb => ?_⟩
    have hT2 : h''.get? s.heap.objs.size = some { cls := .type "tuple", data := .seq #[.int i tk, v] } := (sb.2 _ (Nat.ne_of_gt hel)).trans hT
    have new : L2.ObjOk X.prog X.w (upd H s.heap.objs.size (.tup [.int (i : Nat), x])) h'' s.heap.objs.size (.tup [.int (i : Nat), x]) :=
      ⟨by show 2 ≤ sizeLine; decide, [.int i tk, v], .cons ⟨_, rfl⟩ (.cons ru .nil), ⟨_, hT2, rfl, _, rfl⟩⟩
    have I1 : Inv X pins σ (upd H s.heap.objs.size (.tup [.int (i : Nat), x])) { s with heap := h'', toks := tk + 1 } :=
      I.turnedNew (ch := [e, it]) (fun b ob hb q => (sb.2 b (fun z => hb (by simp [z]))).trans (hk b ob (fun z => hb (by simp [z])) (fun z => hb (by simp [z])) q)) hf (Nat.le_refl _) new
    refine ⟨.ref s.heap.objs.size, _, I1, rfl, ⟨_, x, rfl, I.hok.fresh (Nat.le_refl _), rfl, fun ys hy => by rw [I.tuple_inj hy hq]; exact hx⟩, ⟨⟨v, ?_⟩, hs'.1.at fun o q => (sb.2 it (Ne.symm hne)).trans q, hne, hai, hae⟩, fun b hb => ?_⟩
    · have e1 : ((i + 1 : Nat) : Int) = (i : Int) + 1 := by omega
      rw [e1]; exact he'
    · have hb' : b < s.heap.objs.size := by
        have e' : b = e ∨ b = it := by simpa using hb
        rcases e' with z | z
        · rw [z]; exact hel
        · rw [z]; exact hill
      rw [upd_ne (Nat.ne_of_lt hb')]
      exact (hf b hb).1
  done := by
    intro X hP hw hK hc i pins s σ H E I hf st hg
    subst hP hw hK
    obtain ⟨⟨old, he⟩, hit, hne, hai, hae⟩ := st
    obtain ⟨xs, hq, hx⟩ := hg
    obtain ⟨its, rv, p, hz⟩ := I.tuple hq
    obtain ⟨f0, f1, f2, f3, f4, f5⟩ := hf it (by simp)
    have hl := rv.length
    have pT : s.heap.IsTuple a its.toArray := p
    have hh : X.A.in1.handled = none := I.ok.hd hc
    have D : Draws X.prog X.w X.A.in1 it [it, a] i (fun j v => True) (fun j h => j = i ∧ h.IsTupleIter it a i ∧ h.IsTuple a its.toArray) :=
      { live := fun _ _ st => let ⟨o, ho, _⟩ := st.2.1; ⟨o, ho⟩
        frame := fun _ _ _ st hk => ⟨st.1, st.2.1.at fun o e => hk it (by simp) o e, st.2.2.at fun o e => hk a (by simp) o e⟩
        item := fun j s Q E hi st hQ => absurd st.1 (Nat.ne_of_lt hi)
        done := fun s Q E st hE => wpAny_nextOf_tuple_end hh st.2.1 st.2.2 (by simp; omega) hE }
    exact wpAny_pyNext_enum_endD D he ⟨rfl, hit, pT⟩ fun h' eb => ⟨rfl, I.turned (t' := s.toks) (fun b o hb q => eb b o hb q) f0 f1 f3 f4 f5⟩
  self := fun A i s Q E st h => let ⟨⟨_, he⟩, _⟩ := st; wpAny_pyIter_enum he h
end Py
namespace Py
open PySem PySem.Spec PyProof.Rows
open L2 (V HO Hp SqL SqT Rd upd upd_same upd_ne Cx Inv EP VK OpR RelV R2 CallR XK WX Vals TE PE TI PI PA TA It)
section
variable {prog : Program} {w : World} {A : Around} {E : Value → Shared → Prop} {s : Shared}
theorem adjust_rev (n : Nat) : Builtin.Slice.sliceAdjust none none (-1) (n : Int) = ((n : Int) - 1, -1) := by
  unfold Builtin.Slice.sliceAdjust
  simp
theorem places_rev (n : Nat) : Builtin.Slice.slicePlaces ((n : Int) - 1) (-1) (-1) = n := by
  unfold Builtin.Slice.slicePlaces
  have h1 : ¬ ((-1 : Int) > 0) := by decide
  simp only [h1, if_false]
  have e : (- -1 : Int) = 1 := by decide
  simp only [e, Int.ediv_one]
  split <;> omega
theorem sliceApplied_rev {sl : Addr} {vl vu vs : Value} {n : Nat} {Q : Int × Int × Nat → Shared → Prop} (hs : s.heap.IsSliceOf sl vl vu vs) (pl : IsPart vl none) (pu : IsPart vu none) (ps : IsPart vs (some (-1)))
    (h : Q ((n : Int) - 1, -1, n) s) : wpAny (model prog w) A (Builtin.Slice.sliceApplied (.ref sl) (pure (n : Int))) Q E s := by
  obtain ⟨os, hos, hcs, hds⟩ := id hs
  unfold Builtin.Slice.sliceApplied Builtin.Slice.sliceFields
  refine wpAny_bind (wpAny_bind (wpAny_field hos hds (x := vl) rfl (wpAny_bind (wpAny_field hos hds (x := vu) rfl (wpAny_bind (wpAny_field hos hds (x := vs) rfl (wpAny_pure ?_)))))))
  refine wpAny_bind (HT.slicePart_ ps ?_)
  show wpAny _ _ (if ((-1 : Int) == 0) = true then _ else _) _ _ s
  rw [if_neg (by decide)]
  refine wpAny_bind (HT.slicePart_ pl (wpAny_bind (HT.slicePart_ pu (wpAny_bind (wpAny_pure ?_)))))
  show wpAny _ _ (match Builtin.Slice.sliceAdjust none none (-1) (n : Int) with | (lo, hi) => pure (lo, (-1 : Int), Builtin.Slice.slicePlaces lo hi (-1))) _ _ s
  rw [adjust_rev n]
  show wpAny _ _ (pure ((n : Int) - 1, (-1 : Int), Builtin.Slice.slicePlaces ((n : Int) - 1) (-1) (-1))) _ _ s
  rw [places_rev]
  exact wpAny_pure h
theorem fm_congr {α β : Type} {f g : α → Option β} : ∀ {l : List α}, (∀ x ∈ l, f x = g x) → l.filterMap f = l.filterMap g
  | [], _ => rfl
  | x :: l, h => by
    rw [List.filterMap_cons, List.filterMap_cons, h x List.mem_cons_self, fm_congr (l := l) fun y hy => h y (List.mem_cons_of_mem _ hy)]
theorem pick_rev (xs : Array Value) : ((List.range xs.size).filterMap fun (m : Nat) => xs[(((xs.size : Int) - 1) + (m : Int) * (-1)).toNat]?).toArray = xs.toList.reverse.toArray := by
  congr 1
  have e : (fun (m : Nat) => xs[(((xs.size : Int) - 1) + (m : Int) * (-1)).toNat]?) = fun m => if m < xs.size then xs[xs.size - 1 - m]? else xs[0]? := by
    funext m
    split
    · have : (((xs.size : Int) - 1) + (m : Int) * (-1)).toNat = xs.size - 1 - m := by omega
      rw [this]
    · have : (((xs.size : Int) - 1) + (m : Int) * (-1)).toNat = 0 := by omega
      rw [this]
  rw [e]
  apply List.ext_getElem?
  intro i
  have h2 : (List.range xs.size).filterMap (fun m => if m < xs.size then xs[xs.size - 1 - m]? else xs[0]?) = (List.range xs.size).map fun m => xs.getD (xs.size - 1 - m) .none := by
    rw [← List.filterMap_eq_map]
    apply fm_congr
    intro m hm
    have hm := List.mem_range.mp hm
    rw [if_pos hm]
    have : xs.size - 1 - m < xs.size := by omega
    simp [Array.getD, this]
  rw [h2]
  by_cases hi : i < xs.size
  · have : xs.size - 1 - i < xs.size := by omega
    rw [List.getElem?_map, List.getElem?_range hi, List.getElem?_reverse (by simpa using hi)]
    simp [Array.getD, this]
  · rw [List.getElem?_eq_none (by simpa using hi), List.getElem?_eq_none (by simpa using hi)]
theorem getItem_tuple_rev {t sl : Addr} {items : Array Value} {vl vu vs : Value} {Q : Value → Shared → Prop} (ht : IsTup s.heap t items) (hs : s.heap.IsSliceOf sl vl vu vs) (pl : IsPart vl none) (pu : IsPart vu none) (ps : IsPart vs (some (-1)))
    (h : Q (.ref s.heap.objs.size) { s with heap := s.heap.push { cls := .type "tuple", data := .seq items.toList.reverse.toArray } })
    (hsz : items.size ≤ sizeLine) : wpAny (model prog w) A (getItem (.ref t) (.ref sl)) Q E s := by
  have htake : sizeOk (.seq items.toList.reverse.toArray) := by
    show items.toList.reverse.toArray.size ≤ sizeLine
    rw [List.size_toArray, List.length_reverse, Array.length_toList]
    omega
  obtain ⟨os, hos, hcs, hds⟩ := id hs
  have hTs : s.TypeIs (.ref sl) "slice" := ⟨os, hos, hcs⟩
  unfold getItem
  try with_reducible refine wpAny_holding ?_
  first | refine wpAny_bind (wpAny_pure ?_) | skip
  refine wpAny_bind (wpAny_sequenceKey ht.typeIs (by decide) ?_)
  refine wpAny_bind (wpAny_callSpecial?_slot (name := Str.ofString "__getitem__") ht.typeIs PyProof.Rows.slot_tuple_getitem
    (wpAny_call_entry PyProof.Rows.slot_tuple_getitem ht.typeIs entry_tuple_getitem ?_ (args_tuple_getitem _ _)))
  show wpAny _ _ (Builtin.Tuple.tupleItemsOf (.ref t) >>= _) _ _ s
  refine wpAny_bind (tupleItemsOf_ ht ?_)
  refine wpAny_bind (wpAny_typeOf hTs ?_)
  rw [if_pos (by decide)]
  refine wpAny_bind (sliceApplied_rev hs pl pu ps ?_)
  have hno : ¬ ((((items.size : Int) - 1) == 0 && (-1 : Int) == 1 && items.size == items.size) = true) := by
    intro q
    rw [Bool.and_eq_true, Bool.and_eq_true] at q
    exact absurd q.1.2 (by decide)
  show wpAny _ _ (if (((items.size : Int) - 1) == 0 && (-1 : Int) == 1 && items.size == items.size) = true then _ else _) _ _ s
  rw [if_neg hno, pick_rev]
  first
    | exact wpAny_bind (m := Builtin.Tuple.tupleExact _) (wpAny_newObj_type (wpAny_pure ⟨_, rfl, wpAny_pure h⟩) htake)
    | exact wpAny_bind (m := Builtin.Tuple.tupleExact _) (wpAny_newObj_type (wpAny_bind (wpAny_pure (wpAny_pure ⟨_, rfl, wpAny_pure h⟩))) htake)
    | exact wpAny_bind (wpAny_bind (m := Builtin.Tuple.tupleExact _) (wpAny_newObj_type (wpAny_pure (wpAny_pure ⟨_, rfl, wpAny_pure h⟩)) htake))
    | exact wpAny_bind (wpAny_bind (m := Builtin.Tuple.tupleExact _) (wpAny_newObj_type (wpAny_pure ⟨_, rfl, wpAny_pure h⟩) htake))
end
section
variable {X : Cx}
/-- e[::-1] of a list or a tuple -/
def tRevA (K : PySem.W.Frag) (te : TE) : TE := fun σ H Q => te σ H fun x H1 => ∃ a xs, x = .ref a ∧
  ((SqL K H1 a xs ∧ ∀ p, H1 p = none → Q (.ref p) (upd H1 p (.lst xs.reverse))) ∨ (SqT K H1 a xs ∧ ∀ p, H1 p = none → Q (.ref p) (upd H1 p (.tup xs.reverse))))
theorem pe_revA {e : Expr} {te : TE} {k : Nat} {p1 p2 p3 pos : Pos} (he : PE X e te) : PE X (.Subscript e (.Slice none none (some (.UnaryOp .USub (.Constant (.int 1) k p1) p2)) p3) pos) (tRevA X.K te) := by
  refine ⟨fun pins s σ H Q I h => ?_⟩
  refine Subscript_ (L2.thn (he.run pins s σ H _ I h) fun v s1 ⟨x, H1, I1, r1, q1⟩ => ?_)
  obtain ⟨a, xs, ex, q⟩ := q1
  subst ex
  cases r1
  have hst : L2.PO X (some (.UnaryOp .USub (.Constant (.int 1) k p1) p2)) (L2.tPart (L2.tUn (L2.rU fun i => .int (-i)) (L2.tC (.int 1)))) := L2.po_some (L2.pe_un L2.un_neg L2.pe_int)
  refine wpAny_Slice (L2.thn (L2.po_none.run pins s1 σ H1 (fun o H2 => o = none ∧ H2 = H1) I1 ⟨rfl, rfl⟩) fun vl s2 ⟨l, H2, I2, pl, el, e2⟩ => ?_)
  subst el e2
  refine L2.thn (L2.po_none.run pins s2 σ H2 (fun o H3 => o = none ∧ H3 = H2) I2 ⟨rfl, rfl⟩) fun vu s3 ⟨u, H3, I3, pu, eu, e3⟩ => ?_
  subst eu e3
  refine L2.thn (hst.run pins s3 σ H3 (fun o H4 => o = some (-1) ∧ H4 = H3) I3 ⟨1, rfl, -1, rfl, rfl, rfl⟩) fun vs s4 ⟨o, H4, I4, ps, eo, e4⟩ => ?_
  subst eo e4
  have I5 : Inv X pins σ H4 { s4 with heap := s4.heap.push { cls := .type "slice", data := .fields #[vl, vu, vs] } } := I4.kept (t' := s4.toks) fun b ob q => Heap.get?_push_of_some _ q
  show wpAny (model X.prog X.w) X.A (subscriptTail e (.Slice none none (some (.UnaryOp .USub (.Constant (.int 1) k p1) p2)) p3) (.ref a) (.ref s4.heap.objs.size)) (EP X pins σ Q) X.xe { s4 with heap := s4.heap.push { cls := .type "slice", data := .fields #[vl, vu, vs] } }
  rcases q with ⟨hx, q⟩ | ⟨hx, q⟩
  · obtain ⟨its, r, ht, hz⟩ := I5.list hx
    have hlen := r.length
    refine tail_any (ops := [.ref a, .ref s4.heap.objs.size]) ht.isList.typeIs (PySem.slot_list_getitem.lookup) ?_ (by with_unfolding_all rfl)
    refine wpAny_getItem_list_slice ht.isList (Heap.IsSliceOf.new _ vl vu vs) pl pu ps (by decide) ?_ (by rw [List.size_toArray]; omega)
    rw [PySem.W.krv_pick]
    refine ⟨.ref _, _, I5.laid (t' := s4.toks) (o := .lst xs.reverse) (fun b ob q => Heap.get?_push_of_some _ q) (Nat.le_refl _) ?_, rfl, q _ (I5.hok.fresh (Nat.le_refl _))⟩
    exact ⟨by rw [List.length_reverse]; exact hz, _, 0, r.reverse, Heap.get?_push_size _ rfl⟩
  · obtain ⟨its, r, ht, hz⟩ := I5.tuple hx
    have hlen := r.length
    refine tail_any (ops := [.ref a, .ref s4.heap.objs.size]) ht.typeIs PyProof.Rows.slot_tuple_getitem.lookup ?_ (by with_unfolding_all rfl)
    refine getItem_tuple_rev ht (Heap.IsSliceOf.new _ vl vu vs) pl pu ps ?_ (by rw [List.size_toArray]; omega)
    refine ⟨.ref _, _, I5.laid (t' := s4.toks) (o := .tup xs.reverse) (fun b ob q => Heap.get?_push_of_some _ q) (Nat.le_refl _) ?_, rfl, q _ (I5.hok.fresh (Nat.le_refl _))⟩
    exact ⟨by rw [List.length_reverse]; exact hz, _, r.reverse, IsTup.new _ _⟩

def iSeq (K : PySem.W.Frag) (te : TE) : TI := fun σ H R => te σ H fun v H1 => ∃ a xs, v = .ref a ∧ ((SqL K H1 a xs ∧ R (L2.Itl K a) H1) ∨ (SqT K H1 a xs ∧ R (L2.Itt K a) H1))
theorem pi_seq {tg l : Expr} {tl : TE} (hl : PE X l tl) : PI X tg l (iSeq X.K tl) := by
  refine ⟨fun pins s σ H R I h => ?_⟩
  refine L2.thn (hl.run pins s σ H _ I h) fun v s1 ⟨x, H1, I1, r1, q1⟩ => ?_
  obtain ⟨a, xs, e, q⟩ := q1
  subst e
  cases r1
  rcases q with ⟨hq, q⟩ | ⟨hq, q⟩
  · obtain ⟨its, rv, p, hz⟩ := I1.list hq
    refine wpAny_pyIter_list p.isList ?_
    refine ⟨s1.heap.objs.size, [s1.heap.objs.size], _, _, H1, rfl, I1.kept (t' := s1.toks) fun b o e => Heap.get?_push_of_some _ e, L2.turn_list a _, ⟨_, Heap.get?_push_size _ rfl, rfl, rfl⟩, fun b hb => ?_, q⟩
    have e : b = s1.heap.objs.size := by simpa using hb
    subst e
    exact I1.fpOk (Nat.le_refl _) (I1.hok.fresh (Nat.le_refl _))
  · obtain ⟨its, rv, p, hz⟩ := I1.tuple hq
    refine wpAny_pyIter_tuple (show s1.heap.IsTuple a its.toArray from p) ?_
    refine ⟨s1.heap.objs.size, [s1.heap.objs.size], _, _, H1, rfl, I1.kept (t' := s1.toks) fun b o e => Heap.get?_push_of_some _ e, L2.turn_tuple a _, ⟨_, Heap.get?_push_size _ rfl, rfl, rfl⟩, fun b hb => ?_, q⟩
    have e : b = s1.heap.objs.size := by simpa using hb
    subst e
    exact I1.fpOk (Nat.le_refl _) (I1.hok.fresh (Nat.le_refl _))
def iEnumA (K : PySem.W.Frag) (ta : TA) : TI := fun σ H R => ta σ H fun vs H1 => ∃ a xs, vs = [.ref a] ∧ ((SqL K H1 a xs ∧ R (L2.Ite K a) H1) ∨ (SqT K H1 a xs ∧ R (IteT K a) H1))
theorem pi_enumA {e : Expr} {ta : TA} {p pos tpos : Pos} {elts : List Expr} {kk : Nat} (hg : L2.Gl X "enumerate") (hm : X.mg "enumerate" = none) (ha : PA X [e] ta) (hs : starEach [e] X.env = [(false, eval e X.env)] := by rfl) :
    PI X (.Tuple elts kk tpos) (.Call (.Name "enumerate" p) [e] [] pos) (iEnumA X.K ta) := by
  refine ⟨fun pins s σ H R I h => ?_⟩
  refine Call_ (L2.ld_blt I hg hm boot_enumerate (PyProof.Rows.callWith_type1 (L2.thn (ha.run pos pins s σ H _ I h) fun us s1 ⟨vs, H1, I1, r1, q1⟩ => ?_) hs rfl))
  obtain ⟨a, xs, ex, q⟩ := q1
  subst ex
  cases r1 with
  | cons r rr =>
    cases rr
    cases r
    have fp : ∀ b ∈ [s1.heap.objs.size + 1, s1.heap.objs.size], L2.FpOk X pins H1 b := fun b hb => by
      have e' : b = s1.heap.objs.size + 1 ∨ b = s1.heap.objs.size := by simpa using hb
      have hle : s1.heap.objs.size ≤ b := by
        rcases e' with z | z
        · rw [z]; exact Nat.le_add_right _ _
        · rw [z]; exact Nat.le_refl _
      exact I1.fpOk hle (I1.hok.fresh hle)
    rcases q with ⟨hq, q⟩ | ⟨hq, q⟩
    · obtain ⟨its, rv, p', hz⟩ := I1.list hq
      refine call_enumerate_list p'.isList fun h' he hit hsz hk => wpAny_pyIter_enum he ?_
      have I2 : Inv X pins σ H1 { s1 with heap := h' } := I1.kept (t' := s1.toks) hk
      exact ⟨s1.heap.objs.size + 1, [s1.heap.objs.size + 1, s1.heap.objs.size], _, _, H1, rfl, I2, L2.turn_enum a (s1.heap.objs.size + 1) s1.heap.objs.size, ⟨⟨.none, he⟩, hit, Nat.succ_ne_self _⟩, fp, q⟩
    · obtain ⟨its, rv, p', hz⟩ := I1.tuple hq
      have alt : a < s1.heap.objs.size := p'.lt
      refine call_enumerate_tuple (show s1.heap.IsTuple a its.toArray from p') fun h' he hit hsz hk => wpAny_pyIter_enum he ?_
      have I2 : Inv X pins σ H1 { s1 with heap := h' } := I1.kept (t' := s1.toks) hk
      exact ⟨s1.heap.objs.size + 1, [s1.heap.objs.size + 1, s1.heap.objs.size], _, _, H1, rfl, I2, turn_enumT a (s1.heap.objs.size + 1) s1.heap.objs.size, ⟨⟨.none, he⟩, hit, Nat.succ_ne_self _, Nat.ne_of_lt alt, Nat.ne_of_lt (Nat.lt_succ_of_lt alt)⟩, fp, q⟩
end
end Py

namespace Py
open PySem PySem.Spec PyProof.Rows
open L2 (V HO Hp SqL SqT Rd upd upd_same upd_ne Cx Inv EP VK OpR RelV R2 CallR XK WX Vals TE PE TI PI PA TA It)
theorem lim_le : lim ≤ sizeLine := by rw [sizeLine_eq]; decide
section
variable {X : Cx} {G : Gd} {H : Hp} {μ : List Addr} {S : Sto} {Q : VK}

theorem fin_bad (h : Fin G H μ Q (.bad : R W)) : False := h
theorem fin_exc {x : Exn} {S' : Sto} (h : Fin G H μ Q (.exc x S' : R W)) : False := h
theorem fin_ite {c : Prop} [Decidable c] {a b : R W} (h : Fin G H μ Q (if c then a else b)) : (c ∧ Fin G H μ Q a) ∨ (¬ c ∧ Fin G H μ Q b) := by
  by_cases hc : c
  · rw [if_pos hc] at h; exact .inl ⟨hc, h⟩
  · rw [if_neg hc] at h; exact .inr ⟨hc, h⟩


theorem op_binW (hK : X.K = G.K) (op : Operator) : OpR X (binaryOp op) (rB G (binW op)) := by
  intro pins s σ H x y v u Q I rx ry h
  obtain ⟨μ, S, w1, w2, r, h1, h2, hf⟩ := h
  unfold binW at hf
  split at hf
  · rename_i i j
    have h1 : x = .int i := h1
    have h2 : y = .int j := h2
    subst h1 h2
    cases e : intOp op i j with
    | none => rw [e] at hf; exact hf.elim
    | some z =>
      rw [e] at hf
      exact intOp_ok e I rx ry (fin_val hf r (d := .int z) rfl)
  · rename_i a b
    have h1 : x = .str a := h1
    have h2 : y = .str b := h2
    subst h1 h2
    rcases fin_ite hf with ⟨hc, hf⟩ | ⟨_, hf⟩
    · exact L2.op_add_str pins s σ H _ _ v u Q I rx ry ⟨a, b, rfl, rfl, Nat.le_trans hc lim_le, fin_val hf r (d := .str (a ++ b)) rfl⟩
    · exact hf.elim
  · rename_i xs ys
    obtain ⟨a, vs, rfl, q1, q2⟩ := h1
    obtain ⟨b, us, rfl, q3, q4⟩ := h2
    have l1 := q2.length
    have l2 := q4.length
    rcases fin_ite hf with ⟨hc, hf⟩ | ⟨_, hf⟩
    · refine L2.op_catA pins s σ H _ _ v u Q I rx ry ⟨a, b, vs, us, rfl, rfl, by rw [hK]; exact q1, by rw [hK]; exact q3, by rw [← l1, ← l2]; exact Nat.le_trans hc lim_le, fun e => ?_, fun e e2 => ?_, fun e e2 p hp => ?_⟩
      · subst e
        have : xs = [] := List.eq_nil_of_length_eq_zero l1
        subst this
        exact fin_val hf r (d := .tup ys) ⟨b, us, rfl, q3, q4⟩
      · subst e2
        have : ys = [] := List.eq_nil_of_length_eq_zero l2
        subst this
        rw [List.append_nil] at hf
        exact fin_val hf r (d := .tup xs) ⟨a, vs, rfl, q1, q2⟩
      · exact fin_tup hf r (Reps.append q2 q4) hp
    · exact hf.elim
  · rename_i xs k
    obtain ⟨a, vs, rfl, q1, q2⟩ := h1
    have h2 : y = .int k := h2
    subst h2
    have l1 := q2.length
    rcases fin_ite hf with ⟨hc, hf⟩ | ⟨_, hf⟩
    · unfold repOk at hc
      rw [Bool.and_eq_true] at hc
      have c0 := of_decide_eq_true hc.1
      have c1 : -(2 ^ 62) ≤ k := by omega
      have c2 : k < 2 ^ 62 := by omega
      have c3 := of_decide_eq_true hc.2
      refine op_repA pins s σ H _ _ v u Q I rx ry ⟨a, k, vs, rfl, rfl, by rw [hK]; exact q1, c1, c2, by rw [← l1]; exact c3, fun e => ?_, fun e p hp => ?_⟩
      · have e' : repL xs k = xs := by
          unfold repL
          rcases e with e | e
          · subst e
            simp
          · subst e
            have : xs = [] := List.eq_nil_of_length_eq_zero l1
            subst this
            simp
        rw [e'] at hf
        exact fin_val hf r (d := .tup xs) ⟨a, vs, rfl, q1, q2⟩
      · exact fin_tup hf r (Reps.replicate q2 k.toNat) hp
    · exact hf.elim
  · rename_i k _ _
    have h2 : y = .int k := h2
    subst h2
    split at hf
    · rename_i xs e
      obtain ⟨a, vs, rfl, q1, q2⟩ := lstP_rep r h1 e
      have l1 := q2.length
      rcases fin_ite hf with ⟨hc, hf⟩ | ⟨_, hf⟩
      · unfold repOk at hc
        rw [Bool.and_eq_true] at hc
        have c0 := of_decide_eq_true hc.1
        have c3 := of_decide_eq_true hc.2
        exact L2.op_rep pins s σ H _ _ v u Q I rx ry ⟨a, k, vs, rfl, rfl, q1, by omega, by omega, by rw [← l1]; exact Nat.le_trans c3 lim_le, fun p hp => fin_lst hf r (Reps.replicate q2 k.toNat) hp⟩
      · exact hf.elim
    · exact hf.elim
  · split at hf
    · rename_i xs ys e1 e2
      obtain ⟨a, vs, rfl, q1, q2⟩ := lstP_rep r h1 e1
      obtain ⟨b, us, rfl, q3, q4⟩ := lstP_rep r h2 e2
      have l1 := q2.length
      have l2 := q4.length
      rcases fin_ite hf with ⟨hc, hf⟩ | ⟨_, hf⟩
      · exact L2.op_cat pins s σ H _ _ v u Q I rx ry ⟨a, b, vs, us, rfl, rfl, q1, q3, by rw [← l1, ← l2]; exact Nat.le_trans hc lim_le, fun p hp => fin_lst hf r (Reps.append q2 q4) hp⟩
      · exact hf.elim
    · exact hf.elim
  · exact hf.elim

theorem atom_flat {d : D} {v : V} (h : Rep G H μ d v) (e : atomB d = true) : L2.flatV v = true := by
  cases d with
  | non => cases (show v = .non from h); rfl
  | bl b => cases (show v = .bl b from h); rfl
  | int i => cases (show v = .int i from h); rfl
  | str s => cases (show v = .str s from h); rfl
  | _ => cases e
theorem atom_eqV {d d' : D} {v v' : V} (h : Rep G H μ d v) (h' : Rep G H μ d' v') (e : atomB d = true) (e' : atomB d' = true) : L2.eqV v v' = atomEq d d' := by
  cases d with
  | non => cases (show v = .non from h); cases d' with
    | non => cases (show v' = .non from h'); rfl
    | bl b => cases (show v' = .bl b from h'); rfl
    | int i => cases (show v' = .int i from h'); rfl
    | str s => cases (show v' = .str s from h'); rfl
    | _ => cases e'
  | bl b => cases (show v = .bl b from h); cases d' with
    | non => cases (show v' = .non from h'); rfl
    | bl b => cases (show v' = .bl b from h'); rfl
    | int i => cases (show v' = .int i from h'); rfl
    | str s => cases (show v' = .str s from h'); rfl
    | _ => cases e'
  | int i => cases (show v = .int i from h); cases d' with
    | non => cases (show v' = .non from h'); rfl
    | bl b => cases (show v' = .bl b from h'); rfl
    | int i => cases (show v' = .int i from h'); rfl
    | str s => cases (show v' = .str s from h'); rfl
    | _ => cases e'
  | str s => cases (show v = .str s from h); cases d' with
    | non => cases (show v' = .non from h'); rfl
    | bl b => cases (show v' = .bl b from h'); rfl
    | int i => cases (show v' = .int i from h'); rfl
    | str s => cases (show v' = .str s from h'); rfl
    | _ => cases e'
  | _ => cases e
theorem inD_ok {d : D} {v : V} (h : Rep G H μ d v) (hd : atomB d = true) : ∀ {xs : List D} {vs : List V}, Reps G H μ xs vs → xs.all atomB = true → vs.all L2.flatV = true ∧ L2.inV v vs = xs.any fun y => atomEq y d
  | [], _, hr, _ => by
    have hr : _ = [] := hr
    rw [hr]
    exact ⟨rfl, rfl⟩
  | x :: xs, _, hr, ha => by
    obtain ⟨u, us, rfl, q1, q2⟩ := hr
    rw [List.all_cons, Bool.and_eq_true] at ha
    obtain ⟨i1, i2⟩ := inD_ok h hd q2 ha.2
    refine ⟨by rw [List.all_cons, atom_flat q1 ha.1, i1]; rfl, ?_⟩
    unfold L2.inV at i2 ⊢
    rw [List.any_cons, List.any_cons, i2, atom_eqV q1 h ha.1 hd]
theorem rep_non {d : D} {v : V} (h : Rep G H μ d v) : decide (v = .non) = isNon d := by
  cases d with
  | non => cases (show v = .non from h); rfl
  | bl b => cases (show v = .bl b from h); rfl
  | int i => cases (show v = .int i from h); rfl
  | str s => cases (show v = .str s from h); rfl
  | tup ds =>
    obtain ⟨a, vs, rfl, _⟩ := h
    rfl
  | loc n =>
    obtain ⟨a, _, rfl⟩ := h
    rfl
  | fn f => cases (show v = .ref _ from h); rfl
  | cl ds =>
    obtain ⟨a, vs, rfl, _⟩ := h
    rfl
theorem eqW_ok (r : Rel G H μ S) {w1 w2 : W} {x y : V} {b : Bool} (h1 : RepC G H μ w1 x) (h2 : RepC G H μ w2 y) (e : eqW S w1 w2 = some b) : ∃ d e, L2.Dp G.K H x d ∧ L2.Dp G.K H y e ∧ SeqAt.shaped d = true ∧ SeqAt.shaped e = true ∧ PyData.eqv d e = b := by
  unfold eqW at e
  split at e
  · rename_i d d' e1 e2
    split at e
    · rename_i hs
      rw [Bool.and_eq_true] at hs
      exact ⟨d, d', dpW_of r h1 e1, dpW_of r h2 e2, hs.1, hs.2, Option.some.inj e⟩
    · cases e
  · cases e
theorem op_cmpW (hK : X.K = G.K) (hu : X.A.units + 64 < cLine) (op : CmpOp) : OpR X (compareOp op) (rB G (cmpW op)) := by
  intro pins s σ H x y v u Q I rx ry h
  obtain ⟨μ, S, w1, w2, r, h1, h2, hf⟩ := h
  unfold cmpW at hf
  cases e : cmpB op w1 w2 S with
  | none => rw [e] at hf; exact hf.elim
  | some b =>
    rw [e] at hf
    have q : Q (.bl b) H := fin_val hf r (d := .bl b) rfl
    clear hf
    unfold cmpB at e
    split at e
    · rename_i i j
      cases e
      cases (show x = .int i from h1)
      cases (show y = .int j from h2)
      exact L2.op_lt pins s σ H _ _ v u Q I rx ry ⟨i, j, rfl, rfl, q⟩
    · rename_i i j
      cases e
      cases (show x = .int i from h1)
      cases (show y = .int j from h2)
      exact L2.op_le pins s σ H _ _ v u Q I rx ry ⟨i, j, rfl, rfl, q⟩
    · rename_i i j
      cases e
      cases (show x = .int i from h1)
      cases (show y = .int j from h2)
      exact L2.op_gt pins s σ H _ _ v u Q I rx ry ⟨i, j, rfl, rfl, q⟩
    · rename_i i j
      cases e
      cases (show x = .int i from h1)
      cases (show y = .int j from h2)
      exact L2.op_ge pins s σ H _ _ v u Q I rx ry ⟨i, j, rfl, rfl, q⟩
    · obtain ⟨d, d', a1, a2, a3, a4, a5⟩ := eqW_ok r h1 h2 e
      exact L2.op_eqD hu pins s σ H _ _ v u Q I rx ry ⟨d, d', by rw [hK]; exact a1, by rw [hK]; exact a2, a3, a4, by rw [a5]; exact q⟩
    · cases e2 : eqW S w1 w2 with
      | none => rw [e2] at e; cases e
      | some c =>
        rw [e2] at e
        cases e
        obtain ⟨d, d', a1, a2, a3, a4, a5⟩ := eqW_ok r h1 h2 e2
        exact L2.op_neD hu pins s σ H _ _ v u Q I rx ry ⟨d, d', by rw [hK]; exact a1, by rw [hK]; exact a2, a3, a4, by rw [a5]; exact q⟩
    · rename_i a c
      cases e
      cases (show x = .bl a from h1)
      cases (show y = .bl c from h2)
      exact L2.op_is_bl pins s σ H _ _ v u Q I rx ry ⟨a, c, rfl, rfl, q⟩
    · rename_i a c
      cases e
      cases (show x = .bl a from h1)
      cases (show y = .bl c from h2)
      exact L2.op_isnot_bl pins s σ H _ _ v u Q I rx ry ⟨a, c, rfl, rfl, q⟩
    · rename_i d
      cases e
      cases (show y = .non from h2)
      refine L2.op_isN pins s σ H _ _ v u Q I rx ry ⟨rfl, ?_⟩
      rw [rep_non (d := d) h1]
      exact q
    · rename_i d
      cases e
      cases (show y = .non from h2)
      refine L2.op_notN pins s σ H _ _ v u Q I rx ry ⟨rfl, ?_⟩
      rw [rep_non (d := d) h1]
      exact q
    · unfold isIn at e
      split at e
      · rename_i d
        split at e
        · rename_i ys e1
          unfold inD at e
          split at e
          · rename_i hc
            rw [Bool.and_eq_true] at hc
            cases e
            obtain ⟨a, vs, rfl, q1, q2⟩ := seqOf_rep r h2 e1
            obtain ⟨i1, i2⟩ := inD_ok h1 hc.1 q2 hc.2
            refine L2.op_in_seq pins s σ H _ _ v u Q I rx ry ⟨a, vs, rfl, by rw [hK]; exact q1, atom_flat h1 hc.1, i1, ?_⟩
            show Q (.bl (L2.inV x vs)) H
            rw [i2]
            exact q
          · cases e
        · cases e
      · cases e
    · cases e0 : isIn S w1 w2 with
      | none => rw [e0] at e; cases e
      | some c =>
        rw [e0] at e
        cases e
        unfold isIn at e0
        split at e0
        · rename_i d
          split at e0
          · rename_i ys e1
            unfold inD at e0
            split at e0
            · rename_i hc
              rw [Bool.and_eq_true] at hc
              cases e0
              obtain ⟨a, vs, rfl, q1, q2⟩ := seqOf_rep r h2 e1
              obtain ⟨i1, i2⟩ := inD_ok h1 hc.1 q2 hc.2
              refine L2.op_notIn_seq pins s σ H _ _ v u Q I rx ry ⟨a, vs, rfl, by rw [hK]; exact q1, atom_flat h1 hc.1, i1, ?_⟩
              show Q (.bl (!L2.inV x vs)) H
              rw [i2]
              exact q
            · cases e0
          · cases e0
        · cases e0
    · cases e
end
end Py

namespace Py
open PySem PySem.Spec PyProof.Rows
open L2 (V HO Hp SqL SqT Rd upd upd_same upd_ne Cx Inv EP VK OpR RelV R2 CallR XK WX Vals TE PE TI PI PA TA It)
theorem ixN_eq (n : Nat) (i : Int) : L2.ixN n i = ixN n i := rfl
theorem sIx_eq (n d : Nat) (o : Option Int) : HT.sIx n d o = sIx n d o := by
  cases o <;> rfl
theorem cutV_eq (xs : List V) (lo hi : Option Int) : L2.cutV xs lo hi = cut xs lo hi := by
  unfold L2.cutV cut
  rw [sIx_eq, sIx_eq]
section
variable {X : Cx} {G : Gd} {H : Hp} {μ : List Addr} {S : Sto} {Q : VK}
theorem atI_rep {xs : List D} {vs : List V} {i : Int} {d : D} (h : Reps G H μ xs vs) (e : atI xs i = some d) : ∃ v, L2.atI vs i = some v ∧ Rep G H μ d v := by
  unfold atI at e
  rw [h.length] at e
  cases q : ixN vs.length i with
  | none => rw [q] at e; cases e
  | some j =>
    rw [q] at e
    obtain ⟨v, h1, h2⟩ := h.getOf (i := j) e
    refine ⟨v, ?_, h2⟩
    unfold L2.atI
    rw [ixN_eq, q]
    exact h1
theorem ix_W (hK : X.K = G.K) : L2.IxR X (rB G ixR) := by
  intro value slice pins s σ H x y v u Q I rx ry h hs
  obtain ⟨μ, S, w1, w2, r, h1, h2, hf⟩ := h
  unfold ixR at hf
  cases e : ixW w1 w2 S with
  | none => rw [e] at hf; exact hf.elim
  | some d =>
    rw [e] at hf
    unfold ixW at e
    split at e
    · rename_i i
      cases (show y = .int i from h2)
      split at e
      · rename_i xs e1
        obtain ⟨a, vs, rfl, q1, q2⟩ := seqOf_rep r h1 e1
        obtain ⟨z, e2, q3⟩ := atI_rep q2 e
        have q := fin_val hf r q3
        rcases q1 with q1 | q1
        · exact L2.ix_list value slice pins s σ H _ _ v u Q I rx ry ⟨a, vs, i, z, rfl, rfl, by rw [hK]; exact q1, e2, q⟩ hs
        · exact L2.ix_tup value slice pins s σ H _ _ v u Q I rx ry ⟨a, vs, i, z, rfl, rfl, by rw [hK]; exact q1, e2, q⟩ hs
      · cases e
    · cases e
/-- xs[i] of a list, by getItem -/
theorem get_list : L2.PGet X (fun o i H Q => ∃ p xs k v, o = .ref p ∧ i = .int k ∧ H p = some (.lst xs) ∧ L2.atI xs k = some v ∧ Q v H) := by
  intro pins s σ H o i ov iv Q I ro ri h
  obtain ⟨p, xs, k, z, rfl, rfl, hq, he, q⟩ := h
  cases ro
  obtain ⟨t, rfl⟩ := ri
  obtain ⟨its, r, pl, hz⟩ := I.list (.inl (.inl hq))
  obtain ⟨j, h1, h2, h3, h4, h5⟩ := L2.atI_get he
  obtain ⟨w, ew, rw'⟩ := r.get h2
  have hl := r.length
  have hn := L2.line63
  have fin : EP X pins σ Q w s := ⟨z, H, I, rw', q⟩
  by_cases h0 : 0 ≤ k
  · have hj : k.toNat = j := by
      rw [PySem.seqIndex_of h0 h5] at h1
      exact Option.some.inj h1
    exact wpAny_getItem_list pl.isList h0 (by omega) (by rw [hj]; simpa using ew) fin
  · have hj : (k + (its.toArray.size : Int)).toNat = j := by
      rw [PySem.seqIndex_neg (by omega) h4] at h1
      rw [List.size_toArray, ← hl]
      exact Option.some.inj h1
    exact wpAny_getItem_list_neg pl.isList (by omega) (by rw [List.size_toArray, ← hl]; exact h4) (by omega) (by rw [hj]; simpa using ew) fin

def rSl (G : Gd) : V → Option Int → Option Int → Hp → VK → Prop := fun x lo hi H Q => ∃ μ S w, Rel G H μ S ∧ RepC G H μ w x ∧ Fin G H μ Q (orBad (slW w lo hi S) S)
theorem sl_W (hK : X.K = G.K) : L2.SlR X (rSl G) := by
  intro pins s σ H x v vl vu lo hi sl Q I rx hs pl pu h
  obtain ⟨μ, S, w, r, h1, hf⟩ := h
  obtain ⟨w', e, hf⟩ := fin_orBad hf
  unfold slW at e
  split at e
  · rename_i xs
    cases e
    obtain ⟨a, vs, rfl, q1, q2⟩ := h1
    have l := q2.length
    refine L2.sl_tupA pins s σ H _ v vl vu lo hi sl Q I rx hs pl pu ⟨a, vs, rfl, by rw [hK]; exact q1, fun e => ?_, fun _ p hp => ?_⟩
    · have e' : cut xs lo hi = xs := by
        unfold cut
        rw [← sIx_eq, ← sIx_eq, l, e.1, e.2, ← l]
        simp
      rw [e'] at hf
      exact fin_val hf r (d := .tup xs) ⟨a, vs, rfl, q1, q2⟩
    · rw [cutV_eq]
      have q3 : Reps G H μ (cut xs lo hi) (cut vs lo hi) := by
        unfold cut
        rw [l]
        exact Reps.take _ (Reps.drop _ q2)
      exact fin_tup hf r q3 hp
  · split at e
    · rename_i xs e1
      cases e
      obtain ⟨a, vs, rfl, q1, q2⟩ := lstOf_rep r h1 e1
      have l := q2.length
      refine L2.sl_list pins s σ H _ v vl vu lo hi sl Q I rx hs pl pu ⟨a, vs, rfl, by rw [hK]; exact q1, fun p hp => ?_⟩
      rw [cutV_eq]
      have q3 : Reps G H μ (cut xs lo hi) (cut vs lo hi) := by
        unfold cut
        rw [l]
        exact Reps.take _ (Reps.drop _ q2)
      exact fin_lst hf r q3 hp
    · cases e
theorem revW_ok {w : W} {x : V} (r : Rel G H μ S) (h1 : RepC G H μ w x) (hf : Fin G H μ Q (orBad (revW w S) S)) : ∃ a xs, x = .ref a ∧
    ((SqL G.K H a xs ∧ ∀ p, H p = none → Q (.ref p) (upd H p (.lst xs.reverse))) ∨ (SqT G.K H a xs ∧ ∀ p, H p = none → Q (.ref p) (upd H p (.tup xs.reverse)))) := by
  obtain ⟨w', e, hf⟩ := fin_orBad hf
  unfold revW at e
  split at e
  · cases e
    obtain ⟨a, vs, rfl, q1, q2⟩ := h1
    exact ⟨a, vs, rfl, .inr ⟨q1, fun p hp => fin_tup hf r (Reps.reverse q2) hp⟩⟩
  · split at e
    · rename_i xs e1
      cases e
      obtain ⟨a, vs, rfl, q1, q2⟩ := lstOf_rep r h1 e1
      exact ⟨a, vs, rfl, .inl ⟨q1, fun p hp => fin_lst hf r (Reps.reverse q2) hp⟩⟩
    · cases e

def Ty.py : Ty → String
  | .tint => "int"
  | .tbool => "bool"
  | .tstr => "str"
  | .ttup => "tuple"
  | .tlst => "list"
theorem isTy_ok (r : Rel G H μ S) {w : W} {x : V} {t : Ty} {b : Bool} (h : RepC G H μ w x) (e : isTy S w t = some b) : ∃ tv, L2.TyX G.K H x tv ∧ PySem.W.kitOne G.K tv (.type t.py) = some b := by
  cases w with
  | f xs =>
    obtain ⟨a, vs, rfl, _, q, _⟩ := h
    refine ⟨_, .base (.lst q), ?_⟩
    have e : decide (t = .tlst) = b := Option.some.inj e
    subst e
    cases t <;> exact L2.kit_ty (by decide +kernel)
  | it _ _ => exact h.elim
  | v d =>
    cases d with
    | non =>
      cases (show x = .non from h)
      cases e
      refine ⟨_, .base .non, ?_⟩
      cases t <;> exact L2.kit_ty (by decide +kernel)
    | bl c =>
      cases (show x = .bl c from h)
      have e : (decide (t = .tint) || decide (t = .tbool)) = b := Option.some.inj e
      subst e
      refine ⟨_, .base (.bl c), ?_⟩
      cases t <;> exact L2.kit_ty (by decide +kernel)
    | int i =>
      cases (show x = .int i from h)
      have e : decide (t = .tint) = b := Option.some.inj e
      subst e
      refine ⟨_, .base (.int i), ?_⟩
      cases t <;> exact L2.kit_ty (by decide +kernel)
    | str i =>
      cases (show x = .str i from h)
      have e : decide (t = .tstr) = b := Option.some.inj e
      subst e
      refine ⟨_, .base (.str i), ?_⟩
      cases t <;> exact L2.kit_ty (by decide +kernel)
    | tup ds =>
      obtain ⟨a, vs, rfl, q, _⟩ := h
      have e : decide (t = .ttup) = b := Option.some.inj e
      subst e
      refine ⟨.type "tuple", ?_, ?_⟩
      · rcases q with (q | ⟨o, q⟩) | ⟨o, its, n, q, c, _⟩
        · exact .base (.tup q)
        · exact .fTuple q
        · exact .kTuple q c
      · cases t <;> exact L2.kit_ty (by decide +kernel)
    | loc n =>
      obtain ⟨a, ha, rfl⟩ := h
      have e : (match S[n]? with | some (.lst _) => some (decide (t = .tlst)) | none => none) = some b := e
      cases q : S[n]? with
      | none => rw [q] at e; cases e
      | some o =>
        cases o with
        | lst xs =>
          rw [q] at e
          have e : decide (t = .tlst) = b := Option.some.inj e
          subst e
          obtain ⟨vs, q1, _⟩ := r.obj n _ a q ha
          refine ⟨_, .base (.lst q1), ?_⟩
          cases t <;> exact L2.kit_ty (by decide +kernel)
    | cl ds =>
      obtain ⟨a, vs, rfl, q, _⟩ := h
      have e : decide (t = .tlst) = b := Option.some.inj e
      subst e
      refine ⟨.type "list", ?_, ?_⟩
      · rcases q with ⟨o, q⟩ | q
        · exact .base (.frz q)
        · rcases q (fun _ => none) with (q | ⟨o, q⟩) | ⟨o, its, n, q, c, _⟩
          · cases q
          · cases q
          · exact .kList q c
      · cases t <;> exact L2.kit_ty (by decide +kernel)
    | fn f => cases e
end
end Py
namespace Py
open PySem PySem.Spec PyProof.Rows
open L2 (V HO Hp SqL SqT Rd upd upd_same upd_ne Cx Inv EP VK OpR RelV R2 CallR XK WX Vals TE PE TI PI PA TA It)
def B1.val : B1 → Value
  | .len => .builtin "len"
  | .abs => .builtin "abs"
  | .int => .type "int"
  | .tup => .type "tuple"
  | .lst => .type "list"
  | .all => .builtin "all"
  | .any => .builtin "any"
  | .sum => .builtin "sum"
  | .max => .builtin "max"
  | .min => .builtin "min"
  | .repr => .builtin "repr"
theorem maxL_spec : ∀ (xs : List Int) (m : Int), (maxL m xs = m ∨ maxL m xs ∈ xs) ∧ m ≤ maxL m xs ∧ ∀ y ∈ xs, y ≤ maxL m xs
  | [], m => ⟨.inl rfl, Int.le_refl _, fun _ h => nomatch h⟩
  | x :: xs, m => by
    obtain ⟨h1, h2, h3⟩ := maxL_spec xs (if m < x then x else m)
    show (maxL (if m < x then x else m) xs = m ∨ maxL (if m < x then x else m) xs ∈ x :: xs) ∧ m ≤ maxL (if m < x then x else m) xs ∧ ∀ y ∈ x :: xs, y ≤ maxL (if m < x then x else m) xs
    generalize maxL (if m < x then x else m) xs = z at h1 h2 h3
    refine ⟨?_, ?_, fun y hy => ?_⟩
    · rcases h1 with h1 | h1
      · by_cases c : m < x
        · rw [if_pos c] at h1
          exact .inr (by rw [h1]; exact List.mem_cons_self)
        · rw [if_neg c] at h1
          exact .inl h1
      · exact .inr (List.mem_cons_of_mem _ h1)
    · by_cases c : m < x
      · rw [if_pos c] at h2; omega
      · rw [if_neg c] at h2; omega
    · rcases List.mem_cons.mp hy with e | e
      · subst e
        by_cases c : m < y
        · rw [if_pos c] at h2; omega
        · rw [if_neg c] at h2; omega
      · exact h3 y e
theorem minL_spec : ∀ (xs : List Int) (m : Int), (minL m xs = m ∨ minL m xs ∈ xs) ∧ minL m xs ≤ m ∧ ∀ y ∈ xs, minL m xs ≤ y
  | [], m => ⟨.inl rfl, Int.le_refl _, fun _ h => nomatch h⟩
  | x :: xs, m => by
    obtain ⟨h1, h2, h3⟩ := minL_spec xs (if x < m then x else m)
    show (minL (if x < m then x else m) xs = m ∨ minL (if x < m then x else m) xs ∈ x :: xs) ∧ minL (if x < m then x else m) xs ≤ m ∧ ∀ y ∈ x :: xs, minL (if x < m then x else m) xs ≤ y
    generalize minL (if x < m then x else m) xs = z at h1 h2 h3
    refine ⟨?_, ?_, fun y hy => ?_⟩
    · rcases h1 with h1 | h1
      · by_cases c : x < m
        · rw [if_pos c] at h1
          exact .inr (by rw [h1]; exact List.mem_cons_self)
        · rw [if_neg c] at h1
          exact .inl h1
      · exact .inr (List.mem_cons_of_mem _ h1)
    · by_cases c : x < m
      · rw [if_pos c] at h2; omega
      · rw [if_neg c] at h2; omega
    · rcases List.mem_cons.mp hy with e | e
      · subst e
        by_cases c : y < m
        · rw [if_pos c] at h2; omega
        · rw [if_neg c] at h2; omega
      · exact h3 y e
section
variable {X : Cx} {G : Gd} {H : Hp} {μ : List Addr} {S : Sto} {Q : VK}
theorem intsOf_rep : ∀ {xs : List D} {vs : List V} {ns : List Int}, Reps G H μ xs vs → intsOf xs = some ns → vs = ns.map V.int
  | [], vs, ns, h, e => by
    have h : vs = [] := h
    have e : some [] = some ns := e
    cases e
    rw [h]
    rfl
  | d :: xs, vs, ns, h, e => by
    obtain ⟨v, us, rfl, h1, h2⟩ := h
    unfold intsOf at e
    rw [List.mapM_cons] at e
    cases d with
    | int i =>
      cases (show v = .int i from h1)
      cases q : intsOf xs with
      | none =>
        unfold intsOf at q
        simp only at e
        rw [q] at e
        cases e
      | some ms =>
        have ih := intsOf_rep h2 q
        unfold intsOf at q
        simp only at e
        rw [q] at e
        cases e
        rw [ih]
        rfl
    | _ => cases e
theorem boolsOf_rep : ∀ {xs : List D} {vs : List V} {ns : List Bool}, Reps G H μ xs vs → boolsOf xs = some ns → vs = ns.map V.bl
  | [], vs, ns, h, e => by
    have h : vs = [] := h
    have e : some [] = some ns := e
    cases e
    rw [h]
    rfl
  | d :: xs, vs, ns, h, e => by
    obtain ⟨v, us, rfl, h1, h2⟩ := h
    unfold boolsOf at e
    rw [List.mapM_cons] at e
    cases d with
    | bl i =>
      cases (show v = .bl i from h1)
      cases q : boolsOf xs with
      | none =>
        unfold boolsOf at q
        simp only at e
        rw [q] at e
        cases e
      | some ms =>
        have ih := boolsOf_rep h2 q
        unfold boolsOf at q
        simp only at e
        rw [q] at e
        cases e
        rw [ih]
        rfl
    | _ => cases e
def rB1 (G : Gd) (f : B1) : List V → Hp → VK → Prop := fun vs H Q => ∃ μ S w x, vs = [x] ∧ Rel G H μ S ∧ RepC G H μ w x ∧ Fin G H μ Q (orBad (b1W f w S) S)
def rB2 (G : Gd) (f : B2) : List V → Hp → VK → Prop := fun vs H Q => ∃ μ S w1 w2 x y, vs = [x, y] ∧ Rel G H μ S ∧ RepC G H μ w1 x ∧ RepC G H μ w2 y ∧ Fin G H μ Q (orBad (b2W f w1 w2) S)
theorem call_b1 (hK : X.K = G.K) (hc : X.calm = true) (f : B1) : CallR X f.val (rB1 G f) := by
  intro pins s σ H vs us Q I rv h
  obtain ⟨μ, S, w, x, rfl, r, h1, hf⟩ := h
  obtain ⟨w', e, hf⟩ := fin_orBad hf
  unfold b1W at e
  split at e
  · rename_i z
    split at e
    · rename_i hl
      cases e
      cases (show x = .str z from h1)
      exact L2.call_len_str pins s σ H _ us Q I rv ⟨z, rfl, Nat.le_trans hl lim_le, fin_val hf r (d := .int z.length) rfl⟩
    · cases e
  · split at e
    · rename_i xs e1
      cases e
      obtain ⟨a, ws, rfl, q1, q2⟩ := seqOf_rep r h1 e1
      refine L2.call_len_seq pins s σ H _ us Q I rv ⟨a, ws, rfl, by rw [hK]; exact q1, ?_⟩
      rw [← q2.length]
      exact fin_val hf r (d := .int xs.length) rfl
    · cases e
  · rename_i i
    cases e
    cases (show x = .int i from h1)
    exact L2.call_abs pins s σ H _ us Q I rv ⟨i, rfl, fin_val hf r (d := .int (if i < 0 then -i else i)) rfl⟩
  · rename_i i
    cases e
    cases (show x = .int i from h1)
    exact L2.call_int1 pins s σ H _ us Q I rv (.inl ⟨i, rfl, fin_val hf r (d := .int i) rfl⟩)
  · rename_i b
    cases e
    cases (show x = .bl b from h1)
    exact L2.call_int1 pins s σ H _ us Q I rv (.inr ⟨b, rfl, fin_val hf r (d := .int (if b then 1 else 0)) rfl⟩)
  · split at e
    · rename_i xs e1
      cases e
      obtain ⟨a, ws, rfl, q1, q2⟩ := seqOf_rep r h1 e1
      rcases q1 with q1 | q1
      · exact L2.call_tuple_of pins s σ H _ us Q I rv ⟨a, ws, rfl, .inl ⟨by rw [hK]; exact q1, fun p hp => fin_tup hf r q2 hp⟩⟩
      · exact L2.call_tuple_of pins s σ H _ us Q I rv ⟨a, ws, rfl, .inr ⟨by rw [hK]; exact q1, fin_val hf r (d := .tup xs) ⟨a, ws, rfl, q1, q2⟩⟩⟩
    · cases e
  · split at e
    · rename_i xs e1
      cases e
      obtain ⟨a, ws, rfl, q1, q2⟩ := seqOf_rep r h1 e1
      exact L2.call_list_of pins s σ H _ us Q I rv ⟨a, ws, rfl, by rw [hK]; exact q1, fun p hp => fin_lst hf r q2 hp⟩
    · cases e
  · split at e
    · rename_i bs e1
      cases e
      cases q : lstOf S w with
      | none => rw [q] at e1; cases e1
      | some xs =>
        rw [q] at e1
        obtain ⟨a, ws, rfl, q1, q2⟩ := lstOf_rep r h1 q
        have q3 := boolsOf_rep q2 e1
        subst q3
        exact L2.cr_all hc pins s σ H _ us Q I rv ⟨a, bs, rfl, by rw [hK]; exact q1, fin_val hf r (d := .bl (bs.all id)) rfl⟩
    · cases e
  · split at e
    · rename_i bs e1
      cases e
      cases q : lstOf S w with
      | none => rw [q] at e1; cases e1
      | some xs =>
        rw [q] at e1
        obtain ⟨a, ws, rfl, q1, q2⟩ := lstOf_rep r h1 q
        have q3 := boolsOf_rep q2 e1
        subst q3
        exact L2.cr_any hc pins s σ H _ us Q I rv ⟨a, bs, rfl, by rw [hK]; exact q1, fin_val hf r (d := .bl (bs.any id)) rfl⟩
    · cases e
  · split at e
    · rename_i ns e1
      cases e
      cases q : lstOf S w with
      | none => rw [q] at e1; cases e1
      | some xs =>
        rw [q] at e1
        obtain ⟨a, ws, rfl, q1, q2⟩ := lstOf_rep r h1 q
        have q3 := intsOf_rep q2 e1
        subst q3
        exact L2.cr_sum hc pins s σ H _ us Q I rv ⟨a, ns, rfl, by rw [hK]; exact q1, fin_val hf r (d := .int ns.sum) rfl⟩
    · cases e
  · split at e
    · rename_i n ns e1
      cases e
      cases q : lstOf S w with
      | none => rw [q] at e1; cases e1
      | some xs =>
        rw [q] at e1
        obtain ⟨a, ws, rfl, q1, q2⟩ := lstOf_rep r h1 q
        have q3 := intsOf_rep q2 e1
        subst q3
        refine L2.cr_max hc pins s σ H _ us Q I rv ⟨a, n :: ns, rfl, by rw [hK]; exact q1, by simp, fun m hm hy => ?_⟩
        obtain ⟨m1, m2, m3⟩ := maxL_spec ns n
        have em : m = maxL n ns := by
          apply Int.le_antisymm
          · rcases List.mem_cons.mp hm with e | e
            · rw [e]; exact m2
            · exact m3 m e
          · rcases m1 with e | e
            · rw [e]; exact hy n List.mem_cons_self
            · exact hy _ (List.mem_cons_of_mem _ e)
        rw [em]
        exact fin_val hf r (d := .int (maxL n ns)) rfl
    · cases e
  · split at e
    · rename_i n ns e1
      cases e
      cases q : lstOf S w with
      | none => rw [q] at e1; cases e1
      | some xs =>
        rw [q] at e1
        obtain ⟨a, ws, rfl, q1, q2⟩ := lstOf_rep r h1 q
        have q3 := intsOf_rep q2 e1
        subst q3
        refine L2.cr_min hc pins s σ H _ us Q I rv ⟨a, n :: ns, rfl, by rw [hK]; exact q1, by simp, fun m hm hy => ?_⟩
        obtain ⟨m1, m2, m3⟩ := minL_spec ns n
        have em : m = minL n ns := by
          apply Int.le_antisymm
          · rcases m1 with e | e
            · rw [e]; exact hy n List.mem_cons_self
            · exact hy _ (List.mem_cons_of_mem _ e)
          · rcases List.mem_cons.mp hm with e | e
            · rw [e]; exact m2
            · exact m3 m e
        rw [em]
        exact fin_val hf r (d := .int (minL n ns)) rfl
    · cases e
  · rename_i b
    cases e
    cases (show x = .bl b from h1)
    obtain ⟨u, rfl, ru⟩ := L2.vals1 rv
    cases ru
    exact PySem.P.repr_of_bool ⟨.str _, H, I.tok _, ⟨_, rfl⟩, fin_val hf r (d := .str (if b then "True" else "False")) rfl⟩
  · cases e
theorem call_b2 (hc : X.calm = true) (f : B2) : CallR X (.builtin (match f with | .max => "max" | .min => "min")) (rB2 G f) := by
  intro pins s σ H vs us Q I rv h
  obtain ⟨μ, S, w1, w2, x, y, rfl, r, h1, h2, hf⟩ := h
  obtain ⟨w', e, hf⟩ := fin_orBad hf
  unfold b2W at e
  split at e
  · rename_i i j
    cases e
    cases (show x = .int i from h1)
    cases (show y = .int j from h2)
    exact L2.call_max2 hc pins s σ H _ us Q I rv ⟨i, j, rfl, fin_val hf r (d := .int (if j > i then j else i)) rfl⟩
  · rename_i i j
    cases e
    cases (show x = .int i from h1)
    cases (show y = .int j from h2)
    exact L2.call_min2 hc pins s σ H _ us Q I rv ⟨i, j, rfl, fin_val hf r (d := .int (if j < i then j else i)) rfl⟩
  · cases e
end
end Py
namespace Py
open PySem PySem.Spec PyProof.Rows
open L2 (V HO Hp SqL SqT Rd upd upd_same upd_ne Cx Inv EP VK OpR RelV R2 CallR XK WX Vals TE PE TI PI PA TA It)
def Mt.id : Mt → String
  | .pop => "list.pop"
  | .append => "list.append"
  | .extend => "list.extend"
  | .insert => "list.insert"
def Mt.nm : Mt → Str
  | .pop => "pop"
  | .append => "append"
  | .extend => "extend"
  | .insert => "insert"
section
variable {X : Cx} {G : Gd} {H : Hp} {μ : List Addr} {S : Sto} {Q : VK}
def rMt (G : Gd) (m : Mt) : V → List V → Hp → VK → Prop := fun x xs H Q => ∃ μ S d ds, Rel G H μ S ∧ Rep G H μ d x ∧ Reps G H μ ds xs ∧ Fin G H μ Q (mtW m d (ds.map .v) S)
theorem fin_set {w : W} {n : Nat} {xs ys : List D} {vs : List V} {a : Addr} {v : V} (h : Fin G H μ Q (.ok w (S.set n (.lst ys)))) (r : Rel G H μ S) (hn : S[n]? = some (.lst xs)) (ha : μ[n]? = some a) (hy : Reps G H μ ys vs) (hw : ∀ H', Step μ μ H H' → RepW G H H' μ w v) :
    Q v (upd H a (.lst vs)) := by
  obtain ⟨q1, q2⟩ := r.write hn ha hy
  exact fin_ok h q2 q1 (hw _ q2)
theorem mt_W (m : Mt) : L2.MtR X m.id (rMt G m) := by
  intro pins s σ H x xs v us Q I rx rs h
  obtain ⟨μ, S, d, ds, r, h1, h2, hf⟩ := h
  unfold mtW at hf
  cases d with
  | loc n =>
    obtain ⟨a, ha, rfl⟩ := h1
    cases qn : S[n]? with
    | none => simp only [qn] at hf; exact hf.elim
    | some o =>
      cases o with
      | lst ys =>
        simp only [qn] at hf
        obtain ⟨vs, q1, q2⟩ := r.obj n _ a qn ha
        have l := q2.length
        cases m with
        | pop =>
          cases ds with
          | nil =>
            have h2 : xs = [] := h2
            subst h2
            cases e : ys[ys.length - 1]? with
            | none =>
              simp only [List.map_nil, e] at hf
              exact hf.elim
            | some y =>
              simp only [List.map_nil, e] at hf
              obtain ⟨z, e1, e2⟩ := q2.getOf e
              refine L2.mt_pop pins s σ H _ _ v us Q I rx rs ⟨a, vs, z, rfl, rfl, q1, by rw [← l]; exact e1, ?_⟩
              exact fin_set hf r qn ha (Reps.dropLast q2) fun H' st => Rep.mono r st e2
          | cons d ds => exact hf.elim
        | append =>
          cases ds with
          | nil => exact hf.elim
          | cons y ds =>
            cases ds with
            | cons _ _ => exact hf.elim
            | nil =>
              obtain ⟨z, zs, rfl, e1, e2⟩ := h2
              have e2 : zs = [] := e2
              subst e2
              simp only [List.map_cons, List.map_nil] at hf
              rcases fin_ite hf with ⟨hc, hf⟩ | ⟨_, hf⟩
              · refine L2.mt_append pins s σ H _ _ v us Q I rx rs ⟨a, vs, z, rfl, rfl, q1, by rw [← l]; exact Nat.lt_of_lt_of_le hc lim_le, ?_⟩
                exact fin_set hf r qn ha (Reps.append q2 ⟨z, [], rfl, e1, rfl⟩) fun H' st => rfl
              · exact hf.elim
        | extend =>
          cases ds with
          | nil => exact hf.elim
          | cons y ds =>
            cases ds with
            | cons _ _ =>
              simp only [List.map_cons] at hf
              exact hf.elim
            | nil =>
              obtain ⟨z, zs, rfl, e1, e2⟩ := h2
              have e2 : zs = [] := e2
              subst e2
              simp only [List.map_cons, List.map_nil] at hf
              cases e3 : lstP S (.v y) with
              | none => rw [e3] at hf; exact hf.elim
              | some zs =>
                rw [e3] at hf
                obtain ⟨b, ws, rfl, q3, q4⟩ := lstP_rep r (w := .v y) e1 e3
                have l2 := q4.length
                rcases fin_ite hf with ⟨hc, hf⟩ | ⟨_, hf⟩
                · refine L2.mt_extend pins s σ H _ _ v us Q I rx rs ⟨a, b, vs, ws, rfl, rfl, q1, q3, by rw [← l, ← l2]; exact Nat.le_trans hc lim_le, ?_⟩
                  exact fin_set hf r qn ha (Reps.append q2 q4) fun H' st => rfl
                · exact hf.elim
        | insert =>
          cases ds with
          | nil => exact hf.elim
          | cons y ds =>
            cases ds with
            | nil =>
              simp only [List.map_cons, List.map_nil] at hf
              cases y <;> exact hf.elim
            | cons t ds =>
              cases ds with
              | cons _ _ =>
                simp only [List.map_cons] at hf
                cases y <;> exact hf.elim
              | nil =>
                cases y with
                | int i =>
                  obtain ⟨z, zs, rfl, e1, e2⟩ := h2
                  obtain ⟨z2, zs2, rfl, e3, e4⟩ := e2
                  have e4 : zs2 = [] := e4
                  subst e4
                  cases (show z = .int i from e1)
                  simp only [List.map_cons, List.map_nil] at hf
                  rcases fin_ite hf with ⟨hc, hf⟩ | ⟨_, hf⟩
                  · refine L2.mt_insert pins s σ H _ _ v us Q I rx rs ⟨a, vs, i, z2, rfl, rfl, q1, by rw [← l]; exact Nat.lt_of_lt_of_le hc.1 lim_le, hc.2.1, by omega, ?_⟩
                    exact fin_set hf r qn ha (Reps.append (Reps.append (Reps.take _ q2) ⟨z2, [], rfl, e3, rfl⟩) (Reps.drop _ q2)) fun H' st => rfl
                  · exact hf.elim
                | _ => exact hf.elim
  | _ => exact hf.elim
theorem mt_ty {m : Mt} {x : V} {xs : List V} {d : D} {ds : List D} (r : Rel G H μ S) (h1 : Rep G H μ d x) (hf : Fin G H μ Q (mtW m d (ds.map .v) S)) (hK : X.K = G.K) : L2.tyV X.K "list" x H := by
  unfold mtW at hf
  cases d with
  | loc n =>
    obtain ⟨a, ha, rfl⟩ := h1
    cases qn : S[n]? with
    | none => simp only [qn] at hf; exact hf.elim
    | some o =>
      cases o with
      | lst ys =>
        obtain ⟨vs, q1, q2⟩ := r.obj n _ a qn ha
        exact .inl ⟨rfl, vs, .inl (.inl q1)⟩
  | _ => exact hf.elim
def rSet (G : Gd) : L2.TSet := fun o i v H Q => ∃ μ S ow kw d S5, Rel G H μ S ∧ RepC G H μ ow o ∧ RepC G H μ kw i ∧ Rep G H μ d v ∧ setL ow kw d S = some S5 ∧ ∀ H', Step μ μ H H' → Rel G H' μ S5 → Q H'
theorem set_W : L2.PSet X (rSet G) := by
  intro pins s σ H o i v ov iv u Q I ro ri rv h
  obtain ⟨μ, S, ow, kw, d, S5, r, h1, h2, h3, e, q⟩ := h
  unfold setL at e
  split at e
  · rename_i n k
    obtain ⟨a, ha, rfl⟩ := h1
    cases (show i = .int k from h2)
    split at e
    · rename_i xs qn
      obtain ⟨vs, q1, q2⟩ := r.obj n _ a qn ha
      have l := q2.length
      split at e
      · rename_i j ej
        cases e
        obtain ⟨w1, w2⟩ := r.write qn ha (Reps.set j q2 h3)
        exact L2.set_list pins s σ H _ _ v ov iv u Q I ro ri rv ⟨a, vs, k, j, rfl, rfl, q1, by rw [← l, ixN_eq]; exact ej, q _ w2 w1⟩
      · cases e
    · cases e
  · cases e
end
end Py

namespace Py
open PySem PySem.Spec PyProof.Rows
open L2 (V HO Hp SqL SqT Rd upd upd_same upd_ne Cx Inv EP VK OpR RelV R2 CallR XK WX Vals TE PE TI PI PA TA It PT PG PGs TG TGs)

/-- the names in this text: of defs, of constants -/
structure Nms where
  fn : Nat → Option Str
  gl : Nat → Option Str
def locB (sc : Scope) (x : Str) : Bool := match sc.names.lookup x with
  | some .local => true
  | some .cell => true
  | _ => false
def visB (sc : Scope) (x : Str) : Bool := match sc.names.lookup x with
  | some .local => true
  | some .cell => true
  | some .free => true
  | _ => false
def gloB (sc : Scope) (x : Str) : Bool := match sc.names.lookup x with
  | some .globalImplicit => true
  | _ => false
theorem locB_ok {sc : Scope} {x : Str} (h : locB sc x = true) : L2.Loc sc x := by
  unfold locB at h
  split at h
  · exact .inl (by assumption)
  · exact .inr (by assumption)
  · cases h
theorem visB_ok {sc : Scope} {x : Str} (h : visB sc x = true) : L2.Vis sc x := by
  unfold visB at h
  split at h
  · exact .inl (by assumption)
  · exact .inr (.inl (by assumption))
  · exact .inr (.inr (by assumption))
  · cases h
theorem gloB_ok {sc : Scope} {x : Str} (h : gloB sc x = true) : sc.names.lookup x = some .globalImplicit := by
  unfold gloB at h
  split at h
  · assumption
  · cases h
/-- no slice, star, set display: a plain expression -/
def plainX : Expr → Bool
  | .Slice .. => false
  | .Starred .. => false
  | .Set .. => false
  | _ => true
def okName (x : Str) : Bool := !(x == ("__debug__" : Str)) && !(x == ("__classdict__" : Str))
theorem okName_ok {x : Str} (h : okName x = true) : (x == ("__debug__" : Str)) = false ∧ (x == ("__classdict__" : Str)) = false := by
  unfold okName at h
  rw [Bool.and_eq_true] at h
  exact ⟨by simpa using h.1, by simpa using h.2⟩
mutual
def mtTg (N : List Str) (ok : Str → Bool) : Tg → Expr → Bool
  | .name i, x => match x with
    | .Name n _ => decide (N[i]? = some n) && ok n
    | _ => false
  | .tup ts, x => match x with
    | .Tuple xs _ _ => mtTgs N ok ts xs
    | _ => false
def mtTgs (N : List Str) (ok : Str → Bool) : List Tg → List Expr → Bool
  | [], xs => match xs with
    | [] => true
    | _ => false
  | t :: ts, xs => match xs with
    | x :: xs => plainX x && mtTg N ok t x && mtTgs N ok ts xs
    | _ => false
end
mutual
def tgNames : Tg → List Nat
  | .name i => [i]
  | .tup ts => tgsNames ts
def tgsNames : List Tg → List Nat
  | [] => []
  | t :: ts => tgNames t ++ tgsNames ts
end
def isTupX : Expr → Bool
  | .Tuple .. => true
  | _ => false
def B1.nm : B1 → Str
  | .len => "len"
  | .abs => "abs"
  | .int => "int"
  | .tup => "tuple"
  | .lst => "list"
  | .all => "all"
  | .any => "any"
  | .sum => "sum"
  | .max => "max"
  | .min => "min"
  | .repr => "repr"
def B2.nm : B2 → Str
  | .max => "max"
  | .min => "min"
def Ty.nm : Ty → Str
  | .tint => "int"
  | .tbool => "bool"
  | .tstr => "str"
  | .ttup => "tuple"
  | .tlst => "list"
/-- what o in o.m(..) may be -/
def baseX : Expr → Bool
  | .Name .. => true
  | .Subscript .. => true
  | _ => false
/-- enumerate and zip want a target of their own form -/
def notEnum : E → Bool
  | .enum _ => false
  | .zip _ _ => false
  | _ => true
section
variable (nm : Nms) (N : List Str)
mutual
def mtE : Bool → Scope → E → Expr → Bool
  | _, _, .int i, x => match x with
    | .Constant (.int j) _ _ => decide (i = j)
    | _ => false
  | _, _, .bl b, x => match x with
    | .Constant (.bool c) _ _ => b == c
    | _ => false
  | _, _, .non, x => match x with
    | .Constant .none _ _ => true
    | _ => false
  | _, _, .str s, x => match x with
    | .Constant (.str t) _ _ => decide (s = t)
    | _ => false
  | _, sc, .var i, x => match x with
    | .Name n _ => decide (N[i]? = some n) && visB sc n && okName n
    | _ => false
  | _, sc, .glob i, x => match x with
    | .Name n _ => decide (nm.gl i = some n) && gloB sc n && okName n
    | _ => false
  | _, sc, .bin op a b, x => match x with
    | .BinOp l o r _ => decide (op = o) && mtE false sc a l && mtE false sc b r
    | _ => false
  | _, sc, .neg a, x => match x with
    | .UnaryOp .USub r _ => mtE false sc a r
    | _ => false
  | _, sc, .not a, x => match x with
    | .UnaryOp .Not r _ => mtE false sc a r
    | _ => false
  | _, sc, .cmp op a b, x => match x with
    | .Compare l [o] [r] _ => decide (op = o) && mtE false sc a l && mtE false sc b r && plainX r
    | _ => false
  | _, sc, .chain o1 o2 a b c, x => match x with
    | .Compare l [p1, p2] [m, r] _ => decide (o1 = p1) && decide (o2 = p2) && mtE false sc a l && mtE false sc b m && mtE false sc c r && plainX m && plainX r
    | _ => false
  | _, sc, .and a b, x => match x with
    | .BoolOp .And (l :: m :: r) pos => mtE false sc a l && (match r with
      | [] => mtE false sc b m
      | _ => mtE false sc b (.BoolOp .And (m :: r) pos))
    | _ => false
  | _, sc, .or a b, x => match x with
    | .BoolOp .Or (l :: m :: r) pos => mtE false sc a l && (match r with
      | [] => mtE false sc b m
      | _ => mtE false sc b (.BoolOp .Or (m :: r) pos))
    | _ => false
  | _, sc, .ife c a b, x => match x with
    | .IfExp t l r _ => mtE false sc c t && mtE false sc a l && mtE false sc b r
    | _ => false
  | _, sc, .tup es, x => match x with
    | .Tuple xs _ _ => mtEs sc es xs
    | _ => false
  | _, sc, .lst es, x => match x with
    | .List xs _ => mtEs sc es xs
    | _ => false
  | _, sc, .ix a b, x => match x with
    | .Subscript l r _ => mtE false sc a l && mtE false sc b r && plainX r
    | _ => false
  | _, sc, .sl a lo hi, x => match x with
    | .Subscript l (.Slice l1 h1 none _) _ => mtE false sc a l && (match l1 with
      | none => (match lo with | .omit => true | _ => false)
      | some y => mtE false sc lo y) && (match h1 with
      | none => (match hi with | .omit => true | _ => false)
      | some y => mtE false sc hi y)
    | _ => false
  | _, _, .omit, _ => false
  | _, sc, .slr a, x => match x with
    | .Subscript l (.Slice none none (some (.UnaryOp .USub (.Constant (.int 1) _ _) _)) _) _ => mtE false sc a l
    | _ => false
  | _, sc, .call f es, x => match x with
    | .Call (.Name n _) (y :: ys) [] _ => decide (nm.fn f = some n) && gloB sc n && okName n && mtEs sc es (y :: ys)
    | _ => false
  | _, sc, .callv i es, x => match x with
    | .Call (.Name n _) (y :: ys) [] _ => decide (N[i]? = some n) && visB sc n && okName n && mtEs sc es (y :: ys)
    | _ => false
  | _, sc, .b1 f a, x => match x with
    | .Call (.Name n _) [y] [] _ => decide (f.nm = n) && gloB sc n && mtE false sc a y && plainX y
    | _ => false
  | _, sc, .b2 f a b, x => match x with
    | .Call (.Name n _) [y, z] [] _ => decide (f.nm = n) && gloB sc n && mtE false sc a y && mtE false sc b z && plainX y && plainX z
    | _ => false
  | _, sc, .isi a t, x => match x with
    | .Call (.Name n _) [y, .Name z _] [] _ => decide (("isinstance" : Str) = n) && gloB sc n && mtE false sc a y && decide (t.nm = z) && gloB sc z && plainX y
    | _ => false
  | _, sc, .meth o m es, x => match x with
    | .Call (.Attribute y a apos) ys [] pos => decide (m.nm = a) && mtE false sc o y && mtEs sc es ys && baseX y && (apos.endLine == pos.line) && decide (ys.length < 5)
    | _ => false
  | _, sc, .lc e own tg it, x => match x with
    | .ListComp elt [⟨t, i, [], 0⟩] scope _ => mtE true sc it i && (isTupX t || notEnum it) && mtTg N (locB scope) tg t && (tgNames tg).all (fun j => (own.map (·.2)).contains j) && L2.blkC N sc scope own && mtE false (L2.relS scope sc) e elt && plainX i
    | _ => false
  | _, sc, .lcif e own tg it c, x => match x with
    | .ListComp elt [⟨t, i, [g], 0⟩] scope _ => mtE true sc it i && (isTupX t || notEnum it) && mtTg N (locB scope) tg t && (tgNames tg).all (fun j => (own.map (·.2)).contains j) && L2.blkC N sc scope own && mtE false (L2.relS scope sc) e elt && mtE false (L2.relS scope sc) c g && plainX i
    | _ => false
  | b, sc, .rng es, x => b && (match x with
    | .Call (.Name n _) ys [] _ => decide (("range" : Str) = n) && gloB sc n && mtEs sc es ys && decide (1 ≤ ys.length) && decide (ys.length ≤ 2)
    | _ => false)
  | b, sc, .enum a, x => b && (match x with
    | .Call (.Name n _) [y] [] _ => decide (("enumerate" : Str) = n) && gloB sc n && mtE false sc a y && plainX y
    | _ => false)
  | b, sc, .zip a c, x => b && (match x with
    | .Call (.Name n _) [y, z] [] _ => decide (("zip" : Str) = n) && gloB sc n && mtE false sc a y && mtE false sc c z && plainX y && plainX z
    | _ => false)
  | b, sc, .rev a, x => b && (match x with
    | .Call (.Name n _) [y] [] _ => decide (("reversed" : Str) = n) && gloB sc n && mtE false sc a y && plainX y
    | _ => false)
def mtEs : Scope → List E → List Expr → Bool
  | _, [], xs => match xs with
    | [] => true
    | _ => false
  | sc, e :: es, xs => match xs with
    | x :: xs => plainX x && mtE false sc e x && mtEs sc es xs
    | _ => false
end
end
end Py
namespace Py
open PySem PySem.Spec PyProof.Rows
open L2 (V HO Hp SqL SqT Rd upd upd_same upd_ne Cx Inv EP VK OpR RelV R2 CallR XK WX Vals TE PE TI PI PA TA It PT PG PGs TG TGs)
theorem star_cons {x : Expr} {xs : List Expr} {env : PySem.Env} (h : plainX x = true) : starEach (x :: xs) env = (false, eval x env) :: starEach xs env := by
  cases x <;> first | rfl | cases h
theorem plainIx {x : Expr} (h : plainX x = true) : L2.PlainIx x := by
  intro o i
  cases x <;> first | rfl | cases h
theorem nomarkX {x : Expr} {op : CmpOp} (h : plainX x = true) : behindInMarks op x = false := by
  cases x <;> first | rfl | cases h
theorem foldX {x : Expr} {env : PySem.Env} (h : plainX x = true) : ∀ v, foldedSetIterable x env v = pure v := by
  intro v
  cases x <;> first | rfl | cases h
theorem baseX_ok {x : Expr} {m : Str} {env : PySem.Env} (h : baseX x = true) : attributeBase x m env (eval x env) = eval x env := by
  cases x <;> first | rfl | cases h
theorem assignEach_tgs {N : List Str} {ok : Str → Bool} {env : PySem.Env} : ∀ {ts : List Tg} {xs : List Expr}, mtTgs N ok ts xs = true → (assignEach xs env).length = ts.length ∧ (assignEach xs env).findIdx? (·.1) = none
  | [], xs, h => by
    cases xs with
    | nil => exact ⟨rfl, rfl⟩
    | cons _ _ => cases h
  | t :: ts, xs, h => by
    cases xs with
    | nil => cases h
    | cons x xs =>
      have h : (plainX x && mtTg N ok t x && mtTgs N ok ts xs) = true := h
      rw [Bool.and_eq_true, Bool.and_eq_true] at h
      obtain ⟨i1, i2⟩ := assignEach_tgs (env := env) h.2
      have e : assignEach (x :: xs) env = (false, assign x env) :: assignEach xs env := by
        cases x <;> first | rfl | exact absurd h.1.1 Bool.false_ne_true
      rw [e]
      refine ⟨by rw [List.length_cons, i1]; rfl, ?_⟩
      rw [List.findIdx?_cons, i2]
      rfl

section
variable (G : Gd) (Γ : Gm) (U : WX)
def cE (e : E) : TE := fun σ H Q => ∃ μ S env, Rel G H μ S ∧ REnv G H μ env σ ∧ Aft G (RepW G H) H μ σ U Q (ev Γ e env S)
def cEs (es : List E) : TA := fun σ H Q => ∃ μ S env, Rel G H μ S ∧ REnv G H μ env σ ∧ Aft G (Reps G) H μ σ U Q (evs Γ es env S)
/-- a test's value -/
def tst (r : R W) : R Bool := r.bind fun w S => match w with
  | .v (.bl b) => .ok b S
  | _ => .bad
def cT (e : E) : L2.TT := fun σ H Q => ∃ μ S env, Rel G H μ S ∧ REnv G H μ env σ ∧ Aft G (fun _ _ (a b : Bool) => a = b) H μ σ U Q (tst (ev Γ e env S))
/-- what a def promises: the evaluator's word -/
def spC (f : Nat) : L2.Sp := fun vs H Q Ex => ∃ μ S ds, Rel G H μ S ∧ Reps G H μ ds vs ∧ Aft G (RepW G H) H μ [] (fun c d _ H => Ex c d H) Q (Γ.call f ds S)
end
structure FnAt (X : Cx) (G : Gd) (Γ : Gm) (f : Nat) (n : Str) : Prop where
  ex : ∃ (fd : FuncData) (ps : List Str) (k : Nat), L2.FnOk X.prog X.w X.K X.mg X.base (L2.CX X.prog X.w) k (G.at_ f) fd ps (spC G Γ f) ∧ L2.Room k X.A ∧ L2.Binds X.K fd ps []
  mg : X.mg n = some (.ref (G.at_ f))
  kp : PySem.W.keepIn X.K (.ref (G.at_ f)) = true
def bltNames : List Str := ["len", "abs", "int", "tuple", "list", "all", "any", "sum", "max", "min", "repr", "isinstance", "range", "enumerate", "zip", "reversed", "bool", "str"]
structure XOk (X : Cx) (U : WX) (G : Gd) (Γ : Gm) (nm : Nms) (N : List Str) (sc : Scope) : Prop where
  eK : X.K = G.K
  eN : X.N = N
  nd : N.Nodup
  eS : X.env.scope = sc
  calm : X.calm = true
  hu : X.A.units + 64 < cLine
  tk : L2.Takes X U
  call : ∀ f n, nm.fn f = some n → FnAt X G Γ f n
  callv : ∀ f, Γ.has f = true → ∃ n, nm.fn f = some n
  glob : ∀ i x d, nm.gl i = some x → Γ.glob i = some d → ∃ u v, X.mg x = some u ∧ RelV v u ∧ ∀ H μ, Rep G H μ d v
  blt : ∀ x ∈ bltNames, X.mg x = none
section
variable {G : Gd} {Γ : Gm} {U U' : WX} {H H1 : Hp} {μ μ1 : List Addr} {S : Sto} {σ : L2.St} {Q Q1 : VK}
theorem Aft.bind {α β γ δ : Type} {P : Hp → List Addr → α → β → Prop} {P' : Hp → List Addr → γ → δ → Prop} {Q : δ → Hp → Prop} {Q1 : β → Hp → Prop} {r : R α} {k : α → Sto → R γ} (h : Aft G P' H μ σ U Q (r.bind k))
    (hk : ∀ w S1 v H1 μ1, Step μ μ1 H H1 → Rel G H1 μ1 S1 → P H1 μ1 w v → Aft G P' H μ σ U Q (k w S1) → Q1 v H1) : Aft G P H μ σ U Q1 r := by
  cases r with
  | ok a S1 => exact fun v H1 μ1 st rl p => hk a S1 v H1 μ1 st rl p h
  | exc x S1 => exact h
  | bad => exact h.elim
theorem Aft.shiftP {α β : Type} {P P1 : Hp → List Addr → α → β → Prop} {Q : β → Hp → Prop} {r : R α} (h : Aft G P H μ σ U Q r) (st : Step μ μ1 H H1) (hp : ∀ H' μ' a b, P1 H' μ' a b → P H' μ' a b) : Aft G P1 H1 μ1 σ U Q r := by
  cases r with
  | ok a S1 => exact fun v H2 μ2 st2 rl p => h v H2 μ2 (st.trans st2) rl (hp _ _ _ _ p)
  | exc x S1 => exact fun c d H2 μ2 st2 rl p => h c d H2 μ2 (st.trans st2) rl p
  | bad => exact h.elim
theorem Aft.shift {Q : VK} {r : R W} (h : Aft G (RepW G H) H μ σ U Q r) (st : Step μ μ1 H H1) : Aft G (RepW G H1) H1 μ1 σ U Q r := h.shiftP st fun _ _ _ _ p => p.base st.dom
/-- to the by-value form: nothing is raised there -/
theorem Aft.fin {r : R W} (h : Aft G (RepW G H) H μ σ U Q r) (hx : ∀ x S', r ≠ .exc x S') : Fin G H μ Q r := by
  cases r with
  | ok a S1 => exact h
  | exc x S1 => exact absurd rfl (hx x S1)
  | bad => exact h
theorem PE.weak {X : Cx} {e : Expr} {t t' : TE} (h : PE X e t) (i : ∀ σ H Q, t' σ H Q → t σ H Q) : PE X e t' := ⟨fun pins s σ H Q I q => h.run pins s σ H Q I (i _ _ _ q)⟩
theorem PT.weak {X : Cx} {e : Expr} {t t' : L2.TT} (h : PT X e t) (i : ∀ σ H Q, t' σ H Q → t σ H Q) : PT X e t' := ⟨fun pins s σ H Q I q => h.run pins s σ H Q I (i _ _ _ q)⟩
theorem PA.weak {X : Cx} {e : List Expr} {t t' : TA} (h : PA X e t) (i : ∀ σ H Q, t' σ H Q → t σ H Q) : PA X e t' := ⟨fun pos pins s σ H Q I q => h.run pos pins s σ H Q I (i _ _ _ q)⟩
theorem XOk.names {X : Cx} {nm : Nms} {N : List Str} {sc : Scope} (o : XOk X U G Γ nm N sc) {i : Nat} {x : Str} (h : N[i]? = some x) : X.N[i]? = some x := by rw [o.eN]; exact h
theorem XOk.gl {X : Cx} {nm : Nms} {N : List Str} {sc : Scope} (o : XOk X U G Γ nm N sc) {x : Str} (h : gloB sc x = true) : L2.Gl X x := by
  show X.env.scope.names.lookup x = some .globalImplicit
  rw [o.eS]
  exact gloB_ok h
theorem XOk.vis {X : Cx} {nm : Nms} {N : List Str} {sc : Scope} (o : XOk X U G Γ nm N sc) {x : Str} (h : visB sc x = true) : L2.Vis X.env.scope x := by
  rw [o.eS]
  exact visB_ok h
theorem rel_alloc {w : W} {S1 : Sto} {v : V} {H1 : Hp} {μ1 : List Addr} (st : Step μ μ1 H H1) (rl : Rel G H1 μ1 S1) (p : RepW G H H1 μ1 w v) :
    ∃ d S2 μ2, alloc w S1 = .ok d S2 ∧ Step μ μ2 H H1 ∧ Rel G H1 μ2 S2 ∧ Rep G H1 μ2 d v := by
  cases w with
  | v d => exact ⟨d, S1, μ1, rfl, st, rl, p⟩
  | it _ _ => exact p.elim
  | f xs =>
    obtain ⟨a, vs, rfl, h0, h1, h2, h3⟩ := p
    obtain ⟨q1, q2⟩ := rl.alloc h1 h2 h3 h0 st
    exact ⟨.loc S1.length, _, _, rfl, q2, q1, a, by rw [← rl.len]; simp, rfl⟩
theorem evs_nil (r : Rel G H μ S) {env : Env} {Q : List V → Hp → Prop} (h : Aft G (Reps G) H μ σ U Q (evs Γ [] env S)) : Q [] H := h [] H μ .refl r rfl
theorem evs_cons {e : E} {es : List E} {env : Env} {Q : List V → Hp → Prop} (r : Rel G H μ S) (re : REnv G H μ env σ) (h : Aft G (Reps G) H μ σ U Q (evs Γ (e :: es) env S)) :
    cE G Γ U e σ H fun x H1 => cEs G Γ U es σ H1 fun xs H2 => Q (x :: xs) H2 := by
  have h : Aft G (Reps G) H μ σ U Q ((ev Γ e env S).bind fun w S1 => (alloc w S1).bind fun d S2 => (evs Γ es env S2).bind fun ds S3 => .ok (d :: ds) S3) := h
  refine ⟨μ, S, env, r, re, h.bind fun w S1 v H1 μ1 st rl p h1 => ?_⟩
  obtain ⟨d, S2, μ2, e2, st2, rl2, p2⟩ := rel_alloc st rl p
  rw [e2] at h1
  have h1 : Aft G (Reps G) H μ σ U Q ((evs Γ es env S2).bind fun ds S3 => .ok (d :: ds) S3) := h1
  refine ⟨μ2, S2, env, rl2, re.mono r st2, ?_⟩
  have h2 : Aft G (Reps G) H1 μ2 σ U Q ((evs Γ es env S2).bind fun ds S3 => .ok (d :: ds) S3) := h1.shiftP st2 fun _ _ _ _ p => p
  exact h2.bind fun ds S3 vs H3 μ3 st3 rl3 p3 h3 => h3 (v :: vs) H3 μ3 st3 rl3 ⟨v, vs, rfl, p2.mono rl2 st3, p3⟩
end
end Py

namespace Py
open PySem PySem.Spec PyProof.Rows
open L2 (V HO Hp SqL SqT Rd upd upd_same upd_ne Cx Inv EP VK OpR RelV R2 CallR XK WX Vals TE PE TI PI PA TA It PT PG PGs TG TGs)
/-- nothing is raised -/
def NX {α : Type} (r : R α) : Prop := ∀ x S, r ≠ .exc x S
theorem NX.ok {α : Type} {a : α} {S : Sto} : NX (R.ok a S) := fun _ _ h => nomatch h
theorem NX.bad {α : Type} : NX (R.bad : R α) := fun _ _ h => nomatch h
theorem NX.orBad {α : Type} {o : Option α} {S : Sto} : NX (orBad o S) := by
  cases o
  · exact .bad
  · exact .ok
theorem NX.bind {α β : Type} {r : R α} {k : α → Sto → R β} (h : NX r) (hk : ∀ a S, NX (k a S)) : NX (r.bind k) := by
  cases r with
  | ok a S => exact hk a S
  | exc x S => exact absurd rfl (h x S)
  | bad => exact .bad
theorem binW_nx {op : Operator} {a b : W} {S : Sto} : NX (binW op a b S) := by
  unfold binW
  repeat' split
  all_goals first | exact .ok | exact .bad | exact NX.bind .orBad fun _ _ => .ok
theorem cmpW_nx {op : CmpOp} {a b : W} {S : Sto} : NX (cmpW op a b S) := NX.bind .orBad fun _ _ => .ok
theorem ixR_nx {a b : W} {S : Sto} : NX (ixR a b S) := NX.bind .orBad fun _ _ => .ok
theorem mtW_nx {m : Mt} {d : D} {ws : List W} {S : Sto} : NX (mtW m d ws S) := by
  unfold mtW
  repeat' split
  all_goals first | exact .ok | exact .bad
section
variable {X : Cx} {G : Gd} {Γ : Gm} {U : WX} {nm : Nms} {N : List Str} {sc : Scope} {H H1 : Hp} {μ μ1 : List Addr} {S : Sto} {σ : L2.St} {Q Q1 : VK} {pos p1 p2 : Pos}
theorem Fin.of {r : R W} (h : Aft G (RepW G H) H μ σ U Q r) (hx : NX r) : Fin G H μ Q r := h.fin hx
/-- one operand -/
theorem one {a : E} {env : Env} {k : W → Sto → R W} (r : Rel G H μ S) (re : REnv G H μ env σ) (h : Aft G (RepW G H) H μ σ U Q ((ev Γ a env S).bind k))
    (hk : ∀ w S1 x H1 μ1, Rel G H1 μ1 S1 → RepC G H1 μ1 w x → REnv G H1 μ1 env σ → Aft G (RepW G H1) H1 μ1 σ U Q (k w S1) → Q1 x H1) : cE G Γ U a σ H Q1 :=
  ⟨μ, S, env, r, re, h.bind fun w S1 v H1 μ1 st rl p h1 => hk w S1 v H1 μ1 rl p.cur (re.mono r st) (h1.shift st)⟩
/-- two operands, one after the other -/
theorem two {a b : E} {env : Env} {f : W → W → Sto → R W} (hx : ∀ a b S, NX (f a b S)) (r : Rel G H μ S) (re : REnv G H μ env σ) (h : Aft G (RepW G H) H μ σ U Q ((ev Γ a env S).bind fun x S1 => (ev Γ b env S1).bind fun y S2 => f x y S2)) :
    L2.tOp (rB G f) (cE G Γ U a) (cE G Γ U b) σ H Q :=
  one r re h fun w S1 x H1 μ1 r1 p1 re1 h1 => ⟨μ1, S1, env, r1, re1, h1.bind fun w2 S2 y H2 μ2 st rl p2 h2 => ⟨μ2, S2, w, w2, rl, p1.mono r1 st, p2.cur, Fin.of (h2.shift st) (hx _ _ _)⟩⟩

theorem cE_val {e : E} {d : D} (he : ∀ env S, ev Γ e env S = .ok (.v d) S) {v : V} (hv : ∀ H μ, Rep G H μ d v) {σ : L2.St} {H : Hp} {Q : VK} (h : cE G Γ U e σ H Q) : Q v H := by
  obtain ⟨μ, S, env, r, re, h⟩ := h
  rw [he] at h
  exact h v H μ .refl r (hv H μ)
theorem snd_int {i : Int} {j : Nat} : PE X (.Constant (.int i) j pos) (cE G Γ U (.int i)) := PE.weak L2.pe_int fun σ H Q h => cE_val (d := .int i) (fun _ _ => rfl) (fun _ _ => rfl) h
theorem snd_bl {b : Bool} {j : Nat} : PE X (.Constant (.bool b) j pos) (cE G Γ U (.bl b)) := PE.weak L2.pe_bl fun σ H Q h => cE_val (d := .bl b) (fun _ _ => rfl) (fun _ _ => rfl) h
theorem snd_non {j : Nat} : PE X (.Constant .none j pos) (cE G Γ U .non) := PE.weak L2.pe_non fun σ H Q h => cE_val (d := .non) (fun _ _ => rfl) (fun _ _ => rfl) h
theorem snd_str {s : Str} {j : Nat} : PE X (.Constant (.str s) j pos) (cE G Γ U (.str s)) := PE.weak L2.pe_str fun σ H Q h => cE_val (d := .str s) (fun _ _ => rfl) (fun _ _ => rfl) h
theorem snd_var (o : XOk X U G Γ nm N sc) {i : Nat} {n : Str} (h1 : N[i]? = some n) (h2 : visB sc n = true) (h3 : okName n = true) : PE X (.Name n pos) (cE G Γ U (.var i)) := by
  refine PE.weak (L2.pe_var (o.names h1) (o.vis h2) (okName_ok h3).1 (okName_ok h3).2) fun σ H Q h => ?_
  obtain ⟨μ, S, env, r, re, h⟩ := h
  have h : Aft G (RepW G H) H μ σ U Q (match env[i]? with | some (some d) => .ok (.v d) S | _ => .bad) := h
  cases q : env[i]? with
  | none => rw [q] at h; exact h.elim
  | some od =>
    cases od with
    | none => rw [q] at h; exact h.elim
    | some d =>
      rw [q] at h
      obtain ⟨v, e1, e2⟩ := re.get i d q
      exact ⟨v, e1, h v H μ .refl r e2⟩
theorem snd_glob (o : XOk X U G Γ nm N sc) {y : Nat} {n : Str} (h1 : nm.gl y = some n) (h2 : gloB sc n = true) (h3 : okName n = true) : PE X (.Name n pos) (cE G Γ U (.glob y)) := by
  refine ⟨fun pins s σ H Q I h => ?_⟩
  obtain ⟨μ, S, env, r, re, h⟩ := h
  have h : Aft G (RepW G H) H μ σ U Q (match Γ.glob y with | some d => .ok (.v d) S | none => .bad) := h
  cases q : Γ.glob y with
  | none => rw [q] at h; exact h.elim
  | some d =>
    rw [q] at h
    obtain ⟨u, v, e1, e2, e3⟩ := o.glob y n d h1 q
    exact (L2.pe_glob (o.gl h2) e1 e2 (okName_ok h3).1).run pins s σ H Q I (h v H μ .refl r (e3 H μ))

theorem snd_bin (o : XOk X U G Γ nm N sc) {op : Operator} {a b : E} {l r : Expr} (ha : PE X l (cE G Γ U a)) (hb : PE X r (cE G Γ U b)) : PE X (.BinOp l op r pos) (cE G Γ U (.bin op a b)) :=
  PE.weak (L2.pe_op (op_binW o.eK op) ha hb) fun σ H Q ⟨μ, S, env, r, re, h⟩ => two (fun _ _ _ => binW_nx) r re h
theorem snd_cmp (o : XOk X U G Γ nm N sc) {op : CmpOp} {a b : E} {l r : Expr} (ha : PE X l (cE G Γ U a)) (hb : PE X r (cE G Γ U b)) (hr : plainX r = true) : PE X (.Compare l [op] [r] pos) (cE G Γ U (.cmp op a b)) :=
  PE.weak (L2.pe_cmpR (op_cmpW o.eK o.hu op) ha hb (nomarkX hr)) fun σ H Q ⟨μ, S, env, r, re, h⟩ => two (fun _ _ _ => cmpW_nx) r re h
theorem snd_ix (o : XOk X U G Γ nm N sc) {a b : E} {l r : Expr} (ha : PE X l (cE G Γ U a)) (hb : PE X r (cE G Γ U b)) (hr : plainX r = true) : PE X (.Subscript l r pos) (cE G Γ U (.ix a b)) :=
  PE.weak (L2.pe_ix (ix_W o.eK) ha hb (plainIx hr)) fun σ H Q ⟨μ, S, env, r, re, h⟩ => two (fun _ _ _ => ixR_nx) r re h
theorem aft_onI {α β : Type} {P : Hp → List Addr → α → β → Prop} {Q : β → Hp → Prop} {w : W} {x : V} {k : Int → R α} (p : RepC G H1 μ1 w x) (h : Aft G P H μ σ U Q (onI w k)) : ∃ i, w = .v (.int i) ∧ x = .int i ∧ Aft G P H μ σ U Q (k i) := by
  cases w with
  | v d =>
    cases d with
    | int i => exact ⟨i, rfl, p, h⟩
    | _ => exact h.elim
  | _ => exact h.elim
theorem aft_onB {α β : Type} {P : Hp → List Addr → α → β → Prop} {Q : β → Hp → Prop} {w : W} {x : V} {t f : R α} (p : RepC G H1 μ1 w x) (h : Aft G P H μ σ U Q (onB w t f)) : ∃ b, w = .v (.bl b) ∧ x = .bl b ∧ Aft G P H μ σ U Q (if b = true then t else f) := by
  cases w with
  | v d =>
    cases d with
    | bl b => exact ⟨b, rfl, p, by rw [← onB_bl]; exact h⟩
    | _ => exact h.elim
  | _ => exact h.elim
theorem snd_neg {a : E} {l : Expr} (ha : PE X l (cE G Γ U a)) : PE X (.UnaryOp .USub l pos) (cE G Γ U (.neg a)) := by
  refine PE.weak (L2.pe_un L2.un_neg ha) fun σ H Q ⟨μ, S, env, r, re, h⟩ => one r re h fun w S1 x H1 μ1 r1 p1 re1 h1 => ?_
  obtain ⟨i, _, ex, h2⟩ := aft_onI p1 h1
  exact ⟨i, ex, h2 (.int (-i)) H1 μ1 .refl r1 rfl⟩
theorem snd_not {a : E} {l : Expr} (ha : PE X l (cE G Γ U a)) : PE X (.UnaryOp .Not l pos) (cE G Γ U (.not a)) := by
  refine PE.weak (L2.pe_not ha) fun σ H Q ⟨μ, S, env, r, re, h⟩ => one r re h fun w S1 x H1 μ1 r1 p1 re1 h1 => ?_
  obtain ⟨b, _, ex, h2⟩ := aft_onB p1 h1
  refine ⟨b, ex, ?_⟩
  cases b with
  | true => exact h2 (.bl false) H1 μ1 .refl r1 rfl
  | false => exact h2 (.bl true) H1 μ1 .refl r1 rfl
theorem snd_and {a b : E} {l m : Expr} {r : List Expr} (ha : PE X l (cE G Γ U a)) (hb : PE X (.BoolOp .And (m :: r) pos) (cE G Γ U b)) : PE X (.BoolOp .And (l :: m :: r) pos) (cE G Γ U (.and a b)) := by
  refine PE.weak (L2.pe_and ha hb) fun σ H Q ⟨μ, S, env, r, re, h⟩ => one r re h fun w S1 x H1 μ1 r1 p1 re1 h1 => ?_
  obtain ⟨b, _, ex, h2⟩ := aft_onB p1 h1
  refine ⟨b, ex, ?_⟩
  cases b with
  | true => exact (if_pos rfl).mpr ⟨μ1, S1, env, r1, re1, h2⟩
  | false => exact (if_neg Bool.false_ne_true).mpr (h2 (.bl false) H1 μ1 .refl r1 rfl)
theorem snd_or {a b : E} {l m : Expr} {r : List Expr} (ha : PE X l (cE G Γ U a)) (hb : PE X (.BoolOp .Or (m :: r) pos) (cE G Γ U b)) : PE X (.BoolOp .Or (l :: m :: r) pos) (cE G Γ U (.or a b)) := by
  refine PE.weak (L2.pe_or ha hb) fun σ H Q ⟨μ, S, env, r, re, h⟩ => one r re h fun w S1 x H1 μ1 r1 p1 re1 h1 => ?_
  obtain ⟨b, _, ex, h2⟩ := aft_onB p1 h1
  refine ⟨b, ex, ?_⟩
  cases b with
  | true => exact (if_pos rfl).mpr (h2 (.bl true) H1 μ1 .refl r1 rfl)
  | false => exact (if_neg Bool.false_ne_true).mpr ⟨μ1, S1, env, r1, re1, h2⟩
theorem chain_go (o1 o2 : CmpOp) {a b c : E} {σ : L2.St} {H : Hp} {Q : VK} (h : cE G Γ U (.chain o1 o2 a b c) σ H Q) : L2.tChain (rB G (cmpW o1)) (rB G (cmpW o2)) (cE G Γ U a) (cE G Γ U b) (cE G Γ U c) σ H Q := by
  obtain ⟨μ, S, env, r, re, h⟩ := h
  refine one r re h fun w S1 x H1 μ1 r1 q1 re1 h1 => ?_
  refine ⟨μ1, S1, env, r1, re1, h1.bind fun w2 S2 y H2 μ2 st rl q2 h2 => ?_⟩
  have h2 := h2.shift st
  have re2 := re1.mono r1 st
  have q1' := q1.mono r1 st
  refine ⟨μ2, S2, w, w2, rl, q1', q2.cur, ?_⟩
  cases e : cmpW o1 w w2 S2 with
  | exc x S' => exact absurd e (cmpW_nx x S')
  | bad => rw [e] at h2; exact h2.elim
  | ok z S3 =>
    rw [e] at h2
    intro v H3 μ3 st3 rl3 q3
    have q3 : RepW G H2 H3 μ3 z v := q3
    have h2 := h2.shift st3
    have re3 := re2.mono rl st3
    have q2' := q2.cur.mono rl st3
    obtain ⟨k, _, ex, h2⟩ := aft_onB q3.cur h2
    refine ⟨k, ex, ?_⟩
    cases k with
    | false => exact (if_neg Bool.false_ne_true).mpr (h2 (.bl false) H3 μ3 .refl rl3 rfl)
    | true =>
      refine (if_pos rfl).mpr ⟨μ3, S3, env, rl3, re3, Aft.bind h2 fun w4 S4 u H4 μ4 st4 rl4 q4 h4 => ?_⟩
      exact ⟨μ4, S4, w2, w4, rl4, q2'.mono rl3 st4, q4.cur, Fin.of (h4.shift st4) cmpW_nx⟩
theorem snd_chain (o : XOk X U G Γ nm N sc) {o1 o2 : CmpOp} {a b c : E} {l m r : Expr} (ha : PE X l (cE G Γ U a)) (hb : PE X m (cE G Γ U b)) (hc : PE X r (cE G Γ U c)) (hm : lastMarks [o1, o2] [m, r] = false) :
    PE X (.Compare l [o1, o2] [m, r] pos) (cE G Γ U (.chain o1 o2 a b c)) :=
  PE.weak (L2.pe_chain (op_cmpW o.eK o.hu o1) (op_cmpW o.eK o.hu o2) ha hb hc hm) fun σ H Q h => chain_go o1 o2 h
end
end Py
namespace Py
open PySem PySem.Spec PyProof.Rows
open L2 (V HO Hp SqL SqT Rd upd upd_same upd_ne Cx Inv EP VK OpR RelV R2 CallR XK WX Vals TE PE TI PI PA TA It PT PG PGs TG TGs)
section
variable {X : Cx} {G : Gd} {Γ : Gm} {U : WX} {nm : Nms} {N : List Str} {sc : Scope} {H H1 : Hp} {μ μ1 : List Addr} {S : Sto} {σ : L2.St} {Q Q1 : VK} {pos p1 p2 : Pos}
abbrev PBo : Hp → List Addr → Bool → Bool → Prop := fun _ _ a b => a = b
theorem tst_bl {b : Bool} {S : Sto} : tst (.ok (.v (.bl b)) S) = .ok b S := rfl
theorem cT_B {e : E} {σ : L2.St} {H : Hp} {Q : Bool → Hp → Prop} (h : cT G Γ U e σ H Q) : L2.tB (cE G Γ U e) σ H Q := by
  obtain ⟨μ, S, env, r, re, h⟩ := h
  refine ⟨μ, S, env, r, re, ?_⟩
  cases q : ev Γ e env S with
  | exc x S1 => rw [q] at h; exact h
  | bad => rw [q] at h; exact h
  | ok w S1 =>
    rw [q] at h
    intro v H1 μ1 st rl p
    cases w with
    | v d =>
      cases d with
      | bl b =>
        cases (show v = .bl b from p)
        exact ⟨b, rfl, h b H1 μ1 st rl rfl⟩
      | _ => exact h.elim
    | _ => exact h.elim
theorem pt_of {e : E} {x : Expr} (h : PE X x (cE G Γ U e)) (he : ∀ whole, isTrue x X.env whole = (do let v ← whole; standAt x.pos; holding [v] (truthy v))) : PT X x (cT G Γ U e) :=
  PT.weak (L2.pt_val h he) fun _ _ _ h => cT_B h
theorem oneT {a : E} {env : Env} {k : W → Sto → R W} {Q Q1 : Bool → Hp → Prop} (r : Rel G H μ S) (re : REnv G H μ env σ) (h : Aft G PBo H μ σ U Q (tst ((ev Γ a env S).bind k)))
    (hk : ∀ b S1 H1 μ1, Rel G H1 μ1 S1 → REnv G H1 μ1 env σ → Aft G PBo H1 μ1 σ U Q (tst (k (.v (.bl b)) S1)) → Q1 b H1) (hb : ∀ w S1, (∀ b, w ≠ .v (.bl b)) → k w S1 = .bad) : cT G Γ U a σ H Q1 := by
  refine ⟨μ, S, env, r, re, ?_⟩
  cases q : ev Γ a env S with
  | exc x S1 => rw [q] at h; exact h
  | bad => rw [q] at h; exact h
  | ok w S1 =>
    rw [q] at h
    have h : Aft G PBo H μ σ U Q (tst (k w S1)) := h
    by_cases hw : ∃ b, w = .v (.bl b)
    · obtain ⟨b, rfl⟩ := hw
      intro b' H1 μ1 st rl p
      cases p
      exact hk b S1 H1 μ1 rl (re.mono r st) (h.shiftP st fun _ _ _ _ p => p)
    · rw [hb w S1 fun b e => hw ⟨b, e⟩] at h
      exact h.elim
theorem bad_onB {α : Type} (w : W) (t f : R α) (h : ∀ b, w ≠ .v (.bl b)) : onB w t f = .bad := by
  cases w with
  | v d =>
    cases d with
    | bl b => exact absurd rfl (h b)
    | _ => rfl
  | _ => rfl
theorem sndT_and {a b : E} {l m : Expr} {r : List Expr} (ha : PT X l (cT G Γ U a)) (hb : L2.PW X (.BoolOp .And (m :: r) pos) (cT G Γ U b)) : PT X (.BoolOp .And (l :: m :: r) pos) (cT G Γ U (.and a b)) := by
  refine PT.weak (L2.pw_and ha hb).pt fun σ H Q ⟨μ, S, env, r, re, h⟩ => oneT r re h (fun b S1 H1 μ1 r1 re1 h1 => ?_) fun w S1 hw => bad_onB _ _ _ hw
  cases b with
  | true => exact (if_pos rfl).mpr ⟨μ1, S1, env, r1, re1, h1⟩
  | false => exact (if_neg Bool.false_ne_true).mpr (h1 false H1 μ1 .refl r1 rfl)
theorem sndT_or {a b : E} {l m : Expr} {r : List Expr} (ha : PT X l (cT G Γ U a)) (hb : L2.PW X (.BoolOp .Or (m :: r) pos) (cT G Γ U b)) : PT X (.BoolOp .Or (l :: m :: r) pos) (cT G Γ U (.or a b)) := by
  refine PT.weak (L2.pw_or ha hb).pt fun σ H Q ⟨μ, S, env, r, re, h⟩ => oneT r re h (fun b S1 H1 μ1 r1 re1 h1 => ?_) fun w S1 hw => bad_onB _ _ _ hw
  cases b with
  | true => exact (if_pos rfl).mpr (h1 true H1 μ1 .refl r1 rfl)
  | false => exact (if_neg Bool.false_ne_true).mpr ⟨μ1, S1, env, r1, re1, h1⟩
theorem sndT_not {a : E} {l : Expr} (ha : PT X l (cT G Γ U a)) : PT X (.UnaryOp .Not l pos) (cT G Γ U (.not a)) := by
  refine PT.weak (L2.pt_not ha) fun σ H Q ⟨μ, S, env, r, re, h⟩ => oneT r re h (fun b S1 H1 μ1 r1 re1 h1 => (by cases b <;> exact h1 _ H1 μ1 .refl r1 rfl)) fun w S1 hw => bad_onB _ _ _ hw
theorem sndT_cmp (o : XOk X U G Γ nm N sc) {op : CmpOp} {a b : E} {l r : Expr} (ha : PE X l (cE G Γ U a)) (hb : PE X r (cE G Γ U b)) (hr : plainX r = true) : PT X (.Compare l [op] [r] pos) (cT G Γ U (.cmp op a b)) := by
  refine PT.weak (L2.pt_cmpR (op_cmpW o.eK o.hu op) ha hb (nomarkX hr)) fun σ H Q h => ?_
  obtain ⟨μ, S, env, r, re, h⟩ := cT_B h
  exact two (fun _ _ _ => cmpW_nx) r re h
theorem sndT_chain (o : XOk X U G Γ nm N sc) {o1 o2 : CmpOp} {a b c : E} {l m r : Expr} (ha : PE X l (cE G Γ U a)) (hb : PE X m (cE G Γ U b)) (hc : PE X r (cE G Γ U c)) (hm : lastMarks [o1, o2] [m, r] = false) :
    PT X (.Compare l [o1, o2] [m, r] pos) (cT G Γ U (.chain o1 o2 a b c)) :=
  PT.weak (L2.pt_chain (op_cmpW o.eK o.hu o1) (op_cmpW o.eK o.hu o2) ha hb hc hm) fun σ H Q h => chain_go o1 o2 (cT_B h)
theorem oneTE {a : E} {env : Env} {k : W → Sto → R W} {Q : VK} {Q1 : Bool → Hp → Prop} (r : Rel G H μ S) (re : REnv G H μ env σ) (h : Aft G (RepW G H) H μ σ U Q ((ev Γ a env S).bind k))
    (hk : ∀ b S1 H1 μ1, Rel G H1 μ1 S1 → REnv G H1 μ1 env σ → Aft G (RepW G H1) H1 μ1 σ U Q (k (.v (.bl b)) S1) → Q1 b H1) (hb : ∀ w S1, (∀ b, w ≠ .v (.bl b)) → k w S1 = .bad) : cT G Γ U a σ H Q1 := by
  refine ⟨μ, S, env, r, re, ?_⟩
  cases q : ev Γ a env S with
  | exc x S1 => rw [q] at h; exact h
  | bad => rw [q] at h; exact h
  | ok w S1 =>
    rw [q] at h
    have h : Aft G (RepW G H) H μ σ U Q (k w S1) := h
    by_cases hw : ∃ b, w = .v (.bl b)
    · obtain ⟨b, rfl⟩ := hw
      intro b' H1 μ1 st rl p
      cases p
      exact hk b S1 H1 μ1 rl (re.mono r st) (h.shift st)
    · rw [hb w S1 fun b e => hw ⟨b, e⟩] at h
      exact h.elim
theorem snd_ife {c a b : E} {t l r : Expr} (hc : PT X t (cT G Γ U c)) (ha : PE X l (cE G Γ U a)) (hb : PE X r (cE G Γ U b)) : PE X (.IfExp t l r pos) (cE G Γ U (.ife c a b)) := by
  refine PE.weak (L2.pe_ifExp hc ha hb) fun σ H Q ⟨μ, S, env, r, re, h⟩ => oneTE r re h (fun b S1 H1 μ1 r1 re1 h1 => ?_) fun w S1 hw => bad_onB _ _ _ hw
  cases b with
  | true => exact (if_pos rfl).mpr ⟨μ1, S1, env, r1, re1, h1⟩
  | false => exact (if_neg Bool.false_ne_true).mpr ⟨μ1, S1, env, r1, re1, h1⟩
theorem snd_args {es : List E} {xs : List Expr} (h : PA X xs (cEs G Γ U es)) {k : List D → Sto → R W} {env : Env} {Q : VK} {Q1 : List V → Hp → Prop} (r : Rel G H μ S) (re : REnv G H μ env σ) (h : Aft G (RepW G H) H μ σ U Q ((evs Γ es env S).bind k))
    (hk : ∀ ds S1 vs H1 μ1, Rel G H1 μ1 S1 → Reps G H1 μ1 ds vs → REnv G H1 μ1 env σ → Aft G (RepW G H1) H1 μ1 σ U Q (k ds S1) → Q1 vs H1) : cEs G Γ U es σ H Q1 :=
  ⟨μ, S, env, r, re, h.bind fun ds S1 vs H1 μ1 st rl p h1 => hk ds S1 vs H1 μ1 rl p (re.mono r st) (h1.shift st)⟩
theorem aft_ite {α β : Type} {P : Hp → List Addr → α → β → Prop} {Q : β → Hp → Prop} {c : Prop} [Decidable c] {a : R α} (h : Aft G P H μ σ U Q (if c then a else .bad)) : c ∧ Aft G P H μ σ U Q a := by
  by_cases hc : c
  · rw [if_pos hc] at h; exact ⟨hc, h⟩
  · rw [if_neg hc] at h; exact h.elim
theorem snd_tup {es : List E} {xs : List Expr} {k : Nat} (ha : PA X xs (cEs G Γ U es)) : PE X (.Tuple xs k pos) (cE G Γ U (.tup es)) := by
  refine PE.weak (L2.pe_tup ha) fun σ H Q ⟨μ, S, env, r, re, h⟩ => snd_args ha r re h fun ds S1 vs H1 μ1 r1 q1 re1 h1 => ?_
  obtain ⟨hl, h1⟩ := aft_ite h1
  exact ⟨by rw [← q1.length]; exact Nat.le_trans hl lim_le, fun p hp => fin_tup (h1.fin NX.ok) r1 q1 hp⟩
theorem snd_lst {es : List E} {xs : List Expr} (ha : PA X xs (cEs G Γ U es)) : PE X (.List xs pos) (cE G Γ U (.lst es)) := by
  refine PE.weak (L2.pe_lst ha) fun σ H Q ⟨μ, S, env, r, re, h⟩ => snd_args ha r re h fun ds S1 vs H1 μ1 r1 q1 re1 h1 => ?_
  obtain ⟨hl, h1⟩ := aft_ite h1
  exact ⟨by rw [← q1.length]; exact Nat.le_trans hl lim_le, fun p hp => fin_lst (h1.fin NX.ok) r1 q1 hp⟩
theorem aft_orBad {α γ δ : Type} {P : Hp → List Addr → γ → δ → Prop} {Q : δ → Hp → Prop} {o : Option α} {S : Sto} {k : α → Sto → R γ} (h : Aft G P H μ σ U Q ((orBad o S).bind k)) : ∃ a, o = some a ∧ Aft G P H μ σ U Q (k a S) := by
  cases o with
  | none => exact h.elim
  | some a => exact ⟨a, rfl, h⟩
theorem part_none {lo : E} (hl : lo = .omit) : ∀ {env : Env} {S : Sto}, ev Γ lo env S = .ok (.it [] []) S := by
  subst hl
  exact fun {env S} => rfl
/-- the part of a slice: left out, or an int -/
inductive PartOk (X : Cx) (G : Gd) (Γ : Gm) (U : WX) : Option Expr → E → Prop
  | no : PartOk X G Γ U none .omit
  | yes {x : Expr} {e : E} (h : PE X x (cE G Γ U e)) : PartOk X G Γ U (some x) e
theorem part_ok {lo : E} {l1 : Option Expr} (hp : PartOk X G Γ U l1 lo) : ∃ t, L2.PO X l1 t ∧ ∀ {σ : L2.St} {H : Hp} {μ : List Addr} {S : Sto} {env : Env} {Q : VK} {Q1 : Option Int → Hp → Prop} {k : Option Int → Sto → R W}, Rel G H μ S → REnv G H μ env σ →
    Aft G (RepW G H) H μ σ U Q ((ev Γ lo env S).bind fun w S1 => (orBad (partOf w) S1).bind k) → (∀ o S1 H1 μ1, Step μ μ1 H H1 → Rel G H1 μ1 S1 → REnv G H1 μ1 env σ → Aft G (RepW G H1) H1 μ1 σ U Q (k o S1) → Q1 o H1) → t σ H Q1 := by
  cases hp with
  | no => exact ⟨_, L2.po_none, fun r re h hk => hk none _ _ _ .refl r re h⟩
  | @yes x e h =>
    refine ⟨_, L2.po_some h, fun {σ H μ S env Q Q1 k} r re hA hk => ⟨μ, S, env, r, re, hA.bind fun w S1 v H1 μ1 st rl p h1 => ?_⟩⟩
    obtain ⟨o, eo, h1⟩ := aft_orBad h1
    cases w with
    | v d =>
      cases d with
      | int i =>
        cases eo
        cases (show v = .int i from p)
        exact ⟨i, rfl, hk _ _ _ _ st rl (re.mono r st) (h1.shift st)⟩
      | _ => cases eo
    | f _ => cases eo
    | it _ _ => exact p.elim
theorem snd_sl (o : XOk X U G Γ nm N sc) {a lo hi : E} {l : Expr} {l1 h1 : Option Expr} (ha : PE X l (cE G Γ U a)) (hl : PartOk X G Γ U l1 lo) (hh : PartOk X G Γ U h1 hi) : PE X (.Subscript l (.Slice l1 h1 none p1) pos) (cE G Γ U (.sl a lo hi)) := by
  obtain ⟨tl, Pl, kl⟩ := part_ok hl
  obtain ⟨th, Ph, kh⟩ := part_ok hh
  refine PE.weak (L2.pe_slice (sl_W o.eK) ha Pl Ph) fun σ H Q ⟨μ, S, env, r, re, h⟩ => one r re h fun w S1 x H1 μ1 r1 q1 re1 h1 => ?_
  refine kl r1 re1 h1 fun ol S2 H2 μ2 st2 r2 re2 h2 => ?_
  exact kh r2 re2 h2 fun oh S3 H3 μ3 st3 r3 re3 h3 => ⟨μ3, S3, w, r3, (q1.mono r1 st2).mono r2 st3, Fin.of h3 .orBad⟩
theorem snd_slr (o : XOk X U G Γ nm N sc) {a : E} {l : Expr} {k : Nat} {p3 p4 : Pos} (ha : PE X l (cE G Γ U a)) : PE X (.Subscript l (.Slice none none (some (.UnaryOp .USub (.Constant (.int 1) k p1) p2)) p3) pos) (cE G Γ U (.slr a)) := by
  refine PE.weak (pe_revA ha) fun σ H Q ⟨μ, S, env, r, re, h⟩ => one r re h fun w S1 x H1 μ1 r1 q1 re1 h1 => ?_
  rw [o.eK]
  exact revW_ok r1 q1 (Fin.of h1 .orBad)
end
end Py

namespace Py
open PySem PySem.Spec PyProof.Rows
open L2 (V HO Hp SqL SqT Rd upd upd_same upd_ne Cx Inv EP VK OpR RelV R2 CallR XK WX Vals TE PE TI PI PA TA It PT PG PGs TG TGs)
theorem notAny_star {env : PySem.Env} {pos : Pos} : ∀ {xs : List Expr}, xs.all plainX = true → (backTo pos (starEach xs env)).any (·.1) = false
  | [], _ => rfl
  | x :: xs, h => by
    rw [List.all_cons, Bool.and_eq_true] at h
    rw [star_cons h.1]
    show (false || (backTo pos (starEach xs env)).any (·.1)) = false
    rw [notAny_star h.2]
    rfl
section
variable {X : Cx} {G : Gd} {Γ : Gm} {U : WX} {nm : Nms} {N : List Str} {sc : Scope} {H H1 : Hp} {μ μ1 : List Addr} {S : Sto} {σ : L2.St} {Q Q1 : VK} {pos p1 p2 : Pos}

theorem snd_pa1 {a : E} {y : Expr} (ha : PE X y (cE G Γ U a)) (hy : plainX y = true) : PA X [y] (L2.tCons (cE G Γ U a) L2.tNil) := L2.pa_cons ha L2.pa_nil (star_cons hy)
theorem snd_b1 (o : XOk X U G Γ nm N sc) {f : B1} {a : E} {n : Str} {y : Expr} (hn : f.nm = n) (hg : gloB sc n = true) (ha : PE X y (cE G Γ U a)) (hy : plainX y = true) : PE X (.Call (.Name n p1) [y] [] pos) (cE G Γ U (.b1 f a)) := by
  subst hn
  have hp : (backTo pos (starEach ([] : List Expr) X.env)).any (·.1) = false := rfl
  have go : ∀ {t : TE}, PE X (.Call (.Name f.nm p1) [y] [] pos) (L2.tCB (rB1 G f) (L2.tCons (cE G Γ U a) L2.tNil)) → PE X (.Call (.Name f.nm p1) [y] [] pos) (cE G Γ U (.b1 f a)) := fun h =>
    PE.weak h fun σ H Q ⟨μ, S, env, r, re, h⟩ => one r re h fun w S1 x H1 μ1 r1 q1 re1 h1 => ⟨μ1, S1, w, x, rfl, r1, q1, Fin.of h1 .orBad⟩
  have pa := snd_pa1 ha hy
  have cb := call_b1 (X := X) o.eK o.calm f
  cases f with
  | len => exact go (t := fun _ _ _ => True) (L2.pe_callB cb (o.gl hg) (o.blt _ (by decide +kernel)) boot_len pa (by decide) (by decide) (star_cons hy) hp)
  | abs => exact go (t := fun _ _ _ => True) (L2.pe_callB cb (o.gl hg) (o.blt _ (by decide +kernel)) (by decide +kernel) pa (by decide) (by decide) (star_cons hy) hp)
  | int => exact go (t := fun _ _ _ => True) (L2.pe_callTy cb (o.gl hg) (o.blt _ (by decide +kernel)) (by decide +kernel) pa (by decide) (by decide) (star_cons hy) hp)
  | tup => exact go (t := fun _ _ _ => True) (L2.pe_callTy cb (o.gl hg) (o.blt _ (by decide +kernel)) (by decide +kernel) pa (by decide) (by decide) (star_cons hy) hp)
  | lst => exact go (t := fun _ _ _ => True) (L2.pe_callTy cb (o.gl hg) (o.blt _ (by decide +kernel)) (by decide +kernel) pa (by decide) (by decide) (star_cons hy) hp)
  | all => exact go (t := fun _ _ _ => True) (L2.pe_callB cb (o.gl hg) (o.blt _ (by decide +kernel)) (by decide +kernel) pa (by decide) (by decide) (star_cons hy) hp)
  | any => exact go (t := fun _ _ _ => True) (L2.pe_callB cb (o.gl hg) (o.blt _ (by decide +kernel)) (by decide +kernel) pa (by decide) (by decide) (star_cons hy) hp)
  | sum => exact go (t := fun _ _ _ => True) (L2.pe_callB cb (o.gl hg) (o.blt _ (by decide +kernel)) (by decide +kernel) pa (by decide) (by decide) (star_cons hy) hp)
  | max => exact go (t := fun _ _ _ => True) (L2.pe_callB cb (o.gl hg) (o.blt _ (by decide +kernel)) (by decide +kernel) pa (by decide) (by decide) (star_cons hy) hp)
  | min => exact go (t := fun _ _ _ => True) (L2.pe_callB cb (o.gl hg) (o.blt _ (by decide +kernel)) (by decide +kernel) pa (by decide) (by decide) (star_cons hy) hp)
  | repr => exact go (t := fun _ _ _ => True) (L2.pe_callB cb (o.gl hg) (o.blt _ (by decide +kernel)) (by decide +kernel) pa (by decide) (by decide) (star_cons hy) hp)
theorem snd_b2 (o : XOk X U G Γ nm N sc) {f : B2} {a b : E} {n : Str} {y z : Expr} (hn : f.nm = n) (hg : gloB sc n = true) (ha : PE X y (cE G Γ U a)) (hb : PE X z (cE G Γ U b)) (hy : plainX y = true) (hz : plainX z = true) :
    PE X (.Call (.Name n p1) [y, z] [] pos) (cE G Γ U (.b2 f a b)) := by
  subst hn
  have hp : (backTo pos (starEach [z] X.env)).any (·.1) = false := notAny_star (by simp [hz])
  have pa : PA X [y, z] (L2.tCons (cE G Γ U a) (L2.tCons (cE G Γ U b) L2.tNil)) := L2.pa_cons ha (L2.pa_cons hb L2.pa_nil (star_cons hz)) (star_cons hy)
  have go : PE X (.Call (.Name f.nm p1) [y, z] [] pos) (L2.tCB (rB2 G f) (L2.tCons (cE G Γ U a) (L2.tCons (cE G Γ U b) L2.tNil))) → PE X (.Call (.Name f.nm p1) [y, z] [] pos) (cE G Γ U (.b2 f a b)) := fun h =>
    PE.weak h fun σ H Q ⟨μ, S, env, r, re, h⟩ => one r re h fun w S1 x H1 μ1 r1 q1 re1 h1 => ⟨μ1, S1, env, r1, re1, h1.bind fun w2 S2 y2 H2 μ2 st r2 q2 h2 => ⟨μ2, S2, w, w2, x, y2, rfl, r2, q1.mono r1 st, q2.cur, Fin.of (h2.shift st) .orBad⟩⟩
  have cb := call_b2 (X := X) (G := G) o.calm f
  cases f with
  | max => exact go (L2.pe_callB cb (o.gl hg) (o.blt _ (by decide +kernel)) (by decide +kernel) pa (by decide) (by decide) (star_cons hy) hp)
  | min => exact go (L2.pe_callB cb (o.gl hg) (o.blt _ (by decide +kernel)) (by decide +kernel) pa (by decide) (by decide) (star_cons hy) hp)
/-- a built-in type by its name -/
theorem pe_tyname (o : XOk X U G Γ nm N sc) {t : Ty} {z : Str} (hn : t.nm = z) (hg : gloB sc z = true) : PE X (.Name z p1) (L2.tC (.ty t.py)) := by
  subst hn
  cases t with
  | tint => exact L2.pe_bltn (u := .type "int") (o.gl hg) (o.blt _ (by decide +kernel)) (by decide +kernel) rfl (by decide) (by decide)
  | tbool => exact L2.pe_bltn (u := .type "bool") (o.gl hg) (o.blt _ (by decide +kernel)) (by decide +kernel) rfl (by decide) (by decide)
  | tstr => exact L2.pe_bltn (u := .type "str") (o.gl hg) (o.blt _ (by decide +kernel)) (by decide +kernel) rfl (by decide) (by decide)
  | ttup => exact L2.pe_bltn (u := .type "tuple") (o.gl hg) (o.blt _ (by decide +kernel)) (by decide +kernel) rfl (by decide) (by decide)
  | tlst => exact L2.pe_bltn (u := .type "list") (o.gl hg) (o.blt _ (by decide +kernel)) (by decide +kernel) rfl (by decide) (by decide)
theorem snd_isi (o : XOk X U G Γ nm N sc) {a : E} {t : Ty} {n z : Str} {y : Expr} (hn : ("isinstance" : Str) = n) (hg : gloB sc n = true) (ha : PE X y (cE G Γ U a)) (hz : t.nm = z) (hgz : gloB sc z = true) (hy : plainX y = true) :
    PE X (.Call (.Name n p1) [y, .Name z p2] [] pos) (cE G Γ U (.isi a t)) := by
  subst hn
  refine PE.weak (L2.pe_callB L2.call_isi (o.gl hg) (o.blt _ (by decide +kernel)) (by decide +kernel) (L2.pa_cons ha (L2.pa_cons (pe_tyname o hz hgz) L2.pa_nil rfl) (star_cons hy)) (by decide) (by decide) (star_cons hy) rfl) fun σ H Q ⟨μ, S, env, r, re, h⟩ => one r re h fun w S1 x H1 μ1 r1 q1 re1 h1 => ?_
  obtain ⟨b, eb, h1⟩ := aft_orBad h1
  obtain ⟨tv, t1, t2⟩ := isTy_ok r1 q1 eb
  exact ⟨x, .ty t.py, tv, .type t.py, b, rfl, .ty _, by rw [o.eK]; exact t1, by rw [o.eK]; exact t2, h1 (.bl b) H1 μ1 .refl r1 rfl⟩

theorem few_ok {env : PySem.Env} {cpos : Pos} {xs : List Expr} (h : xs.all plainX = true) (hl : xs.length < 5) : ((backTo cpos (starEach xs env)).all (fun x => !x.1) && (backToKw cpos (keywordEach [] env)).all (fun x => x.1.isSome)
      && decide (xs.length + ([] : List Keyword).length + (if ([] : List Keyword).isEmpty then 0 else 1) < 30)) = true := by
  have h1 : (backTo cpos (starEach xs env)).all (fun x => !x.1) = true := by
    have := notAny_star (env := env) (pos := cpos) h
    rw [List.all_eq_not_any_not]
    simp only [Bool.not_not]
    rw [this]
    rfl
  rw [h1]
  have h2 : decide (xs.length + ([] : List Keyword).length + (if ([] : List Keyword).isEmpty then 0 else 1) < 30) = true := decide_eq_true (by
    show xs.length + 0 + 0 < 30
    omega)
  rw [h2]
  rfl
theorem mtEs_plain {nm : Nms} {N : List Str} {sc : Scope} : ∀ {es : List E} {xs : List Expr}, mtEs nm N sc es xs = true → xs.all plainX = true
  | [], xs, h => by
    cases xs with
    | nil => rfl
    | cons _ _ => cases h
  | e :: es, xs, h => by
    cases xs with
    | nil => cases h
    | cons x xs =>
      have h : (plainX x && mtE nm N false sc e x && mtEs nm N sc es xs) = true := h
      rw [Bool.and_eq_true, Bool.and_eq_true] at h
      rw [List.all_cons, h.1.1, mtEs_plain h.2]
      rfl
theorem snd_meth (o : XOk X U G Γ nm N sc) {oe : E} {m : Mt} {es : List E} {y : Expr} {a : Str} {ys : List Expr} {apos : Pos} (hn : m.nm = a) (hb : baseX y = true) (ho : PE X y (cE G Γ U oe)) (ha : PA X ys (cEs G Γ U es)) (hp : ys.all plainX = true) (hl : ys.length < 5) (hes : ys = [] → es = [])
    (hline : (apos.endLine == pos.line) = true) : PE X (.Call (.Attribute y a apos) ys [] pos) (cE G Γ U (.meth oe m es)) := by
  subst hn
  have red : ∀ {σ : L2.St} {H : Hp} {Q : VK}, cE G Γ U (.meth oe m es) σ H Q → cE G Γ U oe σ H fun x H1 => L2.tyV X.K "list" x H1 ∧ cEs G Γ U es σ H1 fun xs H2 => rMt G m x xs H2 Q := by
    intro σ H Q ⟨μ, S, env, r, re, h⟩
    refine one r re h fun w S1 x H1 μ1 r1 q1 re1 h1 => ?_
    cases w with
    | f _ => exact h1.elim
    | it _ _ => exact h1.elim
    | v d =>
      cases d with
      | loc n =>
        obtain ⟨ad, hd, rfl⟩ := id q1
        have hn : n < S1.length := by rw [← r1.len]; exact (List.getElem?_eq_some_iff.mp hd).1
        have hobj := r1.obj n S1[n] ad (List.getElem?_eq_getElem hn) hd
        have ty : L2.tyV X.K "list" (.ref ad) H1 := by
          cases q : S1[n] with
          | lst ys =>
            rw [q] at hobj
            obtain ⟨vs, q1, q2⟩ := hobj
            exact .inl ⟨rfl, vs, .inl (.inl q1)⟩
        refine ⟨ty, μ1, S1, env, r1, re1, ?_⟩
        have h1 : Aft G (RepW G H1) H1 μ1 σ U Q ((evs Γ es env S1).bind fun ds S2 => mtW m (.loc n) (ds.map .v) S2) := h1
        refine h1.bind fun ds S2 vs H2 μ2 st r2 q2 h2 => ?_
        exact ⟨μ2, S2, .loc n, ds, r2, Rep.mono r1 st (d := .loc n) q1, q2, Fin.of (h2.shift st) mtW_nx⟩
      | _ => exact h1.elim
  have hbase : attributeBase y m.nm X.env (eval y X.env) = eval y X.env := baseX_ok hb
  cases ys with
  | nil =>
    cases hes rfl
    have red0 : ∀ {σ : L2.St} {H : Hp} {Q : VK}, cE G Γ U (.meth oe m []) σ H Q → L2.tBM0 X.K "list" (rMt G m) (cE G Γ U oe) σ H Q := by
      intro σ H Q h
      obtain ⟨μ, S, env, r, re, h⟩ := red h
      refine ⟨μ, S, env, r, re, ?_⟩
      cases q : ev Γ oe env S with
      | exc x S1 => rw [q] at h; exact h
      | bad => rw [q] at h; exact h
      | ok w S1 =>
        rw [q] at h
        intro v H1 μ1 st rl p
        obtain ⟨ty, μ2, S2, env2, r2, re2, h2⟩ := h v H1 μ1 st rl p
        exact ⟨ty, evs_nil r2 h2⟩
    cases m with
    | pop => exact PE.weak (L2.pe_bm0 PySem.F.plainAttrs_list PySem.F.slot_list_pop PySem.F.type_list_pop (mt_W .pop) ho hbase hline) fun σ H Q h => red0 h
    | append => exact PE.weak (L2.pe_bm0 PySem.F.plainAttrs_list PySem.F.slot_list_append PySem.F.type_list_append (mt_W .append) ho hbase hline) fun σ H Q h => red0 h
    | extend => exact PE.weak (L2.pe_bm0 PySem.F.plainAttrs_list PySem.F.slot_list_extend PySem.F.type_list_extend (mt_W .extend) ho hbase hline) fun σ H Q h => red0 h
    | insert => exact PE.weak (L2.pe_bm0 PySem.F.plainAttrs_list PySem.F.slot_list_insert PySem.F.type_list_insert (mt_W .insert) ho hbase hline) fun σ H Q h => red0 h
  | cons x xs =>
    rw [List.all_cons, Bool.and_eq_true] at hp
    have hpl : (backTo pos (starEach xs X.env)).any (·.1) = false := notAny_star hp.2
    have hfew := few_ok (env := X.env) (cpos := pos) (xs := x :: xs) (by rw [List.all_cons, hp.1, hp.2]; rfl) hl
    cases m with
    | pop => exact PE.weak (L2.pe_bm PySem.F.plainAttrs_list PySem.F.slot_list_pop PySem.F.type_list_pop (mt_W .pop) ho ha hbase hfew hline (star_cons hp.1) hpl) fun σ H Q h => red h
    | append => exact PE.weak (L2.pe_bm PySem.F.plainAttrs_list PySem.F.slot_list_append PySem.F.type_list_append (mt_W .append) ho ha hbase hfew hline (star_cons hp.1) hpl) fun σ H Q h => red h
    | extend => exact PE.weak (L2.pe_bm PySem.F.plainAttrs_list PySem.F.slot_list_extend PySem.F.type_list_extend (mt_W .extend) ho ha hbase hfew hline (star_cons hp.1) hpl) fun σ H Q h => red h
    | insert => exact PE.weak (L2.pe_bm PySem.F.plainAttrs_list PySem.F.slot_list_insert PySem.F.type_list_insert (mt_W .insert) ho ha hbase hfew hline (star_cons hp.1) hpl) fun σ H Q h => red h

theorem aft_call {f : Nat} {ds : List D} {vs : List V} (r : Rel G H μ S) (p : Reps G H μ ds vs) (h : Aft G (RepW G H) H μ σ U Q (Γ.call f ds S)) : spC G Γ f vs H Q (L2.WE U σ) := by
  refine ⟨μ, S, ds, r, p, ?_⟩
  cases q : Γ.call f ds S with
  | ok w S1 => rw [q] at h; exact h
  | bad => rw [q] at h; exact h
  | exc x S1 => rw [q] at h; exact h
theorem aft_notbad {α β : Type} {P : Hp → List Addr → α → β → Prop} {Q : β → Hp → Prop} {r : R α} (h : Aft G P H μ σ U Q r) : r ≠ .bad := by
  intro e
  rw [e] at h
  exact h
theorem snd_call (o : XOk X U G Γ nm N sc) {f : Nat} {es : List E} {n : Str} {y : Expr} {ys : List Expr} (hn : nm.fn f = some n) (hg : gloB sc n = true) (hok : okName n = true) (ha : PA X (y :: ys) (cEs G Γ U es)) (hp : (y :: ys).all plainX = true) :
    PE X (.Call (.Name n p1) (y :: ys) [] pos) (cE G Γ U (.call f es)) := by
  rw [List.all_cons, Bool.and_eq_true] at hp
  have F := o.call f n hn
  obtain ⟨fd, ps, k, F1, hr, hb⟩ := F.ex
  exact PE.weak (L2.pe_callS F1 hr (o.gl hg) F.mg F.kp hb (fun σ => L2.passAt o.tk σ) ha (okName_ok hok).1 (star_cons hp.1) (notAny_star hp.2)) fun σ H Q ⟨μ, S, env, r, re, h⟩ =>
      ⟨μ, S, env, r, re, h.bind fun ds S1 vs H1 μ1 st rl p h1 => aft_call rl p (h1.shift st)⟩
/-- a call of a def that a local name holds -/
theorem snd_callv (o : XOk X U G Γ nm N sc) {i : Nat} {es : List E} {n : Str} {y : Expr} {ys : List Expr} (hn : N[i]? = some n) (hv : visB sc n = true) (hok : okName n = true) (ha : PA X (y :: ys) (cEs G Γ U es)) (hp : (y :: ys).all plainX = true) :
    PE X (.Call (.Name n p1) (y :: ys) [] pos) (cE G Γ U (.callv i es)) := by
  rw [List.all_cons, Bool.and_eq_true] at hp
  refine ⟨fun pins s σ H Q I hq => ?_⟩
  obtain ⟨μ, S, env, r, re, h⟩ := hq
  have h : Aft G (RepW G H) H μ σ U Q (match env[i]? with | some (some (.fn f)) => if Γ.has f then (evs Γ es env S).bind fun ds S1 => Γ.call f ds S1 else .bad | _ => .bad) := h
  split at h
  · rename_i f e
    obtain ⟨v, e1, e2⟩ := re.get i _ e
    cases (show v = .ref (G.at_ f) from e2)
    obtain ⟨hhas, h⟩ := aft_ite h
    refine wpAny_Call_Name_kw (L2.thn ((L2.pe_var (pos := p1) (o.names hn) (o.vis hv) (okName_ok hok).1 (okName_ok hok).2).run pins s σ H (fun v H1 => v = .ref (G.at_ f) ∧ H1 = H) I ⟨.ref (G.at_ f), e1, rfl, rfl⟩) fun u s1 ⟨v, H1, I1, r1, q1⟩ => ?_)
    obtain ⟨rfl, rfl⟩ := q1
    cases r1
    obtain ⟨m, hm⟩ := o.callv f hhas
    have F := o.call f m hm
    obtain ⟨fd, ps, k, F1, hr, hb⟩ := F.ex
    have ht : cEs G Γ U es σ H1 fun vs H2 => spC G Γ f vs H2 Q (L2.WE U σ) := ⟨μ, S, env, r, re, h.bind fun ds S1 vs H1 μ1 st rl p h1 => aft_call rl p (h1.shift st)⟩
    refine PySem.W.callWith_K (h₀ := X.base) I1.ok.mod.kin F.kp (L2.thn (ha.run pos pins s1 σ _ _ I1 ht) fun us s2 ⟨vs, H2, I2, r, q⟩ => ⟨I2.kIn, ?_⟩) (star_cons hp.1) (notAny_star hp.2)
    exact L2.run_fnS F1 hr hb (L2.passAt o.tk σ) I2 r q
  · exact h.elim
end
end Py

namespace Py
open PySem PySem.Spec PyProof.Rows
open L2 (V HO Hp SqL SqT Rd upd upd_same upd_ne Cx Inv EP VK OpR RelV R2 CallR XK WX Vals TE PE TI PI PA TA It PT PG PGs TG TGs)
section
variable {X : Cx} {G : Gd} {Γ : Gm} {U : WX} {nm : Nms} {N : List Str} {sc : Scope} {H H1 : Hp} {μ μ1 : List Addr} {S : Sto} {σ : L2.St} {Q Q1 : VK} {pos p1 p2 : Pos}

def cG (G : Gd) (tg : Tg) : TG := fun v σ H Q => ∃ μ S env d env', Rel G H μ S ∧ REnv G H μ env σ ∧ Rep G H μ d v ∧ bindTg S tg d env = some env' ∧ ∀ σ', REnv G H μ env' σ' → (∀ j, j ∉ tgNames tg → σ'[j]? = σ[j]?) → Q σ' H
def cGs (G : Gd) (ts : List Tg) : TGs := fun vs σ H Q => ∃ μ S env ds env', Rel G H μ S ∧ REnv G H μ env σ ∧ Reps G H μ ds vs ∧ bindTgs S ts ds env = some env' ∧ ∀ σ', REnv G H μ env' σ' → (∀ j, j ∉ tgsNames ts → σ'[j]? = σ[j]?) → Q σ' H
theorem REnv.set {env : Env} (re : REnv G H μ env σ) {d : D} {v : V} (h : Rep G H μ d v) (i : Nat) : REnv G H μ (env.set i (some d)) (σ.set i (some v)) := by
  refine ⟨by rw [List.length_set, List.length_set, re.len], fun j d' hj => ?_⟩
  by_cases e : i = j
  · subst e
    by_cases hi : i < env.length
    · rw [List.getElem?_set_self hi] at hj
      cases hj
      exact ⟨v, List.getElem?_set_self (by rw [← re.len]; exact hi), h⟩
    · rw [List.getElem?_eq_none (by rw [List.length_set]; omega)] at hj
      cases hj
  · rw [List.getElem?_set_ne e] at hj
    rw [List.getElem?_set_ne e]
    exact re.get j d' hj
/-- a name that may be stored -/
def StOk (X : Cx) (x : Str) : Prop := L2.Loc X.env.scope x ∧ (X.fn x = true ∨ X.env.scope.names.lookup x = some .local)
theorem PG.weak {x : Expr} {t t' : TG} (h : PG X x t) (i : ∀ v σ H Q, t' v σ H Q → t v σ H Q) : PG X x t' := ⟨fun pins s σ H v u Q I r q => h.run pins s σ H v u Q I r (i _ _ _ _ q)⟩
theorem PGs.weak {x : List Expr} {t t' : TGs} (h : PGs X x t) (i : ∀ v σ H Q, t' v σ H Q → t v σ H Q) : PGs X x t' := ⟨fun pins s σ H v u Q I r q => h.run pins s σ H v u Q I r (i _ _ _ _ q)⟩
theorem bindTgs_len {S : Sto} : ∀ {ts : List Tg} {ds : List D} {env env' : Env}, bindTgs S ts ds env = some env' → ts.length = ds.length
  | [], [], _, _, _ => rfl
  | [], _ :: _, _, _, h => nomatch h
  | _ :: _, [], _, _, h => nomatch h
  | t :: ts, d :: ds, env, env', h => by
    have h : (bindTg S t d env).bind (fun env' => bindTgs S ts ds env') = some env' := h
    cases q : bindTg S t d env with
    | none => rw [q] at h; cases h
    | some e1 =>
      rw [q] at h
      have h : bindTgs S ts ds e1 = some env' := h
      rw [List.length_cons, List.length_cons, bindTgs_len h]
mutual
theorem snd_tg (hK : X.K = G.K) (hN : X.N = N) (nd : N.Nodup) (hc : X.calm = true) (ok : Str → Bool) (hok : ∀ x, ok x = true → StOk X x) : ∀ (tg : Tg) (x : Expr), mtTg N ok tg x = true → PG X x (cG G tg)
  | .name i, x, h => by
    cases x with
    | Name n p =>
      have h : (decide (N[i]? = some n) && ok n) = true := h
      rw [Bool.and_eq_true] at h
      have h1 := of_decide_eq_true h.1
      obtain ⟨s1, s2⟩ := hok n h.2
      refine PG.weak (L2.pg_name (i := i) (by rw [hN]; exact nd) (by rw [hN]; exact h1) s1 s2) fun v σ H Q ⟨μ, S, env, d, env', r, re, p, e, q⟩ => ?_
      have e : some (env.set i (some d)) = some env' := e
      cases e
      exact q _ (re.set p i) fun j hj => List.getElem?_set_ne fun e => hj (by rw [← e]; exact List.mem_singleton.mpr rfl)
    | _ => cases h
  | .tup ts, x, h => by
    cases x with
    | Tuple xs k p =>
      have h : mtTgs N ok ts xs = true := h
      have ih := snd_tgs hK hN nd hc ok hok ts xs h
      obtain ⟨l1, l2⟩ := assignEach_tgs (env := X.env) h
      have P1 := L2.pg_tup (k := k) (pos := p) hc ih l1 l2
      have P2 := L2.pg_lst (k := k) (pos := p) hc ih l1 l2
      refine ⟨fun pins s σ H v u Q I rv ⟨μ, S, env, d, env', r, re, pd, e, q⟩ => ?_⟩
      have e : (match seqOf S (.v d) with | some ds => bindTgs S ts ds env | none => none) = some env' := e
      cases es : seqOf S (.v d) with
      | none => rw [es] at e; cases e
      | some ds =>
        rw [es] at e
        obtain ⟨a, vs, rfl, q1, q2⟩ := seqOf_rep r (w := .v d) pd es
        have hl := bindTgs_len e
        have hl2 := q2.length
        have body : cGs G ts vs σ H Q := ⟨μ, S, env, ds, env', r, re, q2, e, q⟩
        rcases q1 with q1 | q1
        · exact P2.run pins s σ H _ u Q I rv ⟨a, vs, rfl, by rw [hK]; exact q1, by omega, body⟩
        · exact P1.run pins s σ H _ u Q I rv ⟨a, vs, rfl, by rw [hK]; exact q1, by omega, body⟩
    | _ => cases h
theorem snd_tgs (hK : X.K = G.K) (hN : X.N = N) (nd : N.Nodup) (hc : X.calm = true) (ok : Str → Bool) (hok : ∀ x, ok x = true → StOk X x) : ∀ (ts : List Tg) (xs : List Expr), mtTgs N ok ts xs = true → PGs X xs (cGs G ts)
  | [], xs, h => by
    cases xs with
    | nil =>
      refine PGs.weak L2.pgs_nil fun vs σ H Q ⟨μ, S, env, ds, env', r, re, p, e, q⟩ => ?_
      cases ds with
      | nil =>
        have e : some env = some env' := e
        cases e
        exact ⟨p, q σ re fun _ _ => rfl⟩
      | cons _ _ => cases e
    | cons _ _ => cases h
  | t :: ts, xs, h => by
    cases xs with
    | nil => cases h
    | cons x xs =>
      have h : (plainX x && mtTg N ok t x && mtTgs N ok ts xs) = true := h
      rw [Bool.and_eq_true, Bool.and_eq_true] at h
      have i1 := snd_tg hK hN nd hc ok hok t x h.1.2
      have i2 := snd_tgs hK hN nd hc ok hok ts xs h.2
      have hs : (assignEach (x :: xs) X.env).map (·.2) = assign x X.env :: (assignEach xs X.env).map (·.2) := by
        have h1 := h.1.1
        cases x <;> first | rfl | exact absurd h1 Bool.false_ne_true
      refine PGs.weak (L2.pgs_cons i1 i2 hs) fun vs σ H Q ⟨μ, S, env, ds, env', r, re, p, e, q⟩ => ?_
      cases ds with
      | nil => cases e
      | cons d ds =>
        obtain ⟨v, vs', rfl, p1, p2⟩ := p
        have e : (bindTg S t d env).bind (fun env' => bindTgs S ts ds env') = some env' := e
        cases q1 : bindTg S t d env with
        | none => rw [q1] at e; cases e
        | some e1 =>
          rw [q1] at e
          exact ⟨v, vs', rfl, μ, S, env, d, e1, r, re, p1, q1, fun σ1 re1 k1 => ⟨μ, S, e1, ds, env', r, re1, p2, e, fun σ2 re2 k2 => q σ2 re2 fun j hj => by
            have : tgsNames (t :: ts) = tgNames t ++ tgsNames ts := rfl
            rw [this, List.mem_append, not_or] at hj
            rw [k2 j hj.2, k1 j hj.1]⟩⟩
end

structure Walks (G : Gd) (J : It) (xs : List D) (src : List Src) (H0 : Hp) (μ0 : List Addr) : Prop where
  go : ∀ H μ S, Step μ0 μ H0 H → Rel G H μ S → (∀ s ∈ src, srcOk s S) → ∀ (i : Nat) (d : D), xs[i]? = some d → J.go i H ∧ ∀ x H', J.yld i H x H' → Step μ μ H H' ∧ Rel G H' μ S ∧ Rep G H' μ d x
  stop : ∀ H μ S, Step μ0 μ H0 H → Rel G H μ S → (∀ s ∈ src, srcOk s S) → J.stop xs.length H
/-- a list or tuple that stands through a loop -/
theorem held {w : W} {xs : List D} {v : V} (r : Rel G H μ S) (h : RepC G H μ w v) (e : seqOf S w = some xs) : ∃ a vs, v = .ref a ∧ Reps G H μ xs vs ∧
    ((isTupW w = false ∧ SqL G.K H a vs ∧ ∀ H' μ' S', Step μ μ' H H' → Rel G H' μ' S' → srcOk (srcOf S w) S' → ∃ vs', SqL G.K H' a vs' ∧ Reps G H' μ' xs vs') ∨
     (isTupW w = true ∧ SqT G.K H a vs ∧ ∀ H' μ' S', Step μ μ' H H' → Rel G H' μ' S' → srcOk (srcOf S w) S' → ∃ vs', SqT G.K H' a vs' ∧ Reps G H' μ' xs vs')) := by
  cases w with
  | f ys =>
    cases e
    obtain ⟨a, vs, rfl, h0, h1, h2⟩ := h
    exact ⟨a, vs, rfl, h2, .inl ⟨rfl, .inl (.inl h1), fun H' μ' S' st r' _ => ⟨vs, .inl (.inl (st.keep a _ h1 h0)), h2.mono r st⟩⟩⟩
  | it _ _ => exact h.elim
  | v d =>
    cases d with
    | tup ys =>
      cases e
      obtain ⟨a, vs, rfl, h1, h2⟩ := h
      exact ⟨a, vs, rfl, h2, .inr ⟨rfl, h1, fun H' μ' S' st r' _ => ⟨vs, r.sqT st h1, h2.mono r st⟩⟩⟩
    | cl ys =>
      cases e
      obtain ⟨a, vs, rfl, h1, h2⟩ := h
      exact ⟨a, vs, rfl, h2, .inl ⟨rfl, h1.sq, fun H' μ' S' st r' _ => ⟨vs, (r.clL st h1).sq, h2.mono r st⟩⟩⟩
    | loc n =>
      obtain ⟨a, ha, rfl⟩ := h
      have e : (match S[n]? with | some (.lst xs) => some xs | none => none) = some xs := e
      cases q : S[n]? with
      | none => rw [q] at e; cases e
      | some o =>
        cases o with
        | lst ys =>
          rw [q] at e
          cases e
          obtain ⟨vs, h1, h2⟩ := r.obj n _ a q ha
          refine ⟨a, vs, rfl, h2, .inl ⟨rfl, .inl (.inl h1), fun H' μ' S' st r' hs => ?_⟩⟩
          have hs : srcOk (match S[n]? with | some o => some (n, o) | none => none) S' := hs
          rw [q] at hs
          obtain ⟨vs', h3, h4⟩ := r'.obj n _ a hs (st.get ha)
          exact ⟨vs', .inl (.inl h3), h4⟩
    | _ => cases e
theorem walks_l {xs : List D} {src : Src} {a : Addr} (h : ∀ H' μ' S', Step μ μ' H H' → Rel G H' μ' S' → srcOk src S' → ∃ vs', SqL G.K H' a vs' ∧ Reps G H' μ' xs vs') : Walks G (L2.Itl G.K a) xs [src] H μ := by
  refine ⟨fun H' μ' S' st r hs i d hd => ?_, fun H' μ' S' st r hs => ?_⟩
  · obtain ⟨vs, h1, h2⟩ := h H' μ' S' st r (hs src (List.mem_singleton.mpr rfl))
    obtain ⟨v, e1, e2⟩ := h2.getOf hd
    refine ⟨⟨vs, v, h1, e1⟩, fun x H'' ⟨e, hx⟩ => ?_⟩
    subst e
    have := hx vs h1
    rw [e1] at this
    cases this
    exact ⟨.refl, r, e2⟩
  · obtain ⟨vs, h1, h2⟩ := h H' μ' S' st r (hs src (List.mem_singleton.mpr rfl))
    exact ⟨vs, h1, Nat.le_of_eq h2.length.symm⟩
theorem walks_t {xs : List D} {src : Src} {a : Addr} (h : ∀ H' μ' S', Step μ μ' H H' → Rel G H' μ' S' → srcOk src S' → ∃ vs', SqT G.K H' a vs' ∧ Reps G H' μ' xs vs') : Walks G (L2.Itt G.K a) xs [src] H μ := by
  refine ⟨fun H' μ' S' st r hs i d hd => ?_, fun H' μ' S' st r hs => ?_⟩
  · obtain ⟨vs, h1, h2⟩ := h H' μ' S' st r (hs src (List.mem_singleton.mpr rfl))
    obtain ⟨v, e1, e2⟩ := h2.getOf hd
    refine ⟨⟨vs, v, h1, e1⟩, fun x H'' ⟨e, hx⟩ => ?_⟩
    subst e
    have := hx vs h1
    rw [e1] at this
    cases this
    exact ⟨.refl, r, e2⟩
  · obtain ⟨vs, h1, h2⟩ := h H' μ' S' st r (hs src (List.mem_singleton.mpr rfl))
    exact ⟨vs, h1, Nat.le_of_eq h2.length.symm⟩
theorem enumFrom_get : ∀ (xs : List D) (k i : Nat) (d : D), (enumFrom k xs)[i]? = some d → ∃ x, xs[i]? = some x ∧ d = .tup [.int ((k + i : Nat) : Int), x]
  | [], _, _, _, h => by simp [enumFrom] at h
  | x :: xs, k, 0, d, h => ⟨x, rfl, by
      have h : some (D.tup [.int (k : Nat), x]) = some d := h
      cases h
      rfl⟩
  | x :: xs, k, i + 1, d, h => by
    have h : (enumFrom (k + 1) xs)[i]? = some d := h
    obtain ⟨y, h1, h2⟩ := enumFrom_get xs (k + 1) i d h
    exact ⟨y, h1, by rw [h2]; congr 4; omega⟩
theorem enumFrom_len : ∀ (xs : List D) (k : Nat), (enumFrom k xs).length = xs.length
  | [], _ => rfl
  | _ :: xs, k => by
    show (enumFrom (k + 1) xs).length + 1 = xs.length + 1
    rw [enumFrom_len xs (k + 1)]
/-- a new pair -/
theorem pair_new {T : Addr} {d1 d2 : D} {v1 v2 : V} (r : Rel G H μ S) (hT : H T = none) (h1 : Rep G H μ d1 v1) (h2 : Rep G H μ d2 v2) : Step μ μ H (upd H T (.tup [v1, v2])) ∧ Rel G (upd H T (.tup [v1, v2])) μ S ∧ Rep G (upd H T (.tup [v1, v2])) μ (.tup [d1, d2]) (.ref T) :=
  ⟨.new hT, r.new hT, T, [v1, v2], rfl, .inl (.inl upd_same), v1, [v2], rfl, h1.mono r (.new hT), v2, [], rfl, h2.mono r (.new hT), rfl⟩
theorem walks_el {xs : List D} {src : Src} {a : Addr} (h : ∀ H' μ' S', Step μ μ' H H' → Rel G H' μ' S' → srcOk src S' → ∃ vs', SqL G.K H' a vs' ∧ Reps G H' μ' xs vs') : Walks G (L2.Ite G.K a) (enumFrom 0 xs) [src] H μ := by
  refine ⟨fun H' μ' S' st r hs i d hd => ?_, fun H' μ' S' st r hs => ?_⟩
  · obtain ⟨vs, h1, h2⟩ := h H' μ' S' st r (hs src (List.mem_singleton.mpr rfl))
    obtain ⟨y, e0, rfl⟩ := enumFrom_get _ _ _ _ hd
    obtain ⟨v, e1, e2⟩ := h2.getOf e0
    refine ⟨⟨vs, v, h1, e1⟩, fun x H'' ⟨T, z, e, hT, e', hx⟩ => ?_⟩
    subst e e'
    have := hx vs h1
    rw [e1] at this
    cases this
    rw [Nat.zero_add]
    exact pair_new r hT (d1 := .int (i : Nat)) rfl e2
  · obtain ⟨vs, h1, h2⟩ := h H' μ' S' st r (hs src (List.mem_singleton.mpr rfl))
    exact ⟨vs, h1, by rw [enumFrom_len]; exact Nat.le_of_eq h2.length.symm⟩
theorem walks_et {xs : List D} {src : Src} {a : Addr} (h : ∀ H' μ' S', Step μ μ' H H' → Rel G H' μ' S' → srcOk src S' → ∃ vs', SqT G.K H' a vs' ∧ Reps G H' μ' xs vs') : Walks G (IteT G.K a) (enumFrom 0 xs) [src] H μ := by
  refine ⟨fun H' μ' S' st r hs i d hd => ?_, fun H' μ' S' st r hs => ?_⟩
  · obtain ⟨vs, h1, h2⟩ := h H' μ' S' st r (hs src (List.mem_singleton.mpr rfl))
    obtain ⟨y, e0, rfl⟩ := enumFrom_get _ _ _ _ hd
    obtain ⟨v, e1, e2⟩ := h2.getOf e0
    refine ⟨⟨vs, v, h1, e1⟩, fun x H'' ⟨T, z, e, hT, e', hx⟩ => ?_⟩
    subst e e'
    have := hx vs h1
    rw [e1] at this
    cases this
    rw [Nat.zero_add]
    exact pair_new r hT (d1 := .int (i : Nat)) rfl e2
  · obtain ⟨vs, h1, h2⟩ := h H' μ' S' st r (hs src (List.mem_singleton.mpr rfl))
    exact ⟨vs, h1, by rw [enumFrom_len]; exact Nat.le_of_eq h2.length.symm⟩
theorem zipD_get : ∀ (xs ys : List D) (i : Nat) (d : D), (zipD xs ys)[i]? = some d → ∃ x y, xs[i]? = some x ∧ ys[i]? = some y ∧ d = .tup [x, y]
  | [], _, _, _, h => by simp [zipD] at h
  | _ :: _, [], _, _, h => by simp [zipD] at h
  | x :: xs, y :: ys, 0, d, h => ⟨x, y, rfl, rfl, by
      have h : some (D.tup [x, y]) = some d := h
      cases h
      rfl⟩
  | x :: xs, y :: ys, i + 1, d, h => by
    have h : (zipD xs ys)[i]? = some d := h
    exact zipD_get xs ys i d h
theorem zipD_len : ∀ (xs ys : List D), (zipD xs ys).length = min xs.length ys.length
  | [], _ => by simp [zipD]
  | _ :: _, [] => by simp [zipD]
  | x :: xs, y :: ys => by
    show (zipD xs ys).length + 1 = _
    rw [zipD_len xs ys, List.length_cons, List.length_cons]
    omega
theorem walks_zl {xs ys : List D} {s1 s2 : Src} {a b : Addr} (h : ∀ H' μ' S', Step μ μ' H H' → Rel G H' μ' S' → srcOk s1 S' → ∃ vs', SqL G.K H' a vs' ∧ Reps G H' μ' xs vs')
    (k : ∀ H' μ' S', Step μ μ' H H' → Rel G H' μ' S' → srcOk s2 S' → ∃ vs', SqL G.K H' b vs' ∧ Reps G H' μ' ys vs') : Walks G (L2.Itz G.K a b) (zipD xs ys) [s1, s2] H μ := by
  refine ⟨fun H' μ' S' st r hs i d hd => ?_, fun H' μ' S' st r hs => ?_⟩
  · obtain ⟨vs, h1, h2⟩ := h H' μ' S' st r (hs s1 (by simp))
    obtain ⟨us, k1, k2⟩ := k H' μ' S' st r (hs s2 (by simp))
    obtain ⟨x, y, e0, f0, rfl⟩ := zipD_get _ _ _ _ hd
    obtain ⟨v, e1, e2⟩ := h2.getOf e0
    obtain ⟨u, f1, f2⟩ := k2.getOf f0
    refine ⟨⟨vs, us, v, u, h1, k1, e1, f1⟩, fun x H'' ⟨T, z, z', e, hT, e', hx, hy⟩ => ?_⟩
    subst e e'
    have q1 := hx vs h1
    rw [e1] at q1
    cases q1
    have q2 := hy us k1
    rw [f1] at q2
    cases q2
    exact pair_new r hT e2 f2
  · obtain ⟨vs, h1, h2⟩ := h H' μ' S' st r (hs s1 (by simp))
    obtain ⟨us, k1, k2⟩ := k H' μ' S' st r (hs s2 (by simp))
    refine ⟨vs, us, h1, k1, ?_⟩
    rw [zipD_len, h2.length, k2.length]
    omega
theorem walks_zt {xs ys : List D} {s1 s2 : Src} {a b : Addr} (h : ∀ H' μ' S', Step μ μ' H H' → Rel G H' μ' S' → srcOk s1 S' → ∃ vs', SqT G.K H' a vs' ∧ Reps G H' μ' xs vs')
    (k : ∀ H' μ' S', Step μ μ' H H' → Rel G H' μ' S' → srcOk s2 S' → ∃ vs', SqT G.K H' b vs' ∧ Reps G H' μ' ys vs') : Walks G (RZ.ItzT G.K a b) (zipD xs ys) [s1, s2] H μ := by
  refine ⟨fun H' μ' S' st r hs i d hd => ?_, fun H' μ' S' st r hs => ?_⟩
  · obtain ⟨vs, h1, h2⟩ := h H' μ' S' st r (hs s1 (by simp))
    obtain ⟨us, k1, k2⟩ := k H' μ' S' st r (hs s2 (by simp))
    obtain ⟨x, y, e0, f0, rfl⟩ := zipD_get _ _ _ _ hd
    obtain ⟨v, e1, e2⟩ := h2.getOf e0
    obtain ⟨u, f1, f2⟩ := k2.getOf f0
    refine ⟨⟨vs, us, v, u, h1, k1, e1, f1⟩, fun x H'' ⟨T, z, z', e, hT, e', hx, hy⟩ => ?_⟩
    subst e e'
    have q1 := hx vs h1
    rw [e1] at q1
    cases q1
    have q2 := hy us k1
    rw [f1] at q2
    cases q2
    exact pair_new r hT e2 f2
  · obtain ⟨vs, h1, h2⟩ := h H' μ' S' st r (hs s1 (by simp))
    obtain ⟨us, k1, k2⟩ := k H' μ' S' st r (hs s2 (by simp))
    refine ⟨vs, us, h1, k1, ?_⟩
    rw [zipD_len, h2.length, k2.length]
    omega
theorem rev_get {xs : List D} {i : Nat} {d : D} (h : xs.reverse[i]? = some d) : i < xs.length ∧ xs[xs.length - 1 - i]? = some d := by
  have hi : i < xs.length := by
    have := (List.getElem?_eq_some_iff.mp h).1
    rw [List.length_reverse] at this
    exact this
  rw [List.getElem?_reverse hi] at h
  exact ⟨hi, h⟩
theorem walks_rl {xs : List D} {src : Src} {a : Addr} {n : Nat} (hn : n = xs.length) (h : ∀ H' μ' S', Step μ μ' H H' → Rel G H' μ' S' → srcOk src S' → ∃ vs', SqL G.K H' a vs' ∧ Reps G H' μ' xs vs') : Walks G (L2.Itv G.K a n) xs.reverse [src] H μ := by
  subst hn
  refine ⟨fun H' μ' S' st r hs i d hd => ?_, fun H' μ' S' st r hs => ?_⟩
  · obtain ⟨vs, h1, h2⟩ := h H' μ' S' st r (hs src (List.mem_singleton.mpr rfl))
    obtain ⟨hi, e0⟩ := rev_get hd
    obtain ⟨v, e1, e2⟩ := h2.getOf e0
    refine ⟨⟨hi, vs, v, h1, e1⟩, fun x H'' ⟨e, hx⟩ => ?_⟩
    subst e
    have := hx vs h1
    rw [e1] at this
    cases this
    exact ⟨.refl, r, e2⟩
  · show xs.length ≤ xs.reverse.length
    rw [List.length_reverse]
    exact Nat.le_refl _
theorem walks_rt {xs : List D} {src : Src} {a : Addr} {n : Nat} (hn : n = xs.length) (h : ∀ H' μ' S', Step μ μ' H H' → Rel G H' μ' S' → srcOk src S' → ∃ vs', SqT G.K H' a vs' ∧ Reps G H' μ' xs vs') : Walks G (RT.ItvT G.K a n) xs.reverse [src] H μ := by
  subst hn
  refine ⟨fun H' μ' S' st r hs i d hd => ?_, fun H' μ' S' st r hs => ?_⟩
  · obtain ⟨vs, h1, h2⟩ := h H' μ' S' st r (hs src (List.mem_singleton.mpr rfl))
    obtain ⟨hi, e0⟩ := rev_get hd
    obtain ⟨v, e1, e2⟩ := h2.getOf e0
    refine ⟨⟨hi, vs, v, h1, e1⟩, fun x H'' ⟨e, hx⟩ => ?_⟩
    subst e
    have := hx vs h1
    rw [e1] at this
    cases this
    exact ⟨.refl, r, e2⟩
  · show xs.length ≤ xs.reverse.length
    rw [List.length_reverse]
    exact Nat.le_refl _
theorem walks_rng {lo hi : Int} : Walks G (L2.Itr lo (hi - lo).toNat) (rangeD lo hi) [] H μ := by
  refine ⟨fun H' μ' S' st r hs i d hd => ?_, fun H' μ' S' st r hs => ?_⟩
  · unfold rangeD at hd
    rw [List.getElem?_map] at hd
    cases q : (List.range (hi - lo).toNat)[i]? with
    | none => rw [q] at hd; cases hd
    | some j =>
      rw [q] at hd
      obtain ⟨h1, h2⟩ := List.getElem?_eq_some_iff.mp q
      rw [List.getElem_range] at h2
      subst h2
      rw [List.length_range] at h1
      cases hd
      refine ⟨h1, fun x H'' ⟨e, hx⟩ => ?_⟩
      subst e
      subst hx
      exact ⟨.refl, r, rfl⟩
  · show (hi - lo).toNat ≤ (rangeD lo hi).length
    unfold rangeD
    rw [List.length_map, List.length_range]
    exact Nat.le_refl _
end
end Py

namespace Py
open PySem PySem.Spec PyProof.Rows
open L2 (V HO Hp SqL SqT Rd upd upd_same upd_ne Cx Inv EP VK OpR RelV R2 CallR XK WX Vals TE PE TI PI PA TA It PT PG PGs TG TGs)
abbrev PW (G : Gd) : Hp → List Addr → (List D × List Src) → It → Prop := fun H μ p J => Walks G J p.1 p.2 H μ
noncomputable def itR (Γ : Gm) (it : E) (env : Env) (S : Sto) : R (List D × List Src) := (ev Γ it env S).bind fun w S1 => orBad (itemsOf w S1) S1
def cI (G : Gd) (Γ : Gm) (U : WX) (it : E) : TI := fun σ H R => ∃ μ S env, Rel G H μ S ∧ REnv G H μ env σ ∧ Aft G (PW G) H μ σ U R (itR Γ it env S)
theorem PI.weak {X : Cx} {t e : Expr} {w w' : TI} (h : PI X t e w) (i : ∀ σ H R, w' σ H R → w σ H R) : PI X t e w' := ⟨fun pins s σ H R I q => h.run pins s σ H R I (i _ _ _ q)⟩
section
variable {X : Cx} {G : Gd} {Γ : Gm} {U : WX} {nm : Nms} {N : List Str} {sc : Scope} {H H1 : Hp} {μ μ1 : List Addr} {S : Sto} {σ : L2.St} {Q Q1 : VK} {pos p1 p2 tpos : Pos}
/-- a plain sequence -/
theorem snd_iseq (o : XOk X U G Γ nm N sc) {e : E} {t x : Expr} (h : PE X x (cE G Γ U e)) : PI X t x (cI G Γ U e) := by
  refine PI.weak (pi_seq h) fun σ H R ⟨μ, S, env, r, re, h⟩ => ?_
  unfold itR at h
  refine ⟨μ, S, env, r, re, ?_⟩
  cases q : ev Γ e env S with
  | exc x S1 => rw [q] at h; exact h
  | bad => rw [q] at h; exact h
  | ok w S1 =>
    rw [q] at h
    intro v H1 μ1 st rl p
    have h : Aft G (PW G) H μ σ U R (orBad (itemsOf w S1) S1) := h
    have e1 : itemsOf w S1 = (seqOf S1 w).map fun xs => (xs, [srcOf S1 w]) := by
      cases w with
      | it xs src => exact p.elim
      | v d => 
        show (match seqOf S1 (.v d) with | some xs => some (xs, [srcOf S1 (.v d)]) | none => none) = _
        cases seqOf S1 (.v d) <;> rfl
      | f ys => rfl
    rw [e1] at h
    cases e2 : seqOf S1 w with
    | none => rw [e2] at h; exact h.elim
    | some xs =>
      rw [e2] at h
      obtain ⟨a, vs, rfl, hr, hh⟩ := held rl p.cur e2
      rw [o.eK]
      rcases hh with ⟨_, h1, h2⟩ | ⟨_, h1, h2⟩
      · exact ⟨a, vs, rfl, .inl ⟨h1, h _ H1 μ1 st rl (walks_l h2)⟩⟩
      · exact ⟨a, vs, rfl, .inr ⟨h1, h _ H1 μ1 st rl (walks_t h2)⟩⟩

theorem _root_.Py.R.bind_eq {α β : Type} {r : Py.R α} {k : α → Sto → Py.R β} {b : β} {S' : Sto} (h : r.bind k = .ok b S') : ∃ a S, r = .ok a S ∧ k a S = .ok b S' := by
  cases r with
  | ok a S => exact ⟨a, S, rfl, h⟩
  | exc x S => cases h
  | bad => cases h
theorem evs_len : ∀ {es : List E} {env : Env} {S : Sto} {ds : List D} {S1 : Sto}, evs Γ es env S = .ok ds S1 → ds.length = es.length
  | [], _, S, ds, S1, h => by
    have h : (Py.R.ok [] S : Py.R (List D)) = .ok ds S1 := h
    cases h
    rfl
  | e :: es, env, S, ds, S1, h => by
    have h : ((ev Γ e env S).bind fun w S1 => (alloc w S1).bind fun d S2 => (evs Γ es env S2).bind fun ds S3 => .ok (d :: ds) S3) = .ok ds S1 := h
    obtain ⟨w, T1, _, h⟩ := Py.R.bind_eq h
    obtain ⟨d, T2, _, h⟩ := Py.R.bind_eq h
    obtain ⟨ds', T3, e3, h⟩ := Py.R.bind_eq h
    cases h
    rw [List.length_cons, List.length_cons, evs_len e3]
/-- a range, its bounds known -/
theorem rng_go {es : List E} {env : Env} {RR : It → Hp → Prop} (r : Rel G H μ S) (h : Aft G (PW G) H μ σ U RR (itR Γ (.rng es) env S)) :
    Aft G (Reps G) H μ σ U (fun vs H1 => (es.length = 1 ∧ ∃ j : Int, vs = [.int j] ∧ -(2 ^ 62) ≤ j ∧ j < 2 ^ 62 ∧ RR (L2.Itr 0 j.toNat) H1) ∨ (es.length = 2 ∧ ∃ i j : Int, vs = [.int i, .int j] ∧ (-(2 ^ 62) ≤ i ∧ i < 2 ^ 62 ∧ -(2 ^ 62) ≤ j ∧ j < 2 ^ 62) ∧ RR (L2.Itr i (j - i).toNat) H1)) (evs Γ es env S) := by
  have h : Aft G (PW G) H μ σ U RR (((evs Γ es env S).bind fun ds S1 => (orBad (rngW ds) S1).bind fun xs S2 => .ok (W.it xs []) S2).bind fun w S1 => orBad (itemsOf w S1) S1) := h
  cases q : evs Γ es env S with
  | exc x S1 => rw [q] at h; exact h
  | bad => rw [q] at h; exact h
  | ok ds S1 =>
    rw [q] at h
    intro vs H1 μ1 st rl p
    have hl := evs_len q
    have h : Aft G (PW G) H μ σ U RR (((orBad (rngW ds) S1).bind fun xs S2 => .ok (W.it xs []) S2).bind fun w S1 => orBad (itemsOf w S1) S1) := h
    cases e1 : rngW ds with
    | none => rw [e1] at h; exact h.elim
    | some xs =>
      rw [e1] at h
      have h1 : Aft G (PW G) H μ σ U RR (.ok (xs, []) S1) := h
      unfold rngW at e1
      split at e1
      · rename_i k
        split at e1
        · rename_i hs
          cases e1
          obtain ⟨v, vs', rfl, q1, q2⟩ := p
          have q2 : vs' = [] := q2
          subst q2
          cases (show v = .int k from q1)
          unfold small at hs
          have hs := of_decide_eq_true hs
          refine .inl ⟨hl.symm, k, rfl, by omega, by omega, h1 _ H1 μ1 st rl ?_⟩
          have w := walks_rng (G := G) (H := H1) (μ := μ1) (lo := 0) (hi := k)
          rw [Int.sub_zero] at w
          exact w
        · cases e1
      · rename_i a b
        split at e1
        · rename_i hs
          cases e1
          obtain ⟨v, vs', rfl, q1, q2⟩ := p
          obtain ⟨v2, vs2, rfl, q3, q4⟩ := q2
          have q4 : vs2 = [] := q4
          subst q4
          cases (show v = .int a from q1)
          cases (show v2 = .int b from q3)
          unfold small at hs
          rw [Bool.and_eq_true] at hs
          have hs1 := of_decide_eq_true hs.1
          have hs2 := of_decide_eq_true hs.2
          exact .inr ⟨hl.symm, a, b, rfl, ⟨by omega, by omega, by omega, by omega⟩, h1 _ H1 μ1 st rl walks_rng⟩
        · cases e1
      · cases e1
theorem Aft.imp {α β : Type} {P : Hp → List Addr → α → β → Prop} {Q Q' : β → Hp → Prop} {r : Py.R α} (h : Aft G P H μ σ U Q r) (i : ∀ b H', Q b H' → Q' b H') : Aft G P H μ σ U Q' r := by
  cases r with
  | ok a S1 => exact fun b H' μ' st rl p => i b H' (h b H' μ' st rl p)
  | exc x S1 => exact h
  | bad => exact h
theorem snd_rng1 (o : XOk X U G Γ nm N sc) {e : E} {n : Str} {t y : Expr} (hn : ("range" : Str) = n) (hg : gloB sc n = true) (ha : PA X [y] (cEs G Γ U [e])) (hy : plainX y = true) : PI X t (.Call (.Name n p1) [y] [] pos) (cI G Γ U (.rng [e])) := by
  subst hn
  refine PI.weak (L2.pi_range1 (o.gl hg) (o.blt _ (by decide +kernel)) ha (star_cons hy)) fun σ H RR ⟨μ, S, env, r, re, h⟩ => ?_
  refine ⟨μ, S, env, r, re, (rng_go r h).imp fun vs H1 q => ?_⟩
  rcases q with ⟨_, q⟩ | ⟨q, _⟩
  · exact q
  · cases q
theorem snd_rng2 (o : XOk X U G Γ nm N sc) {e e2 : E} {n : Str} {t y z : Expr} (hn : ("range" : Str) = n) (hg : gloB sc n = true) (ha : PA X [y, z] (cEs G Γ U [e, e2])) (hy : plainX y = true) (hz : plainX z = true) : PI X t (.Call (.Name n p1) [y, z] [] pos) (cI G Γ U (.rng [e, e2])) := by
  subst hn
  refine PI.weak (L2.pi_range2 (o.gl hg) (o.blt _ (by decide +kernel)) ha (by rw [star_cons hy, star_cons hz]; rfl) (star_cons hz)) fun σ H RR ⟨μ, S, env, r, re, h⟩ => ?_
  refine ⟨μ, S, env, r, re, (rng_go r h).imp fun vs H1 q => ?_⟩
  rcases q with ⟨q, _⟩ | ⟨_, q⟩
  · cases q
  · exact q
theorem snd_enum (o : XOk X U G Γ nm N sc) {e : E} {n : Str} {y : Expr} {elts : List Expr} {kk : Nat} (hn : ("enumerate" : Str) = n) (hg : gloB sc n = true) (he : PE X y (cE G Γ U e)) (hy : plainX y = true) : PI X (.Tuple elts kk tpos) (.Call (.Name n p1) [y] [] pos) (cI G Γ U (.enum e)) := by
  subst hn
  refine PI.weak (pi_enumA (o.gl hg) (o.blt _ (by decide +kernel)) (snd_pa1 he hy) (star_cons hy)) fun σ H RR ⟨μ, S, env, r, re, h⟩ => ?_
  have h : Aft G (PW G) H μ σ U RR (((ev Γ e env S).bind fun w S1 => (orBad (seqOf S1 w) S1).bind fun xs S2 => .ok (W.it (enumFrom 0 xs) [srcOf S1 w]) S2).bind fun w S1 => orBad (itemsOf w S1) S1) := h
  rw [Py.R.bind_assoc] at h
  refine ⟨μ, S, env, r, re, h.bind fun w S1 v H1 μ1 st rl p h1 => ?_⟩
  rw [Py.R.bind_assoc] at h1
  obtain ⟨xs, e1, h1⟩ := aft_orBad h1
  have h1 : Aft G (PW G) H μ σ U RR (.ok (enumFrom 0 xs, [srcOf S1 w]) S1) := h1
  obtain ⟨a, vs, rfl, hr, hh⟩ := held rl p.cur e1
  rw [o.eK]
  rcases hh with ⟨_, q1, q2⟩ | ⟨_, q1, q2⟩
  · exact ⟨a, vs, rfl, .inl ⟨q1, h1 _ H1 μ1 st rl (walks_el q2)⟩⟩
  · exact ⟨a, vs, rfl, .inr ⟨q1, h1 _ H1 μ1 st rl (walks_et q2)⟩⟩
theorem snd_rev (o : XOk X U G Γ nm N sc) {e : E} {n : Str} {t y : Expr} (hn : ("reversed" : Str) = n) (hg : gloB sc n = true) (he : PE X y (cE G Γ U e)) (hy : plainX y = true) : PI X t (.Call (.Name n p1) [y] [] pos) (cI G Γ U (.rev e)) := by
  subst hn
  refine PI.weak (RT.pi_revA (o.gl hg) (o.blt _ (by decide +kernel)) he (star_cons hy)) fun σ H RR ⟨μ, S, env, r, re, h⟩ => ?_
  have h : Aft G (PW G) H μ σ U RR (((ev Γ e env S).bind fun w S1 => (orBad (seqOf S1 w) S1).bind fun xs S2 => .ok (W.it xs.reverse [srcOf S1 w]) S2).bind fun w S1 => orBad (itemsOf w S1) S1) := h
  rw [Py.R.bind_assoc] at h
  refine ⟨μ, S, env, r, re, h.bind fun w S1 v H1 μ1 st rl p h1 => ?_⟩
  rw [Py.R.bind_assoc] at h1
  obtain ⟨xs, e1, h1⟩ := aft_orBad h1
  have h1 : Aft G (PW G) H μ σ U RR (.ok (xs.reverse, [srcOf S1 w]) S1) := h1
  obtain ⟨a, vs', rfl, hr, hh⟩ := held rl p.cur e1
  have hl' := hr.length.symm
  rw [o.eK]
  rcases hh with ⟨_, q1, q2⟩ | ⟨_, q1, q2⟩
  · exact ⟨a, vs', rfl, .inl ⟨q1, h1 _ H1 μ1 st rl (walks_rl hl' q2)⟩⟩
  · exact ⟨a, vs', rfl, .inr ⟨q1, h1 _ H1 μ1 st rl (walks_rt hl' q2)⟩⟩
theorem snd_zip (o : XOk X U G Γ nm N sc) {e e2 : E} {n : Str} {y z : Expr} {elts : List Expr} {kk : Nat} (hn : ("zip" : Str) = n) (hg : gloB sc n = true) (he : PE X y (cE G Γ U e)) (he2 : PE X z (cE G Γ U e2)) (hy : plainX y = true) (hz : plainX z = true) :
    PI X (.Tuple elts kk tpos) (.Call (.Name n p1) [y, z] [] pos) (cI G Γ U (.zip e e2)) := by
  subst hn
  refine PI.weak (RZ.pi_zipA (o.gl hg) (o.blt _ (by decide +kernel)) (L2.pa_cons he (L2.pa_cons he2 L2.pa_nil (star_cons hz)) (star_cons hy)) (star_cons hy) (notAny_star (by simp [hz]))) fun σ H RR ⟨μ, S, env, r, re, h⟩ => ?_
  have h : Aft G (PW G) H μ σ U RR (((ev Γ e env S).bind fun x S1 => (ev Γ e2 env S1).bind fun y S2 => (orBad (seqOf S2 x) S2).bind fun xs S3 => (orBad (seqOf S3 y) S3).bind fun ys S4 => if isTupW x = isTupW y then .ok (W.it (zipD xs ys) [srcOf S2 x, srcOf S2 y]) S4 else .bad).bind fun w S1 => orBad (itemsOf w S1) S1) := h
  rw [Py.R.bind_assoc] at h
  refine ⟨μ, S, env, r, re, h.bind fun w S1 v H1 μ1 st rl p h1 => ?_⟩
  rw [Py.R.bind_assoc] at h1
  refine ⟨μ1, S1, env, rl, re.mono r st, ?_⟩
  have h1 := h1.shiftP (P1 := PW G) st (fun _ _ _ _ p => p)
  refine h1.bind fun w2 S2 v2 H2 μ2 st2 rl2 p2 h2 => ?_
  rw [Py.R.bind_assoc] at h2
  obtain ⟨xs, e1, h2⟩ := aft_orBad h2
  rw [Py.R.bind_assoc] at h2
  obtain ⟨ys, e2, h2⟩ := aft_orBad h2
  have pc := p.cur.mono rl st2
  obtain ⟨a, vs, rfl, hr, hh⟩ := held rl2 pc e1
  obtain ⟨b, us, rfl, kr, kk⟩ := held rl2 p2.cur e2
  by_cases ht : isTupW w = isTupW w2
  · rw [if_pos ht] at h2
    have h2 : Aft G (PW G) H1 μ1 σ U RR (.ok (zipD xs ys, [srcOf S2 w, srcOf S2 w2]) S2) := h2
    rw [o.eK]
    refine ⟨a, b, vs, us, rfl, ?_⟩
    rcases hh with ⟨t1, q1, q2⟩ | ⟨t1, q1, q2⟩
    · rcases kk with ⟨t2, k1, k2⟩ | ⟨t2, k1, k2⟩
      · exact .inl ⟨q1, k1, h2 _ H2 μ2 st2 rl2 (walks_zl q2 k2)⟩
      · rw [t1, t2] at ht; cases ht
    · rcases kk with ⟨t2, k1, k2⟩ | ⟨t2, k1, k2⟩
      · rw [t1, t2] at ht; cases ht
      · exact .inr ⟨q1, k1, h2 _ H2 μ2 st2 rl2 (walks_zt q2 k2)⟩
  · rw [if_neg ht] at h2
    exact h2.elim
end
end Py

namespace Py
open PySem PySem.Spec PyProof.Rows
open L2 (V HO Hp SqL SqT Rd upd upd_same upd_ne Cx Inv EP VK OpR RelV R2 CallR XK WX Vals TE PE TI PI PA TA It PT PG PGs TG TGs)
section
variable {X : Cx} {G : Gd} {Γ : Gm} {U : WX} {nm : Nms} {N : List Str} {sc : Scope} {H H1 H' : Hp} {μ μ1 : List Addr} {S : Sto} {σ : L2.St} {Q Q1 : VK} {pos p1 p2 tpos : Pos}

mutual
theorem Rep.mapH (ht : ∀ a vs, SqT G.K H a vs → SqT G.K H' a vs) (hc : ∀ a vs, ClL G.K H a vs → ClL G.K H' a vs) : ∀ {d : D} {v : V}, Rep G H μ d v → Rep G H' μ d v
  | .non, _, h => h
  | .bl _, _, h => h
  | .int _, _, h => h
  | .str _, _, h => h
  | .tup ds, v, h => by
    obtain ⟨a, vs, e, hs, hr⟩ := h
    exact ⟨a, vs, e, ht a vs hs, Reps.mapH ht hc hr⟩
  | .loc n, v, h => h
  | .fn _, _, h => h
  | .cl ds, v, h => by
    obtain ⟨a, vs, e, hs, hr⟩ := h
    exact ⟨a, vs, e, hc a vs hs, Reps.mapH ht hc hr⟩
theorem Reps.mapH (ht : ∀ a vs, SqT G.K H a vs → SqT G.K H' a vs) (hc : ∀ a vs, ClL G.K H a vs → ClL G.K H' a vs) : ∀ {ds : List D} {vs : List V}, Reps G H μ ds vs → Reps G H' μ ds vs
  | [], _, h => h
  | d :: ds, _, h => by
    obtain ⟨v, vs', e, h1, h2⟩ := h
    exact ⟨v, vs', e, Rep.mapH ht hc h1, Reps.mapH ht hc h2⟩
end
section
variable {D : Addr} {acc ys : List V}
theorem updL_t (hD : H D = some (.lst acc)) : ∀ a vs, SqT G.K H a vs → SqT G.K (upd H D (.lst ys)) a vs := fun a vs h => by
  have ne : ∀ o, H a = some o → o ≠ .lst acc → upd H D (.lst ys) a = some o := fun o e hn => by
    rw [upd_ne fun e' => hn ?_]
    · exact e
    · subst e'
      rw [hD] at e
      cases e
      rfl
  rcases h with (h | ⟨o, h⟩) | h
  · exact .inl (.inl (ne _ h fun z => nomatch z))
  · exact .inl (.inr ⟨o, ne _ h fun z => nomatch z⟩)
  · exact .inr h
theorem updL_c (hD : H D = some (.lst acc)) : ∀ a vs, ClL G.K H a vs → ClL G.K (upd H D (.lst ys)) a vs := fun a vs h => by
  rcases h with ⟨o, h⟩ | h
  · refine .inl ⟨o, ?_⟩
    rw [upd_ne fun e' => ?_]
    · exact h
    · subst e'
      rw [hD] at h
      cases h
  · exact .inr h
theorem Reps.updL {ds : List D'} {vs : List V} (hD : H D = some (.lst acc)) {ds : List Py.D} (h : Reps G H μ ds vs) : Reps G (upd H D (.lst ys)) μ ds vs := Reps.mapH (updL_t hD) (updL_c hD) h
theorem Rep.updL {d : Py.D} {v : V} (hD : H D = some (.lst acc)) (h : Rep G H μ d v) : Rep G (upd H D (.lst ys)) μ d v := Rep.mapH (updL_t hD) (updL_c hD) h
theorem Rel.updL (r : Rel G H μ S) (hD : H D = some (.lst acc)) (hn : D ∉ μ) : Rel G (upd H D (.lst ys)) μ S := by
  refine ⟨r.len, r.nd, fun n o a h1 h2 => ?_⟩
  have q := r.obj n o a h1 h2
  cases o with
  | lst xs =>
    obtain ⟨vs, h3, h4⟩ := q
    refine ⟨vs, ?_, Reps.mapH (updL_t hD) (updL_c hD) h4⟩
    rw [upd_ne fun e => hn (by rw [← e]; exact List.mem_of_getElem? h2)]
    exact h3
theorem Step.updN {H0 : Hp} {o : HO} (st : Step μ μ1 H0 H) (h0 : H0 D = none) : Step μ μ1 H0 (upd H D o) := by
  refine ⟨st.pre, fun a u e hm => ?_, fun a e => ?_⟩
  · rw [upd_ne (L2.ne_of_none e h0)]
    exact st.keep a u e hm
  · by_cases q : a = D
    · subst q
      exact h0
    · rw [upd_ne q] at e
      exact st.dom a e
end
def POpt (G : Gd) : Hp → List Addr → Option D → Option V → Prop := fun H μ o o' => match o, o' with
  | none, none => True
  | some d, some v => Rep G H μ d v
  | _, _ => False
theorem lim_size : lim < sizeLine := by decide
open Classical in
/-- the turns of a comprehension -/
theorem lc_go {src : List Src} {f : D → Sto → Py.R (Option D)} {xs : List D} {S0 S2 : Sto} {J : It} {g : TG} {tt : L2.TT} {te : TE} {vs : List Nat} {RR : VK} {H0 : Hp} {μ0 : List Addr}
    (wk : Walks G J xs src H0 μ0) (r0 : Rel G H0 μ0 S0)
    (hstep : ∀ H μ S d v o S1 (K : Option V → Hp → Prop), Step μ0 μ H0 H → Rel G H μ S → Rep G H μ d v → f d S = .ok o S1 → (∀ o' H' μ', Step μ μ' H H' → Rel G H' μ' S1 → POpt G H' μ' o o' → K o' H') →
      g v (L2.wipe σ vs) H fun σ2 H2 => L2.wipe σ2 vs = L2.wipe σ vs ∧ tt σ2 H2 fun b H3 => if b = true then te σ2 H3 fun y H4 => K (some y) H4 else K none H3)
    {ds : List D} (he : lcM src f xs S0 = .ok ds S2) (hl : ds.length ≤ lim)
    (hq : ∀ v H' μ', Step μ0 μ' H0 H' → Rel G H' μ' S2 → RepW G H0 H' μ' (.f ds) v → RR v H') :
    ∀ D, H0 D = none → ∃ W : Nat → Nat → Hp → Prop, (∃ m, W 0 m (upd H0 D (.lst []))) ∧ ∀ i m H, W i m H →
      (J.stop i H ∧ RR (.ref D) H) ∨ (J.go i H ∧ ∃ Nx : Hp → Prop, (∀ H', Nx H' → ∃ m', m' < m ∧ W (i + 1) m' H') ∧ ∀ x H', J.yld i H x H' → g x (L2.wipe σ vs) H' fun σ2 H2 => L2.wipe σ2 vs = L2.wipe σ vs ∧ tt σ2 H2 fun b H3 =>
        if b = true then te σ2 H3 fun y H4 => ∃ acc, H4 D = some (.lst acc) ∧ acc.length < sizeLine ∧ Nx (upd H4 D (.lst (acc ++ [y]))) else Nx H3) := by
  intro L hL
  refine ⟨fun i m H => m = xs.length - i ∧ i ≤ xs.length ∧ ∃ μ S da acc dd, Step μ0 μ H0 H ∧ Rel G H μ S ∧ L ∉ μ ∧ H L = some (.lst acc) ∧ Reps G H μ da acc ∧ lcM src f (xs.drop i) S = .ok dd S2 ∧ da ++ dd = ds,
    ⟨xs.length, rfl, Nat.zero_le _, μ0, S0, [], [], ds, .new hL, r0.new hL, r0.notin hL, upd_same, rfl, he, rfl⟩, ?_⟩
  rintro i m H ⟨rfl, hi, μ, S, da, acc, dd, st, rl, hLm, hLH, hacc, hM, hds⟩
  by_cases hlt : i < xs.length
  · rw [List.drop_eq_getElem_cons hlt] at hM
    have hM : (if ∀ s ∈ src, srcOk s S then (f xs[i] S).bind fun o S1 => (lcM src f (xs.drop (i + 1)) S1).bind fun ds S2 => .ok (o.toList ++ ds) S2 else .bad) = .ok dd S2 := hM
    by_cases hs : ∀ s ∈ src, srcOk s S
    · rw [if_pos hs] at hM
      obtain ⟨o, S1, e1, hM⟩ := Py.R.bind_eq hM
      obtain ⟨dd', S1', e2, hM⟩ := Py.R.bind_eq hM
      cases hM
      obtain ⟨go, yld⟩ := wk.go H μ S st rl hs i xs[i] (List.getElem?_eq_getElem hlt)
      refine .inr ⟨go, fun H' => (fun i m H => m = xs.length - i ∧ i ≤ xs.length ∧ ∃ μ S da acc dd, Step μ0 μ H0 H ∧ Rel G H μ S ∧ L ∉ μ ∧ H L = some (.lst acc) ∧ Reps G H μ da acc ∧ lcM src f (xs.drop i) S = .ok dd S2 ∧ da ++ dd = ds) (i + 1) (xs.length - (i + 1)) H', fun H' p => ⟨_, by omega, p⟩, fun x H' y => ?_⟩
      obtain ⟨st1, rl1, rep⟩ := yld x H' y
      have hL' := st1.keep L _ hLH hLm
      refine hstep H' μ S xs[i] x o S1 (fun o' H4 => match o' with
        | some y => ∃ acc, H4 L = some (.lst acc) ∧ acc.length < sizeLine ∧ (fun i m H => m = xs.length - i ∧ i ≤ xs.length ∧ ∃ μ S da acc dd, Step μ0 μ H0 H ∧ Rel G H μ S ∧ L ∉ μ ∧ H L = some (.lst acc) ∧ Reps G H μ da acc ∧ lcM src f (xs.drop i) S = .ok dd S2 ∧ da ++ dd = ds) (i + 1) (xs.length - (i + 1)) (upd H4 L (.lst (acc ++ [y])))
        | none => (fun i m H => m = xs.length - i ∧ i ≤ xs.length ∧ ∃ μ S da acc dd, Step μ0 μ H0 H ∧ Rel G H μ S ∧ L ∉ μ ∧ H L = some (.lst acc) ∧ Reps G H μ da acc ∧ lcM src f (xs.drop i) S = .ok dd S2 ∧ da ++ dd = ds) (i + 1) (xs.length - (i + 1)) H4) (st.trans st1) rl1 rep e1 fun o' H4 μ4 st4 rl4 po => ?_
      have h4 := st4.keep L _ hL' hLm
      have m4 := st4.notmem hL' hLm
      have st04 := (st.trans st1).trans st4
      have acc4 := hacc.mono rl (st1.trans st4)
      cases o with
      | none =>
        cases o' with
        | some _ => exact po.elim
        | none => exact ⟨rfl, hlt, μ4, S1, da, acc, dd', st04, rl4, m4, h4, acc4, e2, hds⟩
      | some d =>
        cases o' with
        | none => exact po.elim
        | some y =>
          have hds : da ++ (d :: dd') = ds := hds
          have po : Rep G H4 μ4 d y := po
          refine ⟨acc, h4, ?_, rfl, hlt, μ4, S1, da ++ [d], acc ++ [y], dd', st04.updN hL, rl4.updL h4 m4, m4, upd_same, Reps.mapH (updL_t h4) (updL_c h4) (acc4.append ⟨y, [], rfl, po, rfl⟩), e2, by rw [List.append_assoc]; exact hds⟩
          rw [← acc4.length]
          have hlen : ds.length = da.length + (dd'.length + 1) := by rw [← hds, List.length_append, List.length_cons]
          have := lim_size
          omega
    · rw [if_neg hs] at hM
      cases hM
  · have e : i = xs.length := by omega
    subst e
    rw [List.drop_length] at hM
    have hM : (if ∀ s ∈ src, srcOk s S then .ok [] S else .bad : Py.R (List D)) = .ok dd S2 := hM
    by_cases hs : ∀ s ∈ src, srcOk s S
    · rw [if_pos hs] at hM
      cases hM
      rw [List.append_nil] at hds
      subst hds
      exact .inl ⟨wk.stop H μ _ st rl hs, hq _ H μ st rl ⟨L, acc, rfl, hL, hLm, hLH, hacc⟩⟩
    · rw [if_neg hs] at hM
      cases hM

theorem lwipe_get (vs : List Nat) (σ : L2.St) (j : Nat) (h : j ∉ vs) : (L2.wipe σ vs)[j]? = σ[j]? := by
  induction vs with
  | nil => rfl
  | cons v vs ih =>
    rw [List.mem_cons, not_or] at h
    show ((L2.wipe σ vs).set v none)[j]? = _
    rw [List.getElem?_set_ne fun e => h.1 e.symm, ih h.2]
theorem lwipe_in (vs : List Nat) (σ : L2.St) (j : Nat) (h : j ∈ vs) (hj : j < σ.length) : (L2.wipe σ vs)[j]? = some none := by
  induction vs with
  | nil => cases h
  | cons v vs ih =>
    show ((L2.wipe σ vs).set v none)[j]? = _
    by_cases e : v = j
    · subst e
      exact List.getElem?_set_self (by rw [L2.wipe_length]; exact hj)
    · rw [List.getElem?_set_ne e]
      rcases List.mem_cons.mp h with h | h
      · exact absurd h.symm e
      · exact ih h
theorem lwipe_eq {vs : List Nat} {σ τ : L2.St} (hl : σ.length = τ.length) (h : ∀ j, j ∉ vs → σ[j]? = τ[j]?) : L2.wipe σ vs = L2.wipe τ vs := by
  refine List.ext_getElem? fun j => ?_
  by_cases hj : j ∈ vs
  · by_cases hlt : j < σ.length
    · rw [lwipe_in vs σ j hj hlt, lwipe_in vs τ j hj (by rw [← hl]; exact hlt)]
    · rw [List.getElem?_eq_none (by rw [L2.wipe_length]; omega), List.getElem?_eq_none (by rw [L2.wipe_length]; omega)]
  · rw [lwipe_get vs σ j hj, lwipe_get vs τ j hj, h j hj]
theorem wipe_len (env : Env) : ∀ vs : List Nat, (wipe env vs).length = env.length
  | [] => rfl
  | v :: vs => by
    show ((wipe env vs).set v none).length = _
    rw [List.length_set, wipe_len env vs]
theorem wipe_some {env : Env} {i : Nat} {d : D} : ∀ {vs : List Nat}, (wipe env vs)[i]? = some (some d) → env[i]? = some (some d) ∧ i ∉ vs
  | [], h => ⟨h, by simp⟩
  | v :: vs, h => by
    have h : ((wipe env vs).set v none)[i]? = some (some d) := h
    by_cases hi : v = i
    · subst hi
      by_cases hv : v < (wipe env vs).length
      · rw [List.getElem?_set_self hv] at h; cases h
      · rw [List.getElem?_eq_none (by rw [List.length_set]; omega)] at h; cases h
    · rw [List.getElem?_set_ne hi] at h
      obtain ⟨h1, h2⟩ := wipe_some h
      exact ⟨h1, by rw [List.mem_cons, not_or]; exact ⟨fun e => hi e.symm, h2⟩⟩
theorem REnv.wipe {env : Env} (re : REnv G H μ env σ) (vs : List Nat) : REnv G H μ (Py.wipe env vs) (L2.wipe σ vs) := by
  refine ⟨by rw [wipe_len, L2.wipe_length, re.len], fun i d h => ?_⟩
  obtain ⟨h1, h2⟩ := wipe_some h
  rw [lwipe_get vs σ i h2]
  exact re.get i d h1
mutual
theorem bindTg_len {S : Sto} : ∀ {tg : Tg} {d : D} {env env' : Env}, bindTg S tg d env = some env' → env'.length = env.length
  | .name i, d, env, env', h => by
    have h : some (env.set i (some d)) = some env' := h
    cases h
    exact List.length_set ..
  | .tup ts, d, env, env', h => by
    have h : (match seqOf S (.v d) with | some ds => bindTgs S ts ds env | none => none) = some env' := h
    split at h
    · exact bindTgs_lenE h
    · cases h
theorem bindTgs_lenE {S : Sto} : ∀ {ts : List Tg} {ds : List D} {env env' : Env}, bindTgs S ts ds env = some env' → env'.length = env.length
  | [], [], env, env', h => by
    have h : some env = some env' := h
    cases h
    rfl
  | [], _ :: _, _, _, h => nomatch h
  | _ :: _, [], _, _, h => nomatch h
  | t :: ts, d :: ds, env, env', h => by
    have h : (bindTg S t d env).bind (fun env' => bindTgs S ts ds env') = some env' := h
    cases q : bindTg S t d env with
    | none => rw [q] at h; cases h
    | some e1 =>
      rw [q] at h
      have h : bindTgs S ts ds e1 = some env' := h
      rw [bindTgs_lenE h, bindTg_len q]
end
/-- .. so the block's start is the same at each turn -/
theorem wipe_turn {env env' : Env} {σ' : L2.St} {vs : List Nat} {tg : Tg} {d : D} {S : Sto} {H' : Hp} {μ' : List Addr} (hl : env.length = σ.length) (e : bindTg S tg d (wipe env vs) = some env') (re' : REnv G H' μ' env' σ') (hs : ∀ j, j ∉ tgNames tg → σ'[j]? = (L2.wipe σ vs)[j]?) (hv : ∀ j ∈ tgNames tg, j ∈ vs) :
    L2.wipe σ' vs = L2.wipe σ vs := by
  refine lwipe_eq (by rw [← re'.len, bindTg_len e, wipe_len, hl]) fun j hj => ?_
  rw [hs j fun q => hj (hv j q), lwipe_get vs σ j hj]

theorem XOk.blk (o : XOk X U G Γ nm N sc) {s : Shared} {Hs : Hp} {C : Addr} {cl : List (Str × Addr)} {fp : List Addr} {scope : Scope} : XOk (X.blk s Hs scope (compEnvC scope cl C X.env) fp) (fun _ _ _ _ => False) G Γ nm N (L2.relS scope sc) :=
  ⟨o.eK, o.eN, o.nd, by show L2.relS scope X.env.scope = _; rw [o.eS], o.calm, o.hu, L2.takes0, fun f n h => ⟨(o.call f n h).ex, (o.call f n h).mg, (o.call f n h).kp⟩, o.callv, o.glob, o.blt⟩
theorem stOk_blk {s : Shared} {Hs : Hp} {C : Addr} {cl : List (Str × Addr)} {fp : List Addr} {scope : Scope} {x : Str} (h : locB scope x = true) : StOk (X.blk s Hs scope (compEnvC scope cl C X.env) fp) x := by
  rcases locB_ok h with h | h
  · have : (L2.relS scope X.env.scope).names.lookup x = some .local := L2.lookup_relS_keep (by simp) h
    exact ⟨.inl this, .inr this⟩
  · have : (L2.relS scope X.env.scope).names.lookup x = some .cell := L2.lookup_relS_keep (by simp) h
    exact ⟨.inr this, .inl (by show (scope.names.lookup x == some .cell) = true; rw [h]; rfl)⟩
theorem itR_bind {β : Type} {it : E} {env : Env} {S : Sto} {k : List D × List Src → Sto → Py.R β} : ((ev Γ it env S).bind fun w0 S0 => (orBad (itemsOf w0 S0) S0).bind k) = (itR Γ it env S).bind k := by
  unfold itR
  rw [Py.R.bind_assoc]
abbrev U0 : WX := fun _ _ _ _ => False
theorem lc_weak {e : E} {own : List (Str × Nat)} {tg : Tg} {it : E} (hv : ∀ j ∈ tgNames tg, j ∈ own.map (·.2)) {σ : L2.St} {H : Hp} {Q : VK} (h : cE G Γ U (.lc e own tg it) σ H Q) :
    L2.tLc (cI G Γ U it) (cG G tg) L2.tYes (cE G Γ U0 e) (own.map (·.2)) σ H Q := by
  obtain ⟨μ, S, env, r, re, h⟩ := h
  have h : Aft G (RepW G H) H μ σ U Q ((ev Γ it env S).bind fun w0 S0 => (orBad (itemsOf w0 S0) S0).bind fun p S1 =>
      (lcM p.2 (fun x T => (orBad (bindTg T tg x (wipe env (own.map (·.2)))) T).bind fun env' T1 => (ev Γ e env' T1).bind fun w T2 => (alloc w T2).bind fun d T3 => .ok (some d) T3) p.1 S1).nox.bind fun ds S2 =>
        if ds.length ≤ lim then .ok (.f ds) S2 else .bad) := h
  rw [itR_bind] at h
  refine ⟨μ, S, env, r, re, h.bind fun p S1 J H1 μ1 st rl wk h1 => ?_⟩
  generalize hM : lcM p.2 (fun x T => (orBad (bindTg T tg x (wipe env (own.map (·.2)))) T).bind fun env' T1 => (ev Γ e env' T1).bind fun w T2 => (alloc w T2).bind fun d T3 => .ok (some d) T3) p.1 S1 = m at h1
  cases m with
  | exc x S2 => exact h1.elim
  | bad => exact h1.elim
  | ok ds S2 =>
    obtain ⟨hl, h2⟩ := aft_ite h1
    refine lc_go wk rl (fun H2 μ2 T d v oo T1 K st2 rl2 rep ef hK => ?_) hM hl fun v H' μ' st' rl' p' => h2 v H' μ' (st.trans st') rl' (p'.base st.dom)
    obtain ⟨env', T', e1, ef⟩ := Py.R.bind_eq ef
    obtain ⟨w, T2, e2, ef⟩ := Py.R.bind_eq ef
    obtain ⟨d', T3, e3, ef⟩ := Py.R.bind_eq ef
    cases ef
    cases q : bindTg T tg d (wipe env (own.map (·.2))) with
    | none => rw [q] at e1; cases e1
    | some env1 =>
      rw [q] at e1
      cases e1
      have re2 := (re.mono r (st.trans st2)).wipe (own.map (·.2))
      refine ⟨μ2, T, _, d, env', rl2, re2, rep, q, fun σ' re' hs => ⟨wipe_turn re.len q re' hs hv, ?_⟩⟩
      show (if true = true then cE G Γ U0 e σ' H2 (fun y H4 => K (some y) H4) else K none H2)
      rw [if_pos rfl]
      refine ⟨μ2, T, env', rl2, re', ?_⟩
      rw [e2]
      intro y H4 μ4 st4 rl4 p4
      obtain ⟨d2, S5, μ5, e5, st5, rl5, p5⟩ := rel_alloc st4 rl4 p4
      rw [e3] at e5
      cases e5
      exact hK (some y) H4 μ5 st5 rl5 p5
theorem snd_lc (o : XOk X U G Γ nm N sc) {e : E} {own : List (Str × Nat)} {tg : Tg} {it : E} {elt t i : Expr} {scope : Scope} (hi : PI X t i (cI G Γ U it)) (ht : mtTg N (locB scope) tg t = true) (hv : ∀ j ∈ tgNames tg, j ∈ own.map (·.2)) (hb : L2.blkC N sc scope own = true)
    (he : ∀ s H C cl fp, PE (X.blk s H scope (compEnvC scope cl C X.env) fp) elt (cE G Γ U0 e)) (hp : plainX i = true) : PE X (.ListComp elt [⟨t, i, [], 0⟩] scope pos) (cE G Γ U (.lc e own tg it)) := by
  exact PE.weak (L2.pe_lc o.calm (by rw [o.eN]; exact o.nd) hi (L2.blkOk_by (by rw [o.eN, o.eS]; exact hb)) (fun s H C cl fp => snd_tg (X := X.blk s H scope (compEnvC scope cl C X.env) fp) o.eK o.eN o.nd o.calm (locB scope) (fun x h => stOk_blk h) tg t ht) (fun _ _ _ _ _ => L2.pts_nil) he (foldX hp)) fun σ H Q h => lc_weak hv h
theorem ps_lc {y : Str} {py spos : Pos} {v : Nat} (o : XOk X U G Γ nm N sc) {e : E} {own : List (Str × Nat)} {tg : Tg} {it : E} {elt t i : Expr} {scope : Scope} (hy : N[v]? = some y) (hyl : sc.names.lookup y = some .local)
    (hsw : swapsWith (.ListComp elt [⟨t, i, [], 0⟩] scope pos) (some (.Name y py)) spos.line X.env = pure true) (hi : PI X t i (cI G Γ U it)) (ht : mtTg N (locB scope) tg t = true) (hv : ∀ j ∈ tgNames tg, j ∈ own.map (·.2)) (hb : L2.blkC N sc scope own = true)
    (he : ∀ s H C cl fp, PE (X.blk s H scope (compEnvC scope cl C X.env) fp) elt (cE G Γ U0 e)) (hp : plainX i = true) : L2.PS X (.Assign [.Name y py] (.ListComp elt [⟨t, i, [], 0⟩] scope pos) spos) (L2.tAsg (cE G Γ U (.lc e own tg it)) (L2.gName v)) :=
  ⟨fun pins s σ H D I h => (L2.ps_setLc o.calm (by rw [o.eN]; exact o.nd) (by rw [o.eN]; exact hy) (by rw [o.eS]; exact hyl) hsw hi (L2.blkOk_by (by rw [o.eN, o.eS]; exact hb)) (fun s H C cl fp => snd_tg (X := X.blk s H scope (compEnvC scope cl C X.env) fp) o.eK o.eN o.nd o.calm (locB scope) (fun x h => stOk_blk h) tg t ht) (fun _ _ _ _ _ => L2.pts_nil) he (foldX hp)).run pins s σ H D I (lc_weak hv h)⟩
theorem lcif_weak {e c : E} {own : List (Str × Nat)} {tg : Tg} {it : E} (hv : ∀ j ∈ tgNames tg, j ∈ own.map (·.2)) {σ : L2.St} {H : Hp} {Q : VK} (h : cE G Γ U (.lcif e own tg it c) σ H Q) :
    L2.tLc (cI G Γ U it) (cG G tg) (cT G Γ U0 c) (cE G Γ U0 e) (own.map (·.2)) σ H Q := by
  obtain ⟨μ, S, env, r, re, h⟩ := h
  have h : Aft G (RepW G H) H μ σ U Q ((ev Γ it env S).bind fun w0 S0 => (orBad (itemsOf w0 S0) S0).bind fun p S1 =>
      (lcM p.2 (fun x T => (orBad (bindTg T tg x (wipe env (own.map (·.2)))) T).bind fun env' T1 => (ev Γ c env' T1).bind fun b T2 => onB b ((ev Γ e env' T2).bind fun w T3 => (alloc w T3).bind fun d T4 => .ok (some d) T4) (.ok none T2)) p.1 S1).nox.bind fun ds S2 =>
        if ds.length ≤ lim then .ok (.f ds) S2 else .bad) := h
  rw [itR_bind] at h
  refine ⟨μ, S, env, r, re, h.bind fun p S1 J H1 μ1 st rl wk h1 => ?_⟩
  generalize hM : lcM p.2 (fun x T => (orBad (bindTg T tg x (wipe env (own.map (·.2)))) T).bind fun env' T1 => (ev Γ c env' T1).bind fun b T2 => onB b ((ev Γ e env' T2).bind fun w T3 => (alloc w T3).bind fun d T4 => .ok (some d) T4) (.ok none T2)) p.1 S1 = m at h1
  cases m with
  | exc x S2 => exact h1.elim
  | bad => exact h1.elim
  | ok ds S2 =>
    obtain ⟨hl, h2⟩ := aft_ite h1
    refine lc_go wk rl (fun H2 μ2 T d v oo T1 K st2 rl2 rep ef hK => ?_) hM hl fun v H' μ' st' rl' p' => h2 v H' μ' (st.trans st') rl' (p'.base st.dom)
    obtain ⟨env', T', e1, ef⟩ := Py.R.bind_eq ef
    obtain ⟨b, T2, e2, ef2⟩ := Py.R.bind_eq ef
    cases q : bindTg T tg d (wipe env (own.map (·.2))) with
    | none => rw [q] at e1; cases e1
    | some env1 =>
      rw [q] at e1
      cases e1
      have re2 := (re.mono r (st.trans st2)).wipe (own.map (·.2))
      refine ⟨μ2, T, _, d, env', rl2, re2, rep, q, fun σ' re' hs => ⟨wipe_turn re.len q re' hs hv, ?_⟩⟩
      by_cases hb : ∃ bb, b = .v (.bl bb)
      · obtain ⟨bb, rfl⟩ := hb
        refine ⟨μ2, T, env', rl2, re', ?_⟩
        rw [e2]
        intro b' H3 μ3 st3 rl3 eb
        have eb : bb = b' := eb
        subst eb
        cases bb with
        | true =>
          refine (if_pos rfl).mpr ⟨μ3, T2, env', rl3, re'.mono rl2 st3, ?_⟩
          have ef : ((ev Γ e env' T2).bind fun w T3 => (alloc w T3).bind fun d T4 => .ok (some d) T4) = .ok oo T1 := ef2
          obtain ⟨w, T3, e4, ef⟩ := Py.R.bind_eq ef
          obtain ⟨d', T4, e5, ef⟩ := Py.R.bind_eq ef
          cases ef
          rw [e4]
          intro y H4 μ4 st4 rl4 p4
          obtain ⟨d2, S5, μ5, e6, st5, rl5, p5⟩ := rel_alloc st4 rl4 p4
          rw [e5] at e6
          cases e6
          exact hK (some y) H4 μ5 (st3.trans st5) rl5 p5
        | false =>
          have ef : (.ok none T2 : Py.R (Option D)) = .ok oo T1 := ef2
          cases ef
          exact (if_neg Bool.false_ne_true).mpr (hK none H3 μ3 st3 rl3 trivial)
      · rw [bad_onB _ _ _ fun bb e => hb ⟨bb, e⟩] at ef2
        cases ef2
theorem snd_lcif (o : XOk X U G Γ nm N sc) {e c : E} {own : List (Str × Nat)} {tg : Tg} {it : E} {elt t i g : Expr} {scope : Scope} (hi : PI X t i (cI G Γ U it)) (ht : mtTg N (locB scope) tg t = true) (hv : ∀ j ∈ tgNames tg, j ∈ own.map (·.2)) (hb : L2.blkC N sc scope own = true)
    (he : ∀ s H C cl fp, PE (X.blk s H scope (compEnvC scope cl C X.env) fp) elt (cE G Γ U0 e)) (hc : ∀ s H C cl fp, PT (X.blk s H scope (compEnvC scope cl C X.env) fp) g (cT G Γ U0 c)) (hp : plainX i = true) :
    PE X (.ListComp elt [⟨t, i, [g], 0⟩] scope pos) (cE G Γ U (.lcif e own tg it c)) := by
  exact PE.weak (L2.pe_lc o.calm (by rw [o.eN]; exact o.nd) hi (L2.blkOk_by (by rw [o.eN, o.eS]; exact hb)) (fun s H C cl fp => snd_tg (X := X.blk s H scope (compEnvC scope cl C X.env) fp) o.eK o.eN o.nd o.calm (locB scope) (fun x h => stOk_blk h) tg t ht) (fun s H C cl fp => L2.pts_one (hc s H C cl fp)) he (foldX hp)) fun σ H Q h => lcif_weak hv h
theorem ps_lcif {y : Str} {py spos : Pos} {v : Nat} (o : XOk X U G Γ nm N sc) {e c : E} {own : List (Str × Nat)} {tg : Tg} {it : E} {elt t i g : Expr} {scope : Scope} (hy : N[v]? = some y) (hyl : sc.names.lookup y = some .local)
    (hsw : swapsWith (.ListComp elt [⟨t, i, [g], 0⟩] scope pos) (some (.Name y py)) spos.line X.env = pure true) (hi : PI X t i (cI G Γ U it)) (ht : mtTg N (locB scope) tg t = true) (hv : ∀ j ∈ tgNames tg, j ∈ own.map (·.2)) (hb : L2.blkC N sc scope own = true)
    (he : ∀ s H C cl fp, PE (X.blk s H scope (compEnvC scope cl C X.env) fp) elt (cE G Γ U0 e)) (hc : ∀ s H C cl fp, PT (X.blk s H scope (compEnvC scope cl C X.env) fp) g (cT G Γ U0 c)) (hp : plainX i = true) :
    L2.PS X (.Assign [.Name y py] (.ListComp elt [⟨t, i, [g], 0⟩] scope pos) spos) (L2.tAsg (cE G Γ U (.lcif e own tg it c)) (L2.gName v)) :=
  ⟨fun pins s σ H D I h => (L2.ps_setLc o.calm (by rw [o.eN]; exact o.nd) (by rw [o.eN]; exact hy) (by rw [o.eS]; exact hyl) hsw hi (L2.blkOk_by (by rw [o.eN, o.eS]; exact hb)) (fun s H C cl fp => snd_tg (X := X.blk s H scope (compEnvC scope cl C X.env) fp) o.eK o.eN o.nd o.calm (locB scope) (fun x h => stOk_blk h) tg t ht) (fun s H C cl fp => L2.pts_one (hc s H C cl fp)) he (foldX hp)).run pins s σ H D I (lcif_weak hv h)⟩
theorem sndT_ife {c a b : E} {t l r : Expr} (hc : PT X t (cT G Γ U c)) (ha : PT X l (cT G Γ U a)) (hb : PT X r (cT G Γ U b)) : PT X (.IfExp t l r pos) (cT G Γ U (.ife c a b)) := by
  refine ⟨fun pins s σ H Q I ⟨μ, S, env, r, re, h⟩ => ?_⟩
  have hq : cT G Γ U c σ H fun x H1 => if x = true then cT G Γ U a σ H1 Q else cT G Γ U b σ H1 Q := by
    refine oneT r re h (fun x S1 H1 μ1 r1 re1 h1 => ?_) fun w S1 hw => bad_onB _ _ _ hw
    cases x with
    | true => exact (if_pos rfl).mpr ⟨μ1, S1, env, r1, re1, h1⟩
    | false => exact (if_neg Bool.false_ne_true).mpr ⟨μ1, S1, env, r1, re1, h1⟩
  show wpAny _ X.A (do if ← isTrue t X.env (eval t X.env) then isTrue l X.env (eval l X.env) else isTrue _ X.env (eval _ X.env)) _ _ s
  refine wpAny_bind (L2.thn (hc.run pins s σ H _ I hq) fun x s1 ⟨H1, I1, q1⟩ => ?_)
  cases x with
  | true => exact ha.run pins s1 σ H1 Q I1 ((if_pos rfl).mp q1)
  | false => exact hb.run pins s1 σ H1 Q I1 ((if_neg Bool.false_ne_true).mp q1)
end
end Py
namespace Py
open PySem PySem.Spec PyProof.Rows
open L2 (V HO Hp SqL SqT Rd upd upd_same upd_ne Cx Inv EP VK OpR RelV R2 CallR XK WX Vals TE PE TI PI PA TA It PT PG PGs TG TGs)
section
variable {nm : Nms} {N : List Str} {G : Gd} {Γ : Gm}
variable (nm N G Γ) in
def SndE (e : E) : Prop := ∀ (X : Cx) (U : WX) (sc : Scope) (x : Expr), XOk X U G Γ nm N sc → mtE nm N false sc e x = true → PE X x (cE G Γ U e) ∧ PT X x (cT G Γ U e)
variable (nm N G Γ) in
def SndI (e : E) : Prop := ∀ (X : Cx) (U : WX) (sc : Scope) (t x : Expr), XOk X U G Γ nm N sc → mtE nm N true sc e x = true → (isTupX t || notEnum e) = true → PI X t x (cI G Γ U e)
variable (nm N G Γ) in
def SndA (es : List E) : Prop := ∀ (X : Cx) (U : WX) (sc : Scope) (xs : List Expr), XOk X U G Γ nm N sc → mtEs nm N sc es xs = true → PA X xs (cEs G Γ U es)
theorem sndI_of {e : E} (h : SndE nm N G Γ e) (hm : ∀ sc x, mtE nm N true sc e x = mtE nm N false sc e x) : SndE nm N G Γ e ∧ SndI nm N G Γ e :=
  ⟨h, fun X U sc t x o m _ => snd_iseq o (h X U sc x o (by rw [← hm]; exact m)).1⟩
theorem and2 {a b : Bool} (h : (a && b) = true) : a = true ∧ b = true := by
  rw [Bool.and_eq_true] at h
  exact h
theorem pe_pt {X : Cx} {U : WX} {e : E} {x : Expr} (h : PE X x (cE G Γ U e)) (he : ∀ whole, isTrue x X.env whole = (do let v ← whole; standAt x.pos; holding [v] (truthy v))) : PE X x (cE G Γ U e) ∧ PT X x (cT G Γ U e) := ⟨h, pt_of h he⟩
theorem mtEs_cons {sc : Scope} {e : E} {es : List E} {x : Expr} {xs : List Expr} (h : mtEs nm N sc (e :: es) (x :: xs) = true) : plainX x = true ∧ mtE nm N false sc e x = true ∧ mtEs nm N sc es xs = true := by
  have h : (plainX x && mtE nm N false sc e x && mtEs nm N sc es xs) = true := h
  obtain ⟨h1, h2⟩ := and2 h
  obtain ⟨h0, h1⟩ := and2 h1
  exact ⟨h0, h1, h2⟩
theorem mtEs_nilE {sc : Scope} {es : List E} (h : mtEs nm N sc es [] = true) : es = [] := by
  cases es with
  | nil => rfl
  | cons _ _ => cases h
theorem all_mem {own : List (Str × Nat)} {tg : Tg} (h : ((tgNames tg).all fun j => (own.map (·.2)).contains j) = true) : ∀ j ∈ tgNames tg, j ∈ own.map (·.2) := fun j hj => by
  have := List.all_eq_true.mp h j hj
  exact List.contains_iff_mem.mp this
theorem lastMarks_plain {o1 o2 : CmpOp} {m r : Expr} (hm : plainX m = true) (hr : plainX r = true) : lastMarks [o1, o2] [m, r] = false := by
  show _ = false
  unfold lastMarks
  unfold lastMarks
  exact nomarkX hr
mutual
theorem snd_e : ∀ e : E, SndE nm N G Γ e ∧ SndI nm N G Γ e
  | .int i => sndI_of (fun X U sc x o h => by
    have h : (match (generalizing := false) x with | .Constant (.int j) _ _ => decide (i = j) | _ => false) = true := h
    split at h
    · cases of_decide_eq_true h; exact pe_pt snd_int fun _ => rfl
    · cases h) fun _ _ => rfl
  | .bl b => sndI_of (fun X U sc x o h => by
    have h : (match (generalizing := false) x with | .Constant (.bool c) _ _ => b == c | _ => false) = true := h
    split at h
    · cases (eq_of_beq h); exact pe_pt snd_bl fun _ => rfl
    · cases h) fun _ _ => rfl
  | .non => sndI_of (fun X U sc x o h => by
    have h : (match (generalizing := false) x with | .Constant .none _ _ => true | _ => false) = true := h
    split at h
    · exact pe_pt snd_non fun _ => rfl
    · cases h) fun _ _ => rfl
  | .str s => sndI_of (fun X U sc x o h => by
    have h : (match (generalizing := false) x with | .Constant (.str t) _ _ => decide (s = t) | _ => false) = true := h
    split at h
    · cases of_decide_eq_true h; exact pe_pt snd_str fun _ => rfl
    · cases h) fun _ _ => rfl
  | .var i => sndI_of (fun X U sc x o h => by
    have h : (match (generalizing := false) x with | .Name n _ => decide (N[i]? = some n) && visB sc n && okName n | _ => false) = true := h
    split at h
    · obtain ⟨h, h3⟩ := and2 h
      obtain ⟨h1, h2⟩ := and2 h
      exact pe_pt (snd_var o (of_decide_eq_true h1) h2 h3) fun _ => rfl
    · cases h) fun _ _ => rfl
  | .glob i => sndI_of (fun X U sc x o h => by
    have h : (match (generalizing := false) x with | .Name n _ => decide (nm.gl i = some n) && gloB sc n && okName n | _ => false) = true := h
    split at h
    · obtain ⟨h, h3⟩ := and2 h
      obtain ⟨h1, h2⟩ := and2 h
      exact pe_pt (snd_glob o (of_decide_eq_true h1) h2 h3) fun _ => rfl
    · cases h) fun _ _ => rfl
  | .bin op a b => sndI_of (fun X U sc x o h => by
    have h : (match (generalizing := false) x with | .BinOp l o r _ => decide (op = o) && mtE nm N false sc a l && mtE nm N false sc b r | _ => false) = true := h
    split at h
    · obtain ⟨h, h3⟩ := and2 h
      obtain ⟨h1, h2⟩ := and2 h
      cases of_decide_eq_true h1
      exact pe_pt (snd_bin o ((snd_e a).1 X U sc _ o h2).1 ((snd_e b).1 X U sc _ o h3).1) fun _ => rfl
    · cases h) fun _ _ => rfl
  | .neg a => sndI_of (fun X U sc x o h => by
    have h : (match (generalizing := false) x with | .UnaryOp .USub r _ => mtE nm N false sc a r | _ => false) = true := h
    split at h
    · exact pe_pt (snd_neg ((snd_e a).1 X U sc _ o h).1) fun _ => rfl
    · cases h) fun _ _ => rfl
  | .not a => sndI_of (fun X U sc x o h => by
    have h : (match (generalizing := false) x with | .UnaryOp .Not r _ => mtE nm N false sc a r | _ => false) = true := h
    split at h
    · have i := (snd_e a).1 X U sc _ o h
      exact ⟨snd_not i.1, sndT_not i.2⟩
    · cases h) fun _ _ => rfl
  | .cmp op a b => sndI_of (fun X U sc x o h => by
    have h : (match (generalizing := false) x with | .Compare l [o] [r] _ => decide (op = o) && mtE nm N false sc a l && mtE nm N false sc b r && plainX r | _ => false) = true := h
    split at h
    · obtain ⟨h, h4⟩ := and2 h
      obtain ⟨h, h3⟩ := and2 h
      obtain ⟨h1, h2⟩ := and2 h
      cases of_decide_eq_true h1
      have i := ((snd_e a).1 X U sc _ o h2).1
      have j := ((snd_e b).1 X U sc _ o h3).1
      exact ⟨snd_cmp o i j h4, sndT_cmp o i j h4⟩
    · cases h) fun _ _ => rfl
  | .chain o1 o2 a b c => sndI_of (fun X U sc x o h => by
    have h : (match (generalizing := false) x with | .Compare l [p1, p2] [m, r] _ => decide (o1 = p1) && decide (o2 = p2) && mtE nm N false sc a l && mtE nm N false sc b m && mtE nm N false sc c r && plainX m && plainX r | _ => false) = true := h
    split at h
    · obtain ⟨h, h7⟩ := and2 h
      obtain ⟨h, h6⟩ := and2 h
      obtain ⟨h, h5⟩ := and2 h
      obtain ⟨h, h4⟩ := and2 h
      obtain ⟨h, h3⟩ := and2 h
      obtain ⟨h1, h2⟩ := and2 h
      cases of_decide_eq_true h1
      cases of_decide_eq_true h2
      have i := ((snd_e a).1 X U sc _ o h3).1
      have j := ((snd_e b).1 X U sc _ o h4).1
      have k := ((snd_e c).1 X U sc _ o h5).1
      exact ⟨snd_chain o i j k (lastMarks_plain h6 h7), sndT_chain o i j k (lastMarks_plain h6 h7)⟩
    · cases h) fun _ _ => rfl
  | .and a b => sndI_of (fun X U sc x o h => by
    have h : (match (generalizing := false) x with
      | .BoolOp .And (l :: m :: r) pos => mtE nm N false sc a l && (match (generalizing := false) r with
        | [] => mtE nm N false sc b m
        | _ => mtE nm N false sc b (.BoolOp .And (m :: r) pos))
      | _ => false) = true := h
    split at h
    · obtain ⟨h1, h2⟩ := and2 h
      have i := (snd_e a).1 X U sc _ o h1
      split at h2
      · have j := (snd_e b).1 X U sc _ o h2
        exact ⟨snd_and i.1 (L2.pe_one j.1), sndT_and i.2 (L2.pw_and1 j.2)⟩
      · have j := (snd_e b).1 X U sc _ o h2
        exact ⟨snd_and i.1 j.1, sndT_and i.2 ⟨fun whole pins s σ H Q I q => j.2.run pins s σ H Q I q⟩⟩
    · cases h) fun _ _ => rfl
  | .or a b => sndI_of (fun X U sc x o h => by
    have h : (match (generalizing := false) x with
      | .BoolOp .Or (l :: m :: r) pos => mtE nm N false sc a l && (match (generalizing := false) r with
        | [] => mtE nm N false sc b m
        | _ => mtE nm N false sc b (.BoolOp .Or (m :: r) pos))
      | _ => false) = true := h
    split at h
    · obtain ⟨h1, h2⟩ := and2 h
      have i := (snd_e a).1 X U sc _ o h1
      split at h2
      · have j := (snd_e b).1 X U sc _ o h2
        exact ⟨snd_or i.1 (L2.pe_one j.1), sndT_or i.2 (L2.pw_or1 j.2)⟩
      · have j := (snd_e b).1 X U sc _ o h2
        exact ⟨snd_or i.1 j.1, sndT_or i.2 ⟨fun whole pins s σ H Q I q => j.2.run pins s σ H Q I q⟩⟩
    · cases h) fun _ _ => rfl
  | .ife c a b => sndI_of (fun X U sc x o h => by
    have h : (match (generalizing := false) x with | .IfExp t l r _ => mtE nm N false sc c t && mtE nm N false sc a l && mtE nm N false sc b r | _ => false) = true := h
    split at h
    · obtain ⟨h, h3⟩ := and2 h
      obtain ⟨h1, h2⟩ := and2 h
      have i := (snd_e c).1 X U sc _ o h1
      have j := (snd_e a).1 X U sc _ o h2
      have k := (snd_e b).1 X U sc _ o h3
      exact ⟨snd_ife i.2 j.1 k.1, sndT_ife i.2 j.2 k.2⟩
    · cases h) fun _ _ => rfl
  | .tup es => sndI_of (fun X U sc x o h => by
    have h : (match (generalizing := false) x with | .Tuple xs _ _ => mtEs nm N sc es xs | _ => false) = true := h
    split at h
    · exact pe_pt (snd_tup (snd_es es X U sc _ o h)) fun _ => rfl
    · cases h) fun _ _ => rfl
  | .lst es => sndI_of (fun X U sc x o h => by
    have h : (match (generalizing := false) x with | .List xs _ => mtEs nm N sc es xs | _ => false) = true := h
    split at h
    · exact pe_pt (snd_lst (snd_es es X U sc _ o h)) fun _ => rfl
    · cases h) fun _ _ => rfl
  | .ix a b => sndI_of (fun X U sc x o h => by
    have h : (match (generalizing := false) x with | .Subscript l r _ => mtE nm N false sc a l && mtE nm N false sc b r && plainX r | _ => false) = true := h
    split at h
    · obtain ⟨h, h3⟩ := and2 h
      obtain ⟨h1, h2⟩ := and2 h
      exact pe_pt (snd_ix o ((snd_e a).1 X U sc _ o h1).1 ((snd_e b).1 X U sc _ o h2).1 h3) fun _ => rfl
    · cases h) fun _ _ => rfl
  | .sl a lo hi => sndI_of (fun X U sc x o h => by
    have h : (match (generalizing := false) x with
      | .Subscript l (.Slice l1 h1 none _) _ => mtE nm N false sc a l && (match (generalizing := false) l1 with
        | none => (match (generalizing := false) lo with | .omit => true | _ => false)
        | some y => mtE nm N false sc lo y) && (match (generalizing := false) h1 with
        | none => (match (generalizing := false) hi with | .omit => true | _ => false)
        | some y => mtE nm N false sc hi y)
      | _ => false) = true := h
    split at h
    · rename_i l l1 h1 p3 p4 _
      obtain ⟨h, q3⟩ := and2 h
      obtain ⟨q1, q2⟩ := and2 h
      have po : ∀ (y : Option Expr) (e : E), (∀ z, y = some z → PE X z (cE G Γ U e)) → (match (generalizing := false) y with
        | none => (match (generalizing := false) e with | .omit => true | _ => false)
        | some z => mtE nm N false sc e z) = true → PartOk X G Γ U y e := by
        intro y e hz hy
        cases y with
        | none =>
          cases e with
          | «omit» => exact .no
          | _ => cases hy
        | some z => exact .yes (hz z rfl)
      exact pe_pt (snd_sl o ((snd_e a).1 X U sc _ o q1).1 (po l1 lo (fun z ez => by subst ez; exact ((snd_e lo).1 X U sc _ o q2).1) q2) (po h1 hi (fun z ez => by subst ez; exact ((snd_e hi).1 X U sc _ o q3).1) q3)) fun _ => rfl
    · cases h) fun _ _ => rfl
  | .omit => sndI_of (fun X U sc x o h => by cases h) fun _ _ => rfl
  | .slr a => sndI_of (fun X U sc x o h => by
    have h : (match (generalizing := false) x with
      | .Subscript l (.Slice none none (some (.UnaryOp .USub (.Constant (.int 1) _ _) _)) _) _ => mtE nm N false sc a l
      | _ => false) = true := h
    split at h
    · rename_i q1 q2 q3 q4 _
      exact pe_pt (snd_slr (p4 := q4) o ((snd_e a).1 X U sc _ o h).1) fun _ => rfl
    · cases h) fun _ _ => rfl
  | .call f es => sndI_of (fun X U sc x o h => by
    have h : (match (generalizing := false) x with
      | .Call (.Name n _) (y :: ys) [] _ => decide (nm.fn f = some n) && gloB sc n && okName n && mtEs nm N sc es (y :: ys)
      | _ => false) = true := h
    split at h
    · obtain ⟨h, h4⟩ := and2 h
      obtain ⟨h, h3⟩ := and2 h
      obtain ⟨h1, h2⟩ := and2 h
      exact pe_pt (snd_call o (of_decide_eq_true h1) h2 h3 (snd_es es X U sc _ o h4) (mtEs_plain h4)) fun _ => rfl
    · cases h) fun _ _ => rfl
  | .callv i es => sndI_of (fun X U sc x o h => by
    have h : (match (generalizing := false) x with
      | .Call (.Name n _) (y :: ys) [] _ => decide (N[i]? = some n) && visB sc n && okName n && mtEs nm N sc es (y :: ys)
      | _ => false) = true := h
    split at h
    · obtain ⟨h, h4⟩ := and2 h
      obtain ⟨h, h3⟩ := and2 h
      obtain ⟨h1, h2⟩ := and2 h
      exact pe_pt (snd_callv o (of_decide_eq_true h1) h2 h3 (snd_es es X U sc _ o h4) (mtEs_plain h4)) fun _ => rfl
    · cases h) fun _ _ => rfl
  | .b1 f a => sndI_of (fun X U sc x o h => by
    have h : (match (generalizing := false) x with
      | .Call (.Name n _) [y] [] _ => decide (f.nm = n) && gloB sc n && mtE nm N false sc a y && plainX y
      | _ => false) = true := h
    split at h
    · obtain ⟨h, h4⟩ := and2 h
      obtain ⟨h, h3⟩ := and2 h
      obtain ⟨h1, h2⟩ := and2 h
      exact pe_pt (snd_b1 o (of_decide_eq_true h1) h2 ((snd_e a).1 X U sc _ o h3).1 h4) fun _ => rfl
    · cases h) fun _ _ => rfl
  | .b2 f a b => sndI_of (fun X U sc x o h => by
    have h : (match (generalizing := false) x with
      | .Call (.Name n _) [y, z] [] _ => decide (f.nm = n) && gloB sc n && mtE nm N false sc a y && mtE nm N false sc b z && plainX y && plainX z
      | _ => false) = true := h
    split at h
    · obtain ⟨h, h6⟩ := and2 h
      obtain ⟨h, h5⟩ := and2 h
      obtain ⟨h, h4⟩ := and2 h
      obtain ⟨h, h3⟩ := and2 h
      obtain ⟨h1, h2⟩ := and2 h
      exact pe_pt (snd_b2 o (of_decide_eq_true h1) h2 ((snd_e a).1 X U sc _ o h3).1 ((snd_e b).1 X U sc _ o h4).1 h5 h6) fun _ => rfl
    · cases h) fun _ _ => rfl
  | .isi a t => sndI_of (fun X U sc x o h => by
    have h : (match (generalizing := false) x with
      | .Call (.Name n _) [y, .Name z _] [] _ => decide (("isinstance" : Str) = n) && gloB sc n && mtE nm N false sc a y && decide (t.nm = z) && gloB sc z && plainX y
      | _ => false) = true := h
    split at h
    · obtain ⟨h, h6⟩ := and2 h
      obtain ⟨h, h5⟩ := and2 h
      obtain ⟨h, h4⟩ := and2 h
      obtain ⟨h, h3⟩ := and2 h
      obtain ⟨h1, h2⟩ := and2 h
      exact pe_pt (snd_isi o (of_decide_eq_true h1) h2 ((snd_e a).1 X U sc _ o h3).1 (of_decide_eq_true h4) h5 h6) fun _ => rfl
    · cases h) fun _ _ => rfl
  | .meth oe m es => sndI_of (fun X U sc x o h => by
    have h : (match (generalizing := false) x with
      | .Call (.Attribute y a apos) ys [] pos => decide (m.nm = a) && mtE nm N false sc oe y && mtEs nm N sc es ys && baseX y && (apos.endLine == pos.line) && decide (ys.length < 5)
      | _ => false) = true := h
    split at h
    · obtain ⟨h, h6⟩ := and2 h
      obtain ⟨h, h5⟩ := and2 h
      obtain ⟨h, h4⟩ := and2 h
      obtain ⟨h, h3⟩ := and2 h
      obtain ⟨h1, h2⟩ := and2 h
      exact pe_pt (snd_meth o (of_decide_eq_true h1) h4 ((snd_e oe).1 X U sc _ o h2).1 (snd_es es X U sc _ o h3) (mtEs_plain h3) (of_decide_eq_true h6) (fun e => by subst e; exact mtEs_nilE h3) h5) fun _ => rfl
    · cases h) fun _ _ => rfl
  | .lc e own tg it => sndI_of (fun X U sc x o h => by
    have h : (match (generalizing := false) x with
      | .ListComp elt [⟨t, i, [], 0⟩] scope _ => mtE nm N true sc it i && (isTupX t || notEnum it) && mtTg N (locB scope) tg t && (tgNames tg).all (fun j => (own.map (·.2)).contains j) && L2.blkC N sc scope own && mtE nm N false (L2.relS scope sc) e elt && plainX i
      | _ => false) = true := h
    split at h
    · obtain ⟨h, h7⟩ := and2 h
      obtain ⟨h, h6⟩ := and2 h
      obtain ⟨h, h5⟩ := and2 h
      obtain ⟨h, h4⟩ := and2 h
      obtain ⟨h, h3⟩ := and2 h
      obtain ⟨h1, h2⟩ := and2 h
      exact pe_pt (snd_lc o ((snd_e it).2 X U sc _ _ o h1 h2) h3 (all_mem h4) h5 (fun s H C cl fp => ((snd_e e).1 _ U0 _ _ o.blk h6).1) h7) fun _ => rfl
    · cases h) fun _ _ => rfl
  | .lcif e own tg it c => sndI_of (fun X U sc x o h => by
    have h : (match (generalizing := false) x with
      | .ListComp elt [⟨t, i, [g], 0⟩] scope _ => mtE nm N true sc it i && (isTupX t || notEnum it) && mtTg N (locB scope) tg t && (tgNames tg).all (fun j => (own.map (·.2)).contains j) && L2.blkC N sc scope own && mtE nm N false (L2.relS scope sc) e elt && mtE nm N false (L2.relS scope sc) c g && plainX i
      | _ => false) = true := h
    split at h
    · obtain ⟨h, h8⟩ := and2 h
      obtain ⟨h, h7⟩ := and2 h
      obtain ⟨h, h6⟩ := and2 h
      obtain ⟨h, h5⟩ := and2 h
      obtain ⟨h, h4⟩ := and2 h
      obtain ⟨h, h3⟩ := and2 h
      obtain ⟨h1, h2⟩ := and2 h
      exact pe_pt (snd_lcif o ((snd_e it).2 X U sc _ _ o h1 h2) h3 (all_mem h4) h5 (fun s H C cl fp => ((snd_e e).1 _ U0 _ _ o.blk h6).1) (fun s H C cl fp => ((snd_e c).1 _ U0 _ _ o.blk h7).2) h8) fun _ => rfl
    · cases h) fun _ _ => rfl
  | .rng es => And.intro (fun X U sc x o h => by cases h) (fun X U sc t x o h ht => by
    have h : (true && (match (generalizing := false) x with
      | .Call (.Name n _) ys [] _ => decide (("range" : Str) = n) && gloB sc n && mtEs nm N sc es ys && decide (1 ≤ ys.length) && decide (ys.length ≤ 2)
      | _ => false)) = true := h
    rw [Bool.true_and] at h
    split at h
    · rename_i n pp ys pos _
      obtain ⟨h, h5⟩ := and2 h
      obtain ⟨h, h4⟩ := and2 h
      obtain ⟨h, h3⟩ := and2 h
      obtain ⟨h1, h2⟩ := and2 h
      have hA := snd_es es X U sc _ o h3
      have h1 := of_decide_eq_true h1
      have h4 := of_decide_eq_true h4
      have h5 := of_decide_eq_true h5
      cases ys with
      | nil => simp at h4
      | cons y ys =>
        cases es with
        | nil => cases h3
        | cons e es =>
          obtain ⟨k1, _, k2⟩ := mtEs_cons h3
          cases ys with
          | nil =>
            cases mtEs_nilE k2
            exact snd_rng1 o h1 h2 hA k1
          | cons z ys =>
            cases es with
            | nil => cases k2
            | cons e2 es =>
              obtain ⟨l1, _, l2⟩ := mtEs_cons k2
              cases ys with
              | nil =>
                cases mtEs_nilE l2
                exact snd_rng2 o h1 h2 hA k1 l1
              | cons _ _ => simp at h5
    · cases h)
  | .enum a => And.intro (fun X U sc x o h => by cases h) (fun X U sc t x o h ht => by
    have h : (true && (match (generalizing := false) x with
      | .Call (.Name n _) [y] [] _ => decide (("enumerate" : Str) = n) && gloB sc n && mtE nm N false sc a y && plainX y
      | _ => false)) = true := h
    rw [Bool.true_and] at h
    have ht : isTupX t = true := by
      have ht : (isTupX t || false) = true := ht
      rw [Bool.or_false] at ht
      exact ht
    split at h
    · obtain ⟨h, h4⟩ := and2 h
      obtain ⟨h, h3⟩ := and2 h
      obtain ⟨h1, h2⟩ := and2 h
      cases t with
      | Tuple elts k tp => exact snd_enum o (of_decide_eq_true h1) h2 ((snd_e a).1 X U sc _ o h3).1 h4
      | _ => cases ht
    · cases h)
  | .zip a c => And.intro (fun X U sc x o h => by cases h) (fun X U sc t x o h ht => by
    have h : (true && (match (generalizing := false) x with
      | .Call (.Name n _) [y, z] [] _ => decide (("zip" : Str) = n) && gloB sc n && mtE nm N false sc a y && mtE nm N false sc c z && plainX y && plainX z
      | _ => false)) = true := h
    rw [Bool.true_and] at h
    have ht : isTupX t = true := by
      have ht : (isTupX t || false) = true := ht
      rw [Bool.or_false] at ht
      exact ht
    split at h
    · obtain ⟨h, h6⟩ := and2 h
      obtain ⟨h, h5⟩ := and2 h
      obtain ⟨h, h4⟩ := and2 h
      obtain ⟨h, h3⟩ := and2 h
      obtain ⟨h1, h2⟩ := and2 h
      cases t with
      | Tuple elts k tp => exact snd_zip o (of_decide_eq_true h1) h2 ((snd_e a).1 X U sc _ o h3).1 ((snd_e c).1 X U sc _ o h4).1 h5 h6
      | _ => cases ht
    · cases h)
  | .rev a => And.intro (fun X U sc x o h => by cases h) (fun X U sc t x o h ht => by
    have h : (true && (match (generalizing := false) x with
      | .Call (.Name n _) [y] [] _ => decide (("reversed" : Str) = n) && gloB sc n && mtE nm N false sc a y && plainX y
      | _ => false)) = true := h
    rw [Bool.true_and] at h
    split at h
    · obtain ⟨h, h4⟩ := and2 h
      obtain ⟨h, h3⟩ := and2 h
      obtain ⟨h1, h2⟩ := and2 h
      exact snd_rev o (of_decide_eq_true h1) h2 ((snd_e a).1 X U sc _ o h3).1 h4
    · cases h)
theorem snd_es : ∀ es : List E, SndA nm N G Γ es
  | [] => fun X U sc xs o h => by
    cases xs with
    | nil => exact PA.weak L2.pa_nil fun σ H Q ⟨μ, S, env, r, re, h⟩ => evs_nil r h
    | cons _ _ => cases h
  | e :: es => fun X U sc xs o h => by
    cases xs with
    | nil => cases h
    | cons x xs =>
      obtain ⟨h1, h2, h3⟩ := mtEs_cons h
      have i := (snd_e e).1 X U sc x o h2
      have j := snd_es es X U sc xs o h3
      exact PA.weak (L2.pa_cons i.1 j (star_cons h1)) fun σ H Q ⟨μ, S, env, r, re, h⟩ => evs_cons r re h
end
end
end Py

namespace Py
open PySem PySem.Spec PyProof.Rows
open L2 (V HO Hp SqL SqT Rd upd upd_same upd_ne Cx Inv EP VK OpR RelV R2 CallR XK WX Vals TE PE TI PI PA TA It PT PG PGs TG TGs Ends TS PS PSs)

def isLC : Expr → Bool
  | .ListComp .. => true
  | .SetComp .. => true
  | .DictComp .. => true
  | _ => false
/-- where a pair's or a triple's stores go from the right: the names -/
def swS (sc : Scope) (ts vs : List Expr) : Option (Option (List Str)) :=
  if (!(ts.length == 2 || ts.length == 3) || vs.length != ts.length) = true then some none
  else if (vs.any fun | .Starred .. => true | _ => false) = true then some none
  else
    let line := (ts.head?.map (·.pos.line)).getD 0
    let names := ts.filterMap fun
      | .Name id pos => if sc.names.lookup id == some .local && pos.line == line then some id else none
      | _ => none
    if (names.length != ts.length || names.eraseDups.length != names.length) = true then some none
    else if (vs.all (foldedForSure 8)) = true then some none
    else if (vs.all (constantsAlone 8)) = true then none
    else some (some names)
theorem swS_ok {env : PySem.Env} {ts vs : List Expr} {k k2 : Nat} {p p2 : Pos} {r : Option (List Str)} (hk : env.scope.kind = .function) (h : swS env.scope ts vs = some r) : swappedStores [.Tuple ts k p] (.Tuple vs k2 p2) env = pure r := by
  have hb : env.blockKind = .function := by unfold Env.blockKind; rw [hk]; rfl
  unfold swS at h
  unfold swappedStores
  dsimp only
  rw [hb]
  simp only [bne_self_eq_false, Bool.or_false]
  dsimp only at h
  split at h
  · rename_i c1
    cases h
    exact if_pos c1
  · rename_i c1
    refine (if_neg c1).trans ?_
    split at h
    · rename_i c2
      cases h
      exact if_pos c2
    · rename_i c2
      refine (if_neg c2).trans ?_
      split at h
      · rename_i c3
        cases h
        exact if_pos c3
      · rename_i c3
        refine (if_neg c3).trans ?_
        split at h
        · rename_i c4
          cases h
          exact if_pos c4
        · rename_i c4
          refine (if_neg c4).trans ?_
          split at h
          · cases h
          · rename_i c5
            cases h
            exact if_neg c5
/-- the names of the stores, the order that the stores take -/
def swT (sc : Scope) (tg : Tg) (e : E) (ts vs : List Expr) : Bool := match swS sc ts vs with
  | some none => true
  | some (some l) => (match tg, e, l with
    | .tup [.name i, .name j], .tup [_, _], [_, _] => decide (i ≠ j)
    | .tup [.name i, .name j, .name k], .tup [_, _, _], [_, _, _] => decide (i ≠ j) && decide (i ≠ k) && decide (j ≠ k)
    | _, _, _ => false)
  | none => false
def augOp : Operator → Bool
  | .Add => true
  | .Sub => true
  | .Mult => true
  | .FloorDiv => true
  | .Mod => true
  | _ => false
section
variable (nm : Nms) (en : Nat → Option Str) (N : List Str) (sc : Scope)
def mtHE : HE → Expr → Bool
  | .int i, x => (match x with | .Constant (.int j) _ _ => decide (i = j) | _ => false)
  | .bl b, x => (match x with | .Constant (.bool c) _ _ => b == c | _ => false)
  | .non, x => (match x with | .Constant .none _ _ => true | _ => false)
  | .str s, x => (match x with | .Constant (.str t) _ _ => decide (s = t) | _ => false)
  | .var i, x => (match x with | .Name n _ => decide (N[i]? = some n) && visB sc n && okName n | _ => false)
def mtHS : HS → Stmt → Bool
  | .ret e, s => (match s with | .Return (some x) _ => mtHE N sc e x | _ => false)
  | .retN, s => (match s with | .Return none _ => true | _ => false)
  | .cnt, s => (match s with | .Continue _ => true | _ => false)
  | .pass, s => (match s with | .Pass _ => true | _ => false)
def mtH : List (Nat × HS) → List ExceptHandler → Bool
  | [], hs => (match hs with | [] => true | _ => false)
  | (c, h) :: l, hs => (match hs with
    | .ExceptHandler (some (.Name n _)) none [st] _ :: r => decide (en c = some n) && gloB sc n && okName n && mtHS N sc h st && mtH l r
    | _ => false)
mutual
def mtS : Stm → Stmt → Bool
  | .set i e, s => (match s with | .Assign [.Name x _] v _ => decide (N[i]? = some x) && locB sc x && mtE nm N false sc e v | _ => false)
  | .tset tg e, s => (match s with
    | .Assign [.Tuple ts k p] v _ => mtTg N (locB sc) tg (.Tuple ts k p) && mtE nm N false sc e v && !isLC v && (match v with
      | .Tuple vs _ _ => swT sc tg e ts vs
      | _ => true)
    | _ => false)
  | .sset o k e, s => (match s with | .Assign [.Subscript ox kx _] v _ => mtE nm N false sc o ox && mtE nm N false sc k kx && mtE nm N false sc e v && plainX kx && !isLC v | _ => false)
  | .aug i op e, s => (match s with | .AugAssign (.Name x _) op' v _ => decide (N[i]? = some x) && locB sc x && decide (op = op') && augOp op && mtE nm N false sc e v | _ => false)
  | .saug o k op e, s => (match s with | .AugAssign (.Subscript ox kx _) op' v _ => mtE nm N false sc o ox && mtE nm N false sc k kx && plainX kx && decide (op = op') && augOp op && mtE nm N false sc e v | _ => false)
  | .ex e, s => (match s with | .Expr v _ => mtE nm N false sc e v && !isLC v | _ => false)
  | .ret e, s => (match s with | .Return (some v) _ => mtE nm N false sc e v | _ => false)
  | .retN, s => (match s with | .Return none _ => true | _ => false)
  | .ite c a b, s => (match s with | .If t x y _ => mtE nm N false sc c t && mtSs a x && mtSs b y | _ => false)
  | .whl c b, s => (match s with | .While t x [] _ => mtE nm N false sc c t && mtSs b x | _ => false)
  | .for_ tg it b, s => (match s with | .For t i x [] _ => mtE nm N true sc it i && (isTupX t || notEnum it) && mtTg N (locB sc) tg t && mtSs b x && plainX i | _ => false)
  | .pass, s => (match s with
    | .Pass _ => true
    | .Expr (.Constant (.str _) _ _) _ => true
    | _ => false)
  | .brk, s => (match s with | .Break _ => true | _ => false)
  | .cnt, s => (match s with | .Continue _ => true | _ => false)
  | .raise c, s => (match s with | .Raise (some (.Call (.Name n _) [] [] _)) none _ => decide (en c = some n) && gloB sc n && okName n | _ => false)
  | .try_ b hs, s => (match s with | .Try x (h :: r) [] [] _ => mtSs b x && mtH en N sc hs (h :: r) | _ => false)
def mtSs : List Stm → List Stmt → Bool
  | [], ss => (match ss with | [] => true | _ => false)
  | a :: as, ss => (match ss with | s :: ss => mtS a s && mtSs as ss | _ => false)
end
end

/-- what is known behind a statement -/
def AftS (G : Gd) (H : Hp) (μ : List Addr) (U : WX) (D : Ends) : RS → Prop
  | .ok .nx env S => ∀ σ' H' μ', Step μ μ' H H' → Rel G H' μ' S → REnv G H' μ' env σ' → D.nx σ' H'
  | .ok (.ret w) env S => ∀ v H' μ', Step μ μ' H H' → Rel G H' μ' S → RepW G H H' μ' w v → D.rt v H'
  | .ok .bk env S => ∀ σ' H' μ', Step μ μ' H H' → Rel G H' μ' S → REnv G H' μ' env σ' → D.bk σ' H'
  | .ok .ct env S => ∀ σ' H' μ', Step μ μ' H H' → Rel G H' μ' S → REnv G H' μ' env σ' → D.ct σ' H'
  | .exc x env S => ∀ cls d σ' H' μ', Step μ μ' H H' → Rel G H' μ' S → REnv G H' μ' env σ' → RepX G H' μ' x cls d → U cls d σ' H'
  | .bad => False
section
variable (G : Gd) (Γ : Gm) (U : WX)
def cS (st : Stm) : TS := fun D σ H => ∃ μ S env, Rel G H μ S ∧ REnv G H μ env σ ∧ AftS G H μ U D (exec Γ st env S)
def cSs (ss : List Stm) : TS := fun D σ H => ∃ μ S env, Rel G H μ S ∧ REnv G H μ env σ ∧ AftS G H μ U D (execs Γ ss env S)
def cHS (h : HS) : TS := fun D σ H => ∃ μ S env, Rel G H μ S ∧ REnv G H μ env σ ∧ AftS G H μ U D (hexec h env S)
end
structure ExcAt (X : Cx) (G : Gd) (c : Nat) (n : Str) : Prop where
  ex : ∃ bmB B newId initId, ExcBaseFacts B newId initId bmB ∧ PySem.W.excIn X.K (G.at_ c) bmB newId = true
  mg : X.mg n = some (.ref (G.at_ c))
  kp : PySem.W.keepIn X.K (.ref (G.at_ c)) = true
  rs : L2.Raises X (.ref (G.at_ c))
  reg : G.ex c = true
structure SOk (X : Cx) (U : WX) (G : Gd) (Γ : Gm) (nm : Nms) (en : Nat → Option Str) (N : List Str) (sc : Scope) : Prop where
  x : XOk X U G Γ nm N sc
  po : PassesOwn (model X.prog X.w) X.A X.env X.xe
  stk : X.stack = X.env :: X.outer
  fr : X.env.frame = some X.env.locals
  kd : sc.kind = .function
  fn : ∀ n, locB sc n = true → X.fn n = true ∨ sc.names.lookup n = some .local
  exc : ∀ c n, en c = some n → ExcAt X G c n
  exm : ∀ c c' n, G.ex c = true → en c' = some n → PySem.W.exmOne X.K (.ref (G.at_ c)) (.ref (G.at_ c')) = some (decide (c' = c))
section
variable {X : Cx} {G : Gd} {Γ : Gm} {U U' : WX} {nm : Nms} {en : Nat → Option Str} {N : List Str} {sc : Scope} {H H1 : Hp} {μ μ1 : List Addr} {S : Sto} {σ : L2.St} {D D' : Ends} {pos p1 p2 : Pos}
theorem PS.weak {st : Stmt} {t t' : TS} (h : PS X st t) (i : ∀ D σ H, t' D σ H → t D σ H) : PS X st t' := ⟨fun pins s σ H D I q => h.run pins s σ H D I (i _ _ _ q)⟩
theorem PSs.weak {st : List Stmt} {t t' : TS} (h : PSs X st t) (i : ∀ D σ H, t' D σ H → t D σ H) : PSs X st t' := ⟨fun pins s σ H D I q => h.run pins s σ H D I (i _ _ _ q)⟩
theorem AftS.shift {r : RS} (h : AftS G H μ U D r) (st : Step μ μ1 H H1) : AftS G H1 μ1 U D r := by
  cases r with
  | bad => exact h.elim
  | exc x env S => exact fun c d σ' H2 μ2 st2 rl re p => h c d σ' H2 μ2 (st.trans st2) rl re p
  | ok f env S =>
    cases f with
    | nx => exact fun σ' H2 μ2 st2 rl re => h σ' H2 μ2 (st.trans st2) rl re
    | bk => exact fun σ' H2 μ2 st2 rl re => h σ' H2 μ2 (st.trans st2) rl re
    | ct => exact fun σ' H2 μ2 st2 rl re => h σ' H2 μ2 (st.trans st2) rl re
    | ret w => exact fun v H2 μ2 st2 rl p => h v H2 μ2 (st.trans st2) rl (p.base st.dom)
/-- an expression within a statement -/
theorem AftS.st {α β : Type} {P : Hp → List Addr → α → β → Prop} {Q : β → Hp → Prop} {r : Py.R α} {env : Env} {k : α → Sto → RS} (rl : Rel G H μ S) (re : REnv G H μ env σ) (h : AftS G H μ U D (r.st env k))
    (hk : ∀ a S1 v H1 μ1, Step μ μ1 H H1 → Rel G H1 μ1 S1 → P H1 μ1 a v → REnv G H1 μ1 env σ → AftS G H μ U D (k a S1) → Q v H1) : Aft G P H μ σ U Q r := by
  cases r with
  | ok a S1 => exact fun v H1 μ1 st rl1 p => hk a S1 v H1 μ1 st rl1 p (re.mono rl st) h
  | exc x S1 => exact fun c d H1 μ1 st rl1 p => h c d σ H1 μ1 st rl1 (re.mono rl st) p
  | bad => exact h.elim
theorem AftS.nx {env : Env} (h : AftS G H μ U D (.ok .nx env S)) (r : Rel G H μ S) (re : REnv G H μ env σ) : D.nx σ H := h σ H μ .refl r re
theorem SOk.loc (o : SOk X U G Γ nm en N sc) {n : Str} (h : locB sc n = true) : L2.Loc X.env.scope n := by
  rw [o.x.eS]
  exact locB_ok h
theorem SOk.fn' (o : SOk X U G Γ nm en N sc) {n : Str} (h : locB sc n = true) : X.fn n = true ∨ X.env.scope.names.lookup n = some .local := by
  rw [o.x.eS]
  exact o.fn n h
theorem SOk.st (o : SOk X U G Γ nm en N sc) {n : Str} (h : locB sc n = true) : StOk X n := ⟨o.loc h, o.fn' h⟩
theorem SOk.ndX (o : SOk X U G Γ nm en N sc) : X.N.Nodup := by rw [o.x.eN]; exact o.x.nd
theorem set_go {i : Nat} {e : E} (h : cS G Γ U (.set i e) D σ H) : L2.tAsg (cE G Γ U e) (L2.gName i) D σ H := by
  obtain ⟨μ, S, env, r, re, h⟩ := h
  have h : AftS G H μ U D ((ev Γ e env S).st env fun w S1 => (alloc w S1).st env fun d S2 => .ok .nx (env.set i (some d)) S2) := h
  refine ⟨μ, S, env, r, re, AftS.st r re h fun w S1 v H1 μ1 st rl p re1 h1 => ?_⟩
  obtain ⟨d, S2, μ2, e2, st2, rl2, p2⟩ := rel_alloc st rl p
  rw [e2] at h1
  exact h1 _ H1 μ2 st2 rl2 ((re.mono r st2).set p2 i)
theorem sw_lc {elt : Expr} {gs : List Comprehension} {scope : Scope} {vp py : Pos} {y : Str} {l : Nat} {env : PySem.Env} : swapsWith (.ListComp elt gs scope vp) (some (.Name y py)) l env = pure (env.blockKind == .function && env.kindOf y == some .local && py.line == vp.line && !(scope.names.any fun (n, k) => n == y && (k == .local || k == .cell))) := rfl
theorem sw_non {v : Expr} {t : Expr} {l : Nat} {env : PySem.Env} (h : isLC v = false) : swapsWith v (some t) l env = pure false := by
  cases v <;> first | rfl | cases h
theorem sws_non {v : Expr} {t : Expr} {l : Nat} {env : PySem.Env} (h : isLC v = false) : swapsWithSole [t] v l env = pure false := sw_non h
theorem sw_none {v : Expr} {l : Nat} {env : PySem.Env} (h : isLC v = false) : swapsWith v none l env = pure false := by
  cases v <;> first | rfl | cases h
theorem snd_set (o : SOk X U G Γ nm en N sc) {i : Nat} {e : E} {x : Str} {p : Pos} {v : Expr} (h1 : N[i]? = some x) (h2 : locB sc x = true) (he : PE X v (cE G Γ U e)) (hs : swapsWith v (some (.Name x p)) pos.line X.env = pure false) : PS X (.Assign [.Name x p] v pos) (cS G Γ U (.set i e)) :=
  PS.weak (L2.ps_set (i := i) o.ndX (o.x.names h1) (o.loc h2) he hs (o.fn' h2)) fun D σ H h => set_go h
theorem tset_go {tg : Tg} {e : E} (h : cS G Γ U (.tset tg e) D σ H) : L2.tAsg (cE G Γ U e) (cG G tg) D σ H := by
  obtain ⟨μ, S, env, r, re, h⟩ := h
  have h : AftS G H μ U D ((ev Γ e env S).st env fun w S1 => (alloc w S1).st env fun d S2 => match bindTg S2 tg d env with | some env' => .ok .nx env' S2 | none => .bad) := h
  refine ⟨μ, S, env, r, re, AftS.st r re h fun w S1 v H1 μ1 st rl p re1 h1 => ?_⟩
  obtain ⟨d, S2, μ2, e2, st2, rl2, p2⟩ := rel_alloc st rl p
  rw [e2] at h1
  have h1 : AftS G H μ U D (match bindTg S2 tg d env with | some env' => .ok .nx env' S2 | none => .bad) := h1
  cases q : bindTg S2 tg d env with
  | none => rw [q] at h1; exact h1.elim
  | some env' =>
    rw [q] at h1
    exact ⟨μ2, S2, env, d, env', rl2, re.mono r st2, p2, q, fun σ' re' _ => h1 σ' H1 μ2 st2 rl2 re'⟩
theorem st_bind {α β : Type} (r : Py.R α) (k : α → Sto → Py.R β) (env : Env) (l : β → Sto → RS) : (r.bind k).st env l = r.st env fun a S => (k a S).st env l := by
  cases r <;> rfl
/-- a tuple's items, stored one after the other -/
theorem tsetT_go {ts : List Tg} {es : List E} {Q : List V → Hp → Prop} (h : cS G Γ U (.tset (.tup ts) (.tup es)) D σ H)
    (hk : ∀ ds S1 vs H1 μ1 env env', Rel G H1 μ1 S1 → Reps G H1 μ1 ds vs → REnv G H1 μ1 env σ → bindTgs S1 ts ds env = some env' → (∀ σ', REnv G H1 μ1 env' σ' → D.nx σ' H1) → Q vs H1) : cEs G Γ U es σ H Q := by
  obtain ⟨μ, S, env, r, re, h⟩ := h
  have h : AftS G H μ U D (((evs Γ es env S).bind fun ds S1 => if ds.length ≤ lim then .ok (.v (.tup ds)) S1 else .bad).st env fun w S1 => (alloc w S1).st env fun d S2 => match bindTg S2 (.tup ts) d env with | some env' => .ok .nx env' S2 | none => .bad) := h
  rw [st_bind] at h
  refine ⟨μ, S, env, r, re, AftS.st r re h fun ds S1 vs H1 μ1 st rl p re1 h1 => ?_⟩
  by_cases hl : ds.length ≤ lim
  · rw [if_pos hl] at h1
    have h1 : AftS G H μ U D (match bindTgs S1 ts ds env with | some env' => .ok .nx env' S1 | none => .bad) := h1
    cases q : bindTgs S1 ts ds env with
    | none => rw [q] at h1; exact h1.elim
    | some env' =>
      rw [q] at h1
      exact hk ds S1 vs H1 μ1 env env' rl p re1 q fun σ' re' => h1 σ' H1 μ1 st rl re'
  · rw [if_neg hl] at h1
    exact h1.elim
theorem snd_tset (o : SOk X U G Γ nm en N sc) {tg : Tg} {e : E} {ts : List Expr} {k : Nat} {p : Pos} {v : Expr} (ht : mtTg N (locB sc) tg (.Tuple ts k p) = true) (he : PE X v (cE G Γ U e)) (hlc : isLC v = false) (hw : swappedStores [.Tuple ts k p] v X.env = pure none) :
    PS X (.Assign [.Tuple ts k p] v pos) (cS G Γ U (.tset tg e)) :=
  PS.weak (L2.ps_asg he (snd_tg o.x.eK o.x.eN o.x.nd o.x.calm (locB sc) (fun x h => o.st h) tg _ ht) (sws_non hlc) hw) fun D σ H h => tset_go h
theorem fm2 {f : Expr → Option Str} {a b : Expr} (h : ([a, b].filterMap f).length = 2) : ∃ x y, f a = some x ∧ f b = some y ∧ [a, b].filterMap f = [x, y] := by
  cases e : f a with
  | none =>
    cases e2 : f b with
    | none => simp [List.filterMap_cons, e, e2] at h
    | some y => simp [List.filterMap_cons, e, e2] at h
  | some x =>
    cases e2 : f b with
    | none => simp [List.filterMap_cons, e, e2] at h
    | some y => exact ⟨x, y, rfl, rfl, by simp [List.filterMap_cons, e, e2]⟩
theorem fm3 {f : Expr → Option Str} {a b c : Expr} (h : ([a, b, c].filterMap f).length = 3) : ∃ x y z, f a = some x ∧ f b = some y ∧ f c = some z ∧ [a, b, c].filterMap f = [x, y, z] := by
  cases e : f a with
  | none =>
    cases e2 : f b <;> cases e3 : f c <;> simp [List.filterMap_cons, e, e2, e3] at h
  | some x =>
    cases e2 : f b with
    | none => cases e3 : f c <;> simp [List.filterMap_cons, e, e2, e3] at h
    | some y =>
      cases e3 : f c with
      | none => simp [List.filterMap_cons, e, e2, e3] at h
      | some z => exact ⟨x, y, z, rfl, rfl, rfl, by simp [List.filterMap_cons, e, e2, e3]⟩
theorem ifs {c : Bool} {x y : Str} (h : (if c = true then some x else none) = some y) : c = true ∧ y = x := by
  by_cases q : c = true
  · rw [if_pos q] at h
    cases h
    exact ⟨q, rfl⟩
  · rw [if_neg q] at h
    cases h
theorem swS_names {ts vs : List Expr} {l : List Str} (h : swS sc ts vs = some (some l)) : vs.length = ts.length ∧ ∃ f : Expr → Option Str, l = ts.filterMap f ∧ (ts.filterMap f).length = ts.length ∧ ∀ n p y, f (.Name n p) = some y → sc.names.lookup n = some .local ∧ y = n := by
  unfold swS at h
  dsimp only at h
  split at h
  · cases h
  · rename_i c1
    split at h
    · cases h
    · split at h
      · cases h
      · rename_i c3
        split at h
        · cases h
        · split at h
          · cases h
          · cases h
            refine ⟨?_, _, rfl, ?_, fun n p y e => ?_⟩
            · apply Classical.byContradiction
              intro hne
              exact c1 (by simp [hne])
            · apply Classical.byContradiction
              intro hne
              exact c3 (by simp only [Bool.or_eq_true, bne_iff_ne]; exact .inl hne)
            · obtain ⟨e1, e2⟩ := ifs e
              exact ⟨by simpa using (and2 e1).1, e2⟩
theorem sw2 {x y : Str} {px py : Pos} {vs : List Expr} {l : List Str} (h : swS sc [.Name x px, .Name y py] vs = some (some l)) : l = [x, y] ∧ sc.names.lookup x = some .local ∧ sc.names.lookup y = some .local ∧ vs.length = 2 := by
  obtain ⟨hv, f, rfl, hl, hf⟩ := swS_names h
  obtain ⟨x', y', e1, e2, e3⟩ := fm2 hl
  obtain ⟨k1, rfl⟩ := hf _ _ _ e1
  obtain ⟨k2, rfl⟩ := hf _ _ _ e2
  exact ⟨e3, k1, k2, hv⟩
theorem sw3 {x y z : Str} {px py pz : Pos} {vs : List Expr} {l : List Str} (h : swS sc [.Name x px, .Name y py, .Name z pz] vs = some (some l)) : l = [x, y, z] ∧ sc.names.lookup x = some .local ∧ sc.names.lookup y = some .local ∧ sc.names.lookup z = some .local ∧ vs.length = 3 := by
  obtain ⟨hv, f, rfl, hl, hf⟩ := swS_names h
  obtain ⟨x', y', z', e1, e2, e3, e4⟩ := fm3 hl
  obtain ⟨k1, rfl⟩ := hf _ _ _ e1
  obtain ⟨k2, rfl⟩ := hf _ _ _ e2
  obtain ⟨k3, rfl⟩ := hf _ _ _ e3
  exact ⟨e4, k1, k2, k3, hv⟩
theorem snd_par (o : SOk X U G Γ nm en N sc) {i j : Nat} {a b : E} {x y : Str} {px py pt p2 : Pos} {k k2 : Nat} {va vb : Expr} {l : List Str} (hx : N[i]? = some x) (hy : N[j]? = some y) (hij : i ≠ j) (ha : PA X [va, vb] (cEs G Γ U [a, b])) (h : swS sc [.Name x px, .Name y py] [va, vb] = some (some l)) :
    PS X (.Assign [.Tuple [.Name x px, .Name y py] k pt] (.Tuple [va, vb] k2 p2) pos) (cS G Γ U (.tset (.tup [.name i, .name j]) (.tup [a, b]))) := by
  obtain ⟨rfl, lx, ly, _⟩ := sw2 h
  refine PS.weak (L2.ps_par (i := i) (j := j) o.x.calm o.ndX (o.x.names hx) (o.x.names hy) hij (by rw [o.x.eS]; exact lx) (by rw [o.x.eS]; exact ly) ha (swS_ok (by rw [o.x.eS]; exact o.kd) (by rw [o.x.eS]; exact h)) (sws_non rfl)) fun D σ H hh => tsetT_go hh fun ds S1 vs H1 μ1 env env' rl p re e q => ?_
  match ds, p, e with
  | [], _, e => cases e
  | [_], _, e => cases e
  | _ :: _ :: _ :: _, _, e => cases e
  | [d1, d2], p, e =>
    obtain ⟨v1, vs', rfl, q1, p⟩ := p
    obtain ⟨v2, vs'', rfl, q2, p⟩ := p
    cases (show vs'' = [] from p)
    have e : some ((env.set i (some d1)).set j (some d2)) = some env' := e
    cases e
    exact ⟨v1, v2, rfl, q _ ((re.set q1 i).set q2 j)⟩
theorem snd_par3 (o : SOk X U G Γ nm en N sc) {i j m : Nat} {a b c : E} {x y z : Str} {px py pz pt p2 : Pos} {k k2 : Nat} {va vb vc : Expr} {l : List Str} (hx : N[i]? = some x) (hy : N[j]? = some y) (hz : N[m]? = some z) (hij : i ≠ j) (him : i ≠ m) (hjm : j ≠ m) (ha : PA X [va, vb, vc] (cEs G Γ U [a, b, c])) (h : swS sc [.Name x px, .Name y py, .Name z pz] [va, vb, vc] = some (some l)) :
    PS X (.Assign [.Tuple [.Name x px, .Name y py, .Name z pz] k pt] (.Tuple [va, vb, vc] k2 p2) pos) (cS G Γ U (.tset (.tup [.name i, .name j, .name m]) (.tup [a, b, c]))) := by
  obtain ⟨rfl, lx, ly, lz, _⟩ := sw3 h
  refine PS.weak (L2.ps_par3 (i := i) (j := j) (l := m) o.x.calm o.ndX (o.x.names hx) (o.x.names hy) (o.x.names hz) hij him hjm (by rw [o.x.eS]; exact lx) (by rw [o.x.eS]; exact ly) (by rw [o.x.eS]; exact lz) ha (swS_ok (by rw [o.x.eS]; exact o.kd) (by rw [o.x.eS]; exact h)) (sws_non rfl)) fun D σ H hh => tsetT_go hh fun ds S1 vs H1 μ1 env env' rl p re e q => ?_
  match ds, p, e with
  | [], _, e => cases e
  | [_], _, e => cases e
  | [_, _], _, e => cases e
  | _ :: _ :: _ :: _ :: _, _, e => cases e
  | [d1, d2, d3], p, e =>
    obtain ⟨v1, vs', rfl, q1, p⟩ := p
    obtain ⟨v2, vs'', rfl, q2, p⟩ := p
    obtain ⟨v3, vs3, rfl, q3, p⟩ := p
    cases (show vs3 = [] from p)
    have e : some (((env.set i (some d1)).set j (some d2)).set m (some d3)) = some env' := e
    cases e
    exact ⟨v1, v2, v3, rfl, q _ (((re.set q1 i).set q2 j).set q3 m)⟩

theorem snd_sset (o : SOk X U G Γ nm en N sc) {oe k e : E} {ox kx v : Expr} {p : Pos} (ho : PE X ox (cE G Γ U oe)) (hk : PE X kx (cE G Γ U k)) (he : PE X v (cE G Γ U e)) (hp : plainX kx = true) (hlc : isLC v = false) : PS X (.Assign [.Subscript ox kx p] v pos) (cS G Γ U (.sset oe k e)) := by
  have ha : ∀ v, assign (.Subscript ox kx p) X.env v = (do
      let ov ← holding [v] (eval ox X.env)
      let iv ← holding [v, ov] (eval kx X.env)
      standAt p
      holding [v, ov, iv] (setItem ov iv v)
      release [v, ov, iv] []) := by
    intro v
    cases kx <;> first | rfl | cases hp
  refine PS.weak (L2.ps_asg he (L2.pg_sub ho hk (set_W (G := G)) ha) (sws_non hlc) (by rfl)) fun D σ H ⟨μ, S, env, r, re, h⟩ => ?_
  have h : AftS G H μ U D ((ev Γ e env S).st env fun w S1 => (alloc w S1).st env fun d S2 => (ev Γ oe env S2).st env fun ow S3 => (ev Γ k env S3).st env fun kw S4 => match setL ow kw d S4 with | some S5 => .ok .nx env S5 | none => .bad) := h
  refine ⟨μ, S, env, r, re, AftS.st r re h fun w S1 v H1 μ1 st rl p re1 h1 => ?_⟩
  obtain ⟨d, S2, μ2, e2, st2, rl2, p2⟩ := rel_alloc st rl p
  rw [e2] at h1
  have h1 := AftS.shift h1 st2
  have re2 := re.mono r st2
  refine ⟨μ2, S2, env, rl2, re2, AftS.st rl2 re2 h1 fun ow S3 ov H3 μ3 st3 rl3 p3 re3 h3 => ?_⟩
  have h3 := AftS.shift h3 st3
  refine ⟨μ3, S3, env, rl3, re3, AftS.st rl3 re3 h3 fun kw S4 kv H4 μ4 st4 rl4 p4 re4 h4 => ?_⟩
  have h4 := AftS.shift h4 st4
  cases q : setL ow kw d S4 with
  | none => rw [q] at h4; exact h4.elim
  | some S5 =>
    rw [q] at h4
    exact ⟨μ4, S4, ow, kw, d, S5, rl4, p3.cur.mono rl3 st4, p4.cur, p2.mono rl2 (st3.trans st4), q, fun H' stw rlw => h4 σ H' μ4 stw rlw (re4.mono rl4 stw)⟩
theorem ipOp_ok {op : Operator} (ha : augOp op = true) {i j z : Int} (e : intOp op i j = some z) {pins : List (Addr × Obj)} {s : Shared} {v u : Value} {Q : VK} (I : Inv X pins σ H s) (rx : RelV (.int i) v) (ry : RelV (.int j) u) (q : Q (.int z) H) :
    wpAny (model X.prog X.w) X.A (inplaceOp op v u) (EP X pins σ Q) X.xe s := by
  obtain ⟨t1, rfl⟩ := rx
  obtain ⟨t2, rfl⟩ := ry
  cases op with
  | Add =>
    cases e
    exact iadd_int ⟨.int _, H, I.tok _, ⟨_, rfl⟩, q⟩
  | Sub =>
    cases e
    exact isub_int ⟨.int _, H, I.tok _, ⟨_, rfl⟩, q⟩
  | Mult =>
    have e : (if mulOk i j then some (i * j) else none) = some z := e
    by_cases hm : mulOk i j = true
    · rw [if_pos hm] at e
      cases e
      exact imul_int ⟨.int _, H, I.tok _, ⟨_, rfl⟩, q⟩ (CMulA.ok (of_decide_eq_true (p := i.natAbs.log2 + j.natAbs.log2 < 100000000) hm))
    · rw [if_neg hm] at e
      cases e
  | FloorDiv =>
    have e : (if divOk j then some (i.fdiv j) else none) = some z := e
    by_cases hm : divOk j = true
    · rw [if_pos hm] at e
      cases e
      unfold divOk at hm
      rw [Bool.and_eq_true] at hm
      exact ifloordiv_int (of_decide_eq_true hm.1) ⟨.int _, H, I.tok _, ⟨_, rfl⟩, q⟩ (.inl (PyProof.noPylong_of_log2 (of_decide_eq_true hm.2)))
    · rw [if_neg hm] at e
      cases e
  | Mod =>
    have e : (if j = 0 then none else some (i.fmod j)) = some z := e
    by_cases hm : j = 0
    · rw [if_pos hm] at e
      cases e
    · rw [if_neg hm] at e
      cases e
      exact imod_int hm ⟨.int _, H, I.tok _, ⟨_, rfl⟩, q⟩
  | _ => cases ha
def rIp (op : Operator) : L2.TIp := fun x y H Q => ∃ i j z, x = .int i ∧ y = .int j ∧ intOp op i j = some z ∧ Q (.int z) H
theorem ip_W {op : Operator} (ha : augOp op = true) : L2.PIp X op (rIp op) := fun pins s σ H x y v u Q I rx ry ⟨i, j, z, e1, e2, e3, q⟩ => by
  subst e1
  subst e2
  exact ipOp_ok ha e3 I rx ry q
theorem snd_aug (o : SOk X U G Γ nm en N sc) {i : Nat} {op : Operator} {e : E} {x : Str} {p : Pos} {v : Expr} (h1 : N[i]? = some x) (h2 : locB sc x = true) (ha : augOp op = true) (he : PE X v (cE G Γ U e)) : PS X (.AugAssign (.Name x p) op v pos) (cS G Γ U (.aug i op e)) := by
  refine PS.weak (L2.ps_aug (i := i) o.ndX (o.x.names h1) (o.loc h2) he (ip_W ha) (o.fn' h2)) fun D σ H ⟨μ, S, env, r, re, h⟩ => ?_
  have h : AftS G H μ U D (match env[i]? with
    | some (some d) => (ev Γ e env S).st env fun w S1 => match d, w with
      | .int a, .v (.int b) => match intOp op a b with
        | some z => .ok .nx (env.set i (some (.int z))) S1
        | none => .bad
      | _, _ => .bad
    | _ => .bad) := h
  split at h
  · rename_i d ed
    obtain ⟨v0, e1, e2⟩ := re.get i d ed
    refine ⟨v0, e1, μ, S, env, r, re, AftS.st (P := RepW G H) r re h fun w S1 v H1 μ1 st rl p re1 h1 => ?_⟩
    split at h1
    · rename_i a b
      split at h1
      · rename_i z ez
        cases (show v0 = .int a from e2)
        cases (show v = .int b from p)
        exact ⟨a, b, z, rfl, rfl, ez, h1 _ H1 μ1 st rl (re1.set (d := .int z) rfl i)⟩
      · exact h1.elim
    · exact h1.elim
  · exact h.elim
def rGet (G : Gd) : V → V → Hp → VK → Prop := fun o i H Q => ∃ μ S ow kw d, Rel G H μ S ∧ RepC G H μ ow o ∧ RepC G H μ kw i ∧ ixL ow kw S = some d ∧ ∀ v, Rep G H μ d v → Q v H
theorem get_W : L2.PGet X (rGet G) := by
  intro pins s σ H o i ov iv Q I ro ri h
  obtain ⟨μ, S, ow, kw, d, r, h1, h2, e, q⟩ := h
  unfold ixL at e
  split at e
  · rename_i n k
    obtain ⟨a, ha, rfl⟩ := h1
    cases (show i = .int k from h2)
    split at e
    · rename_i xs qn
      obtain ⟨vs, q1, q2⟩ := r.obj n _ a qn ha
      obtain ⟨z, e2, q3⟩ := atI_rep q2 e
      exact get_list pins s σ H _ _ ov iv Q I ro ri ⟨a, vs, k, z, rfl, rfl, q1, e2, q z q3⟩
    · cases e
  · cases e
theorem snd_saug (o : SOk X U G Γ nm en N sc) {oe k e : E} {op : Operator} {ox kx v : Expr} {p : Pos} (ho : PE X ox (cE G Γ U oe)) (hk : PE X kx (cE G Γ U k)) (he : PE X v (cE G Γ U e)) (hp : plainX kx = true) (hop : augOp op = true) : PS X (.AugAssign (.Subscript ox kx p) op v pos) (cS G Γ U (.saug oe k op e)) := by
  have ha : ∀ ov iv new, augStore kx ov iv new = (do holding [new, ov, iv] (setItem ov iv new); release [new, ov, iv] []; pure .next) := by
    intro ov iv new
    cases kx <;> first | rfl | cases hp
  refine PS.weak (L2.ps_augS ho hk (get_W (G := G)) he (ip_W hop) (set_W (G := G)) ha) fun D σ H ⟨μ, S, env, r, re, h⟩ => ?_
  have h : AftS G H μ U D ((ev Γ oe env S).st env fun ow S1 => (ev Γ k env S1).st env fun kw S2 => match ixL ow kw S2 with
    | some d => (ev Γ e env S2).st env fun w S3 => match d, w with
      | .int a, .v (.int b) => match intOp op a b with
        | some z => match setL ow kw (.int z) S3 with
          | some S4 => .ok .nx env S4
          | none => .bad
        | none => .bad
      | _, _ => .bad
    | none => .bad) := h
  refine ⟨μ, S, env, r, re, AftS.st r re h fun ow S1 ov H1 μ1 st1 rl1 p1 re1 h1 => ?_⟩
  have h1 := AftS.shift h1 st1
  refine ⟨μ1, S1, env, rl1, re1, AftS.st rl1 re1 h1 fun kw S2 kv H2 μ2 st2 rl2 p2 re2 h2 => ?_⟩
  have h2 := AftS.shift h2 st2
  cases q : ixL ow kw S2 with
  | none => rw [q] at h2; exact h2.elim
  | some d =>
    rw [q] at h2
    refine ⟨μ2, S2, ow, kw, d, rl2, p1.cur.mono rl1 st2, p2.cur, q, fun x p3 => ?_⟩
    refine ⟨μ2, S2, env, rl2, re2, AftS.st (P := RepW G H2) rl2 re2 h2 fun w S4 y H4 μ4 st4 rl4 p4 re4 h4 => ?_⟩
    have h4 := AftS.shift h4 st4
    split at h4
    · rename_i a b _
      split at h4
      · rename_i z ez
        split at h4
        · rename_i S5 e5
          refine ⟨a, b, z, p3, p4, ez, μ4, S4, ow, kw, .int z, S5, rl4, (p1.cur.mono rl1 st2).mono rl2 st4, p2.cur.mono rl2 st4, rfl, e5, fun H' stw rlw => h4 σ H' μ4 stw rlw (re4.mono rl4 stw)⟩
        · exact h4.elim
      · exact h4.elim
    · exact h4.elim
theorem snd_ex (o : SOk X U G Γ nm en N sc) {e : E} {v : Expr} (he : PE X v (cE G Γ U e)) (hlc : isLC v = false) : PS X (.Expr v pos) (cS G Γ U (.ex e)) := by
  refine PS.weak (L2.ps_expr he (sw_none hlc)) fun D σ H ⟨μ, S, env, r, re, h⟩ => ?_
  have h : AftS G H μ U D ((ev Γ e env S).st env fun _ S1 => .ok .nx env S1) := h
  exact ⟨μ, S, env, r, re, AftS.st r re h fun w S1 v H1 μ1 st rl p re1 h1 => h1 σ H1 μ1 st rl re1⟩
theorem snd_ret {e : E} {v : Expr} (he : PE X v (cE G Γ U e)) : PS X (.Return (some v) pos) (cS G Γ U (.ret e)) := by
  refine PS.weak (L2.ps_ret he) fun D σ H ⟨μ, S, env, r, re, h⟩ => ?_
  have h : AftS G H μ U D ((ev Γ e env S).st env fun w S1 => .ok (.ret w) env S1) := h
  exact ⟨μ, S, env, r, re, AftS.st r re h fun w S1 v H1 μ1 st rl p re1 h1 => h1 v H1 μ1 st rl p⟩
theorem snd_retN : PS X (.Return none pos) (cS G Γ U .retN) := PS.weak L2.ps_retN fun D σ H ⟨μ, S, env, r, re, h⟩ => h .non H μ .refl r rfl
theorem snd_pass : PS X (.Pass pos) (cS G Γ U .pass) := PS.weak L2.ps_pass fun D σ H ⟨μ, S, env, r, re, h⟩ => h σ H μ .refl r re
theorem snd_doc {x : Str} {j : Nat} : PS X (.Expr (.Constant (.str x) j p1) pos) (cS G Γ U .pass) := PS.weak L2.ps_doc fun D σ H ⟨μ, S, env, r, re, h⟩ => h σ H μ .refl r re
theorem snd_brk : PS X (.Break pos) (cS G Γ U .brk) := PS.weak L2.ps_break fun D σ H ⟨μ, S, env, r, re, h⟩ => h σ H μ .refl r re
theorem snd_cnt : PS X (.Continue pos) (cS G Γ U .cnt) := PS.weak L2.ps_continue fun D σ H ⟨μ, S, env, r, re, h⟩ => h σ H μ .refl r re
theorem aftS_onBS {w : W} {t f : RS} (h : AftS G H μ U D (onBS w t f)) : ∃ b, w = .v (.bl b) ∧ AftS G H μ U D (if b = true then t else f) := by
  cases w with
  | v d =>
    cases d with
    | bl b => exact ⟨b, rfl, by rw [← onBS_bl]; exact h⟩
    | _ => exact h.elim
  | _ => exact h.elim
/-- a test within a statement -/
theorem AftS.tst {c : E} {env : Env} {t f : Sto → RS} {Q : Bool → Hp → Prop} (r : Rel G H μ S) (re : REnv G H μ env σ) (h : AftS G H μ U D ((ev Γ c env S).st env fun w S1 => onBS w (t S1) (f S1)))
    (hk : ∀ b S1 H1 μ1, Step μ μ1 H H1 → Rel G H1 μ1 S1 → REnv G H1 μ1 env σ → AftS G H1 μ1 U D (if b = true then t S1 else f S1) → Q b H1) : cT G Γ U c σ H Q := by
  refine ⟨μ, S, env, r, re, ?_⟩
  cases q : ev Γ c env S with
  | exc x S1 =>
    rw [q] at h
    exact fun c d H1 μ1 st rl1 p => h c d σ H1 μ1 st rl1 (re.mono r st) p
  | bad => rw [q] at h; exact h.elim
  | ok w S1 =>
    rw [q] at h
    have h : AftS G H μ U D (onBS w (t S1) (f S1)) := h
    obtain ⟨b, rfl, _⟩ := aftS_onBS h
    intro b' H1 μ1 st rl p
    cases p
    exact hk b S1 H1 μ1 st rl (re.mono r st) (AftS.shift (by rw [← onBS_bl]; exact h) st)
theorem snd_ite {c : E} {a b : List Stm} {t : Expr} {xa xb : List Stmt} (hc : PT X t (cT G Γ U c)) (ha : PSs X xa (cSs G Γ U a)) (hb : PSs X xb (cSs G Γ U b)) : PS X (.If t xa xb pos) (cS G Γ U (.ite c a b)) := by
  refine PS.weak (L2.ps_if hc ha hb) fun D σ H ⟨μ, S, env, r, re, h⟩ => ?_
  have h : AftS G H μ U D ((ev Γ c env S).st env fun w S1 => onBS w (execs Γ a env S1) (execs Γ b env S1)) := h
  refine AftS.tst r re h fun b S1 H1 μ1 st rl re1 h1 => ?_
  cases b with
  | true => exact (if_pos rfl).mpr ⟨μ1, S1, env, rl, re1, h1⟩
  | false => exact (if_neg Bool.false_ne_true).mpr ⟨μ1, S1, env, rl, re1, h1⟩
/-- a turn's end -/
theorem AftS.turn {r : RS} {k : Env → Sto → RS} {Nx : L2.St → Hp → Prop} (h : AftS G H μ U D (r.turn k))
    (hk : ∀ env S σ' H' μ', Step μ μ' H H' → Rel G H' μ' S → REnv G H' μ' env σ' → AftS G H' μ' U D (k env S) → Nx σ' H') : AftS G H μ U { D with nx := Nx, ct := Nx, bk := D.nx } r := by
  cases r with
  | bad => exact h.elim
  | exc x env S => exact h
  | ok f env S =>
    cases f with
    | nx => exact fun σ' H' μ' st rl re => hk env S σ' H' μ' st rl re (AftS.shift (r := k env S) h st)
    | ct => exact fun σ' H' μ' st rl re => hk env S σ' H' μ' st rl re (AftS.shift (r := k env S) h st)
    | bk => exact h
    | ret w => exact h
theorem AftS.seq {r : RS} {k : Env → Sto → RS} {Nx : L2.St → Hp → Prop} (h : AftS G H μ U D (r.seq k))
    (hk : ∀ env S σ' H' μ', Step μ μ' H H' → Rel G H' μ' S → REnv G H' μ' env σ' → AftS G H' μ' U D (k env S) → Nx σ' H') : AftS G H μ U { D with nx := Nx } r := by
  cases r with
  | bad => exact h.elim
  | exc x env S => exact h
  | ok f env S =>
    cases f with
    | nx => exact fun σ' H' μ' st rl re => hk env S σ' H' μ' st rl re (AftS.shift (r := k env S) h st)
    | ct => exact h
    | bk => exact h
    | ret w => exact h
theorem snd_whl (o : SOk X U G Γ nm en N sc) {c : E} {b : List Stm} {t : Expr} {xb : List Stmt} (hc : PT X t (cT G Γ U c)) (hb : PSs X xb (cSs G Γ U b)) : PS X (.While t xb [] pos) (cS G Γ U (.whl c b)) := by
  refine PS.weak (L2.ps_while o.po hc hb) fun D σ H ⟨μ, S, env, r, re, h⟩ => ?_
  have h : AftS G H μ U D (whileM (ev Γ c) (execs Γ b) env S) := h
  refine ⟨fun m σ H => ∃ μ S env, Rel G H μ S ∧ REnv G H μ env σ ∧ AftS G H μ U D (whileN (ev Γ c) (execs Γ b) m env S), ?_, ?_⟩
  · by_cases q : ∃ n, whileN (ev Γ c) (execs Γ b) n env S ≠ .bad
    · obtain ⟨n, q⟩ := q
      rw [whileM_of q] at h
      exact ⟨n, μ, S, env, r, re, h⟩
    · rw [whileM_no fun n => Classical.byContradiction fun z => q ⟨n, z⟩] at h
      exact h.elim
  · rintro m σ H ⟨μ, S, env, r, re, h⟩
    cases m with
    | zero => exact h.elim
    | succ m =>
      have h : AftS G H μ U D ((ev Γ c env S).st env fun w S1 => onBS w ((execs Γ b env S1).turn fun env2 S2 => whileN (ev Γ c) (execs Γ b) m env2 S2) (.ok .nx env S1)) := h
      refine AftS.tst r re h fun bb S1 H1 μ1 st rl re1 h1 => ?_
      cases bb with
      | false => exact (if_neg Bool.false_ne_true).mpr (h1 σ H1 μ1 .refl rl re1)
      | true =>
        refine (if_pos rfl).mpr ⟨fun σ H => ∃ μ S env, Rel G H μ S ∧ REnv G H μ env σ ∧ AftS G H μ U D (whileN (ev Γ c) (execs Γ b) m env S), fun σ' H' q => ⟨m, Nat.lt_succ_self m, q⟩, ?_⟩
        exact ⟨μ1, S1, env, rl, re1, AftS.turn h1 fun env2 S2 σ' H' μ' st' rl' re' h' => ⟨μ', S2, env2, rl', re', h'⟩⟩
open Classical in
theorem snd_for (o : SOk X U G Γ nm en N sc) {tg : Tg} {it : E} {b : List Stm} {t i : Expr} {xb : List Stmt} (hi : PI X t i (cI G Γ U it)) (ht : mtTg N (locB sc) tg t = true) (hb : PSs X xb (cSs G Γ U b)) (hp : plainX i = true) : PS X (.For t i xb [] pos) (cS G Γ U (.for_ tg it b)) := by
  refine PS.weak (L2.ps_for o.po o.x.calm hi (snd_tg o.x.eK o.x.eN o.x.nd o.x.calm (locB sc) (fun x h => o.st h) tg _ ht) hb (foldX hp)) fun D σ H ⟨μ, S, env, r, re, h⟩ => ?_
  have h : AftS G H μ U D ((ev Γ it env S).st env fun w S1 => match itemsOf w S1 with | some p => forM p.2 tg (execs Γ b) p.1 env S1 | none => .bad) := h
  have e1 : ((ev Γ it env S).st env fun w S1 => match itemsOf w S1 with | some p => forM p.2 tg (execs Γ b) p.1 env S1 | none => .bad) = (itR Γ it env S).st env fun p S1 => forM p.2 tg (execs Γ b) p.1 env S1 := by
    unfold itR
    rw [st_bind]
    cases ev Γ it env S with
    | exc x S1 => rfl
    | bad => rfl
    | ok w S1 =>
      show (match itemsOf w S1 with | some p => forM p.2 tg (execs Γ b) p.1 env S1 | none => .bad) = (orBad (itemsOf w S1) S1).st env _
      cases itemsOf w S1 <;> rfl
  rw [e1] at h
  refine ⟨μ, S, env, r, re, AftS.st r re h fun p S1 J H1 μ1 st rl wk re1 h1 => ?_⟩
  have h1 := AftS.shift h1 st
  obtain ⟨xs, src⟩ := p
  have wk : Walks G J xs src H1 μ1 := wk
  have h1 : AftS G H1 μ1 U D (forM src tg (execs Γ b) xs env S1) := h1
  refine ⟨fun i m σ H => m = xs.length - i ∧ i ≤ xs.length ∧ ∃ μ S env, Step μ1 μ H1 H ∧ Rel G H μ S ∧ REnv G H μ env σ ∧ AftS G H μ U D (forM src tg (execs Γ b) (xs.drop i) env S), ⟨xs.length, rfl, Nat.zero_le _, μ1, S1, env, .refl, rl, re1, h1⟩, ?_⟩
  rintro i m σ H ⟨rfl, hi, μ, S, env, st2, r2, re2, h2⟩
  by_cases hlt : i < xs.length
  · rw [List.drop_eq_getElem_cons hlt] at h2
    have h2 : AftS G H μ U D (if ∀ s ∈ src, srcOk s S then (match bindTg S tg xs[i] env with
      | some env1 => (execs Γ b env1 S).turn fun env2 S2 => forM src tg (execs Γ b) (xs.drop (i + 1)) env2 S2
      | none => .bad) else .bad) := h2
    by_cases hs : ∀ s ∈ src, srcOk s S
    · rw [if_pos hs] at h2
      obtain ⟨go, yld⟩ := wk.go H μ S st2 r2 hs i xs[i] (List.getElem?_eq_getElem hlt)
      refine .inr ⟨go, fun σ H => ∃ μ S env, Step μ1 μ H1 H ∧ Rel G H μ S ∧ REnv G H μ env σ ∧ AftS G H μ U D (forM src tg (execs Γ b) (xs.drop (i + 1)) env S), fun σ' H' q => ⟨xs.length - (i + 1), by omega, rfl, hlt, q⟩, fun x H' y => ?_⟩
      obtain ⟨st3, r3, rep⟩ := yld x H' y
      cases q : bindTg S tg xs[i] env with
      | none => rw [q] at h2; exact h2.elim
      | some env1 =>
        rw [q] at h2
        have h3 := AftS.shift h2 st3
        refine ⟨μ, S, env, xs[i], env1, r3, re2.mono r2 st3, rep, q, fun σ' re' _ => ⟨μ, S, env1, r3, re', AftS.turn h3 fun env2 S2 σ'' H'' μ'' st'' rl'' re'' h'' => ⟨μ'', S2, env2, (st2.trans st3).trans st'', rl'', re'', h''⟩⟩⟩
    · rw [if_neg hs] at h2
      exact h2.elim
  · have e : i = xs.length := by omega
    subst e
    rw [List.drop_length] at h2
    have h2 : AftS G H μ U D (if ∀ s ∈ src, srcOk s S then .ok .nx env S else .bad) := h2
    by_cases hs : ∀ s ∈ src, srcOk s S
    · rw [if_pos hs] at h2
      exact .inl ⟨wk.stop H μ S st2 r2 hs, h2 σ H μ .refl r2 re2⟩
    · rw [if_neg hs] at h2
      exact h2.elim
theorem snd_raise (o : SOk X U G Γ nm en N sc) {c : Nat} {n : Str} (hn : en c = some n) (hg : gloB sc n = true) (hok : okName n = true) : PS X (.Raise (some (.Call (.Name n p1) [] [] p2)) none pos) (cS G Γ U (.raise c)) := by
  have F := o.exc c n hn
  obtain ⟨bmB, B, newId, initId, F1, F2⟩ := F.ex
  refine PS.weak (L2.ps_raise o.x.calm o.x.tk (pmk_own0 F1 F2 F.mg F.kp F.rs (o.x.gl hg) (okName_ok hok).1)) fun D σ H ⟨μ, S, env, r, re, h⟩ => ?_
  exact h _ _ σ H μ .refl r re ⟨rfl, rfl, F.reg⟩

theorem snd_he {Y : Cx} (eN : Y.N = N) (eS : Y.env.scope = sc) {e : HE} {x : Expr} (hm : mtHE N sc e x = true) : PS Y (.Return (some x) pos) (cHS G U (.ret e)) := by
  have fin : ∀ {d : D}, (∀ env, hev e env = some d) → ∀ {v : V}, (∀ H μ, Rep G H μ d v) → ∀ {DD : Ends} {σ : L2.St} {H : Hp}, cHS G U (.ret e) DD σ H → DD.rt v H := by
    intro d hd v hv DD σ H hh
    obtain ⟨μ, S, env, r, re, hh⟩ := hh
    have hh : AftS G H μ U DD (match hev e env with | some d => .ok (.ret (.v d)) env S | none => .bad) := hh
    rw [hd env] at hh
    exact hh v H μ .refl r (hv H μ)
  cases e with
  | int i =>
    have hm : (match (generalizing := false) x with | .Constant (.int j) _ _ => decide (i = j) | _ => false) = true := hm
    split at hm
    · cases of_decide_eq_true hm
      exact PS.weak (L2.ps_ret L2.pe_int) fun DD σ H hh => fin (d := .int i) (fun _ => rfl) (fun _ _ => rfl) hh
    · cases hm
  | bl b =>
    have hm : (match (generalizing := false) x with | .Constant (.bool c) _ _ => b == c | _ => false) = true := hm
    split at hm
    · cases eq_of_beq hm
      exact PS.weak (L2.ps_ret L2.pe_bl) fun DD σ H hh => fin (d := .bl b) (fun _ => rfl) (fun _ _ => rfl) hh
    · cases hm
  | non =>
    have hm : (match (generalizing := false) x with | .Constant .none _ _ => true | _ => false) = true := hm
    split at hm
    · exact PS.weak (L2.ps_ret L2.pe_non) fun DD σ H hh => fin (d := .non) (fun _ => rfl) (fun _ _ => rfl) hh
    · cases hm
  | str t =>
    have hm : (match (generalizing := false) x with | .Constant (.str u) _ _ => decide (t = u) | _ => false) = true := hm
    split at hm
    · cases of_decide_eq_true hm
      exact PS.weak (L2.ps_ret L2.pe_str) fun DD σ H hh => fin (d := .str t) (fun _ => rfl) (fun _ _ => rfl) hh
    · cases hm
  | var i =>
    have hm : (match (generalizing := false) x with | .Name n _ => decide (N[i]? = some n) && visB sc n && okName n | _ => false) = true := hm
    split at hm
    · obtain ⟨hm, h3⟩ := and2 hm
      obtain ⟨h1, h2⟩ := and2 hm
      refine PS.weak (L2.ps_ret (L2.pe_var (i := i) (by rw [eN]; exact of_decide_eq_true h1) (by rw [eS]; exact visB_ok h2) (okName_ok h3).1 (okName_ok h3).2)) fun DD σ H hh => ?_
      obtain ⟨μ, S, env, r, re, hh⟩ := hh
      have hh : AftS G H μ U DD (match (match env[i]? with | some (some d) => some d | _ => none) with | some d => .ok (.ret (.v d)) env S | none => .bad) := hh
      cases q : env[i]? with
      | none => rw [q] at hh; exact hh.elim
      | some od =>
        cases od with
        | none => rw [q] at hh; exact hh.elim
        | some d =>
          rw [q] at hh
          obtain ⟨v, e1, e2⟩ := re.get i d q
          exact ⟨v, e1, hh v H μ .refl r e2⟩
    · cases hm
theorem snd_hs {Y : Cx} (eN : Y.N = N) (eS : Y.env.scope = sc) {h : HS} {s : Stmt} (hm : mtHS N sc h s = true) : PS Y s (cHS G U h) := by
  cases h with
  | ret e =>
    have hm : (match (generalizing := false) s with | .Return (some x) _ => mtHE N sc e x | _ => false) = true := hm
    split at hm
    · exact snd_he eN eS hm
    · cases hm
  | retN =>
    have hm : (match (generalizing := false) s with | .Return none _ => true | _ => false) = true := hm
    split at hm
    · exact PS.weak L2.ps_retN fun DD σ H ⟨μ, S, env, r, re, hh⟩ => hh .non H μ .refl r rfl
    · cases hm
  | cnt =>
    have hm : (match (generalizing := false) s with | .Continue _ => true | _ => false) = true := hm
    split at hm
    · exact PS.weak L2.ps_continue fun DD σ H ⟨μ, S, env, r, re, hh⟩ => hh σ H μ .refl r re
    · cases hm
  | pass =>
    have hm : (match (generalizing := false) s with | .Pass _ => true | _ => false) = true := hm
    split at hm
    · exact PS.weak L2.ps_pass fun DD σ H ⟨μ, S, env, r, re, hh⟩ => hh σ H μ .refl r re
    · cases hm
def hList (G : Gd) (U : WX) (hs : List (Nat × HS)) : List (Value × (Addr → Value → Option Addr → TS)) := hs.map fun p => (.ref (G.at_ p.1), fun _ _ _ => cHS G U p.2)
theorem snd_hds (o : SOk X U G Γ nm en N sc) : ∀ {hs : List (Nat × HS)} {hds : List ExceptHandler}, mtH en N sc hs hds = true → L2.HdsOk X hds (hList G U hs)
  | [], hds, h => by
    cases hds with
    | nil => exact .nil
    | cons _ _ => cases h
  | (c, hh) :: l, hds, h => by
    have h : (match (generalizing := false) hds with
    | .ExceptHandler (some (.Name n _)) none [st] _ :: r => decide (en c = some n) && gloB sc n && okName n && mtHS N sc hh st && mtH en N sc l r
    | _ => false) = true := h
    split at h
    · obtain ⟨h, h5⟩ := and2 h
      obtain ⟨h, h4⟩ := and2 h
      obtain ⟨h, h3⟩ := and2 h
      obtain ⟨h1, h2⟩ := and2 h
      have F := o.exc c _ (of_decide_eq_true h1)
      exact .cons ⟨o.x.gl h2, (okName_ok h3).1, .inl F.mg⟩ (fun a oe cls d pn _ _ => L2.pss_one (snd_hs (Y := X.suite a ((a, oe) :: pn)) o.x.eN o.x.eS h4)) (snd_hds o h5)
    · cases h
theorem handle_go (o : SOk X U G Γ nm en N sc) {x : Exn} (hx : G.ex x.cls = true) {d : Option Addr} : ∀ {hs : List (Nat × HS)} {hds : List ExceptHandler} (hm : mtH en N sc hs hds = true) {env : Env} {S : Sto} {σ : L2.St} {H : Hp} {μ : List Addr}, Rel G H μ S → REnv G H μ env σ → RepX G H μ x (.ref (G.at_ x.cls)) d →
    AftS G H μ U D (handle hs x env S) → L2.wMany X.K U D (hList G U hs) (.ref (G.at_ x.cls)) d σ H
  | [], hds, hm, env, S, σ, H, μ, r, re, rx, h => h _ d σ H μ .refl r re rx
  | (c, hh) :: l, hds, hm, env, S, σ, H, μ, r, re, rx, h => by
    have hm : (match (generalizing := false) hds with
    | .ExceptHandler (some (.Name n _)) none [st] _ :: r => decide (en c = some n) && gloB sc n && okName n && mtHS N sc hh st && mtH en N sc l r
    | _ => false) = true := hm
    split at hm
    · obtain ⟨hm, h5⟩ := and2 hm
      obtain ⟨hm, h4⟩ := and2 hm
      obtain ⟨hm, h3⟩ := and2 hm
      obtain ⟨h1, h2⟩ := and2 hm
      have h : AftS G H μ U D (if c = x.cls then hexec hh env S else handle l x env S) := h
      refine ⟨decide (c = x.cls), o.exm x.cls c _ hx (of_decide_eq_true h1), fun hb a ha => ?_, fun hb => ?_⟩
      · rw [if_pos (of_decide_eq_true hb)] at h
        exact ⟨μ, S, env, r, re, h⟩
      · rw [if_neg (of_decide_eq_false hb)] at h
        exact handle_go o hx h5 r re rx h
    · cases hm
theorem SOk.tr (o : SOk X U G Γ nm en N sc) {pn : List (Addr × Obj)} {xe : Value → Shared → Prop} {W : WX} (tk : L2.Takes (X.tr pn xe) W) (po : PassesOwn (model X.prog X.w) X.A X.env xe) : SOk (X.tr pn xe) W G Γ nm en N sc :=
  ⟨⟨o.x.eK, o.x.eN, o.x.nd, o.x.eS, o.x.calm, o.x.hu, tk, fun f n h => ⟨(o.x.call f n h).ex, (o.x.call f n h).mg, (o.x.call f n h).kp⟩, o.x.callv, o.x.glob, o.x.blt⟩, po, o.stk, o.fr, o.kd, o.fn, fun c n h => ⟨(o.exc c n h).ex, (o.exc c n h).mg, (o.exc c n h).kp, (o.exc c n h).rs, (o.exc c n h).reg⟩, o.exm⟩
theorem snd_try (o : SOk X U G Γ nm en N sc) {b : List Stm} {hs : List (Nat × HS)} {body : List Stmt} {h₀ : ExceptHandler} {hds : List ExceptHandler} (hb : ∀ Y W, SOk Y W G Γ nm en N sc → PSs Y body (cSs G Γ W b)) (hh : mtH en N sc hs (h₀ :: hds) = true) : PS X (.Try body (h₀ :: hds) [] [] pos) (cS G Γ U (.try_ b hs)) := by
  refine PS.weak (L2.ps_try_many (tb := fun W => cSs G Γ W b) o.stk o.fr o.x.tk (fun W pn xe tk po => hb _ W (o.tr tk po)) (snd_hds o hh)) fun D σ H ⟨μ, S, env, r, re, h⟩ => ?_
  have h : AftS G H μ U D ((execs Γ b env S).tried hs) := h
  refine ⟨μ, S, env, r, re, ?_⟩
  cases q : execs Γ b env S with
  | bad => rw [q] at h; exact h.elim
  | ok f env' S' =>
    rw [q] at h
    have h : AftS G H μ U D (.ok f env' S') := h
    cases f with
    | nx => exact h
    | bk => exact h
    | ct => exact h
    | ret w => exact h
  | exc x env' S' =>
    rw [q] at h
    have h : AftS G H μ U D (handle hs x env' S') := h
    intro cls d σ' H' μ' st rl re' rx
    obtain ⟨rfl, _, hx⟩ := id rx
    exact handle_go o hx hh rl re' rx (AftS.shift h st)

variable (nm en N G Γ sc) in
def SndS (s : Stm) : Prop := ∀ (X : Cx) (U : WX) (x : Stmt), SOk X U G Γ nm en N sc → mtS nm en N sc s x = true → PS X x (cS G Γ U s)
variable (nm en N G Γ sc) in
def SndSs (s : List Stm) : Prop := ∀ (X : Cx) (U : WX) (x : List Stmt), SOk X U G Γ nm en N sc → mtSs nm en N sc s x = true → PSs X x (cSs G Γ U s)
theorem pe_e (o : SOk X U G Γ nm en N sc) {e : E} {x : Expr} (h : mtE nm N false sc e x = true) : PE X x (cE G Γ U e) := ((snd_e e).1 X U sc x o.x h).1
theorem pt_e (o : SOk X U G Γ nm en N sc) {e : E} {x : Expr} (h : mtE nm N false sc e x = true) : PT X x (cT G Γ U e) := ((snd_e e).1 X U sc x o.x h).2
/-- the store of a comprehension on its own line -/
theorem snd_setLC (o : SOk X U G Γ nm en N sc) {i : Nat} {e : E} {x : Str} {p : Pos} {v : Expr} (h1 : N[i]? = some x) (h2 : locB sc x = true) (hm : mtE nm N false sc e v = true) : PS X (.Assign [.Name x p] v pos) (cS G Γ U (.set i e)) := by
  have simple : swapsWith v (some (.Name x p)) pos.line X.env = pure false → PS X (.Assign [.Name x p] v pos) (cS G Γ U (.set i e)) := fun hs => snd_set o h1 h2 (pe_e o hm) hs
  cases hlc : isLC v with
  | false => exact simple (sw_non hlc)
  | true =>
    cases v with
    | ListComp elt gs scope vp =>
      by_cases hb : (X.env.blockKind == .function && X.env.kindOf x == some .local && p.line == vp.line && !(scope.names.any fun (n, k) => n == x && (k == .local || k == .cell))) = true
      · have hsw : swapsWith (.ListComp elt gs scope vp) (some (.Name x p)) pos.line X.env = pure true := by rw [sw_lc, hb]
        have hyl : sc.names.lookup x = some .local := by
          have := (and2 (and2 (and2 hb).1).1).2
          rw [← o.x.eS]
          exact eq_of_beq this
        cases e with
        | lc e own tg it =>
          have h : (match (generalizing := false) (Expr.ListComp elt gs scope vp) with
            | .ListComp elt [⟨t, i, [], 0⟩] scope _ => mtE nm N true sc it i && (isTupX t || notEnum it) && mtTg N (locB scope) tg t && (tgNames tg).all (fun j => (own.map (·.2)).contains j) && L2.blkC N sc scope own && mtE nm N false (L2.relS scope sc) e elt && plainX i
            | _ => false) = true := hm
          split at h
          · rename_i heq
            cases heq
            obtain ⟨h, q7⟩ := and2 h
            obtain ⟨h, q6⟩ := and2 h
            obtain ⟨h, q5⟩ := and2 h
            obtain ⟨h, q4⟩ := and2 h
            obtain ⟨h, q3⟩ := and2 h
            obtain ⟨q1, q2⟩ := and2 h
            exact PS.weak (ps_lc o.x h1 hyl hsw ((snd_e it).2 X U sc _ _ o.x q1 q2) q3 (all_mem q4) q5 (fun s H C cl fp => ((snd_e e).1 _ U0 _ _ o.x.blk q6).1) q7) fun D σ H h => set_go h
          · cases h
        | lcif e own tg it c =>
          have h : (match (generalizing := false) (Expr.ListComp elt gs scope vp) with
            | .ListComp elt [⟨t, i, [g], 0⟩] scope _ => mtE nm N true sc it i && (isTupX t || notEnum it) && mtTg N (locB scope) tg t && (tgNames tg).all (fun j => (own.map (·.2)).contains j) && L2.blkC N sc scope own && mtE nm N false (L2.relS scope sc) e elt && mtE nm N false (L2.relS scope sc) c g && plainX i
            | _ => false) = true := hm
          split at h
          · rename_i heq
            cases heq
            obtain ⟨h, q8⟩ := and2 h
            obtain ⟨h, q7⟩ := and2 h
            obtain ⟨h, q6⟩ := and2 h
            obtain ⟨h, q5⟩ := and2 h
            obtain ⟨h, q4⟩ := and2 h
            obtain ⟨h, q3⟩ := and2 h
            obtain ⟨q1, q2⟩ := and2 h
            exact PS.weak (ps_lcif o.x h1 hyl hsw ((snd_e it).2 X U sc _ _ o.x q1 q2) q3 (all_mem q4) q5 (fun s H C cl fp => ((snd_e e).1 _ U0 _ _ o.x.blk q6).1) (fun s H C cl fp => ((snd_e c).1 _ U0 _ _ o.x.blk q7).2) q8) fun D σ H h => set_go h
          · cases h
        | _ => cases hm
      · exact simple (by rw [sw_lc, Bool.eq_false_iff.mpr hb])
    | SetComp => cases e <;> cases hm
    | DictComp => cases e <;> cases hm
    | _ => cases hlc
theorem mtTg_name {ok : Str → Bool} {i : Nat} {x : Expr} (h : mtTg N ok (.name i) x = true) : ∃ n p, x = .Name n p ∧ N[i]? = some n := by
  have h : (match (generalizing := false) x with | .Name n _ => decide (N[i]? = some n) && ok n | _ => false) = true := h
  split at h
  · exact ⟨_, _, rfl, of_decide_eq_true (and2 h).1⟩
  · cases h
theorem mtTgs_cons {ok : Str → Bool} {t : Tg} {ts : List Tg} {xs : List Expr} (h : mtTgs N ok (t :: ts) xs = true) : ∃ x xs', xs = x :: xs' ∧ mtTg N ok t x = true ∧ mtTgs N ok ts xs' = true := by
  cases xs with
  | nil => cases h
  | cons x xs =>
    have h : (plainX x && mtTg N ok t x && mtTgs N ok ts xs) = true := h
    obtain ⟨h1, h2⟩ := and2 h
    exact ⟨x, xs, rfl, (and2 h1).2, h2⟩
theorem mtTgs_nil {ok : Str → Bool} {xs : List Expr} (h : mtTgs N ok [] xs = true) : xs = [] := by
  cases xs with
  | nil => rfl
  | cons _ _ => cases h
theorem len2 {α : Type} {xs : List α} (h : xs.length = 2) : ∃ a b, xs = [a, b] := by
  match xs, h with
  | [a, b], _ => exact ⟨a, b, rfl⟩
theorem len3 {α : Type} {xs : List α} (h : xs.length = 3) : ∃ a b c, xs = [a, b, c] := by
  match xs, h with
  | [a, b, c], _ => exact ⟨a, b, c, rfl⟩
theorem snd_tset2 (o : SOk X U G Γ nm en N sc) {i j : Nat} {a b : E} {ts vs : List Expr} {k k2 : Nat} {p p2 : Pos} {l : List Str} (h1 : mtTgs N (locB sc) [.name i, .name j] ts = true) (h2 : mtEs nm N sc [a, b] vs = true) (hs : swS sc ts vs = some (some l)) (hij : i ≠ j) :
    PS X (.Assign [.Tuple ts k p] (.Tuple vs k2 p2) pos) (cS G Γ U (.tset (.tup [.name i, .name j]) (.tup [a, b]))) := by
  obtain ⟨x, ts', rfl, q1, h1⟩ := mtTgs_cons h1
  obtain ⟨y, ts'', rfl, q2, h1⟩ := mtTgs_cons h1
  cases mtTgs_nil h1
  obtain ⟨n, pn, rfl, e1⟩ := mtTg_name q1
  obtain ⟨m, pm, rfl, e2⟩ := mtTg_name q2
  obtain ⟨va, vb, rfl⟩ := len2 (sw2 hs).2.2.2
  exact snd_par o e1 e2 hij (snd_es [a, b] X U sc _ o.x h2) hs
theorem snd_tset3 (o : SOk X U G Γ nm en N sc) {i j m : Nat} {a b c : E} {ts vs : List Expr} {k k2 : Nat} {p p2 : Pos} {l : List Str} (h1 : mtTgs N (locB sc) [.name i, .name j, .name m] ts = true) (h2 : mtEs nm N sc [a, b, c] vs = true) (hs : swS sc ts vs = some (some l)) (hij : i ≠ j) (him : i ≠ m) (hjm : j ≠ m) :
    PS X (.Assign [.Tuple ts k p] (.Tuple vs k2 p2) pos) (cS G Γ U (.tset (.tup [.name i, .name j, .name m]) (.tup [a, b, c]))) := by
  obtain ⟨x, ts', rfl, q1, h1⟩ := mtTgs_cons h1
  obtain ⟨y, ts'', rfl, q2, h1⟩ := mtTgs_cons h1
  obtain ⟨z, ts3, rfl, q3, h1⟩ := mtTgs_cons h1
  cases mtTgs_nil h1
  obtain ⟨n1, pn1, rfl, e1⟩ := mtTg_name q1
  obtain ⟨n2, pn2, rfl, e2⟩ := mtTg_name q2
  obtain ⟨n3, pn3, rfl, e3⟩ := mtTg_name q3
  obtain ⟨va, vb, vc, rfl⟩ := len3 (sw3 hs).2.2.2.2
  exact snd_par3 o e1 e2 e3 hij him hjm (snd_es [a, b, c] X U sc _ o.x h2) hs
mutual
theorem snd_s : ∀ s : Stm, SndS G Γ nm en N sc s
  | .set i e => fun X U x o h => by
    have h : (match (generalizing := false) x with | .Assign [.Name x _] v _ => decide (N[i]? = some x) && locB sc x && mtE nm N false sc e v | _ => false) = true := h
    split at h
    · obtain ⟨h, h3⟩ := and2 h
      obtain ⟨h1, h2⟩ := and2 h
      exact snd_setLC o (of_decide_eq_true h1) h2 h3
    · cases h
  | .tset tg e => fun X U x o h => by
    have h : (match (generalizing := false) x with
      | .Assign [.Tuple ts k p] v _ => mtTg N (locB sc) tg (.Tuple ts k p) && mtE nm N false sc e v && !isLC v && (match (generalizing := false) v with
        | .Tuple vs _ _ => swT sc tg e ts vs
        | _ => true)
      | _ => false) = true := h
    split at h
    · rename_i ts k p v pos _
      obtain ⟨h, h4⟩ := and2 h
      obtain ⟨h, h3⟩ := and2 h
      obtain ⟨h1, h2⟩ := and2 h
      have h3 : isLC v = false := by simpa using h3
      have gen : swappedStores [.Tuple ts k p] v X.env = pure none → PS X (.Assign [.Tuple ts k p] v pos) (cS G Γ U (.tset tg e)) := fun hw => snd_tset o h1 (pe_e o h2) h3 hw
      cases v with
      | Tuple vs k2 p2 =>
        have h4 : swT sc tg e ts vs = true := h4
        unfold swT at h4
        split at h4
        · rename_i hs
          exact gen (swS_ok (by rw [o.x.eS]; exact o.kd) (by rw [o.x.eS]; exact hs))
        · rename_i l hs
          split at h4
          · exact snd_tset2 o h1 h2 hs (of_decide_eq_true h4)
          · obtain ⟨h4, q3⟩ := and2 h4
            obtain ⟨q1, q2⟩ := and2 h4
            exact snd_tset3 o h1 h2 hs (of_decide_eq_true q1) (of_decide_eq_true q2) (of_decide_eq_true q3)
          · cases h4
        · cases h4
      | _ => exact gen rfl
    · cases h
  | .sset oe k e => fun X U x o h => by
    have h : (match (generalizing := false) x with | .Assign [.Subscript ox kx _] v _ => mtE nm N false sc oe ox && mtE nm N false sc k kx && mtE nm N false sc e v && plainX kx && !isLC v | _ => false) = true := h
    split at h
    · obtain ⟨h, h5⟩ := and2 h
      obtain ⟨h, h4⟩ := and2 h
      obtain ⟨h, h3⟩ := and2 h
      obtain ⟨h1, h2⟩ := and2 h
      exact snd_sset o (pe_e o h1) (pe_e o h2) (pe_e o h3) h4 (by simpa using h5)
    · cases h
  | .aug i op e => fun X U x o h => by
    have h : (match (generalizing := false) x with | .AugAssign (.Name x _) op' v _ => decide (N[i]? = some x) && locB sc x && decide (op = op') && augOp op && mtE nm N false sc e v | _ => false) = true := h
    split at h
    · obtain ⟨h, h5⟩ := and2 h
      obtain ⟨h, h4⟩ := and2 h
      obtain ⟨h, h3⟩ := and2 h
      obtain ⟨h1, h2⟩ := and2 h
      cases of_decide_eq_true h3
      exact snd_aug o (of_decide_eq_true h1) h2 h4 (pe_e o h5)
    · cases h
  | .saug oe k op e => fun X U x o h => by
    have h : (match (generalizing := false) x with | .AugAssign (.Subscript ox kx _) op' v _ => mtE nm N false sc oe ox && mtE nm N false sc k kx && plainX kx && decide (op = op') && augOp op && mtE nm N false sc e v | _ => false) = true := h
    split at h
    · obtain ⟨h, h6⟩ := and2 h
      obtain ⟨h, h5⟩ := and2 h
      obtain ⟨h, h4⟩ := and2 h
      obtain ⟨h, h3⟩ := and2 h
      obtain ⟨h1, h2⟩ := and2 h
      cases of_decide_eq_true h4
      exact snd_saug o (pe_e o h1) (pe_e o h2) (pe_e o h6) h3 h5
    · cases h
  | .ex e => fun X U x o h => by
    have h : (match (generalizing := false) x with | .Expr v _ => mtE nm N false sc e v && !isLC v | _ => false) = true := h
    split at h
    · obtain ⟨h1, h2⟩ := and2 h
      exact snd_ex o (pe_e o h1) (by simpa using h2)
    · cases h
  | .ret e => fun X U x o h => by
    have h : (match (generalizing := false) x with | .Return (some v) _ => mtE nm N false sc e v | _ => false) = true := h
    split at h
    · exact snd_ret (pe_e o h)
    · cases h
  | .retN => fun X U x o h => by
    have h : (match (generalizing := false) x with | .Return none _ => true | _ => false) = true := h
    split at h
    · exact snd_retN
    · cases h
  | .ite c a b => fun X U x o h => by
    have h : (match (generalizing := false) x with | .If t x y _ => mtE nm N false sc c t && mtSs nm en N sc a x && mtSs nm en N sc b y | _ => false) = true := h
    split at h
    · obtain ⟨h, h3⟩ := and2 h
      obtain ⟨h1, h2⟩ := and2 h
      exact snd_ite (pt_e o h1) (snd_ss a X U _ o h2) (snd_ss b X U _ o h3)
    · cases h
  | .whl c b => fun X U x o h => by
    have h : (match (generalizing := false) x with | .While t x [] _ => mtE nm N false sc c t && mtSs nm en N sc b x | _ => false) = true := h
    split at h
    · obtain ⟨h1, h2⟩ := and2 h
      exact snd_whl o (pt_e o h1) (snd_ss b X U _ o h2)
    · cases h
  | .for_ tg it b => fun X U x o h => by
    have h : (match (generalizing := false) x with | .For t i x [] _ => mtE nm N true sc it i && (isTupX t || notEnum it) && mtTg N (locB sc) tg t && mtSs nm en N sc b x && plainX i | _ => false) = true := h
    split at h
    · obtain ⟨h, h5⟩ := and2 h
      obtain ⟨h, h4⟩ := and2 h
      obtain ⟨h, h3⟩ := and2 h
      obtain ⟨h1, h2⟩ := and2 h
      exact snd_for o ((snd_e it).2 X U sc _ _ o.x h1 h2) h3 (snd_ss b X U _ o h4) h5
    · cases h
  | .pass => fun X U x o h => by
    have h : (match (generalizing := false) x with
      | .Pass _ => true
      | .Expr (.Constant (.str _) _ _) _ => true
      | _ => false) = true := h
    split at h
    · exact snd_pass
    · exact snd_doc
    · cases h
  | .brk => fun X U x o h => by
    have h : (match (generalizing := false) x with | .Break _ => true | _ => false) = true := h
    split at h
    · exact snd_brk
    · cases h
  | .cnt => fun X U x o h => by
    have h : (match (generalizing := false) x with | .Continue _ => true | _ => false) = true := h
    split at h
    · exact snd_cnt
    · cases h
  | .raise c => fun X U x o h => by
    have h : (match (generalizing := false) x with | .Raise (some (.Call (.Name n _) [] [] _)) none _ => decide (en c = some n) && gloB sc n && okName n | _ => false) = true := h
    split at h
    · obtain ⟨h, h3⟩ := and2 h
      obtain ⟨h1, h2⟩ := and2 h
      exact snd_raise o (of_decide_eq_true h1) h2 h3
    · cases h
  | .try_ b hs => fun X U x o h => by
    have h : (match (generalizing := false) x with | .Try x (h :: r) [] [] _ => mtSs nm en N sc b x && mtH en N sc hs (h :: r) | _ => false) = true := h
    split at h
    · obtain ⟨h1, h2⟩ := and2 h
      exact snd_try o (fun Y W oY => snd_ss b Y W _ oY h1) h2
    · cases h
theorem snd_ss : ∀ s : List Stm, SndSs G Γ nm en N sc s
  | [] => fun X U x o h => by
    cases x with
    | nil => exact PSs.weak L2.pss_nil fun D σ H ⟨μ, S, env, r, re, h⟩ => h σ H μ .refl r re
    | cons _ _ => cases h
  | s :: ss => fun X U x o h => by
    cases x with
    | nil => cases h
    | cons x xs =>
      have h : (mtS nm en N sc s x && mtSs nm en N sc ss xs) = true := h
      obtain ⟨h1, h2⟩ := and2 h
      refine PSs.weak (L2.pss_cons (snd_s s X U x o h1) (snd_ss ss X U xs o h2)) fun D σ H ⟨μ, S, env, r, re, h⟩ => ?_
      have h : AftS G H μ U D ((exec Γ s env S).seq fun env' S' => execs Γ ss env' S') := h
      exact ⟨μ, S, env, r, re, AftS.seq h fun env' S' σ' H' μ' st rl re' h' => ⟨μ', S', env', rl, re', h'⟩⟩
end
end
end Py

namespace Py
open PySem PySem.Spec PyProof.Rows
open L2 (V HO Hp SqL SqT Rd upd upd_same upd_ne Cx Inv EP VK OpR RelV R2 CallR XK WX Vals TE PE TI PI PA TA It PT PG PGs TG TGs Ends TS PS PSs)
section
variable {G : Gd} {H H' : Hp} {μ μ' ν : List Addr} {S S' : Sto} {σ : L2.St} {Q : VK} {U : WX} {DE : Ends}
mutual
theorem Rep.cut : ∀ {d : D} {v : V}, und μ.length d = true → Rep G H (μ ++ ν) d v → Rep G H μ d v
  | .non, _, _, h => h
  | .bl _, _, _, h => h
  | .int _, _, _, h => h
  | .str _, _, _, h => h
  | .fn _, _, _, h => h
  | .loc n, v, hu, h => by
    obtain ⟨a, h1, h2⟩ := h
    have hn : n < μ.length := of_decide_eq_true (p := n < μ.length) hu
    rw [List.getElem?_append_left hn] at h1
    exact ⟨a, h1, h2⟩
  | .tup ds, v, hu, h => by
    obtain ⟨a, vs, e, hs, hr⟩ := h
    exact ⟨a, vs, e, hs, Reps.cut hu hr⟩
  | .cl ds, v, hu, h => by
    obtain ⟨a, vs, e, hs, hr⟩ := h
    exact ⟨a, vs, e, hs, Reps.cut hu hr⟩
theorem Reps.cut : ∀ {ds : List D} {vs : List V}, unds μ.length ds = true → Reps G H (μ ++ ν) ds vs → Reps G H μ ds vs
  | [], _, _, h => h
  | d :: ds, _, hu, h => by
    obtain ⟨v, vs', e, h1, h2⟩ := h
    obtain ⟨u1, u2⟩ := and2 (show (und μ.length d && unds μ.length ds) = true from hu)
    exact ⟨v, vs', e, Rep.cut u1 h1, Reps.cut u2 h2⟩
end
mutual
theorem Rep.und : ∀ {d : D} {v : V}, Rep G H μ d v → und μ.length d = true
  | .non, _, _ => rfl
  | .bl _, _, _ => rfl
  | .int _, _, _ => rfl
  | .str _, _, _ => rfl
  | .fn _, _, _ => rfl
  | .loc n, v, h => by
    obtain ⟨a, h1, h2⟩ := h
    exact decide_eq_true (List.getElem?_eq_some_iff.mp h1).1
  | .tup ds, v, h => by
    obtain ⟨a, vs, e, hs, hr⟩ := h
    exact Reps.und hr
  | .cl ds, v, h => by
    obtain ⟨a, vs, e, hs, hr⟩ := h
    exact Reps.und hr
theorem Reps.und : ∀ {ds : List D} {vs : List V}, Reps G H μ ds vs → unds μ.length ds = true
  | [], _, h => rfl
  | d :: ds, _, h => by
    obtain ⟨v, vs', e, h1, h2⟩ := h
    show (Py.und μ.length d && unds μ.length ds) = true
    rw [Rep.und h1, Reps.und h2]
    rfl
end
/-- the store cut back -/
theorem Rel.cut (r : Rel G H μ S) (r' : Rel G H' μ' S') (st : Step μ μ' H H') (g : gcOk S S') : Rel G H' μ (S'.take S.length) ∧ Step μ μ H H' := by
  obtain ⟨ν, rfl, hν⟩ := st.pre
  have hl := r.len
  refine ⟨⟨by rw [List.length_take, hl]; exact (Nat.min_eq_left g.1).symm, r.nd, fun n o a h1 h2 => ?_⟩, ⟨⟨[], by simp, by simp⟩, st.keep, st.dom⟩⟩
  have hn : n < S.length := by rw [← hl]; exact (List.getElem?_eq_some_iff.mp h2).1
  rw [List.getElem?_take_of_lt hn] at h1
  have q := r'.obj n o a h1 (by rw [List.getElem?_append_left (by rw [hl]; exact hn)]; exact h2)
  cases o with
  | lst xs =>
    obtain ⟨vs, q1, q2⟩ := q
    refine ⟨vs, q1, Reps.cut (ν := ν) ?_ q2⟩
    rcases g.2 n _ hn h1 with z | z
    · obtain ⟨us, _, z2⟩ := r.obj n _ a z h2
      exact Reps.und z2
    · rw [hl]
      exact z
theorem fin_go {r : RS} (rl : Rel G H μ S) (h : Aft G (RepW G H) H μ σ U Q (r.fin S)) (hD : ∀ v H', Q v H' → DE.rt v H') (hN : ∀ σ' H', Q .non H' → DE.nx σ' H') : AftS G H μ (fun c d _ H' => U c d σ H') DE r := by
  cases r with
  | bad => exact h.elim
  | exc x env S' =>
    have h : Aft G (RepW G H) H μ σ U Q (finishX S S' x) := h
    unfold finishX at h
    intro cls d σ' H' μ' st rl' re rx
    split at h
    · rename_i g
      obtain ⟨c1, c2⟩ := rl.cut rl' st g.1
      exact h cls d H' μ c2 c1 rx
    · exact h.elim
  | ok f env S' =>
    cases f with
    | bk => exact h.elim
    | ct => exact h.elim
    | nx =>
      have h : Aft G (RepW G H) H μ σ U Q (finish S S' (.v .non)) := h
      unfold finish at h
      intro σ' H' μ' st rl' re
      split at h
      · rename_i g
        obtain ⟨c1, c2⟩ := rl.cut rl' st g
        have h : Aft G (RepW G H) H μ σ U Q (.ok (.v .non) (S'.take S.length)) := h
        exact hN σ' H' (h .non H' μ c2 c1 rfl)
      · exact h.elim
    | ret w =>
      have h : Aft G (RepW G H) H μ σ U Q (finish S S' w) := h
      unfold finish at h
      intro v H' μ' st rl' p
      split at h
      · rename_i g
        obtain ⟨c1, c2⟩ := rl.cut rl' st g
        obtain ⟨ν, rfl, hν⟩ := st.pre
        have hl := rl.len
        refine hD v H' ?_
        have plain : ∀ d : Py.D, w = .v d → und S.length d = true → Aft G (RepW G H) H μ σ U Q (.ok (.v d) (S'.take S.length)) → Q v H' := fun d e hu hh => by
          subst e
          exact hh v H' μ c2 c1 (Rep.cut (d := d) (ν := ν) (by rw [hl]; exact hu) p)
        split at h
        · rename_i m _
          split at h
          · rename_i hm
            exact plain _ rfl (decide_eq_true hm) h
          · rename_i hm
            split at h
            · rename_i xs e1
              split at h
              · rename_i hu
                obtain ⟨a, ha, rfl⟩ := p
                obtain ⟨vs, q1, q2⟩ := rl'.obj m _ a e1 ha
                have ha' : a ∈ ν := by
                  rw [List.getElem?_append_right (by omega)] at ha
                  exact List.mem_of_getElem? ha
                refine h _ H' μ c2 c1 ⟨a, vs, rfl, hν a ha', fun z => ?_, q1, Reps.cut (ν := ν) (by rw [hl]; exact hu) q2⟩
                exact (List.nodup_append.mp rl'.nd).2.2 a z a ha' rfl
              · exact h.elim
            · exact h.elim
        · rename_i d _
          split at h
          · rename_i hu
            exact plain _ rfl hu h
          · exact h.elim
        · rename_i xs
          split at h
          · rename_i hu
            obtain ⟨a, vs, e, h0, h1, h2, h3⟩ := p
            exact h v H' μ c2 c1 ⟨a, vs, e, h0, fun z => h1 (List.mem_append_left _ z), h2, Reps.cut (ν := ν) (by rw [hl]; exact hu) h3⟩
          · exact h.elim
        · exact h.elim
      · exact h.elim
theorem renv_start {N : List Str} : ∀ {ds : List Py.D} {vs : List V}, Reps G H μ ds vs → REnv G H μ (ds.map some ++ List.replicate (N.length - ds.length) none) (L2.start N vs) := fun {ds vs} h => by
  have hl := h.length
  refine ⟨by unfold L2.start; simp [hl], fun i d e => ?_⟩
  have hi : i < ds.length := by
    apply Classical.byContradiction
    intro hi
    rw [List.getElem?_append_right (by simp; omega), List.getElem?_replicate] at e
    split at e <;> cases e
  rw [List.getElem?_append_left (by simpa using hi), List.getElem?_map] at e
  cases q : ds[i]? with
  | none => rw [q] at e; cases e
  | some d' =>
    rw [q] at e
    cases e
    obtain ⟨v, h1, h2⟩ := h.getOf q
    refine ⟨v, ?_, h2⟩
    unfold L2.start
    rw [List.getElem?_append_left (by simp; omega), List.getElem?_map, h1]
    rfl
end
/-- a def as it stands: its name, its own text, what of it is matched -/
structure DefOk (K : PySem.W.Frag) (mg : Str → Option Value) (G : Gd) (nm : Nms) (en : Nat → Option Str) (f : Nat) (n : Str) (fd : FD) : Prop where
  ex : ∃ (params : Arguments) (body : List Stmt) (scope : Scope) (fdata : FuncData) (ps : List Str), L2.FunD K n n params body scope [] [] (G.at_ f) fdata ∧ L2.FnScope fd.names ps scope ∧ ps.length = fd.params ∧ mtSs nm en fd.names scope fd.body body = true ∧ L2.Binds K fdata ps []
  mg : mg n = some (.ref (G.at_ f))
/-- an exception's class as it stands -/
structure ExcK (K : PySem.W.Frag) (mg : Str → Option Value) (G : Gd) (c : Nat) (n : Str) : Prop where
  ex : ∃ bmB B newId initId, ExcBaseFacts B newId initId bmB ∧ PySem.W.excIn K (G.at_ c) bmB newId = true
  mg : mg n = some (.ref (G.at_ c))
  kp : PySem.W.keepIn K (.ref (G.at_ c)) = true
  sub : PySem.W.subIn K (.ref (G.at_ c)) (.type "BaseException") = some true
  ty : PySem.W.typeIn K (.ref (G.at_ c)) = some (.type "type")
  reg : G.ex c = true
/-- the text's whole table -/
structure Tab (K : PySem.W.Frag) (mg : Str → Option Value) (G : Gd) (p : Prog) (gl : Nat → Option D) (hs : Nat → Bool) (nm : Nms) (en : Nat → Option Str) : Prop where
  gK : G.K = K
  defs : ∀ f n, nm.fn f = some n → ∃ fd, p f = some fd ∧ DefOk K mg G nm en f n fd
  callv : ∀ f, hs f = true → ∃ n, nm.fn f = some n
  glob : ∀ i x d, nm.gl i = some x → gl i = some d → ∃ u v, mg x = some u ∧ RelV v u ∧ ∀ H μ, Rep G H μ d v
  blt : ∀ x ∈ bltNames, mg x = none
  exc : ∀ c n, en c = some n → ExcK K mg G c n
  exm : ∀ c c' n, G.ex c = true → en c' = some n → PySem.W.exmOne K (.ref (G.at_ c)) (.ref (G.at_ c')) = some (decide (c' = c))
section
variable {P : Program} {w : World} {K : PySem.W.Frag} {mg : Str → Option Value} {base : Heap} {G : Gd} {p : Prog} {gl : Nat → Option D} {hs : Nat → Bool} {nm : Nms} {en : Nat → Option Str}
theorem gm_has : ∀ k, (gm p gl hs k).has = hs
  | 0 => rfl
  | _ + 1 => rfl
theorem gm_glob : ∀ k, (gm p gl hs k).glob = gl
  | 0 => rfl
  | _ + 1 => rfl
/-- one def, by what its callees keep -/
theorem tab_step (T : Tab K mg G p gl hs nm en) {k f : Nat} {n : Str} {fd : FD} (hp : p f = some fd) {params : Arguments} {body : List Stmt} {scope : Scope} {fdata : FuncData} {ps : List Str} (F1 : L2.FunD K n n params body scope [] [] (G.at_ f) fdata) (F2 : L2.FnScope fd.names ps scope) (F3 : ps.length = fd.params)
    (F4 : mtSs nm en fd.names scope fd.body body = true)
    (ih : ∀ g m, nm.fn g = some m → ∃ (fdata : FuncData) (ps : List Str), L2.FnOk P w K mg base (L2.CX P w) k (G.at_ g) fdata ps (spC G (gm p gl hs k) g) ∧ L2.Binds K fdata ps [] ∧ PySem.W.keepIn K (.ref (G.at_ g)) = true) :
    L2.FnOk P w K mg base (L2.CX P w) (k + 1) (G.at_ f) fdata ps (spC G (gm p gl hs (k + 1)) f) := by
  have callE : ∀ ds S, (gm p gl hs (k + 1)).call f ds S = if ds.length = fd.params then (execs (gm p gl hs k) fd.body (ds.map some ++ List.replicate (fd.names.length - ds.length) none) S).fin S else .bad := fun ds S => by
    show (match p f with | some fd => callF (gm p gl hs k) fd ds S | none => .bad) = _
    rw [hp]
    rfl
  refine F1.ok F2 (fun vs H Q E h => ?_) (fun cdv A outer s H vs Q E hr h => ?_)
  · obtain ⟨μ, S, ds, rl, rp, h⟩ := h
    rw [callE] at h
    obtain ⟨hl, _⟩ := aft_ite h
    rw [← rp.length, hl, F3]
  · obtain ⟨μ, S, ds, rl, rp, h⟩ := h
    rw [callE] at h
    obtain ⟨hl, h⟩ := aft_ite h
    refine ⟨cSs G (gm p gl hs k) (fun cls d _ H' => E cls d H') fd.body, snd_ss fd.body _ _ body ?_ F4, ⟨μ, S, _, rl, renv_start (N := fd.names) rp, fin_go rl h (fun _ _ q => q) fun _ _ q => q⟩⟩
    refine ⟨⟨T.gK.symm, rfl, F2.nd, rfl, rfl, hr.units, L2.takes_of rfl rfl rfl rfl, fun g m hg => ?_, by rw [gm_has]; exact T.callv, by rw [gm_glob]; exact T.glob, T.blt⟩, L2.passes_of rfl, rfl, rfl, F2.kind, fun _ _ => .inl rfl, fun c m hc => ?_, T.exm⟩
    · obtain ⟨fdata', ps', G1, G2, G3⟩ := ih g m hg
      obtain ⟨fd', hp', F'⟩ := T.defs g m hg
      exact ⟨⟨fdata', ps', k, G1, hr, G2⟩, F'.mg, G3⟩
    · have Z := T.exc c m hc
      exact ⟨Z.ex, Z.mg, Z.kp, L2.raises_own Z.sub Z.ty, Z.reg⟩
theorem tab_ok (T : Tab K mg G p gl hs nm en) : ∀ (k f : Nat) (n : Str), nm.fn f = some n → ∃ (fdata : FuncData) (ps : List Str), L2.FnOk P w K mg base (L2.CX P w) k (G.at_ f) fdata ps (spC G (gm p gl hs k) f) ∧ L2.Binds K fdata ps [] ∧ PySem.W.keepIn K (.ref (G.at_ f)) = true
  | 0, f, n, hf => by
    obtain ⟨fd, hp, F⟩ := T.defs f n hf
    obtain ⟨params, body, scope, fdata, ps, F1, F2, F3, F4, F5⟩ := F.ex
    refine ⟨fdata, ps, ⟨fun vs H Q E h => ?_, fun A outer s H args us vs Q E hr e0 hb r hsp => ?_⟩, F5, F1.kp⟩
    · obtain ⟨μ, S, ds, rl, rp, h⟩ := h
      exact h.elim
    · obtain ⟨μ, S, ds, rl, rp, h⟩ := hsp
      exact h.elim
  | k + 1, f, n, hf => by
    obtain ⟨fd, hp, F⟩ := T.defs f n hf
    obtain ⟨params, body, scope, fdata, ps, F1, F2, F3, F4, F5⟩ := F.ex
    exact ⟨fdata, ps, tab_step T hp F1 F2 F3 F4 (tab_ok T k), F5, F1.kp⟩
def cellBits : Nat := 1048576
/-- the law's promise -/
theorem spec_law (T : Tab K mg G p gl hs nm en) {k f : Nat} {len : Nat} (hlaw : ∀ ns : List Int, ns.length ≤ len → (∀ z ∈ ns, z.natAbs < 2 ^ cellBits) → (gm p gl hs k).call f [.cl (ns.map D.int)] [] = .ok (.v (.bl true)) [])
    {H : Hp} {a : Addr} {ns : List Int} (hl : ns.length ≤ len) (hb : ∀ z ∈ ns, z.natAbs < 2 ^ cellBits) (hO : L2.Only H) (hS : SqL K H a (ns.map V.int)) : spC G (gm p gl hs k) f [.ref a] H (fun v _ => v = .bl true) fun _ _ _ => False := by
  have cl : ClL G.K H a (ns.map V.int) := by
    rw [T.gK]
    rcases hS with (h | h) | h
    · rcases hO a with z | ⟨o, xs, z⟩
      · rw [z] at h; cases h
      · rw [z] at h; cases h
    · exact .inl h
    · exact .inr fun H' => .inr h
  refine ⟨[], [], [.cl (ns.map D.int)], ⟨rfl, List.nodup_nil, fun n o a h => by simp at h⟩, ⟨.ref a, [], rfl, ⟨a, _, rfl, cl, Reps.of_ints ns⟩, rfl⟩, ?_⟩
  rw [hlaw ns hl hb]
  intro v H' μ' st rl p
  exact p
end
end Py

namespace Py
open PySem PySem.Spec PyProof.Rows
open L2 (V HO Hp SqL SqT Rd upd upd_same upd_ne Cx Inv EP VK OpR RelV R2 CallR XK WX Vals TE PE TI PI PA TA It PT PG PGs TG TGs Ends TS PS PSs)
theorem cx_none {P : Program} {w : World} {H : Hp} {s : Shared} {e : Value} {s' : Shared} (h : L2.CX P w [] H s (fun _ _ _ => False) e s') : False := by
  obtain ⟨_, _, _, _, _, _, _, _, _, _, _, _, z⟩ := h
  exact z
theorem walk_tab {l : PySem.W.OpenLaw} {n k : Nat} {q : Program} {loose : List Str} {XP : (Str → Option Value) → Heap → Prop} {YP : World → Heap → Prop} {d : DefRec} {x : Str}
    (hn : l.most = some n) (hn2 : n ≤ sizeLine) (hdf : d.params.defaults = []) (hr : L2.Room k callerA)
    (F : ∀ (w : World) (mg : Str → Option Value) (fa : Addr) (h : Heap), YP w h → h.Ns mainGlobals mg → mg d.name = some (.ref fa) →
      ∃ (K : PySem.W.Frag) (fd : FuncData) (sp : L2.Sp), K.In h ∧ (∀ (s : Shared) (u : Value), BindsTo s fd ⟨[u], []⟩ [(x, u)]) ∧
        (∀ (H : Hp) (a : Addr) (ns : List Int), ns.length ≤ n → (∀ z ∈ ns, z.natAbs < 2 ^ cellBits) → L2.Only H → SqL K H a (ns.map V.int) → sp [.ref a] H (fun v _ => v = .bl true) fun _ _ _ => False) ∧
        ∀ base : Heap, K.In base → base.Ns mainGlobals mg → L2.FnOk l.prog w K mg base (L2.CX l.prog w) k fa fd [x] sp) :
    PySem.W.WalkO q loose XP YP l.row.toRowW d [] (fun f vs => PySem.call f vs) := by
  refine Att.attach_callB hn hdf fun w s₀ s₁ mg mb fa o pm cd doc a vs ns G Y ho hd hcd hmg hobj hints hlen hbits hg => ?_
  obtain ⟨K, fd, sp, KX, hb, hsp, hF⟩ := F w mg fa _ Y G.T.g hmg
  exact L2.law_call KX G.T.g G.T.b G.T.builtins G.T.nolimit hg hobj hints (Nat.le_trans hlen hn2) hr hF hb (fun H hO hS => hsp H a ns hlen (fun z hz => PySem.intBits_le_iff.mp (hbits z hz)) hO hS) fun H e s' => cx_none
/-- all of a list -/
def Alls {α : Type} (P : α → Prop) : List α → Prop
  | [] => True
  | x :: xs => P x ∧ Alls P xs
theorem Alls.mem {α : Type} {P : α → Prop} : ∀ {l : List α} {x : α}, Alls P l → x ∈ l → P x
  | y :: ys, x, h, hx => by
    rcases List.mem_cons.mp hx with e | hx
    · rw [e]
      exact h.1
    · exact Alls.mem h.2 hx
theorem lookup_in {α : Type} : ∀ {l : List (Nat × α)} {i : Nat} {x : α}, l.lookup i = some x → (i, x) ∈ l
  | [], _, _, h => by cases h
  | (k, y) :: r, i, x, h => by
    rw [List.lookup_cons] at h
    cases e : i == k with
    | true =>
      rw [e] at h
      cases h
      cases eq_of_beq e
      exact List.mem_cons_self
    | false =>
      rw [e] at h
      exact List.mem_cons_of_mem _ (lookup_in h)
/-- the places of a text's defs and classes: by names -/
def gdOf (K : PySem.W.Frag) (fs xs : List (Nat × Str)) : Gd := ⟨K, fun i => He.ga K (((fs ++ xs).lookup i).getD ""), fun c => (xs.lookup c).isSome⟩
theorem exm_of {K : PySem.W.Frag} {at_ : Nat → Addr} {enL : List (Nat × Str)} (all : Alls (fun q : Nat × Str => Alls (fun r : Nat × Str => PySem.W.exmOne K (.ref (at_ q.1)) (.ref (at_ r.1)) = some (decide (r.1 = q.1))) enL) enL) (c c' : Nat) (n : Str) (h : (enL.lookup c).isSome = true) (h' : enL.lookup c' = some n) :
    PySem.W.exmOne K (.ref (at_ c)) (.ref (at_ c')) = some (decide (c' = c)) := by
  obtain ⟨na, hna⟩ := Option.isSome_iff_exists.mp h
  exact (all.mem (lookup_in hna)).mem (lookup_in h')
end Py

namespace Py
open PySem
def fd_is_number : FD := ⟨1, ["value"],
  [.ret (.and (.isi (.var 0) .tint) (.not (.isi (.var 0) .tbool)))]⟩
def fd_gcd_of_c1 : E := .cmp .Gt (.var 1) (.int 0)
def fd_gcd_of_l1 : List Stm := [.tset (.tup [.name 0, .name 1]) (.tup [.var 1, .bin .Mod (.var 0) (.var 1)])]
def fd_gcd_of : FD := ⟨2, ["a", "b"],
  [.set 0 (.b1 .abs (.var 0)), .set 1 (.b1 .abs (.var 1)), .whl fd_gcd_of_c1 fd_gcd_of_l1, .ret (.var 0)]⟩
def fd_is_fraction : FD := ⟨1, ["value"],
  [.ite (.or (.not (.isi (.var 0) .ttup)) (.or (.cmp .NotEq (.b1 .len (.var 0)) (.int 2)) (.or (.not (.call 19 [.ix (.var 0) (.int 0)])) (.not (.call 19 [.ix (.var 0) (.int 1)]))))) [.ret (.bl false)] [], .ret (.and (.cmp .Gt (.ix (.var 0) (.int 1)) (.int 0)) (.cmp .Eq (.call 20 [.ix (.var 0) (.int 0), .ix (.var 0) (.int 1)]) (.int 1)))]⟩
def fd_fraction : FD := ⟨2, ["p", "q", "g"],
  [.ite (.cmp .Eq (.var 1) (.int 0)) [.raise 9] [], .set 2 (.call 20 [.var 0, .var 1]), .ite (.cmp .Lt (.var 1) (.int 0)) [.set 2 (.neg (.var 2))] [], .ret (.tup [.bin .FloorDiv (.var 0) (.var 2), .bin .FloorDiv (.var 1) (.var 2)])]⟩
def fd_plus : FD := ⟨2, ["a", "b"],
  [.ret (.call 22 [.bin .Add (.bin .Mult (.ix (.var 0) (.int 0)) (.ix (.var 1) (.int 1))) (.bin .Mult (.ix (.var 1) (.int 0)) (.ix (.var 0) (.int 1))), .bin .Mult (.ix (.var 0) (.int 1)) (.ix (.var 1) (.int 1))])]⟩
def fd_minus : FD := ⟨2, ["a", "b"],
  [.ret (.call 22 [.bin .Sub (.bin .Mult (.ix (.var 0) (.int 0)) (.ix (.var 1) (.int 1))) (.bin .Mult (.ix (.var 1) (.int 0)) (.ix (.var 0) (.int 1))), .bin .Mult (.ix (.var 0) (.int 1)) (.ix (.var 1) (.int 1))])]⟩
def fd_times : FD := ⟨2, ["a", "b"],
  [.ret (.call 22 [.bin .Mult (.ix (.var 0) (.int 0)) (.ix (.var 1) (.int 0)), .bin .Mult (.ix (.var 0) (.int 1)) (.ix (.var 1) (.int 1))])]⟩
def fd_over : FD := ⟨2, ["a", "b"],
  [.ret (.call 22 [.bin .Mult (.ix (.var 0) (.int 0)) (.ix (.var 1) (.int 1)), .bin .Mult (.ix (.var 0) (.int 1)) (.ix (.var 1) (.int 0))])]⟩
def fd_below : FD := ⟨2, ["a", "b"],
  [.ret (.cmp .Lt (.bin .Mult (.ix (.var 0) (.int 0)) (.ix (.var 1) (.int 1))) (.bin .Mult (.ix (.var 1) (.int 0)) (.ix (.var 0) (.int 1))))]⟩
def fd_sign_of : FD := ⟨1, ["a"],
  [.ret (.bin .Sub (.b1 .int (.cmp .Gt (.ix (.var 0) (.int 0)) (.int 0))) (.b1 .int (.cmp .Lt (.ix (.var 0) (.int 0)) (.int 0))))]⟩
def fd_half : FD := ⟨2, ["a", "b"],
  [.ret (.call 22 [.bin .Add (.bin .Mult (.ix (.var 0) (.int 0)) (.ix (.var 1) (.int 1))) (.bin .Mult (.ix (.var 1) (.int 0)) (.ix (.var 0) (.int 1))), .bin .Mult (.bin .Mult (.int 2) (.ix (.var 0) (.int 1))) (.ix (.var 1) (.int 1))])]⟩
def fd_law_bag : FD := ⟨2, ["script", "k", "cell"],
  [.set 2 (.int 0), .ite (.cmp .Lt (.var 1) (.b1 .len (.var 0))) [.set 2 (.b1 .int (.ix (.var 0) (.var 1)))] [], .ret (.lst [.int 0, .bin .Add (.int 1061) (.bin .Mult (.int 48611) (.var 1)), .int 0, .var 2])]⟩
def fd_law_draw : FD := ⟨2, ["bag", "many", "seed", "rest"],
  [.ite (.cmp .Lt (.var 1) (.int 1)) [.ret (.int 0)] [], .ite (.cmp .Eq (.ix (.var 0) (.int 0)) (.int 0)) [.sset (.var 0) (.int 2) (.bin .Add (.ix (.var 0) (.int 2)) (.int 1)), .set 2 (.bin .Mod (.b1 .int (.bin .Add (.bin .Add (.bin .Add (.bin .Mult (.ix (.var 0) (.int 1)) (.int 48271)) (.bin .Mult (.ix (.var 0) (.int 3)) (.int 69621))) (.bin .Mult (.ix (.var 0) (.int 2)) (.int 16807))) (.int 11))) (.int 2147483647)), .sset (.var 0) (.int 0) (.bin .Add (.bin .Mult (.var 2) (.int 2147483629)) (.bin .Mod (.b1 .int (.bin .Add (.bin .Mult (.var 2) (.var 2)) (.ix (.var 0) (.int 3)))) (.int 2147483629))), .ite (.and (.cmp .Eq (.ix (.var 0) (.int 2)) (.int 1)) (.cmp .GtE (.ix (.var 0) (.int 3)) (.bin .Pow (.int 10) (.int 18)))) [.sset (.var 0) (.int 0) (.ix (.var 0) (.int 3))] [], .sset (.var 0) (.int 1) (.var 2)] [], .set 3 (.ix (.var 0) (.int 0)), .sset (.var 0) (.int 0) (.bin .FloorDiv (.var 3) (.var 1)), .ret (.bin .Mod (.b1 .int (.var 3)) (.var 1))]⟩
def fd_law_one : FD := ⟨2, ["bag", "row"],
  [.ret (.ix (.var 1) (.call 31 [.var 0, .b1 .len (.var 1)]))]⟩
def fd_law_number : FD := ⟨1, ["bag", "base"],
  [.set 1 (.call 32 [.var 0, .lst [.int 0, .int 1, .int 2, .int 12, .int 97, .bin .Add (.bin .Pow (.int 10) (.int 30)) (.int 7), .bin .Sub (.bin .Pow (.int 10) (.int 60)) (.int 1), .bin .Pow (.int 2) (.int 40)]]), .ret (.bin .Mult (.call 32 [.var 0, .lst [.int 1, .neg (.int 1)]]) (.bin .Add (.var 1) (.call 32 [.var 0, .lst [.int 0, .int 0, .call 31 [.var 0, .int 1000]]])))]⟩
def fd_law_gcd_c1 : E := .cmp .NotEq (.var 1) (.int 0)
def fd_law_gcd_l1 : List Stm := [.tset (.tup [.name 0, .name 1]) (.tup [.var 1, .bin .Mod (.b1 .int (.var 0)) (.b1 .int (.var 1))])]
def fd_law_gcd : FD := ⟨2, ["a", "b"],
  [.whl fd_law_gcd_c1 fd_law_gcd_l1, .ret (.b1 .abs (.var 0))]⟩
def fd_law_good : FD := ⟨3, ["told", "p", "q"],
  [.ite (.or (.not (.isi (.var 0) .ttup)) (.or (.cmp .NotEq (.b1 .len (.var 0)) (.int 2)) (.or (.isi (.ix (.var 0) (.int 0)) .tbool) (.isi (.ix (.var 0) (.int 1)) .tbool)))) [.ret (.bl false)] [], .ret (.and (.cmp .Gt (.ix (.var 0) (.int 1)) (.int 0)) (.and (.cmp .Eq (.call 34 [.ix (.var 0) (.int 0), .ix (.var 0) (.int 1)]) (.int 1)) (.and (.cmp .Eq (.bin .Mult (.ix (.var 0) (.int 0)) (.var 2)) (.bin .Mult (.ix (.var 0) (.int 1)) (.var 1))) (.cmp .Is (.call 21 [.var 0]) (.bl true)))))]⟩
def fd_law_by_zero : FD := ⟨3, ["call", "a", "b"],
  [.try_ [.ex (.callv 0 [.var 1, .var 2])] [(9, .ret (.bl true))], .ret (.bl false)]⟩
def fd_law_2_l2 : List Stm := [.set 5 (.call 33 [.var 2]), .set 6 (.call 33 [.var 2]), .set 6 (.ife (.cmp .NotEq (.var 6) (.int 0)) (.var 6) (.int 7)), .set 7 (.call 22 [.var 5, .var 6]), .ite (.or (.not (.call 35 [.var 7, .var 5, .var 6])) (.not (.call 36 [.glob 22, .var 5, .int 0]))) [.ret (.bl false)] [], .ex (.meth (.var 3) .append [.var 7])]
def fd_law_2_l3 : List Stm := [.ite (.not (.call 35 [.callv 11 [.var 8, .var 9], .var 5, .var 6])) [.ret (.bl false)] []]
def fd_law_2_l4 : List Stm := [.ite (.cmp .IsNot (.call 21 [.var 12]) (.bl false)) [.ret (.bl false)] []]
def fd_law_2_l1 : List Stm := [.set 2 (.call 30 [.var 0, .var 1]), .set 3 (.lst []), .for_ (.name 4) (.rng [.int 2]) fd_law_2_l2, .tset (.tup [.name 8, .name 9]) (.var 3), .set 10 (.lst [.tup [.bin .Add (.bin .Mult (.ix (.var 8) (.int 0)) (.ix (.var 9) (.int 1))) (.bin .Mult (.ix (.var 9) (.int 0)) (.ix (.var 8) (.int 1))), .bin .Mult (.ix (.var 8) (.int 1)) (.ix (.var 9) (.int 1))], .tup [.bin .Sub (.bin .Mult (.ix (.var 8) (.int 0)) (.ix (.var 9) (.int 1))) (.bin .Mult (.ix (.var 9) (.int 0)) (.ix (.var 8) (.int 1))), .bin .Mult (.ix (.var 8) (.int 1)) (.ix (.var 9) (.int 1))], .tup [.bin .Mult (.ix (.var 8) (.int 0)) (.ix (.var 9) (.int 0)), .bin .Mult (.ix (.var 8) (.int 1)) (.ix (.var 9) (.int 1))]]), .ex (.meth (.var 10) .append [.tup [.bin .Add (.bin .Mult (.ix (.var 8) (.int 0)) (.ix (.var 9) (.int 1))) (.bin .Mult (.ix (.var 9) (.int 0)) (.ix (.var 8) (.int 1))), .bin .Mult (.bin .Mult (.int 2) (.ix (.var 8) (.int 1))) (.ix (.var 9) (.int 1))]]), .for_ (.tup [.name 11, .tup [.name 5, .name 6]]) (.lst [.tup [.glob 23, .ix (.var 10) (.int 0)], .tup [.glob 24, .ix (.var 10) (.int 1)], .tup [.glob 25, .ix (.var 10) (.int 2)], .tup [.glob 29, .ix (.var 10) (.int 3)]]) fd_law_2_l3, .ite (.or (.and (.cmp .Eq (.ix (.var 9) (.int 0)) (.int 0)) (.not (.call 36 [.glob 26, .var 8, .var 9]))) (.and (.cmp .NotEq (.ix (.var 9) (.int 0)) (.int 0)) (.not (.call 35 [.call 26 [.var 8, .var 9], .bin .Mult (.ix (.var 8) (.int 0)) (.ix (.var 9) (.int 1)), .bin .Mult (.ix (.var 8) (.int 1)) (.ix (.var 9) (.int 0))])))) [.ret (.bl false)] [], .ite (.or (.cmp .NotEq (.b1 .repr (.call 27 [.var 8, .var 9])) (.b1 .repr (.cmp .Lt (.bin .Mult (.ix (.var 8) (.int 0)) (.ix (.var 9) (.int 1))) (.bin .Mult (.ix (.var 9) (.int 0)) (.ix (.var 8) (.int 1)))))) (.cmp .IsNot (.call 27 [.var 8, .var 8]) (.bl false))) [.ret (.bl false)] [], .ite (.or (.cmp .NotEq (.call 28 [.var 8]) (.bin .Sub (.b1 .int (.cmp .Gt (.ix (.var 8) (.int 0)) (.int 0))) (.b1 .int (.cmp .Lt (.ix (.var 8) (.int 0)) (.int 0))))) (.isi (.call 28 [.var 8]) .tbool)) [.ret (.bl false)] [], .for_ (.name 12) (.lst [.tup [.int 1, .int 0], .tup [.int 2, .int 4], .tup [.int 1, .neg (.int 2)], .tup [.bl true, .int 1], .tup [.int 1, .bl true], .lst [.int 1, .int 2], .tup [.int 1], .tup [.int 1, .int 2, .int 3], .non, .str "12", .tup [.int 0, .int 3], .int 5]) fd_law_2_l4]
def fd_law_2 : FD := ⟨1, ["script", "k", "bag", "rows", "turn", "p", "q", "told", "a", "b", "due", "call", "odd"],
  [.for_ (.name 1) (.rng [.b2 .max (.int 1) (.b2 .min (.int 20) (.b1 .len (.var 0)))]) fd_law_2_l1, .ret (.and (.cmp .Is (.call 21 [.tup [.int 0, .int 1]]) (.bl true)) (.cmp .Is (.call 21 [.tup [.neg (.int 3), .int 2]]) (.bl true)))]⟩
def fd_is_polynomial : FD := ⟨1, ["value", "n"],
  [.ite (.or (.not (.isi (.var 0) .ttup)) (.not (.b1 .all (.lc (.call 19 [.var 1]) [("n", 1)] (.name 1) (.var 0))))) [.ret (.bl false)] [], .ret (.or (.cmp .Eq (.var 0) (.tup [])) (.cmp .NotEq (.ix (.var 0) (.neg (.int 1))) (.int 0)))]⟩
def fd_trimmed_c1 : E := .and (.cmp .NotEq (.var 1) (.lst [])) (.cmp .Eq (.ix (.var 1) (.neg (.int 1))) (.int 0))
def fd_trimmed_l1 : List Stm := [.ex (.meth (.var 1) .pop [])]
def fd_trimmed : FD := ⟨1, ["coefficients", "rows"],
  [.set 1 (.b1 .lst (.var 0)), .whl fd_trimmed_c1 fd_trimmed_l1, .ret (.b1 .tup (.var 1))]⟩
def fd_sum_of_l1 : List Stm := [.saug (.var 2) (.var 3) .Add (.var 4)]
def fd_sum_of_l2 : List Stm := [.saug (.var 2) (.var 3) .Add (.var 4)]
def fd_sum_of : FD := ⟨2, ["p", "q", "found", "i", "n"],
  [.set 2 (.bin .Mult (.lst [.int 0]) (.b2 .max (.b1 .len (.var 0)) (.b1 .len (.var 1)))), .for_ (.tup [.name 3, .name 4]) (.enum (.var 0)) fd_sum_of_l1, .for_ (.tup [.name 3, .name 4]) (.enum (.var 1)) fd_sum_of_l2, .ret (.call 118 [.var 2])]⟩
def fd_scaled : FD := ⟨2, ["n", "p", "one"],
  [.ret (.call 118 [.lc (.bin .Mult (.var 0) (.var 2)) [("one", 2)] (.name 2) (.var 1)])]⟩
def fd_difference : FD := ⟨2, ["p", "q"],
  [.ret (.call 120 [.var 0, .call 121 [.neg (.int 1), .var 1]])]⟩
def fd_product_l2 : List Stm := [.saug (.var 2) (.bin .Add (.var 3) (.var 5)) .Add (.bin .Mult (.var 4) (.var 6))]
def fd_product_l1 : List Stm := [.for_ (.tup [.name 5, .name 6]) (.enum (.var 1)) fd_product_l2]
def fd_product : FD := ⟨2, ["p", "q", "found", "i", "n", "j", "m"],
  [.set 2 (.bin .Mult (.lst [.int 0]) (.b2 .max (.int 0) (.bin .Sub (.bin .Add (.b1 .len (.var 0)) (.b1 .len (.var 1))) (.int 1)))), .for_ (.tup [.name 3, .name 4]) (.enum (.var 0)) fd_product_l1, .ret (.call 118 [.var 2])]⟩
def fd_power_l1 : List Stm := [.set 2 (.call 123 [.var 2, .var 0])]
def fd_power : FD := ⟨2, ["p", "n", "found", "_"],
  [.set 2 (.tup [.int 1]), .for_ (.name 3) (.rng [.var 1]) fd_power_l1, .ret (.var 2)]⟩
def fd_derivative : FD := ⟨1, ["p", "i", "n"],
  [.ret (.b1 .tup (.sl (.lc (.bin .Mult (.var 1) (.var 2)) [("i", 1), ("n", 2)] (.tup [.name 1, .name 2]) (.enum (.var 0))) (.int 1) .omit))]⟩
def fd_content_l1 : List Stm := [.set 1 (.call 20 [.var 1, .var 2])]
def fd_content : FD := ⟨1, ["p", "found", "n"],
  [.set 1 (.int 0), .for_ (.name 2) (.var 0) fd_content_l1, .ret (.var 1)]⟩
def fd_primitive : FD := ⟨1, ["p", "g", "n"],
  [.set 1 (.call 211 [.var 0]), .ite (.cmp .Eq (.var 1) (.int 0)) [.ret (.tup [])] [], .ite (.cmp .Lt (.ix (.var 0) (.neg (.int 1))) (.int 0)) [.set 1 (.neg (.var 1))] [], .ret (.b1 .tup (.lc (.bin .FloorDiv (.var 2) (.var 1)) [("n", 2)] (.name 2) (.var 0)))]⟩
def fd_value_at_l1 : List Stm := [.set 2 (.bin .Add (.bin .Mult (.var 2) (.ix (.var 1) (.int 0))) (.bin .Mult (.var 4) (.var 3))), .aug 3 .Mult (.ix (.var 1) (.int 1))]
def fd_value_at : FD := ⟨2, ["p", "a", "top", "low", "n"],
  [.set 2 (.int 0), .set 3 (.int 1), .for_ (.name 4) (.slr (.var 0)) fd_value_at_l1, .ite (.cmp .Eq (.var 0) (.tup [])) [.ret (.tup [.int 0, .int 1])] [], .ret (.call 22 [.var 2, .bin .FloorDiv (.var 3) (.ix (.var 1) (.int 1))])]⟩
def fd_sign_at : FD := ⟨2, ["p", "a"],
  [.ret (.call 28 [.call 189 [.var 0, .var 1]])]⟩
def fd_composed_l1 : List Stm := [.set 2 (.call 120 [.call 123 [.var 2, .var 1], .call 118 [.lst [.var 3]]])]
def fd_composed : FD := ⟨2, ["p", "q", "found", "n"],
  [.set 2 (.tup []), .for_ (.name 3) (.slr (.var 0)) fd_composed_l1, .ret (.var 2)]⟩
def fd_law_bag_10 : FD := ⟨2, ["script", "k", "cell"],
  [.set 2 (.int 0), .ite (.cmp .Lt (.var 1) (.b1 .len (.var 0))) [.set 2 (.b1 .int (.ix (.var 0) (.var 1)))] [], .ret (.lst [.int 0, .bin .Add (.int 1093) (.bin .Mult (.int 48611) (.var 1)), .int 0, .var 2])]⟩
def fd_law_trim_2_c1 : E := .and (.cmp .Gt (.b1 .len (.var 0)) (.int 0)) (.cmp .Eq (.ix (.var 0) (.neg (.int 1))) (.int 0))
def fd_law_trim_2_l1 : List Stm := [.set 0 (.sl (.var 0) .omit (.neg (.int 1)))]
def fd_law_trim_2 : FD := ⟨1, ["row"],
  [.set 0 (.b1 .lst (.var 0)), .whl fd_law_trim_2_c1 fd_law_trim_2_l1, .ret (.b1 .tup (.var 0))]⟩
def fd_law_add_2 : FD := ⟨2, ["p", "q", "j"],
  [.ret (.call 196 [.lc (.bin .Add (.ife (.cmp .Lt (.var 2) (.b1 .len (.var 0))) (.ix (.var 0) (.var 2)) (.int 0)) (.ife (.cmp .Lt (.var 2) (.b1 .len (.var 1))) (.ix (.var 1) (.var 2)) (.int 0))) [("j", 2)] (.name 2) (.rng [.b2 .max (.b1 .len (.var 0)) (.b1 .len (.var 1))])])]⟩
def fd_law_scale_2 : FD := ⟨2, ["n", "p", "one"],
  [.ret (.call 196 [.lc (.bin .Mult (.var 0) (.var 2)) [("one", 2)] (.name 2) (.var 1)])]⟩
def fd_law_mul_2_l2 : List Stm := [.sset (.var 2) (.bin .Add (.var 3) (.var 4)) (.bin .Add (.ix (.var 2) (.bin .Add (.var 3) (.var 4))) (.bin .Mult (.ix (.var 0) (.var 3)) (.ix (.var 1) (.var 4))))]
def fd_law_mul_2_l1 : List Stm := [.for_ (.name 4) (.rng [.b1 .len (.var 1)]) fd_law_mul_2_l2]
def fd_law_mul_2 : FD := ⟨2, ["p", "q", "found", "j", "k"],
  [.set 2 (.bin .Mult (.lst [.int 0]) (.b2 .max (.int 0) (.bin .Sub (.bin .Add (.b1 .len (.var 0)) (.b1 .len (.var 1))) (.int 1)))), .for_ (.name 3) (.rng [.b1 .len (.var 0)]) fd_law_mul_2_l1, .ret (.call 196 [.var 2])]⟩
def fd_law_content_l1 : List Stm := [.set 1 (.call 34 [.var 1, .var 2])]
def fd_law_content : FD := ⟨1, ["p", "g", "n"],
  [.set 1 (.int 0), .for_ (.name 2) (.var 0) fd_law_content_l1, .ret (.var 1)]⟩
def fd_law_primitive : FD := ⟨1, ["p", "g", "n"],
  [.set 1 (.call 219 [.var 0]), .ite (.cmp .Eq (.var 1) (.int 0)) [.ret (.tup [])] [], .ret (.call 196 [.lc (.bin .FloorDiv (.var 2) (.ife (.cmp .Gt (.ix (.var 0) (.neg (.int 1))) (.int 0)) (.var 1) (.neg (.var 1)))) [("n", 2)] (.name 2) (.var 0)])]⟩
def fd_law_at_l2 : List Stm := [.set 4 (.bin .Mult (.var 4) (.ife (.cmp .Lt (.var 5) (.var 3)) (.ix (.var 1) (.int 0)) (.ix (.var 1) (.int 1))))]
def fd_law_at_l1 : List Stm := [.set 4 (.ix (.var 0) (.var 3)), .for_ (.name 5) (.rng [.bin .Sub (.b1 .len (.var 0)) (.int 1)]) fd_law_at_l2, .set 2 (.bin .Add (.var 2) (.var 4))]
def fd_law_at_l3 : List Stm := [.set 6 (.bin .Mult (.var 6) (.ix (.var 1) (.int 1)))]
def fd_law_at : FD := ⟨2, ["p", "a", "top", "j", "term", "k", "low"],
  [.set 2 (.int 0), .for_ (.name 3) (.rng [.b1 .len (.var 0)]) fd_law_at_l1, .set 6 (.int 1), .for_ (.name 5) (.rng [.bin .Sub (.b1 .len (.var 0)) (.int 1)]) fd_law_at_l3, .ret (.tup [.var 2, .var 6])]⟩
def fd_law_sign_2 : FD := ⟨2, ["p", "a", "top"],
  [.set 2 (.ix (.call 221 [.var 0, .var 1]) (.int 0)), .ret (.bin .Sub (.b1 .int (.cmp .Gt (.var 2) (.int 0))) (.b1 .int (.cmp .Lt (.var 2) (.int 0))))]⟩
def fd_law_poly_2 : FD := ⟨3, ["bag", "most", "size", "j"],
  [.ret (.call 196 [.lc (.bin .Sub (.call 31 [.var 0, .bin .Add (.bin .Mult (.int 2) (.var 2)) (.int 1)]) (.var 2)) [("j", 3)] (.name 3) (.rng [.call 31 [.var 0, .bin .Add (.var 1) (.int 2)]])])]⟩
def fd_law_frac : FD := ⟨1, ["bag", "p", "q", "g"],
  [.set 1 (.bin .Sub (.call 31 [.var 0, .int 41]) (.int 20)), .set 2 (.bin .Add (.int 1) (.call 31 [.var 0, .int 9])), .set 3 (.call 34 [.var 1, .var 2]), .ret (.tup [.bin .FloorDiv (.var 1) (.var 3), .bin .FloorDiv (.var 2) (.var 3)])]⟩
def fd_law_same : FD := ⟨2, ["one", "other", "k"],
  [.ite (.isi (.var 0) .ttup) [.ret (.and (.isi (.var 1) .ttup) (.and (.cmp .Eq (.b1 .len (.var 0)) (.b1 .len (.var 1))) (.cmp .NotIn (.bl false) (.lc (.call 84 [.ix (.var 0) (.var 2), .ix (.var 1) (.var 2)]) [("k", 2)] (.name 2) (.rng [.b1 .len (.var 0)])))))] [], .ite (.cmp .Is (.var 0) (.non)) [.ret (.cmp .Is (.var 1) (.non))] [], .ite (.isi (.var 0) .tstr) [.ret (.and (.isi (.var 1) .tstr) (.cmp .Eq (.var 0) (.var 1)))] [], .ret (.and (.isi (.var 1) .tint) (.and (.not (.isi (.var 1) .tbool)) (.cmp .Eq (.var 0) (.var 1))))]⟩
def fd_law_11_l2 : List Stm := [.set 8 (.call 218 [.var 8, .var 5])]
def fd_law_11_l3 : List Stm := [.set 8 (.call 216 [.var 8, .call 217 [.var 12, .var 11]]), .set 11 (.call 218 [.var 11, .ife (.and (.cmp .Gt (.b1 .len (.var 5)) (.int 0)) (.cmp .Eq (.b1 .len (.call 196 [.sl (.var 5) .omit (.int 4)])) (.b1 .len (.sl (.var 5) .omit (.int 4))))) (.sl (.var 5) .omit (.int 4)) (.var 5)])]
def fd_law_11_l4 : List Stm := [.ite (.not (.call 84 [.var 14, .var 13])) [.ret (.bl false)] []]
def fd_law_11_l5 : List Stm := [.set 15 (.call 198 [.var 2]), .tset (.tup [.name 16, .name 17]) (.call 221 [.var 4, .var 15]), .set 13 (.call 189 [.var 4, .var 15]), .ite (.or (.cmp .NotEq (.bin .Mult (.ix (.var 13) (.int 0)) (.var 17)) (.bin .Mult (.ix (.var 13) (.int 1)) (.var 16))) (.or (.cmp .Lt (.ix (.var 13) (.int 1)) (.int 1)) (.or (.cmp .NotEq (.call 34 [.ix (.var 13) (.int 0), .ix (.var 13) (.int 1)]) (.int 1)) (.cmp .NotEq (.call 213 [.var 4, .var 15]) (.call 222 [.var 4, .var 15]))))) [.ret (.bl false)] []]
def fd_law_11_l6 : List Stm := [.ite (.cmp .IsNot (.call 117 [.var 18]) (.bl false)) [.ret (.bl false)] []]
def fd_law_11_l1 : List Stm := [.set 2 (.call 215 [.var 0, .var 1]), .set 3 (.call 32 [.var 2, .lst [.int 2, .int 9, .int 1000, .bin .Pow (.int 10) (.int 30)]]), .set 4 (.call 197 [.var 2, .int 8, .var 3]), .set 5 (.call 197 [.var 2, .int 6, .var 3]), .set 6 (.bin .Sub (.call 31 [.var 2, .bin .Mult (.int 2) (.var 3)]) (.var 3)), .set 7 (.lst [.tup [.call 120 [.var 4, .var 5], .call 216 [.var 4, .var 5]], .tup [.call 122 [.var 4, .var 5], .call 216 [.var 4, .call 217 [.neg (.int 1), .var 5]]], .tup [.call 123 [.var 4, .var 5], .call 218 [.var 4, .var 5]]]), .set 7 (.bin .Add (.var 7) (.lst [.tup [.call 121 [.var 6, .var 4], .call 217 [.var 6, .var 4]], .tup [.call 212 [.var 4], .call 220 [.var 4]]])), .ex (.meth (.var 7) .append [.tup [.call 210 [.var 4], .call 196 [.lc (.bin .Mult (.var 19) (.ix (.var 4) (.var 19))) [("j", 19)] (.name 19) (.rng [.int 1, .b1 .len (.var 4)])]]]), .ex (.meth (.var 7) .append [.tup [.call 118 [.bin .Add (.b1 .lst (.var 4)) (.bin .Mult (.lst [.int 0]) (.call 31 [.var 2, .int 4]))], .var 4]]), .set 8 (.tup [.int 1]), .set 9 (.call 31 [.var 2, .int 4]), .for_ (.name 10) (.rng [.var 9]) fd_law_11_l2, .ex (.meth (.var 7) .append [.tup [.call 209 [.var 5, .var 9], .var 8]]), .set 8 (.tup []), .set 11 (.tup [.int 1]), .for_ (.name 12) (.var 4) fd_law_11_l3, .ite (.cmp .Eq (.call 196 [.sl (.var 5) .omit (.int 4)]) (.sl (.var 5) .omit (.int 4))) [.ex (.meth (.var 7) .append [.tup [.call 214 [.var 4, .sl (.var 5) .omit (.int 4)], .var 8]])] [], .for_ (.tup [.name 13, .name 14]) (.var 7) fd_law_11_l4, .ite (.or (.cmp .NotEq (.call 211 [.var 4]) (.call 219 [.var 4])) (.isi (.call 211 [.var 4]) .tbool)) [.ret (.bl false)] [], .for_ (.name 10) (.rng [.int 3]) fd_law_11_l5, .ite (.or (.cmp .IsNot (.call 117 [.var 4]) (.bl true)) (.cmp .IsNot (.call 117 [.tup []]) (.bl true))) [.ret (.bl false)] [], .for_ (.name 18) (.lst [.bin .Add (.var 4) (.tup [.int 0]), .b1 .lst (.var 4), .non, .tup [.str "1"], .tup [.bl true], .int 5, .tup [.tup [.int 1]]]) fd_law_11_l6]
def fd_law_11 : FD := ⟨1, ["script", "k", "bag", "size", "p", "q", "n", "rows", "found", "e", "turn", "step", "one", "told", "due", "a", "top", "low", "odd", "j"],
  [.for_ (.name 1) (.rng [.b2 .max (.int 1) (.b2 .min (.int 10) (.b1 .len (.var 0)))]) fd_law_11_l1, .ret (.bl true)]⟩
def fd_raised_c1 : E := .cmp .Gt (.var 1) (.int 0)
def fd_raised_l1 : List Stm := [.ite (.cmp .Eq (.bin .Mod (.var 1) (.int 2)) (.int 1)) [.aug 2 .Mult (.var 0)] [], .aug 0 .Mult (.var 0), .aug 1 .FloorDiv (.int 2)]
def fd_raised : FD := ⟨2, ["n", "k", "found"],
  [.set 2 (.int 1), .whl fd_raised_c1 fd_raised_l1, .ret (.var 2)]⟩
def fd_degree : FD := ⟨1, ["p"],
  [.ret (.bin .Sub (.b1 .len (.var 0)) (.int 1))]⟩
def fd_shifted : FD := ⟨2, ["p", "n"],
  [.ite (.cmp .Eq (.var 0) (.tup [])) [.ret (.tup [])] [], .ret (.bin .Add (.bin .Mult (.tup [.int 0]) (.var 1)) (.var 0))]⟩
def fd_divided_c1 : E := .cmp .GtE (.b1 .len (.var 4)) (.b1 .len (.var 1))
def fd_divided_l1 : List Stm := [.set 6 (.bin .FloorDiv (.ix (.var 4) (.neg (.int 1))) (.ix (.var 1) (.neg (.int 1)))), .set 7 (.bin .Sub (.b1 .len (.var 4)) (.b1 .len (.var 1))), .sset (.var 5) (.var 7) (.var 6), .set 4 (.call 122 [.var 4, .call 224 [.call 121 [.var 6, .var 1], .var 7]])]
def fd_divided : FD := ⟨2, ["p", "q", "many", "e", "left", "found", "n", "place"],
  [.ite (.cmp .Eq (.var 1) (.tup [])) [.raise 9] [], .set 2 (.b2 .max (.int 0) (.bin .Add (.bin .Sub (.call 119 [.var 0]) (.call 119 [.var 1])) (.int 1))), .set 3 (.call 47 [.b1 .abs (.ix (.var 1) (.neg (.int 1))), .var 2]), .set 4 (.call 121 [.var 3, .var 0]), .set 5 (.bin .Mult (.lst [.int 0]) (.var 2)), .whl fd_divided_c1 fd_divided_l1, .ret (.tup [.var 3, .call 118 [.var 5], .var 4])]⟩
def fd_exactly_c1 : E := .cmp .GtE (.b1 .len (.var 2)) (.b1 .len (.var 1))
def fd_exactly_l1 : List Stm := [.ite (.cmp .NotEq (.bin .Mod (.ix (.var 2) (.neg (.int 1))) (.ix (.var 1) (.neg (.int 1)))) (.int 0)) [.raise 8] [], .set 4 (.bin .FloorDiv (.ix (.var 2) (.neg (.int 1))) (.ix (.var 1) (.neg (.int 1)))), .set 5 (.bin .Sub (.b1 .len (.var 2)) (.b1 .len (.var 1))), .sset (.var 3) (.var 5) (.var 4), .set 2 (.call 122 [.var 2, .call 224 [.call 121 [.var 4, .var 1], .var 5]])]
def fd_exactly : FD := ⟨2, ["p", "q", "left", "found", "n", "place"],
  [.ite (.cmp .Eq (.var 1) (.tup [])) [.raise 9] [], .set 2 (.var 0), .set 3 (.bin .Mult (.lst [.int 0]) (.b2 .max (.int 0) (.bin .Add (.bin .Sub (.b1 .len (.var 0)) (.b1 .len (.var 1))) (.int 1)))), .whl fd_exactly_c1 fd_exactly_l1, .ite (.cmp .NotEq (.var 2) (.tup [])) [.raise 8] [], .ret (.call 118 [.var 3])]⟩
def fd_law_bag_11 : FD := ⟨2, ["script", "k", "cell"],
  [.set 2 (.int 0), .ite (.cmp .Lt (.var 1) (.b1 .len (.var 0))) [.set 2 (.b1 .int (.ix (.var 0) (.var 1)))] [], .ret (.lst [.int 0, .bin .Add (.int 1097) (.bin .Mult (.int 48611) (.var 1)), .int 0, .var 2])]⟩
def fd_law_told_7 : FD := ⟨3, ["call", "p", "q"],
  [.try_ [.ret (.callv 0 [.var 1, .var 2])] [(9, .ret (.str "zero")), (8, .ret (.str "none"))]]⟩
def fd_law_whole_c1 : E := .cmp .GtE (.b1 .len (.var 3)) (.b1 .len (.var 1))
def fd_law_whole_l1 : List Stm := [.ite (.cmp .NotEq (.bin .Mod (.b1 .int (.ix (.var 3) (.neg (.int 1)))) (.ix (.var 1) (.neg (.int 1)))) (.int 0)) [.ret (.non)] [], .set 4 (.bin .FloorDiv (.ix (.var 3) (.neg (.int 1))) (.ix (.var 1) (.neg (.int 1)))), .sset (.var 2) (.bin .Sub (.b1 .len (.var 3)) (.b1 .len (.var 1))) (.var 4), .set 3 (.call 216 [.var 3, .call 217 [.neg (.var 4), .bin .Add (.bin .Mult (.tup [.int 0]) (.bin .Sub (.b1 .len (.var 3)) (.b1 .len (.var 1)))) (.var 1)]])]
def fd_law_whole : FD := ⟨2, ["p", "q", "found", "left", "n"],
  [.set 2 (.bin .Mult (.lst [.int 0]) (.b2 .max (.int 0) (.bin .Add (.bin .Sub (.b1 .len (.var 0)) (.b1 .len (.var 1))) (.int 1)))), .set 3 (.var 0), .whl fd_law_whole_c1 fd_law_whole_l1, .ret (.ife (.cmp .Eq (.var 3) (.tup [])) (.call 196 [.var 2]) (.non))]⟩
def fd_law_12_l2 : List Stm := [.set 9 (.bin .Mult (.var 9) (.b1 .abs (.ix (.var 5) (.neg (.int 1)))))]
def fd_law_12_l1 : List Stm := [.set 2 (.call 227 [.var 0, .var 1]), .set 3 (.call 32 [.var 2, .lst [.int 2, .int 9, .bin .Pow (.int 10) (.int 6), .bin .Pow (.int 10) (.int 12)]]), .set 4 (.call 197 [.var 2, .int 8, .var 3]), .set 5 (.call 197 [.var 2, .int 5, .var 3]), .ite (.cmp .Eq (.call 31 [.var 2, .int 3]) (.int 0)) [.set 4 (.call 218 [.var 4, .var 5])] [], .ite (.cmp .Eq (.var 5) (.tup [])) [.ite (.or (.cmp .NotEq (.call 228 [.glob 225, .var 4, .var 5]) (.str "zero")) (.cmp .NotEq (.call 228 [.glob 226, .var 4, .var 5]) (.str "zero"))) [.ret (.bl false)] [], .cnt] [], .tset (.tup [.name 6, .name 7, .name 8]) (.call 225 [.var 4, .var 5]), .set 9 (.int 1), .for_ (.name 10) (.rng [.b2 .max (.int 0) (.bin .Add (.bin .Sub (.b1 .len (.var 4)) (.b1 .len (.var 5))) (.int 1))]) fd_law_12_l2, .ite (.or (.cmp .NotEq (.var 6) (.var 9)) (.or (.not (.call 84 [.call 217 [.var 6, .var 4], .call 216 [.call 218 [.var 7, .var 5], .var 8]])) (.cmp .GtE (.b1 .len (.var 8)) (.b1 .len (.var 5))))) [.ret (.bl false)] [], .ite (.or (.cmp .NotEq (.call 196 [.var 7]) (.var 7)) (.cmp .NotEq (.call 196 [.var 8]) (.var 8))) [.ret (.bl false)] [], .set 11 (.call 229 [.var 4, .var 5]), .set 12 (.call 228 [.glob 226, .var 4, .var 5]), .ite (.cmp .NotEq (.var 12) (.ife (.cmp .Is (.var 11) (.non)) (.str "none") (.var 11))) [.ret (.bl false)] [], .set 13 (.call 218 [.var 4, .var 5]), .ite (.not (.call 84 [.var 4, .call 226 [.var 13, .var 5]])) [.ret (.bl false)] []]
def fd_law_12 : FD := ⟨1, ["script", "k", "bag", "size", "p", "q", "e", "s", "r", "due", "turn", "whole", "told", "product"],
  [.for_ (.name 1) (.rng [.b2 .max (.int 1) (.b2 .min (.int 10) (.b1 .len (.var 0)))]) fd_law_12_l1, .ret (.and (.cmp .Eq (.call 228 [.glob 225, .tup [], .tup []]) (.str "zero")) (.cmp .Eq (.call 228 [.glob 226, .tup [], .tup [.int 3]]) (.tup [])))]⟩
def tabL : List (Nat × FD) := ([(19, fd_is_number), (20, fd_gcd_of), (21, fd_is_fraction), (22, fd_fraction), (23, fd_plus), (24, fd_minus), (25, fd_times), (26, fd_over), (27, fd_below), (28, fd_sign_of), (29, fd_half), (30, fd_law_bag)] : List (Nat × FD)) ++ ([(31, fd_law_draw), (32, fd_law_one), (33, fd_law_number), (34, fd_law_gcd), (35, fd_law_good), (36, fd_law_by_zero), (37, fd_law_2), (47, fd_raised), (84, fd_law_same), (117, fd_is_polynomial), (118, fd_trimmed), (119, fd_degree)] : List (Nat × FD)) ++ ([(120, fd_sum_of), (121, fd_scaled), (122, fd_difference), (123, fd_product), (189, fd_value_at), (196, fd_law_trim_2), (197, fd_law_poly_2), (198, fd_law_frac), (209, fd_power), (210, fd_derivative), (211, fd_content), (212, fd_primitive)] : List (Nat × FD)) ++ ([(213, fd_sign_at), (214, fd_composed), (215, fd_law_bag_10), (216, fd_law_add_2), (217, fd_law_scale_2), (218, fd_law_mul_2), (219, fd_law_content), (220, fd_law_primitive), (221, fd_law_at), (222, fd_law_sign_2), (223, fd_law_11), (224, fd_shifted)] : List (Nat × FD)) ++ ([(225, fd_divided), (226, fd_exactly), (227, fd_law_bag_11), (228, fd_law_told_7), (229, fd_law_whole), (230, fd_law_12)] : List (Nat × FD))
def tab : Prog := fun f => tabL.lookup f
def glL : List (Nat × D) := ([(22, .fn 22), (23, .fn 23), (24, .fn 24), (25, .fn 25), (26, .fn 26), (29, .fn 29), (225, .fn 225), (226, .fn 226)] : List (Nat × D))
def gl : Nat → Option D := fun i => glL.lookup i
def hsL : List Nat := ([225, 226] : List Nat)
def hs : Nat → Bool := fun i => hsL.contains i
noncomputable abbrev Γ (k : Nat) : Gm := gm tab gl hs k
theorem tab_is_number : tab 19 = some fd_is_number := rfl
theorem tab_gcd_of : tab 20 = some fd_gcd_of := rfl
theorem tab_is_fraction : tab 21 = some fd_is_fraction := rfl
theorem tab_fraction : tab 22 = some fd_fraction := rfl
theorem tab_plus : tab 23 = some fd_plus := rfl
theorem tab_minus : tab 24 = some fd_minus := rfl
theorem tab_times : tab 25 = some fd_times := rfl
theorem tab_over : tab 26 = some fd_over := rfl
theorem tab_below : tab 27 = some fd_below := rfl
theorem tab_sign_of : tab 28 = some fd_sign_of := rfl
theorem tab_half : tab 29 = some fd_half := rfl
theorem tab_law_bag : tab 30 = some fd_law_bag := rfl
theorem tab_law_draw : tab 31 = some fd_law_draw := rfl
theorem tab_law_one : tab 32 = some fd_law_one := rfl
theorem tab_law_number : tab 33 = some fd_law_number := rfl
theorem tab_law_gcd : tab 34 = some fd_law_gcd := rfl
theorem tab_law_good : tab 35 = some fd_law_good := rfl
theorem tab_law_by_zero : tab 36 = some fd_law_by_zero := rfl
theorem tab_law_2 : tab 37 = some fd_law_2 := rfl
theorem tab_raised : tab 47 = some fd_raised := rfl
theorem tab_law_same : tab 84 = some fd_law_same := rfl
theorem tab_is_polynomial : tab 117 = some fd_is_polynomial := rfl
theorem tab_trimmed : tab 118 = some fd_trimmed := rfl
theorem tab_degree : tab 119 = some fd_degree := rfl
theorem tab_sum_of : tab 120 = some fd_sum_of := rfl
theorem tab_scaled : tab 121 = some fd_scaled := rfl
theorem tab_difference : tab 122 = some fd_difference := rfl
theorem tab_product : tab 123 = some fd_product := rfl
theorem tab_value_at : tab 189 = some fd_value_at := rfl
theorem tab_law_trim_2 : tab 196 = some fd_law_trim_2 := rfl
theorem tab_law_poly_2 : tab 197 = some fd_law_poly_2 := rfl
theorem tab_law_frac : tab 198 = some fd_law_frac := rfl
theorem tab_power : tab 209 = some fd_power := rfl
theorem tab_derivative : tab 210 = some fd_derivative := rfl
theorem tab_content : tab 211 = some fd_content := rfl
theorem tab_primitive : tab 212 = some fd_primitive := rfl
theorem tab_sign_at : tab 213 = some fd_sign_at := rfl
theorem tab_composed : tab 214 = some fd_composed := rfl
theorem tab_law_bag_10 : tab 215 = some fd_law_bag_10 := rfl
theorem tab_law_add_2 : tab 216 = some fd_law_add_2 := rfl
theorem tab_law_scale_2 : tab 217 = some fd_law_scale_2 := rfl
theorem tab_law_mul_2 : tab 218 = some fd_law_mul_2 := rfl
theorem tab_law_content : tab 219 = some fd_law_content := rfl
theorem tab_law_primitive : tab 220 = some fd_law_primitive := rfl
theorem tab_law_at : tab 221 = some fd_law_at := rfl
theorem tab_law_sign_2 : tab 222 = some fd_law_sign_2 := rfl
theorem tab_law_11 : tab 223 = some fd_law_11 := rfl
theorem tab_shifted : tab 224 = some fd_shifted := rfl
theorem tab_divided : tab 225 = some fd_divided := rfl
theorem tab_exactly : tab 226 = some fd_exactly := rfl
theorem tab_law_bag_11 : tab 227 = some fd_law_bag_11 := rfl
theorem tab_law_told_7 : tab 228 = some fd_law_told_7 := rfl
theorem tab_law_whole : tab 229 = some fd_law_whole := rfl
theorem tab_law_12 : tab 230 = some fd_law_12 := rfl
theorem gl_fraction : gl 22 = some (.fn 22) := rfl
theorem gl_plus : gl 23 = some (.fn 23) := rfl
theorem gl_minus : gl 24 = some (.fn 24) := rfl
theorem gl_times : gl 25 = some (.fn 25) := rfl
theorem gl_over : gl 26 = some (.fn 26) := rfl
theorem gl_half : gl 29 = some (.fn 29) := rfl
theorem gl_divided : gl 225 = some (.fn 225) := rfl
theorem gl_exactly : gl 226 = some (.fn 226) := rfl
end Py
namespace Py
open PySem
theorem unds_mem {n : Nat} : ∀ {xs : List D}, (∀ x ∈ xs, und n x = true) → unds n xs = true
  | [], _ => rfl
  | x :: xs, h => by
    show (und n x && unds n xs) = true
    rw [h x List.mem_cons_self, unds_mem fun y hy => h y (List.mem_cons_of_mem _ hy)]
    rfl
mutual
theorem und_flat {n : Nat} : ∀ {d : D}, flat d = true → und n d = true
  | .non, _ => rfl
  | .bl _, _ => rfl
  | .int _, _ => rfl
  | .str _, _ => rfl
  | .fn _, _ => rfl
  | .loc _, h => by cases h
  | .tup xs, h => unds_flat (xs := xs) h
  | .cl xs, h => unds_flat (xs := xs) h
theorem unds_flat {n : Nat} : ∀ {xs : List D}, flats xs = true → unds n xs = true
  | [], _ => rfl
  | x :: xs, h => by
    have h : (flat x && flats xs) = true := h
    rw [Bool.and_eq_true] at h
    show (und n x && unds n xs) = true
    rw [und_flat h.1, unds_flat h.2]
    rfl
end
/-- the old places stand, or hold what is old -/
def Kept (S S' : Sto) : Prop := S'.length = S.length ∧ ∀ (i : Nat) (o : O), S'[i]? = some o → S[i]? = some o ∨ undO S.length o = true
theorem Kept.refl {S : Sto} : Kept S S := ⟨rfl, fun _ _ h => .inl h⟩
theorem Kept.set {S : Sto} {n : Nat} {o : O} (h : undO S.length o = true) : Kept S (S.set n o) := by
  refine ⟨List.length_set .., fun i p e => ?_⟩
  by_cases hi : n = i
  · subst hi
    by_cases hn : n < S.length
    · rw [List.getElem?_set_self hn] at e
      cases e
      exact .inr h
    · rw [List.getElem?_eq_none (by rw [List.length_set]; omega)] at e
      cases e
  · rw [List.getElem?_set_ne hi] at e
    exact .inl e
theorem gc_app {S S' G : Sto} (h : Kept S S') : gcOk S (S' ++ G) := by
  refine ⟨by rw [List.length_append, h.1]; omega, fun i o hi e => ?_⟩
  rw [List.getElem?_append_left (by rw [h.1]; exact hi)] at e
  exact h.2 i o e
theorem take_app {S S' G : Sto} (h : S'.length = S.length) : (S' ++ G).take S.length = S' := by rw [← h]; simp
theorem fin_v {S S' G : Sto} {d : D} (h : Kept S S') (hu : und S.length d = true) : finish S (S' ++ G) (.v d) = .ok (.v d) S' := by
  unfold finish
  rw [if_pos (gc_app h), take_app h.1]
  cases d with
  | loc m =>
    have hm : m < S.length := of_decide_eq_true hu
    show (if m < S.length then _ else _) = _
    rw [if_pos hm]
  | _ =>
    show (if und S.length _ = true then _ else _) = _
    rw [if_pos hu]
theorem fin_f {S S' G : Sto} {xs : List D} (h : Kept S S') (hu : unds S.length xs = true) : finish S (S' ++ G) (.f xs) = .ok (.f xs) S' := by
  unfold finish
  rw [if_pos (gc_app h), take_app h.1]
  show (if unds S.length _ = true then _ else _) = _
  rw [if_pos hu]
theorem fin_loc {S S' G : Sto} {j : Nat} {xs : List D} (h : Kept S S') (hj : G[j]? = some (.lst xs)) (hu : unds S.length xs = true) : finish S (S' ++ G) (.v (.loc (S.length + j))) = .ok (.f xs) S' := by
  unfold finish
  rw [if_pos (gc_app h), take_app h.1]
  show (if S.length + j < S.length then _ else _) = _
  rw [if_neg (by omega), List.getElem?_append_right (by rw [h.1]; omega), h.1, Nat.add_sub_cancel_left, hj]
  show (if unds S.length _ = true then _ else _) = _
  rw [if_pos hu]
theorem finX {S S' G : Sto} {c : Nat} (h : Kept S S') : finishX S (S' ++ G) ⟨c, []⟩ = .exc ⟨c, []⟩ S' := by
  unfold finishX
  rw [if_pos ⟨gc_app h, rfl⟩, take_app h.1]
theorem fin_v0 {S : Sto} {d : D} (hu : und S.length d = true) : finish S S (.v d) = .ok (.v d) S := by
  have := fin_v (G := []) (Kept.refl (S := S)) hu
  rwa [List.append_nil] at this
theorem fin_f0 {S : Sto} {xs : List D} (hu : unds S.length xs = true) : finish S S (.f xs) = .ok (.f xs) S := by
  have := fin_f (G := []) (Kept.refl (S := S)) hu
  rwa [List.append_nil] at this
theorem finX0 {S : Sto} {c : Nat} : finishX S S ⟨c, []⟩ = .exc ⟨c, []⟩ S := by
  have := finX (G := []) (c := c) (Kept.refl (S := S))
  rwa [List.append_nil] at this
@[simp] theorem rs_ret {w : W} {env : Env} {S S' : Sto} : (RS.ok (.ret w) env S').fin S = finish S S' w := rfl
@[simp] theorem rs_nx {env : Env} {S S' : Sto} : (RS.ok .nx env S').fin S = finish S S' (.v .non) := rfl
@[simp] theorem rs_exc {x : Exn} {env : Env} {S S' : Sto} : (RS.exc x env S').fin S = finishX S S' x := rfl
theorem call_eq {k f : Nat} {fd : FD} (h : tab f = some fd) (ds : List D) (S : Sto) : (Γ (k + 1)).call f ds S = callF (Γ k) fd ds S := by
  show (match tab f with | some fd => callF (Γ k) fd ds S | none => .bad) = _
  rw [h]
theorem call_n {k f : Nat} {fd : FD} (h : tab f = some fd) {ds : List D} {S : Sto} (hl : ds.length = fd.params) : (Γ (k + 1)).call f ds S = (execs (Γ k) fd.body (ds.map some ++ List.replicate (fd.names.length - ds.length) none) S).fin S := by
  rw [call_eq h]
  unfold callF
  rw [if_pos hl]

def Bd (n : Nat) (x : Int) : Prop := x.natAbs < 2 ^ n
theorem Bd.mono {n m : Nat} {x : Int} (h : Bd n x) (hm : n ≤ m) : Bd m x := Nat.lt_of_lt_of_le h (Nat.pow_le_pow_right (by decide) hm)
theorem Bd.mul {n m : Nat} {x y : Int} (h : Bd n x) (k : Bd m y) : Bd (n + m) (x * y) := by
  unfold Bd at *
  rw [Int.natAbs_mul, Nat.pow_add]
  exact Nat.mul_lt_mul'' h k
theorem Bd.add {n : Nat} {x y : Int} (h : Bd n x) (k : Bd n y) : Bd (n + 1) (x + y) := by
  unfold Bd at *
  have := Int.natAbs_add_le x y
  rw [Nat.pow_succ]
  omega
theorem Bd.neg {n : Nat} {x : Int} (h : Bd n x) : Bd n (-x) := by
  unfold Bd at *
  rw [Int.natAbs_neg]
  exact h
theorem Bd.sub {n : Nat} {x y : Int} (h : Bd n x) (k : Bd n y) : Bd (n + 1) (x - y) := by
  rw [Int.sub_eq_add_neg]
  exact h.add k.neg
theorem Bd.le {n : Nat} {x y : Int} (h : Bd n x) (k : y.natAbs ≤ x.natAbs) : Bd n y := Nat.lt_of_le_of_lt k h
theorem Bd.log {n : Nat} {x : Int} (h : Bd n x) : x.natAbs.log2 ≤ n := by
  by_cases h0 : x.natAbs = 0
  · rw [h0]
    exact Nat.zero_le _
  · exact Nat.le_of_lt ((Nat.log2_lt h0).mpr h)
theorem mulOk_of {n m : Nat} {x y : Int} (h : Bd n x) (k : Bd m y) (hl : n + m < 100000000) : mulOk x y = true := by
  have := h.log
  have := k.log
  exact decide_eq_true (by omega)
theorem mul_some {x y : Int} (h : mulOk x y = true) : intOp .Mult x y = some (x * y) := by
  show (if mulOk x y = true then some (x * y) else none) = _
  rw [if_pos h]
theorem mul_of {n m : Nat} {x y : Int} (h : Bd n x) (k : Bd m y) (hl : n + m < 100000000) : intOp .Mult x y = some (x * y) := mul_some (mulOk_of h k hl)
theorem div_of {n : Nat} {x y : Int} (h0 : y ≠ 0) (k : Bd n y) (hl : n < 9000) : intOp .FloorDiv x y = some (x.fdiv y) := by
  show (if divOk y = true then some (x.fdiv y) else none) = _
  rw [if_pos]
  unfold divOk
  have := k.log
  rw [decide_eq_true h0, decide_eq_true (show y.natAbs.log2 < 9000 by omega)]
  rfl
theorem mod_of {x y : Int} (h0 : y ≠ 0) : intOp .Mod x y = some (x.fmod y) := by
  show (if y = 0 then none else some (x.fmod y)) = _
  rw [if_neg h0]
theorem add_of {x y : Int} : intOp .Add x y = some (x + y) := rfl
theorem sub_of {x y : Int} : intOp .Sub x y = some (x - y) := rfl
def lookV (o : Option (Option D)) (S : Sto) : R W := match o with
  | some (some d) => .ok (.v d) S
  | _ => .bad
@[simp] theorem lookV_some (d : D) (S : Sto) : lookV (some (some d)) S = .ok (.v d) S := rfl
def lookD (o : Option D) (S : Sto) : R W := match o with
  | some d => .ok (.v d) S
  | none => .bad
@[simp] theorem lookD_some (d : D) (S : Sto) : lookD (some d) S = .ok (.v d) S := rfl
noncomputable def whl (G : Gm) (c : E) (b : List Stm) (env : Env) (S : Sto) : RS := whileM (ev G c) (execs G b) env S
noncomputable def frs (G : Gm) (src : List Src) (tg : Tg) (b : List Stm) (xs : List D) (env : Env) (S : Sto) : RS := forM src tg (execs G b) xs env S
noncomputable def lcR (G : Gm) (e : E) (vs : List Nat) (tg : Tg) (env : Env) (src : List Src) (xs : List D) (S : Sto) : R (List D) :=
  lcM src (fun x T => (orBad (bindTg T tg x (wipe env vs)) T).bind fun env' T1 => (ev G e env' T1).bind fun w T2 => (alloc w T2).bind fun d T3 => .ok (some d) T3) xs S
noncomputable def lciR (G : Gm) (e c : E) (vs : List Nat) (tg : Tg) (env : Env) (src : List Src) (xs : List D) (S : Sto) : R (List D) :=
  lcM src (fun x T => (orBad (bindTg T tg x (wipe env vs)) T).bind fun env' T1 => (ev G c env' T1).bind fun b T2 => onB b ((ev G e env' T2).bind fun w T3 => (alloc w T3).bind fun d T4 => .ok (some d) T4) (.ok none T2)) xs S
def tupR (ds : List D) (S : Sto) : R W := if ds.length ≤ lim then .ok (.v (.tup ds)) S else .bad
def lstR (ds : List D) (S : Sto) : R W := if ds.length ≤ lim then .ok (.f ds) S else .bad
theorem tupR_ok {ds : List D} {S : Sto} (h : ds.length ≤ lim) : tupR ds S = .ok (.v (.tup ds)) S := if_pos h
theorem lstR_ok {ds : List D} {S : Sto} (h : ds.length ≤ lim) : lstR ds S = .ok (.f ds) S := if_pos h
section
variable {G : Gm} {env : Env} {S : Sto}
@[simp] theorem ev_int {i : Int} : ev G (.int i) env S = .ok (.v (.int i)) S := rfl
@[simp] theorem ev_bl {b : Bool} : ev G (.bl b) env S = .ok (.v (.bl b)) S := rfl
@[simp] theorem ev_non : ev G .non env S = .ok (.v .non) S := rfl
@[simp] theorem ev_str {s : Str} : ev G (.str s) env S = .ok (.v (.str s)) S := rfl
@[simp] theorem ev_var {i : Nat} : ev G (.var i) env S = lookV env[i]? S := by
  show (match env[i]? with | some (some d) => R.ok (W.v d) S | _ => .bad) = _
  unfold lookV
  rfl
@[simp] theorem ev_glob {i : Nat} : ev G (.glob i) env S = lookD (G.glob i) S := by
  show (match G.glob i with | some d => R.ok (W.v d) S | none => .bad) = _
  unfold lookD
  rfl
@[simp] theorem ev_bin {op : Operator} {a b : E} : ev G (.bin op a b) env S = (ev G a env S).bind fun x S1 => (ev G b env S1).bind fun y S2 => binW op x y S2 := rfl
@[simp] theorem ev_neg {a : E} : ev G (.neg a) env S = (ev G a env S).bind fun x S1 => onI x fun i => .ok (.v (.int (-i))) S1 := rfl
@[simp] theorem ev_not {a : E} : ev G (.not a) env S = (ev G a env S).bind fun x S1 => onB x (.ok (.v (.bl false)) S1) (.ok (.v (.bl true)) S1) := rfl
@[simp] theorem ev_cmp {op : CmpOp} {a b : E} : ev G (.cmp op a b) env S = (ev G a env S).bind fun x S1 => (ev G b env S1).bind fun y S2 => cmpW op x y S2 := rfl
@[simp] theorem ev_chain {o1 o2 : CmpOp} {a b c : E} : ev G (.chain o1 o2 a b c) env S = (ev G a env S).bind fun x S1 => (ev G b env S1).bind fun y S2 => (cmpW o1 x y S2).bind fun z S3 => onB z ((ev G c env S3).bind fun t S4 => cmpW o2 y t S4) (.ok (.v (.bl false)) S3) := rfl
@[simp] theorem ev_and {a b : E} : ev G (.and a b) env S = (ev G a env S).bind fun x S1 => onB x (ev G b env S1) (.ok (.v (.bl false)) S1) := rfl
@[simp] theorem ev_or {a b : E} : ev G (.or a b) env S = (ev G a env S).bind fun x S1 => onB x (.ok (.v (.bl true)) S1) (ev G b env S1) := rfl
@[simp] theorem ev_ife {c a b : E} : ev G (.ife c a b) env S = (ev G c env S).bind fun x S1 => onB x (ev G a env S1) (ev G b env S1) := rfl
@[simp] theorem ev_tup {es : List E} : ev G (.tup es) env S = (evs G es env S).bind tupR := rfl
@[simp] theorem ev_lst {es : List E} : ev G (.lst es) env S = (evs G es env S).bind lstR := rfl
@[simp] theorem ev_ix {a b : E} : ev G (.ix a b) env S = (ev G a env S).bind fun x S1 => (ev G b env S1).bind fun y S2 => ixR x y S2 := rfl
@[simp] theorem ev_sl {a lo hi : E} : ev G (.sl a lo hi) env S = (ev G a env S).bind fun x S1 => (ev G lo env S1).bind fun l S2 => (orBad (partOf l) S2).bind fun l' S3 => (ev G hi env S3).bind fun h S4 => (orBad (partOf h) S4).bind fun h' S5 => orBad (slW x l' h' S5) S5 := rfl
@[simp] theorem ev_omit : ev G .omit env S = .ok (.it [] []) S := rfl
@[simp] theorem ev_slr {a : E} : ev G (.slr a) env S = (ev G a env S).bind fun x S1 => orBad (revW x S1) S1 := rfl
@[simp] theorem ev_call {f : Nat} {es : List E} : ev G (.call f es) env S = (evs G es env S).bind fun ds S1 => G.call f ds S1 := rfl
theorem ev_callv {i : Nat} {es : List E} {f : Nat} (h : env[i]? = some (some (.fn f))) (hh : G.has f = true) : ev G (.callv i es) env S = (evs G es env S).bind fun ds S1 => G.call f ds S1 := by
  show (match env[i]? with | some (some (.fn f)) => if G.has f then (evs G es env S).bind fun ds S1 => G.call f ds S1 else .bad | _ => .bad) = _
  rw [h]
  show (if G.has f = true then _ else _) = _
  rw [if_pos hh]
@[simp] theorem ev_b1 {f : B1} {a : E} : ev G (.b1 f a) env S = (ev G a env S).bind fun x S1 => orBad (b1W f x S1) S1 := rfl
@[simp] theorem ev_b2 {f : B2} {a b : E} : ev G (.b2 f a b) env S = (ev G a env S).bind fun x S1 => (ev G b env S1).bind fun y S2 => orBad (b2W f x y) S2 := rfl
@[simp] theorem ev_isi {a : E} {t : Ty} : ev G (.isi a t) env S = (ev G a env S).bind fun x S1 => (orBad (isTy S1 x t) S1).bind fun b S2 => .ok (.v (.bl b)) S2 := rfl
@[simp] theorem ev_meth {o : E} {m : Mt} {es : List E} : ev G (.meth o m es) env S = (ev G o env S).bind fun x S1 => onLoc x fun n => (evs G es env S1).bind fun ds S2 => mtW m (.loc n) (ds.map .v) S2 := rfl
@[simp] theorem ev_lc {e : E} {own : List (Str × Nat)} {tg : Tg} {it : E} : ev G (.lc e own tg it) env S = (ev G it env S).bind fun w0 S0 => (orBad (itemsOf w0 S0) S0).bind fun p S1 => (lcR G e (own.map (·.2)) tg env p.2 p.1 S1).nox.bind lstR := rfl
@[simp] theorem ev_lcif {e c : E} {own : List (Str × Nat)} {tg : Tg} {it : E} : ev G (.lcif e own tg it c) env S = (ev G it env S).bind fun w0 S0 => (orBad (itemsOf w0 S0) S0).bind fun p S1 => (lciR G e c (own.map (·.2)) tg env p.2 p.1 S1).nox.bind lstR := rfl
@[simp] theorem ev_rng {es : List E} : ev G (.rng es) env S = (evs G es env S).bind fun ds S1 => (orBad (rngW ds) S1).bind fun xs S2 => .ok (.it xs []) S2 := rfl
@[simp] theorem ev_enum {e : E} : ev G (.enum e) env S = (ev G e env S).bind fun w S1 => (orBad (seqOf S1 w) S1).bind fun xs S2 => .ok (.it (enumFrom 0 xs) [srcOf S1 w]) S2 := rfl
@[simp] theorem ev_zip {a b : E} : ev G (.zip a b) env S = (ev G a env S).bind fun x S1 => (ev G b env S1).bind fun y S2 => (orBad (seqOf S2 x) S2).bind fun xs S3 => (orBad (seqOf S3 y) S3).bind fun ys S4 => if isTupW x = isTupW y then .ok (.it (zipD xs ys) [srcOf S2 x, srcOf S2 y]) S4 else .bad := rfl
@[simp] theorem ev_rev {e : E} : ev G (.rev e) env S = (ev G e env S).bind fun w S1 => (orBad (seqOf S1 w) S1).bind fun xs S2 => .ok (.it xs.reverse [srcOf S1 w]) S2 := rfl
@[simp] theorem evs_n : evs G [] env S = .ok [] S := rfl
@[simp] theorem evs_c {e : E} {es : List E} : evs G (e :: es) env S = (ev G e env S).bind fun w S1 => (alloc w S1).bind fun d S2 => (evs G es env S2).bind fun ds S3 => .ok (d :: ds) S3 := rfl
@[simp] theorem alloc_v {d : D} : alloc (.v d) S = .ok d S := rfl
@[simp] theorem alloc_f {xs : List D} : alloc (.f xs) S = .ok (.loc S.length) (S ++ [.lst xs]) := rfl

def setR (i : Nat) (env : Env) (d : D) (S : Sto) : RS := .ok .nx (env.set i (some d)) S
def bindR (tg : Tg) (env : Env) (d : D) (S : Sto) : RS := match bindTg S tg d env with
  | some env' => .ok .nx env' S
  | none => .bad
def setLR (env : Env) (o k : W) (d : D) (S : Sto) : RS := match setL o k d S with
  | some S' => .ok .nx env S'
  | none => .bad
@[simp] theorem setR_eq {i : Nat} {d : D} : setR i env d S = .ok .nx (env.set i (some d)) S := rfl
@[simp] theorem ex_set {i : Nat} {e : E} : exec G (.set i e) env S = (ev G e env S).st env fun w S1 => (alloc w S1).st env (setR i env) := rfl
@[simp] theorem ex_tset {tg : Tg} {e : E} : exec G (.tset tg e) env S = (ev G e env S).st env fun w S1 => (alloc w S1).st env (bindR tg env) := rfl
@[simp] theorem ex_sset {o k e : E} : exec G (.sset o k e) env S = (ev G e env S).st env fun w S1 => (alloc w S1).st env fun d S2 => (ev G o env S2).st env fun ow S3 => (ev G k env S3).st env fun kw S4 => setLR env ow kw d S4 := rfl
def augR (op : Operator) (i : Nat) (env : Env) (o : Option (Option D)) (w : W) (S : Sto) : RS := match o, w with
  | some (some (.int a)), .v (.int b) => match intOp op a b with
    | some z => .ok .nx (env.set i (some (.int z))) S
    | none => .bad
  | _, _ => .bad
theorem augR_ok {op : Operator} {i : Nat} {a b z : Int} (h : intOp op a b = some z) : augR op i env (some (some (.int a))) (.v (.int b)) S = .ok .nx (env.set i (some (.int z))) S := by
  show (match intOp op a b with | some z => RS.ok .nx (env.set i (some (.int z))) S | none => .bad) = _
  rw [h]
theorem ex_aug {i : Nat} {op : Operator} {e : E} {d : D} (h : env[i]? = some (some d)) : exec G (.aug i op e) env S = (ev G e env S).st env fun w S1 => augR op i env (some (some d)) w S1 := by
  show (match env[i]? with
    | some (some d) => (ev G e env S).st env fun w S1 => match d, w with
      | .int a, .v (.int b) => match intOp op a b with
        | some z => RS.ok .nx (env.set i (some (.int z))) S1
        | none => .bad
      | _, _ => .bad
    | _ => .bad) = _
  rw [h]
  show ((ev G e env S).st env fun w S1 => _) = _
  congr 1
  funext w S1
  unfold augR
  cases d <;> cases w <;> first | rfl | (rename_i x; cases x <;> rfl)
def saugR (op : Operator) (env : Env) (ow kw : W) (d : D) (w : W) (S : Sto) : RS := match d, w with
  | .int a, .v (.int b) => match intOp op a b with
    | some z => setLR env ow kw (.int z) S
    | none => .bad
  | _, _ => .bad
theorem saugR_ok {op : Operator} {a b z : Int} {ow kw : W} (h : intOp op a b = some z) : saugR op env ow kw (.int a) (.v (.int b)) S = setLR env ow kw (.int z) S := by
  show (match intOp op a b with | some z => setLR env ow kw (.int z) S | none => .bad) = _
  rw [h]
def ixLR (ow kw : W) (S : Sto) : R D := orBad (ixL ow kw S) S
@[simp] theorem ex_saug {o k e : E} {op : Operator} : exec G (.saug o k op e) env S = (ev G o env S).st env fun ow S1 => (ev G k env S1).st env fun kw S2 => (ixLR ow kw S2).st env fun d S2' => (ev G e env S2).st env fun w S3 => saugR op env ow kw d w S3 := by
  show ((ev G o env S).st env fun ow S1 => (ev G k env S1).st env fun kw S2 => match ixL ow kw S2 with
    | some d => (ev G e env S2).st env fun w S3 => match d, w with
      | .int a, .v (.int b) => match intOp op a b with
        | some z => match setL ow kw (.int z) S3 with
          | some S4 => RS.ok .nx env S4
          | none => .bad
        | none => .bad
      | _, _ => .bad
    | none => .bad) = _
  congr 1
  funext ow S1
  congr 1
  funext kw S2
  unfold ixLR
  cases ixL ow kw S2 with
  | none => rfl
  | some d =>
    show ((ev G e env S2).st env fun w S3 => _) = ((ev G e env S2).st env fun w S3 => saugR op env ow kw d w S3)
    congr 1
@[simp] theorem ex_ex {e : E} : exec G (.ex e) env S = (ev G e env S).st env fun _ S1 => .ok .nx env S1 := rfl
@[simp] theorem ex_ret {e : E} : exec G (.ret e) env S = (ev G e env S).st env fun w S1 => .ok (.ret w) env S1 := rfl
@[simp] theorem ex_retN : exec G .retN env S = .ok (.ret (.v .non)) env S := rfl
@[simp] theorem ex_ite {c : E} {a b : List Stm} : exec G (.ite c a b) env S = (ev G c env S).st env fun w S1 => onBS w (execs G a env S1) (execs G b env S1) := rfl
@[simp] theorem ex_whl {c : E} {b : List Stm} : exec G (.whl c b) env S = whl G c b env S := rfl
noncomputable def forR (G : Gm) (tg : Tg) (b : List Stm) (env : Env) (w : W) (S : Sto) : RS := match itemsOf w S with
  | some p => frs G p.2 tg b p.1 env S
  | none => .bad
@[simp] theorem ex_for {tg : Tg} {it : E} {b : List Stm} : exec G (.for_ tg it b) env S = (ev G it env S).st env (forR G tg b env) := rfl
@[simp] theorem ex_pass : exec G .pass env S = .ok .nx env S := rfl
@[simp] theorem ex_brk : exec G .brk env S = .ok .bk env S := rfl
@[simp] theorem ex_cnt : exec G .cnt env S = .ok .ct env S := rfl
@[simp] theorem ex_raise {c : Nat} : exec G (.raise c) env S = .exc ⟨c, []⟩ env S := rfl
@[simp] theorem ex_try {b : List Stm} {hs : List (Nat × HS)} : exec G (.try_ b hs) env S = (execs G b env S).tried hs := rfl
@[simp] theorem exs_n : execs G [] env S = .ok .nx env S := rfl
@[simp] theorem exs_c {s : Stm} {ss : List Stm} : execs G (s :: ss) env S = (exec G s env S).seq fun env' S' => execs G ss env' S' := rfl
@[simp] theorem tried_ok {f : Fl} {hs : List (Nat × HS)} : (RS.ok f env S).tried hs = .ok f env S := rfl
@[simp] theorem tried_exc {x : Exn} {hs : List (Nat × HS)} : (RS.exc x env S).tried hs = handle hs x env S := rfl
theorem whl_eq {c : E} {b : List Stm} : whl G c b env S = (ev G c env S).st env fun w S1 => onBS w ((execs G b env S1).turn fun env2 S2 => whl G c b env2 S2) (.ok .nx env S1) := whileM_eq ..
open Classical in
theorem frs_nil {src : List Src} {tg : Tg} {b : List Stm} (h : ∀ s ∈ src, srcOk s S) : frs G src tg b [] env S = .ok .nx env S := if_pos h
open Classical in
theorem frs_cons {src : List Src} {tg : Tg} {b : List Stm} {x : D} {xs : List D} {env1 : Env} (h : ∀ s ∈ src, srcOk s S) (hb : bindTg S tg x env = some env1) : frs G src tg b (x :: xs) env S = (execs G b env1 S).turn fun env2 S2 => frs G src tg b xs env2 S2 := by
  show (if ∀ s ∈ src, srcOk s S then (match bindTg S tg x env with
    | some env1 => (execs G b env1 S).turn fun env2 S2 => forM src tg (execs G b) xs env2 S2
    | none => .bad) else .bad) = _
  rw [if_pos h, hb]
  rfl
/-- a loop: I by the turn; each turn goes on -/
theorem frs_inv {src : List Src} {tg : Tg} {b : List Stm} {xs : List D} (I : Nat → Env → Sto → Prop) (hs : ∀ i env S, I i env S → ∀ s ∈ src, srcOk s S)
    (ht : ∀ i x env S, xs[i]? = some x → I i env S → ∃ env1, bindTg S tg x env = some env1 ∧ ∃ env2 S2, (execs G b env1 S = .ok .nx env2 S2 ∨ execs G b env1 S = .ok .ct env2 S2) ∧ I (i + 1) env2 S2) :
    ∀ (n i : Nat) (env : Env) (S : Sto), n = xs.length - i → i ≤ xs.length → I i env S → ∃ env' S', frs G src tg b (xs.drop i) env S = .ok .nx env' S' ∧ I xs.length env' S'
  | 0, i, env, S, hn, hi, h => by
    have e : i = xs.length := by omega
    subst e
    rw [List.drop_length]
    exact ⟨env, S, frs_nil (hs _ _ _ h), h⟩
  | n + 1, i, env, S, hn, hi, h => by
    have hlt : i < xs.length := by omega
    rw [List.drop_eq_getElem_cons hlt]
    obtain ⟨env1, e1, env2, S2, e2, h2⟩ := ht i xs[i] env S (List.getElem?_eq_getElem hlt) h
    rw [frs_cons (hs _ _ _ h) e1]
    have ih := frs_inv I hs ht n (i + 1) env2 S2 (by omega) hlt h2
    rcases e2 with e2 | e2
    · rw [e2]; exact ih
    · rw [e2]; exact ih
open Classical in
theorem lcR_nil {e : E} {vs : List Nat} {tg : Tg} {src : List Src} (h : ∀ s ∈ src, srcOk s S) : lcR G e vs tg env src [] S = .ok [] S := if_pos h
open Classical in
theorem lcR_cons {e : E} {vs : List Nat} {tg : Tg} {src : List Src} {x : D} {xs : List D} {env1 : Env} (h : ∀ s ∈ src, srcOk s S) (hb : bindTg S tg x (wipe env vs) = some env1) :
    lcR G e vs tg env src (x :: xs) S = (ev G e env1 S).bind fun w T => (alloc w T).bind fun d T1 => (lcR G e vs tg env src xs T1).bind fun ds T2 => .ok (d :: ds) T2 := by
  show (if ∀ s ∈ src, srcOk s S then ((orBad (bindTg S tg x (wipe env vs)) S).bind fun env' T1 => (ev G e env' T1).bind fun w T2 => (alloc w T2).bind fun d T3 => .ok (some d) T3).bind (fun o S1 => (lcR G e vs tg env src xs S1).bind fun ds S2 => .ok (o.toList ++ ds) S2) else .bad) = _
  rw [if_pos h, hb]
  simp only [orBad_some, R.bind_ok, R.bind_assoc]
  rfl
/-- a comprehension whose items are known -/
theorem lcR_map {e : E} {vs : List Nat} {tg : Tg} {src : List Src} (f : D → D) (h : ∀ s ∈ src, srcOk s S) : ∀ {xs : List D}, (∀ x ∈ xs, ∃ env1, bindTg S tg x (wipe env vs) = some env1 ∧ ev G e env1 S = .ok (.v (f x)) S) → lcR G e vs tg env src xs S = .ok (xs.map f) S
  | [], _ => lcR_nil h
  | x :: xs, ht => by
    obtain ⟨env1, e1, e2⟩ := ht x List.mem_cons_self
    rw [lcR_cons h e1, e2]
    simp only [R.bind_ok, alloc_v]
    rw [lcR_map f h fun y hy => ht y (List.mem_cons_of_mem _ hy)]
    rfl
end
end Py
namespace Py
open PySem
section
variable {S : Sto}
theorem intOp_pow {i j : Int} (h : powOk i j = true) : intOp .Pow i j = some (i ^ j.toNat) := by
  show (if powOk i j = true then some (i ^ j.toNat) else none) = _
  rw [if_pos h]
@[simp] theorem bin_int {op : Operator} {i j : Int} : binW op (.v (.int i)) (.v (.int j)) S = (orBad (intOp op i j) S).bind fun z S => .ok (.v (.int z)) S := by
  cases op <;> rfl
@[simp] theorem eqW_int {a b : Int} : eqW S (.v (.int a)) (.v (.int b)) = some (decide (a = b)) := by
  show (if (SeqAt.shaped (.int a) && SeqAt.shaped (.int b)) = true then some (PyData.eqv (.int a) (.int b)) else none) = _
  rfl
@[simp] theorem eqW_bl {a b : Bool} : eqW S (.v (.bl a)) (.v (.bl b)) = some (decide (a = b)) := by
  show (if (SeqAt.shaped (.bool a) && SeqAt.shaped (.bool b)) = true then some (PyData.eqv (.bool a) (.bool b)) else none) = _
  cases a <;> cases b <;> rfl
end
end Py
namespace Py
open PySem
section
variable {S : Sto} {i j : Int} {x : W}
theorem cmp_lt : cmpW .Lt (.v (.int i)) (.v (.int j)) S = .ok (.v (.bl (decide (i < j)))) S := rfl
theorem cmp_le : cmpW .LtE (.v (.int i)) (.v (.int j)) S = .ok (.v (.bl (decide (i ≤ j)))) S := rfl
theorem cmp_gt : cmpW .Gt (.v (.int i)) (.v (.int j)) S = .ok (.v (.bl (decide (j < i)))) S := rfl
theorem cmp_ge : cmpW .GtE (.v (.int i)) (.v (.int j)) S = .ok (.v (.bl (decide (j ≤ i)))) S := rfl
theorem cmp_eq : cmpW .Eq (.v (.int i)) (.v (.int j)) S = .ok (.v (.bl (decide (i = j)))) S := by
  simp [cmpW, cmpB]
theorem cmp_ne : cmpW .NotEq (.v (.int i)) (.v (.int j)) S = .ok (.v (.bl (decide (i ≠ j)))) S := by
  simp [cmpW, cmpB]
theorem cmp_isb {a b : Bool} : cmpW .Is (.v (.bl a)) (.v (.bl b)) S = .ok (.v (.bl (decide (a = b)))) S := rfl
theorem cmp_isnb {a b : Bool} : cmpW .IsNot (.v (.bl a)) (.v (.bl b)) S = .ok (.v (.bl (!decide (a = b)))) S := rfl
theorem b1_int : b1W .int (.v (.int i)) S = some (.v (.int i)) := rfl
theorem b1_intb {b : Bool} : b1W .int (.v (.bl b)) S = some (.v (.int (if b = true then 1 else 0))) := rfl
theorem b1_abs : b1W .abs (.v (.int i)) S = some (.v (.int i.natAbs)) := by
  show some (W.v (D.int (if i < 0 then -i else i))) = _
  congr 3
  split <;> omega
theorem b1_lent {xs : List D} : b1W .len (.v (.tup xs)) S = some (.v (.int xs.length)) := rfl
theorem b1_lenc {xs : List D} : b1W .len (.v (.cl xs)) S = some (.v (.int xs.length)) := rfl
theorem b1_lenl {n : Nat} {xs : List D} (h : S[n]? = some (.lst xs)) : b1W .len (.v (.loc n)) S = some (.v (.int xs.length)) := by
  show (match (match S[n]? with | some (.lst xs) => some xs | none => none) with | some xs => some (W.v (.int xs.length)) | none => none) = _
  rw [h]
def atR (xs : List D) (i : Int) (S : Sto) : R W := (orBad (atI xs i) S).bind fun d S' => .ok (.v d) S'
theorem ix_t {xs : List D} : ixR (.v (.tup xs)) (.v (.int i)) S = atR xs i S := rfl
theorem ix_c {xs : List D} : ixR (.v (.cl xs)) (.v (.int i)) S = atR xs i S := rfl
theorem ix_l {n : Nat} {xs : List D} (h : S[n]? = some (.lst xs)) : ixR (.v (.loc n)) (.v (.int i)) S = atR xs i S := by
  show (orBad (match (match S[n]? with | some (.lst xs) => some xs | none => none) with | some xs => atI xs i | none => none) S).bind _ = _
  rw [h]
  rfl
theorem atI_nn {α : Type} {xs : List α} (h : 0 ≤ i) : atI xs i = xs[i.toNat]? := by
  unfold atI ixN
  rw [if_pos h]
  by_cases hl : i < xs.length
  · rw [if_pos hl]
    rfl
  · rw [if_neg hl, List.getElem?_eq_none (by omega)]
    rfl
theorem atI_neg {α : Type} {xs : List α} (h : i < 0) (h2 : -(xs.length : Int) ≤ i) : atI xs i = xs[(i + xs.length).toNat]? := by
  unfold atI ixN
  rw [if_neg (by omega), if_pos h2]
  rfl
theorem at0 {xs : List D} : atI xs 0 = xs[0]? := atI_nn (by decide)
theorem at1 {xs : List D} : atI xs 1 = xs[1]? := atI_nn (by decide)
theorem at2 {xs : List D} : atI xs 2 = xs[2]? := atI_nn (by decide)
theorem at3 {xs : List D} : atI xs 3 = xs[3]? := atI_nn (by decide)
theorem at4 {xs : List D} : atI xs 4 = xs[4]? := atI_nn (by decide)
theorem at5 {xs : List D} : atI xs 5 = xs[5]? := atI_nn (by decide)
theorem at_some {xs : List D} {d : D} (h : atI xs i = some d) : atR xs i S = .ok (.v d) S := by
  unfold atR
  rw [h]
  rfl
theorem atR_def {xs : List D} : atR xs i S = (orBad (atI xs i) S).bind fun d S' => .ok (.v d) S' := rfl
theorem setL_ok {env : Env} {n : Nat} {xs : List D} {d : D} (h : S[n]? = some (.lst xs)) (h0 : 0 ≤ i) (h1 : i < xs.length) : setLR env (.v (.loc n)) (.v (.int i)) d S = .ok .nx env (S.set n (.lst (xs.set i.toNat d))) := by
  show (match (match S[n]? with
    | some (.lst xs) => match ixN xs.length i with
      | some j => some (S.set n (.lst (xs.set j d)))
      | none => none
    | _ => none) with | some S' => RS.ok .nx env S' | none => .bad) = _
  have e : ixN xs.length i = some i.toNat := by
    unfold ixN
    rw [if_pos h0, if_pos h1]
  rw [h]
  dsimp only
  rw [e]
theorem onB_dec {α : Type} {p : Prop} [Decidable p] {t f : R α} : onB (.v (.bl (decide p))) t f = if p then t else f := by
  rw [onB_bl]
  by_cases h : p <;> simp [h]
theorem onBS_dec {p : Prop} [Decidable p] {t f : RS} : onBS (.v (.bl (decide p))) t f = if p then t else f := by
  rw [onBS_bl]
  by_cases h : p <;> simp [h]
end
end Py
namespace Py
open PySem
section
variable {S : Sto} {a b c d e f g h i j k l : D}
theorem tupR_0 : tupR [] S = .ok (.v (.tup [])) S := rfl
theorem tupR_1 : tupR [a] S = .ok (.v (.tup [a])) S := rfl
theorem tupR_2 : tupR [a, b] S = .ok (.v (.tup [a, b])) S := rfl
theorem tupR_3 : tupR [a, b, c] S = .ok (.v (.tup [a, b, c])) S := rfl
theorem tupR_4 : tupR [a, b, c, d] S = .ok (.v (.tup [a, b, c, d])) S := rfl
theorem tupR_5 : tupR [a, b, c, d, e] S = .ok (.v (.tup [a, b, c, d, e])) S := rfl
theorem lstR_0 : lstR [] S = .ok (.f []) S := rfl
theorem lstR_1 : lstR [a] S = .ok (.f [a]) S := rfl
theorem lstR_2 : lstR [a, b] S = .ok (.f [a, b]) S := rfl
theorem lstR_3 : lstR [a, b, c] S = .ok (.f [a, b, c]) S := rfl
theorem lstR_4 : lstR [a, b, c, d] S = .ok (.f [a, b, c, d]) S := rfl
theorem lstR_5 : lstR [a, b, c, d, e] S = .ok (.f [a, b, c, d, e]) S := rfl
theorem lstR_6 : lstR [a, b, c, d, e, f] S = .ok (.f [a, b, c, d, e, f]) S := rfl
theorem lstR_7 : lstR [a, b, c, d, e, f, g] S = .ok (.f [a, b, c, d, e, f, g]) S := rfl
theorem lstR_8 : lstR [a, b, c, d, e, f, g, h] S = .ok (.f [a, b, c, d, e, f, g, h]) S := rfl
theorem lstR_9 : lstR [a, b, c, d, e, f, g, h, i] S = .ok (.f [a, b, c, d, e, f, g, h, i]) S := rfl
theorem lstR_10 : lstR [a, b, c, d, e, f, g, h, i, j] S = .ok (.f [a, b, c, d, e, f, g, h, i, j]) S := rfl
theorem lstR_11 : lstR [a, b, c, d, e, f, g, h, i, j, k] S = .ok (.f [a, b, c, d, e, f, g, h, i, j, k]) S := rfl
theorem lstR_12 : lstR [a, b, c, d, e, f, g, h, i, j, k, l] S = .ok (.f [a, b, c, d, e, f, g, h, i, j, k, l]) S := rfl
theorem isi_int {a : Int} {t : Ty} : isTy S (.v (.int a)) t = some (decide (t = .tint)) := rfl
theorem isi_bl {a : Bool} {t : Ty} : isTy S (.v (.bl a)) t = some (decide (t = .tint) || decide (t = .tbool)) := rfl
theorem isi_tup {a : List D} {t : Ty} : isTy S (.v (.tup a)) t = some (decide (t = .ttup)) := rfl
theorem isi_non {t : Ty} : isTy S (.v .non) t = some false := rfl
theorem isi_str {s : Str} {t : Ty} : isTy S (.v (.str s)) t = some (decide (t = .tstr)) := rfl
theorem isi_loc {n : Nat} {xs : List D} {t : Ty} (h : S[n]? = some (.lst xs)) : isTy S (.v (.loc n)) t = some (decide (t = .tlst)) := by
  show (match S[n]? with | some (.lst _) => some (decide (t = Ty.tlst)) | none => none) = _
  rw [h]
theorem fin_bl {b : Bool} : finish S S (.v (.bl b)) = .ok (.v (.bl b)) S := fin_v0 rfl
theorem fin_int {i : Int} : finish S S (.v (.int i)) = .ok (.v (.int i)) S := fin_v0 rfl
theorem fin_non : finish S S (.v .non) = .ok (.v .non) S := fin_v0 rfl
theorem fin_str {s : Str} : finish S S (.v (.str s)) = .ok (.v (.str s)) S := fin_v0 rfl
end
end Py
namespace Py
open PySem
section
variable {env : Env} {S : Sto} {c : Nat} {h : HS} {r : List (Nat × HS)}
theorem handle_hit : handle ((c, h) :: r) ⟨c, []⟩ env S = hexec h env S := if_pos rfl
theorem handle_miss {x : Nat} (hx : c ≠ x) : handle ((c, h) :: r) ⟨x, []⟩ env S = handle r ⟨x, []⟩ env S := if_neg hx
theorem handle_nil {x : Exn} : handle [] x env S = .exc x env S := rfl
theorem hx_bl {b : Bool} : hexec (.ret (.bl b)) env S = .ok (.ret (.v (.bl b))) env S := rfl
theorem hx_str {s : Str} : hexec (.ret (.str s)) env S = .ok (.ret (.v (.str s))) env S := rfl
theorem hx_int {i : Int} : hexec (.ret (.int i)) env S = .ok (.ret (.v (.int i))) env S := rfl
theorem hx_non : hexec (.ret .non) env S = .ok (.ret (.v .non)) env S := rfl
theorem hx_cnt : hexec .cnt env S = .ok .ct env S := rfl
theorem hx_pass : hexec .pass env S = .ok .nx env S := rfl
end
theorem callvE {k i f : Nat} {es : List E} {env : Env} {S : Sto} (h : env[i]? = some (some (.fn f))) (hh : hs f = true) : ev (Γ k) (.callv i es) env S = (evs (Γ k) es env S).bind fun ds S1 => (Γ k).call f ds S1 :=
  ev_callv h (by cases k <;> exact hh)
end Py
namespace Py
open PySem
section
variable {G : Gm} {c : E} {b : List Stm} {env env1 env2 : Env} {S S1 S2 : Sto} {src : List Src} {tg : Tg} {x : D} {xs : List D}
theorem whl_t (hc : ev G c env S = .ok (.v (.bl true)) S1) (hb : execs G b env S1 = .ok .nx env2 S2) : whl G c b env S = whl G c b env2 S2 := by
  rw [whl_eq, hc]
  simp only [R.st_ok, onBS_true, hb, RS.turn_nx]
theorem whl_ct (hc : ev G c env S = .ok (.v (.bl true)) S1) (hb : execs G b env S1 = .ok .ct env2 S2) : whl G c b env S = whl G c b env2 S2 := by
  rw [whl_eq, hc]
  simp only [R.st_ok, onBS_true, hb, RS.turn_ct]
theorem whl_r {w : W} (hc : ev G c env S = .ok (.v (.bl true)) S1) (hb : execs G b env S1 = .ok (.ret w) env2 S2) : whl G c b env S = .ok (.ret w) env2 S2 := by
  rw [whl_eq, hc]
  simp only [R.st_ok, onBS_true, hb, RS.turn_ret]
theorem whl_f (hc : ev G c env S = .ok (.v (.bl false)) S1) : whl G c b env S = .ok .nx env S1 := by
  rw [whl_eq, hc]
  simp only [R.st_ok, onBS_false]
theorem frs_nx (h : ∀ s ∈ src, srcOk s S) (hb : bindTg S tg x env = some env1) (he : execs G b env1 S = .ok .nx env2 S2) : frs G src tg b (x :: xs) env S = frs G src tg b xs env2 S2 := by
  rw [frs_cons h hb, he]
  rfl
theorem frs_ct (h : ∀ s ∈ src, srcOk s S) (hb : bindTg S tg x env = some env1) (he : execs G b env1 S = .ok .ct env2 S2) : frs G src tg b (x :: xs) env S = frs G src tg b xs env2 S2 := by
  rw [frs_cons h hb, he]
  rfl
theorem frs_r {w : W} (h : ∀ s ∈ src, srcOk s S) (hb : bindTg S tg x env = some env1) (he : execs G b env1 S = .ok (.ret w) env2 S2) : frs G src tg b (x :: xs) env S = .ok (.ret w) env2 S2 := by
  rw [frs_cons h hb, he]
  rfl
theorem noSrc : ∀ s ∈ ([] : List Src), srcOk s S := fun _ h => nomatch h
theorem oneSrc {n : Nat} {o : O} (h : S[n]? = some o) : ∀ s ∈ [(some (n, o) : Src)], srcOk s S := fun s hs => by
  cases List.mem_singleton.mp hs
  exact h
theorem noneSrc : ∀ s ∈ [(none : Src)], srcOk s S := fun s hs => by
  cases List.mem_singleton.mp hs
  trivial
theorem forR_it : forR G tg b env (.it xs src) S = frs G src tg b xs env S := rfl
theorem forR_f : forR G tg b env (.f xs) S = frs G [none] tg b xs env S := rfl
theorem forR_t : forR G tg b env (.v (.tup xs)) S = frs G [none] tg b xs env S := rfl
theorem forR_c : forR G tg b env (.v (.cl xs)) S = frs G [none] tg b xs env S := rfl
theorem forR_l {n : Nat} (h : S[n]? = some (.lst xs)) : forR G tg b env (.v (.loc n)) S = frs G [some (n, .lst xs)] tg b xs env S := by
  simp [forR, itemsOf, seqOf, lstOf, srcOf, h]
theorem bindR_ok {d : D} (h : bindTg S tg d env = some env1) : bindR tg env d S = .ok .nx env1 S := by
  unfold bindR
  rw [h]
end
end Py
namespace Py
open PySem
section
variable {S : Sto} {x y x1 x2 x3 : O} {r : Sto}
theorem gmg {k i : Nat} : (Γ k).glob i = gl i := by cases k <;> rfl
theorem set_at0 : (S ++ x :: r).set S.length y = S ++ y :: r := by
  rw [List.set_append_right (h := Nat.le_refl _), Nat.sub_self]; rfl
theorem set_at1 : (S ++ x1 :: x :: r).set (S.length + 1) y = S ++ x1 :: y :: r := by
  rw [List.set_append_right (h := by omega), Nat.add_sub_cancel_left]; rfl
theorem set_at2 : (S ++ x1 :: x2 :: x :: r).set (S.length + 2) y = S ++ x1 :: x2 :: y :: r := by
  rw [List.set_append_right (h := by omega), Nat.add_sub_cancel_left]; rfl
theorem set_at3 : (S ++ x1 :: x2 :: x3 :: x :: r).set (S.length + 3) y = S ++ x1 :: x2 :: x3 :: y :: r := by
  rw [List.set_append_right (h := by omega), Nat.add_sub_cancel_left]; rfl
theorem get_at0 : (S ++ x :: r)[S.length]? = some x := by
  rw [List.getElem?_append_right (Nat.le_refl _), Nat.sub_self]; rfl
theorem get_at1 : (S ++ x1 :: x :: r)[S.length + 1]? = some x := by
  rw [List.getElem?_append_right (by omega), Nat.add_sub_cancel_left]; rfl
theorem get_at2 : (S ++ x1 :: x2 :: x :: r)[S.length + 2]? = some x := by
  rw [List.getElem?_append_right (by omega), Nat.add_sub_cancel_left]; rfl
theorem get_at3 : (S ++ x1 :: x2 :: x3 :: x :: r)[S.length + 3]? = some x := by
  rw [List.getElem?_append_right (by omega), Nat.add_sub_cancel_left]; rfl
theorem mt_append {m : Nat} {xs : List D} {d : D} (h : S[m]? = some (.lst xs)) (hl : xs.length < lim) : mtW .append (.loc m) [.v d] S = .ok (.v .non) (S.set m (.lst (xs ++ [d]))) := by
  simp [mtW, h, hl]
theorem b1_repr {b : Bool} : b1W .repr (.v (.bl b)) S = some (.v (.str (if b then "True" else "False"))) := rfl
theorem eqW_str {a b : Str} (ha : PyData.strOk a = true) (hb : PyData.strOk b = true) : eqW S (.v (.str a)) (.v (.str b)) = some (a == b) := by
  simp [eqW, toPyW, toPy, SeqAt.shaped, PyData.eqv, PyData.canLay0, PyData.depth, ha, hb]
theorem repr_ok {b : Bool} : PyData.strOk (if b = true then "True" else "False") = true := by
  cases b <;> decide +kernel
theorem ne_repr {b : Bool} : cmpW .NotEq (.v (.str (if b = true then "True" else "False"))) (.v (.str (if b = true then "True" else "False"))) S = .ok (.v (.bl false)) S := by
  simp [cmpW, cmpB, eqW_str repr_ok repr_ok]
theorem rng_1 {n : Int} (h : small n = true) : rngW [.int n] = some (rangeD 0 n) := if_pos h
theorem b2_max {i j : Int} : b2W .max (.v (.int i)) (.v (.int j)) = some (.v (.int (if j > i then j else i))) := rfl
theorem b2_min {i j : Int} : b2W .min (.v (.int i)) (.v (.int j)) = some (.v (.int (if j < i then j else i))) := rfl
theorem range_get {lo hi : Int} {i : Nat} {x : D} (h : (rangeD lo hi)[i]? = some x) : x = .int (lo + i) ∧ i < (hi - lo).toNat := by
  unfold rangeD at h
  rw [List.getElem?_map] at h
  cases q : (List.range (hi - lo).toNat)[i]? with
  | none => rw [q] at h; cases h
  | some j =>
    rw [q] at h
    obtain ⟨h1, h2⟩ := List.getElem?_eq_some_iff.mp q
    rw [List.getElem_range] at h2
    rw [List.length_range] at h1
    subst h2
    cases h
    exact ⟨rfl, h1⟩
theorem range_len {lo hi : Int} : (rangeD lo hi).length = (hi - lo).toNat := by
  unfold rangeD
  rw [List.length_map, List.length_range]
end
end Py
namespace Py
open PySem
/-- one statement done -/
theorem exs_nx {G : Gm} {s : Stm} {ss : List Stm} {env env' : Env} {S S' : Sto} (h : exec G s env S = .ok .nx env' S') : execs G (s :: ss) env S = execs G ss env' S' := by
  rw [exs_c, h]
  rfl
theorem exs_ret {G : Gm} {s : Stm} {ss : List Stm} {env env' : Env} {S S' : Sto} {w : W} (h : exec G s env S = .ok (.ret w) env' S') : execs G (s :: ss) env S = .ok (.ret w) env' S' := by
  rw [exs_c, h]
  rfl
end Py
namespace Py
open PySem
section
variable {S : Sto} {x y x1 x2 x3 x4 x5 : O} {r : Sto}
theorem get_at4 : (S ++ x1 :: x2 :: x3 :: x4 :: x :: r)[S.length + 4]? = some x := by
  rw [List.getElem?_append_right (by omega), Nat.add_sub_cancel_left]; rfl
theorem get_at5 : (S ++ x1 :: x2 :: x3 :: x4 :: x5 :: x :: r)[S.length + 5]? = some x := by
  rw [List.getElem?_append_right (by omega), Nat.add_sub_cancel_left]; rfl
end
end Py

namespace Py
def pev : List Int → Int → Int
  | [], _ => 0
  | a :: l, x => a + x * pev l x
@[simp] theorem pev_nil {x : Int} : pev [] x = 0 := rfl
@[simp] theorem pev_cons {a : Int} {l : List Int} {x : Int} : pev (a :: l) x = a + x * pev l x := rfl
theorem pev_append {l m : List Int} {x : Int} : pev (l ++ m) x = pev l x + x ^ l.length * pev m x := by
  induction l with
  | nil => simp
  | cons a l ih =>
    simp only [List.cons_append, pev_cons, ih, List.length_cons, Int.pow_succ]
    grind
def trim : List Int → List Int
  | [] => []
  | a :: l => match trim l with
    | [] => if a = 0 then [] else [a]
    | b :: r => a :: b :: r
def Tr (l : List Int) : Prop := trim l = l
theorem trim_idem (l : List Int) : Tr (trim l) := by
  induction l with
  | nil => rfl
  | cons a l ih =>
    unfold trim
    cases h : trim l with
    | nil =>
      by_cases ha : a = 0
      · simp [ha, Tr, trim]
      · simp [ha, Tr, trim]
    | cons b r =>
      unfold Tr at ih
      rw [h] at ih
      show trim (a :: b :: r) = a :: b :: r
      conv => lhs; unfold trim
      rw [ih]
theorem pev_trim (l : List Int) (x : Int) : pev (trim l) x = pev l x := by
  induction l with
  | nil => rfl
  | cons a l ih =>
    unfold trim
    cases h : trim l with
    | nil =>
      rw [h] at ih
      by_cases ha : a = 0
      · simp [ha, ← ih]
      · simp [ha, ← ih]
    | cons b r =>
      rw [h] at ih
      show pev (a :: b :: r) x = pev (a :: l) x
      rw [pev_cons, ih, pev_cons]
theorem trim_cons_nil {a : Int} {l : List Int} : trim (a :: l) = [] ↔ a = 0 ∧ trim l = [] := by
  conv => lhs; lhs; unfold trim
  cases h : trim l with
  | nil => by_cases ha : a = 0 <;> simp [ha]
  | cons b r => simp
theorem trim_cons_eq {a b : Int} {l m : List Int} (h : trim l = trim m) (e : a = b) : trim (a :: l) = trim (b :: m) := by
  subst e
  conv => lhs; unfold trim
  conv => rhs; unfold trim
  rw [h]
theorem dvd_small {a x y : Int} (h : a = x * y) (hx : a.natAbs < x) : a = 0 ∧ (x = 0 ∨ y = 0) := by
  have ha : a = 0 := by
    apply Classical.byContradiction
    intro hne
    have hd : x ∣ a := ⟨y, h⟩
    have := Int.le_of_dvd (show (0 : Int) < a.natAbs by omega) (Int.dvd_natAbs.mpr hd)
    omega
  refine ⟨ha, ?_⟩
  rw [ha] at h
  exact Int.mul_eq_zero.mp h.symm
theorem pev_zero : ∀ (p : List Int) (N : Int), (∀ x, N < x → pev p x = 0) → trim p = []
  | [], _, _ => rfl
  | a :: p, N, h => by
    have key : ∀ x, max N a.natAbs < x → a = 0 ∧ pev p x = 0 := fun x hx => by
      have h1 := h x (by omega)
      rw [pev_cons] at h1
      obtain ⟨h2, h3⟩ := dvd_small (a := a) (x := x) (y := - pev p x) (by grind) (by omega)
      refine ⟨h2, ?_⟩
      rcases h3 with h3 | h3 <;> omega
    exact trim_cons_nil.mpr ⟨(key (max N a.natAbs + 1) (by omega)).1, pev_zero p (max N a.natAbs) fun x hx => (key x hx).2⟩
theorem pev_eq : ∀ (p q : List Int) (N : Int), (∀ x, N < x → pev p x = pev q x) → trim p = trim q
  | [], q, N, h => (pev_zero q N fun x hx => (h x hx).symm).symm
  | a :: p, [], N, h => pev_zero (a :: p) N h
  | a :: p, b :: q, N, h => by
    have key : ∀ x, max N (a - b).natAbs < x → a = b ∧ pev p x = pev q x := fun x hx => by
      have h1 := h x (by omega)
      rw [pev_cons, pev_cons] at h1
      obtain ⟨h2, h3⟩ := dvd_small (a := a - b) (x := x) (y := pev q x - pev p x) (by grind) (by omega)
      refine ⟨by omega, ?_⟩
      rcases h3 with h3 | h3 <;> omega
    exact trim_cons_eq (pev_eq p q (max N (a - b).natAbs) fun x hx => (key x hx).2) (key (max N (a - b).natAbs + 1) (by omega)).1
theorem pev_inj {p q : List Int} (hp : Tr p) (hq : Tr q) (h : ∀ x, pev p x = pev q x) : p = q := by
  rw [← hp, ← hq]
  exact pev_eq p q 0 fun x _ => h x
theorem trim_snoc0 (l : List Int) : trim (l ++ [0]) = trim l := by
  induction l with
  | nil => rfl
  | cons a l ih =>
    rw [List.cons_append]
    exact trim_cons_eq ih rfl
theorem trim_snoc {a : Int} (l : List Int) (h : a ≠ 0) : trim (l ++ [a]) = l ++ [a] := by
  induction l with
  | nil => simp [trim, h]
  | cons b l ih =>
    rw [List.cons_append]
    conv => lhs; unfold trim
    rw [ih]
    cases l <;> rfl
theorem trim_len (l : List Int) : (trim l).length ≤ l.length := by
  induction l with
  | nil => exact Nat.le_refl _
  | cons a l ih =>
    unfold trim
    cases h : trim l with
    | nil => by_cases ha : a = 0 <;> simp [ha]
    | cons b r =>
      rw [h] at ih
      simp at ih ⊢
      omega
theorem trim_mem {a : Int} : ∀ {l : List Int}, a ∈ trim l → a ∈ l
  | [], h => h
  | b :: l, h => by
    unfold trim at h
    cases e : trim l with
    | nil =>
      rw [e] at h
      by_cases hb : b = 0
      · simp [hb] at h
      · simp [hb] at h
        simp [h]
    | cons c r =>
      rw [e] at h
      rcases List.mem_cons.mp h with h | h
      · simp [h]
      · exact List.mem_cons_of_mem _ (trim_mem (by rw [e]; exact h))
/-- sizes -/
def AB (n : Nat) (l : List Int) : Prop := ∀ a ∈ l, Bd n a
theorem AB.trim {n : Nat} {l : List Int} (h : AB n l) : AB n (trim l) := fun a ha => h a (trim_mem ha)
theorem AB.mono {n m : Nat} {l : List Int} (h : AB n l) (hm : n ≤ m) : AB m l := fun a ha => (h a ha).mono hm
theorem AB.cons {n : Nat} {a : Int} {l : List Int} (h : Bd n a) (k : AB n l) : AB n (a :: l) := fun b hb => by
  rcases List.mem_cons.mp hb with e | hb
  · rw [e]; exact h
  · exact k b hb
/-- a datum -/
abbrev pD (p : List Int) : D := .tup (p.map .int)
/-- p added into f, from place j on -/
def addAt : Nat → List Int → List Int → List Int
  | _, [], f => f
  | j, a :: p, f => addAt (j + 1) p (f.set j (f[j]?.getD 0 + a))
theorem addAt_len : ∀ (p : List Int) (j : Nat) (f : List Int), (addAt j p f).length = f.length
  | [], _, _ => rfl
  | a :: p, j, f => by
    show (addAt (j + 1) p _).length = _
    rw [addAt_len p, List.length_set]
theorem pev_set : ∀ (f : List Int) (j : Nat) (a x : Int), j < f.length → pev (f.set j (f[j]?.getD 0 + a)) x = pev f x + x ^ j * a
  | [], _, _, _, h => absurd h (Nat.not_lt_zero _)
  | b :: f, 0, a, x, _ => by
    simp [pev_cons]
    omega
  | b :: f, j + 1, a, x, h => by
    have ih := pev_set f j a x (by simpa using h)
    simp only [List.set_cons_succ, List.getElem?_cons_succ, pev_cons, ih, Int.pow_succ]
    grind
theorem pev_addAt : ∀ (p : List Int) (j : Nat) (f : List Int) (x : Int), j + p.length ≤ f.length → pev (addAt j p f) x = pev f x + x ^ j * pev p x
  | [], _, _, _, _ => by simp [addAt]
  | a :: p, j, f, x, h => by
    simp only [List.length_cons] at h
    show pev (addAt (j + 1) p _) x = _
    rw [pev_addAt p (j + 1) _ x (by rw [List.length_set]; omega), pev_set f j a x (by omega), pev_cons, Int.pow_succ]
    grind
theorem pev_zeros (n : Nat) (x : Int) : pev (List.replicate n 0) x = 0 := by
  induction n with
  | zero => rfl
  | succ n ih => rw [List.replicate_succ, pev_cons, ih]; simp
theorem pev_map (c : Int) (p : List Int) (x : Int) : pev (p.map (c * ·)) x = c * pev p x := by
  induction p with
  | nil => simp
  | cons a p ih =>
    simp only [List.map_cons, pev_cons, ih]
    grind
end Py
namespace Py
theorem addAt_bd {n : Nat} : ∀ (p : List Int) (j : Nat) (f : List Int), (∀ (i : Nat) (a : Int), f[i]? = some a → Bd (if i < j then n + 1 else n) a) → AB n p → AB (n + 1) (addAt j p f)
  | [], j, f, hf, _ => fun a ha => by
    have ha : a ∈ f := ha
    obtain ⟨i, h, e⟩ := List.getElem_of_mem ha
    have := hf i a (by rw [List.getElem?_eq_getElem h]; exact congrArg some e)
    refine this.mono ?_
    split <;> omega
  | b :: p, j, f, hf, hp => by
    refine addAt_bd p (j + 1) _ (fun i a h => ?_) fun a ha => hp a (List.mem_cons_of_mem _ ha)
    by_cases e : j = i
    · subst e
      by_cases hj : j < f.length
      · rw [List.getElem?_set_self hj] at h
        cases h
        rw [if_pos (by omega)]
        have h1 := hf j f[j] (List.getElem?_eq_getElem hj)
        rw [if_neg (by omega)] at h1
        rw [List.getElem?_eq_getElem hj]
        exact h1.add (hp b List.mem_cons_self)
      · rw [List.getElem?_eq_none (by rw [List.length_set]; omega)] at h
        cases h
    · rw [List.getElem?_set_ne e] at h
      have h1 := hf i a h
      refine h1.mono ?_
      by_cases hi : i < j
      · rw [if_pos hi, if_pos (by omega)]
        exact Nat.le_refl _
      · rw [if_neg hi, if_neg (by omega)]
        exact Nat.le_refl _
theorem addAt_AB {n : Nat} {p f : List Int} (j : Nat) (hf : AB n f) (hp : AB n p) : AB (n + 1) (addAt j p f) := addAt_bd p j f (fun i a h => (hf a (List.mem_of_getElem? h)).mono (by split <;> omega)) hp
theorem AB.zeros {n m : Nat} : AB n (List.replicate m 0) := fun a ha => by
  rw [(List.mem_replicate.mp ha).2]
  exact Nat.two_pow_pos _
def psum (p q : List Int) : List Int := trim (addAt 0 q (addAt 0 p (List.replicate (max p.length q.length) 0)))
theorem psum_tr {p q : List Int} : Tr (psum p q) := trim_idem _
theorem psum_ev {p q : List Int} {x : Int} : pev (psum p q) x = pev p x + pev q x := by
  unfold psum
  rw [pev_trim, pev_addAt _ _ _ _ (by rw [addAt_len, List.length_replicate]; omega), pev_addAt _ _ _ _ (by rw [List.length_replicate]; omega), pev_zeros]
  simp
theorem psum_len {p q : List Int} : (psum p q).length ≤ max p.length q.length := by
  refine Nat.le_trans (trim_len _) ?_
  rw [addAt_len, addAt_len, List.length_replicate]
  exact Nat.le_refl _
theorem psum_AB {n : Nat} {p q : List Int} (hp : AB n p) (hq : AB n q) : AB (n + 2) (psum p q) := (addAt_AB 0 (addAt_AB 0 AB.zeros hp) (hq.mono (by omega))).trim
/-- p times q, added into f from place j on -/
def mulAt : Nat → List Int → List Int → List Int → List Int
  | _, [], _, f => f
  | j, a :: p, q, f => mulAt (j + 1) p q (addAt j (q.map (a * ·)) f)
theorem mulAt_len : ∀ (p q : List Int) (j : Nat) (f : List Int), (mulAt j p q f).length = f.length
  | [], _, _, _ => rfl
  | a :: p, q, j, f => by
    show (mulAt (j + 1) p q _).length = _
    rw [mulAt_len p, addAt_len]
theorem mulAt_nil : ∀ (p : List Int) (j : Nat) (f : List Int), mulAt j p [] f = f
  | [], _, _ => rfl
  | a :: p, j, f => mulAt_nil p (j + 1) f
theorem pev_mulAt : ∀ (p q : List Int) (j : Nat) (f : List Int) (x : Int), j + p.length + q.length ≤ f.length + 1 → pev (mulAt j p q f) x = pev f x + x ^ j * (pev p x * pev q x)
  | [], _, _, _, _, _ => by simp [mulAt]
  | a :: p, [], j, f, x, h => by rw [mulAt_nil]; simp
  | a :: p, b :: q, j, f, x, h => by
    simp only [List.length_cons] at h
    show pev (mulAt (j + 1) p (b :: q) _) x = _
    rw [pev_mulAt p (b :: q) (j + 1) _ x (by rw [addAt_len]; simp only [List.length_cons]; omega), pev_addAt _ _ _ _ (by
      rw [List.length_map, List.length_cons]
      omega), pev_map, pev_cons (a := a), Int.pow_succ]
    grind
theorem AB.map {n m : Nat} {a : Int} {q : List Int} (ha : Bd n a) (hq : AB m q) : AB (n + m) (q.map (a * ·)) := fun b hb => by
  obtain ⟨c, hc, rfl⟩ := List.mem_map.mp hb
  exact ha.mul (hq c hc)
theorem mulAt_AB {n m : Nat} : ∀ (p q : List Int) (j k : Nat) (f : List Int), AB (n + m + k) f → AB n p → AB m q → AB (n + m + k + p.length) (mulAt j p q f)
  | [], _, _, _, _, hf, _, _ => hf
  | a :: p, q, j, k, f, hf, hp, hq => by
    have h1 := addAt_AB j hf ((AB.map (hp a List.mem_cons_self) hq).mono (m := n + m + k) (by omega))
    have h2 := mulAt_AB p q (j + 1) (k + 1) _ h1 (fun b hb => hp b (List.mem_cons_of_mem _ hb)) hq
    rw [List.length_cons]
    exact h2.mono (by omega)
def pmul (p q : List Int) : List Int := trim (mulAt 0 p q (List.replicate (p.length + q.length - 1) 0))
theorem pmul_tr {p q : List Int} : Tr (pmul p q) := trim_idem _
theorem pmul_ev {p q : List Int} {x : Int} : pev (pmul p q) x = pev p x * pev q x := by
  unfold pmul
  rw [pev_trim, pev_mulAt _ _ _ _ _ (by rw [List.length_replicate]; omega), pev_zeros]
  simp
theorem pmul_len {p q : List Int} : (pmul p q).length ≤ p.length + q.length - 1 := by
  refine Nat.le_trans (trim_len _) ?_
  rw [mulAt_len, List.length_replicate]
  exact Nat.le_refl _
theorem pmul_AB {n m : Nat} {p q : List Int} (hp : AB n p) (hq : AB m q) : AB (n + m + p.length) (pmul p q) := (mulAt_AB p q 0 0 _ AB.zeros hp hq).trim
def pscale (c : Int) (p : List Int) : List Int := trim (p.map (c * ·))
theorem pscale_tr {c : Int} {p : List Int} : Tr (pscale c p) := trim_idem _
theorem pscale_ev {c : Int} {p : List Int} {x : Int} : pev (pscale c p) x = c * pev p x := by
  unfold pscale
  rw [pev_trim, pev_map]
theorem pscale_len {c : Int} {p : List Int} : (pscale c p).length ≤ p.length := by
  refine Nat.le_trans (trim_len _) ?_
  rw [List.length_map]
  exact Nat.le_refl _
theorem pscale_AB {n m : Nat} {c : Int} {p : List Int} (hc : Bd n c) (hp : AB m p) : AB (n + m) (pscale c p) := (AB.map hc hp).trim
def pdif (p q : List Int) : List Int := psum p (pscale (-1) q)
theorem pdif_ev {p q : List Int} {x : Int} : pev (pdif p q) x = pev p x - pev q x := by
  unfold pdif
  rw [psum_ev, pscale_ev]
  omega
theorem pdif_AB {n : Nat} {p q : List Int} (hp : AB n p) (hq : AB n q) : AB (n + 3) (pdif p q) := psum_AB (n := n + 1) (hp.mono (by omega)) ((pscale_AB (n := 1) (by show (1 : Nat) < 2; decide) hq).mono (by omega))
theorem pdif_len {p q : List Int} : (pdif p q).length ≤ max p.length q.length := by
  have := pscale_len (c := -1) (p := q)
  have := psum_len (p := p) (q := pscale (-1) q)
  unfold pdif
  omega
/-- powers -/
def ppow (p : List Int) : Nat → List Int
  | 0 => [1]
  | n + 1 => pmul (ppow p n) p
theorem ppow_tr {p : List Int} : ∀ n, Tr (ppow p n)
  | 0 => rfl
  | _ + 1 => pmul_tr
theorem ppow_ev {p : List Int} {x : Int} : ∀ n, pev (ppow p n) x = pev p x ^ n
  | 0 => by simp [ppow]
  | n + 1 => by
    show pev (pmul (ppow p n) p) x = _
    rw [pmul_ev, ppow_ev n, Int.pow_succ]
end Py

namespace Py
open PySem
structure Bag where
  a : Int
  b : Int
  c : Int
  d : Int
def Bag.o (g : Bag) : O := .lst [.int g.a, .int g.b, .int g.c, .int g.d]
structure BagOk (N : Nat) (g : Bag) : Prop where
  a : Bd (cellBits + 70) g.a
  b : Bd 64 g.b
  c0 : 0 ≤ g.c
  c : g.c ≤ N
  d : Bd cellBits g.d
theorem BagOk.mono {N M : Nat} {g : Bag} (h : BagOk N g) (hm : N ≤ M) : BagOk M g := ⟨h.a, h.b, h.c0, by have := h.c; omega, h.d⟩
theorem undBag {n : Nat} {g : Bag} : undO n g.o = true := rfl
theorem fmod_pos {a b : Int} (h : 0 < b) : 0 ≤ a.fmod b ∧ a.fmod b < b := by
  rw [Int.fmod_eq_emod_of_nonneg a (by omega)]
  exact ⟨Int.emod_nonneg a (by omega), Int.emod_lt_of_pos a h⟩
theorem fdiv_le {a b : Int} (h : 0 < b) : (a.fdiv b).natAbs ≤ a.natAbs := by
  rw [Int.fdiv_eq_ediv_of_nonneg a (by omega)]
  exact Int.natAbs_ediv_le_natAbs a b
theorem Bd.of_lt {n : Nat} {x : Int} {m : Nat} (h0 : 0 ≤ x) (h : x < m) (hm : m ≤ 2 ^ n) : Bd n x := by
  unfold Bd
  omega
section
variable {T : Sto} {n : Nat}
theorem set_app {G : Sto} {x : O} (h : n < T.length) : (T ++ G).set n x = T.set n x ++ G := List.set_append_left (h := h) ..
theorem get_set (h : n < T.length) {x : O} : (T.set n x)[n]? = some x := List.getElem?_set_self h
theorem bd_n {x : Nat} {n : Nat} (h : x < 2 ^ n) : Bd n (x : Int) := by
  unfold Bd
  rw [Int.natAbs_natCast]
  exact h
/-- one draw -/
theorem sp_draw (k : Nat) {N : Nat} {g : Bag} (ok : BagOk N g) (hN : N < 2 ^ 60) (hT : T[n]? = some g.o) {many : Int} (h1 : 1 ≤ many) (hB : Bd 8000 many) :
    ∃ r g', (Γ (k + 1)).call 31 [.loc n, .int many] T = .ok (.v (.int r)) (T.set n (Bag.o g')) ∧ 0 ≤ r ∧ r < many ∧ BagOk (N + 1) g' := by
  obtain ⟨a, b, c, d⟩ := g
  have hn : n < T.length := (List.getElem?_eq_some_iff.mp hT).1
  rw [call_n tab_law_draw rfl]
  have hm0 : ¬ many < 1 := by omega
  have hmz : many ≠ 0 := by omega
  have dv : ∀ x : Int, intOp .FloorDiv x many = some (x.fdiv many) := fun x => div_of hmz hB (by decide)
  have md : ∀ x : Int, intOp .Mod x many = some (x.fmod many) := fun x => mod_of hmz
  have hT' : T[n]? = some (O.lst [.int a, .int b, .int c, .int d]) := hT
  have gs : ∀ o, (T.set n o)[n]? = some o := fun o => get_set hn
  have kf : ∀ (o : O) (x : Int), undO T.length o = true → finish T (T.set n o) (.v (.int x)) = .ok (.v (.int x)) (T.set n o) := fun o x hu => by
    have := fin_v (G := []) (d := .int x) (Kept.set (S := T) (n := n) hu) rfl
    rwa [List.append_nil] at this
  by_cases h0 : a = 0
  · subst h0
    have okb := ok.b
    have okd := ok.d
    have okc := ok.c
    have okc0 := ok.c0
    have okc : c ≤ N := okc
    have okc0 : 0 ≤ c := okc0
    have m1 : intOp .Mult b 48271 = some (b * 48271) := mul_of okb (bd_n (x := 48271) (n := 16) (by decide)) (by decide)
    have m2 : intOp .Mult d 69621 = some (d * 69621) := mul_of okd (bd_n (x := 69621) (n := 17) (by decide)) (by decide)
    have hc1 : 0 ≤ c + 1 ∧ c + 1 ≤ ((N + 1 : Nat) : Int) := by omega
    have a1 : intOp .Add c 1 = some (c + 1) := rfl
    generalize c + 1 = c1 at hc1 a1
    have m3 : intOp .Mult c1 16807 = some (c1 * 16807) := mul_of (n := 61) (by unfold Bd; omega) (bd_n (x := 16807) (n := 15) (by decide)) (by decide)
    have s0 := fmod_pos (a := b * 48271 + d * 69621 + c1 * 16807 + 11) (b := 2147483647) (by decide)
    have m4 : intOp .Mod (b * 48271 + d * 69621 + c1 * 16807 + 11) 2147483647 = some ((b * 48271 + d * 69621 + c1 * 16807 + 11).fmod 2147483647) := mod_of (by decide)
    generalize hs : (b * 48271 + d * 69621 + c1 * 16807 + 11).fmod 2147483647 = s at *
    have bs : Bd 31 s := by unfold Bd; omega
    have m5 : intOp .Mult s 2147483629 = some (s * 2147483629) := mul_of bs (bd_n (x := 2147483629) (n := 31) (by decide)) (by decide)
    have m6 : intOp .Mult s s = some (s * s) := mul_of bs bs (by decide)
    have t0 := fmod_pos (a := s * s + d) (b := 2147483629) (by decide)
    have m7 : intOp .Mod (s * s + d) 2147483629 = some ((s * s + d).fmod 2147483629) := mod_of (by decide)
    generalize hu : (s * s + d).fmod 2147483629 = u at *
    have p1 : intOp .Pow 10 18 = some (10 ^ 18) := rfl
    have fin : ∀ x : Int, Bd (cellBits + 70) x → ∃ r g', (R.ok (W.v (D.int (x.fmod many))) (T.set n (O.lst [.int (x.fdiv many), .int s, .int c1, .int d])) : R W) = .ok (.v (.int r)) (T.set n (Bag.o g')) ∧ 0 ≤ r ∧ r < many ∧ BagOk (N + 1) g' := fun x hx => by
      have q := fmod_pos (a := x) (b := many) (by omega)
      exact ⟨x.fmod many, ⟨x.fdiv many, s, c1, d⟩, rfl, q.1, q.2, ⟨hx.le (fdiv_le (by omega)), bs.mono (by decide), hc1.1, hc1.2, okd⟩⟩
    have bx : Bd (cellBits + 70) (s * 2147483629 + u) := Bd.mono (n := 63) (by unfold Bd; omega) (by decide)
    have bd : Bd (cellBits + 70) d := okd.mono (by omega)
    have e0 : (0 : Int).toNat = 0 := rfl
    have e1 : (1 : Int).toNat = 1 := rfl
    have e2 : (2 : Int).toNat = 2 := rfl
    have tt : True := trivial
    have l4 : ∀ w x y z : D, ((List.length [w, x, y, z] : Nat) : Int) = 4 := fun _ _ _ _ => rfl
    have g0 : ∀ w x y z v : D, ∀ env, setLR env (.v (.loc n)) (.v (.int 0)) v (T.set n (.lst [w, x, y, z])) = .ok .nx env (T.set n (.lst [v, x, y, z])) := fun w x y z v env => by
      rw [setL_ok (gs _) (by decide) (by rw [l4]; decide), List.set_set]; rfl
    have g1 : ∀ w x y z v : D, ∀ env, setLR env (.v (.loc n)) (.v (.int 1)) v (T.set n (.lst [w, x, y, z])) = .ok .nx env (T.set n (.lst [w, v, y, z])) := fun w x y z v env => by
      rw [setL_ok (gs _) (by decide) (by rw [l4]; decide), List.set_set]; rfl
    have g2 : ∀ v : D, ∀ env, setLR env (.v (.loc n)) (.v (.int 2)) v T = .ok .nx env (T.set n (.lst [.int 0, .int b, v, .int d])) := fun v env => by
      rw [setL_ok hT' (by decide) (by rw [l4]; decide)]; rfl
    simp only [fd_law_draw, ev_int, ev_bl, ev_non, ev_str, ev_var, ev_glob, ev_bin, ev_neg, ev_not, ev_cmp, ev_chain, ev_and, ev_or, ev_ife, ev_tup, ev_lst, ev_ix, ev_sl, ev_omit, ev_slr, ev_call, ev_b1, ev_b2, ev_isi, ev_meth, ev_lc, ev_lcif, ev_rng, ev_enum, ev_zip, ev_rev, evs_n, evs_c, alloc_v, alloc_f, setR_eq, ex_set, ex_tset, ex_sset, ex_saug, ex_ex, ex_ret, ex_retN, ex_ite, ex_whl, ex_for, ex_pass, ex_brk, ex_cnt, ex_raise, ex_try, exs_n, exs_c, tried_ok, tried_exc, rs_ret, rs_nx, rs_exc, R.bind_ok, R.bind_exc, R.bind_bad, R.st_ok, R.st_exc, RS.seq_nx, RS.seq_ret, RS.seq_bk, RS.seq_ct, RS.seq_exc, RS.turn_nx, RS.turn_ct, RS.turn_bk, RS.turn_ret, RS.turn_exc, R.nox_ok, orBad_some, lookV_some, lookD_some, onI_int, onLoc_loc, onB_true, onB_false, onB_dec, onBS_true, onBS_false, onBS_dec, bin_int, cmp_lt, cmp_le, cmp_gt, cmp_ge, cmp_eq, cmp_ne, cmp_isb, cmp_isnb, b1_int, b1_intb, b1_abs, b1_lent, b1_lenc, ix_t, ix_c, atR_def, at0, at1, at2, at3, at4, at5, add_of, sub_of, List.map_cons, List.map_nil, List.length_cons, List.length_nil, List.cons_append, List.nil_append, List.replicate_succ, List.replicate_zero, List.getElem?_cons_zero, List.getElem?_cons_succ, List.set_cons_zero, List.set_cons_succ, Nat.zero_add, Nat.reduceAdd, Nat.reduceSub, tupR_0, tupR_1, tupR_2, tupR_3, tupR_4, tupR_5, lstR_0, lstR_1, lstR_2, lstR_3, lstR_4, lstR_5, lstR_6, lstR_7, lstR_8, lstR_9, lstR_10, lstR_11, lstR_12, isi_int, isi_bl, isi_tup, isi_non, isi_str, fin_bl, fin_int, fin_non, fin_str, finX0, handle_hit, handle_nil, hx_bl, hx_str, hx_int, hx_non, hx_cnt, hx_pass, forR_it, forR_f, forR_t, forR_c, gmg, b1_repr, ne_repr, b2_max, b2_min, set_at0, set_at1, set_at2, set_at3, get_at0, get_at1, get_at2, get_at3, List.append_assoc, List.append_nil, List.length_append, List.length_set, Nat.add_zero, hm0, if_false, ix_l hT', ix_l (gs _), if_true, a1, m1, m2, m3, m4, m5, m6, m7, p1, g0, g1, g2]
    have kf' : ∀ x : Int, finish T (T.set n (.lst [.int (x.fdiv many), .int s, .int c1, .int d])) (.v (.int (x.fmod many))) = .ok (.v (.int (x.fmod many))) (T.set n (.lst [.int (x.fdiv many), .int s, .int c1, .int d])) := fun x => kf _ _ rfl
    by_cases h3 : c1 = 1
    · by_cases h4 : (10 : Int) ^ 18 ≤ d
      · simp only [ev_int, ev_bl, ev_non, ev_str, ev_var, ev_glob, ev_bin, ev_neg, ev_not, ev_cmp, ev_chain, ev_and, ev_or, ev_ife, ev_tup, ev_lst, ev_ix, ev_sl, ev_omit, ev_slr, ev_call, ev_b1, ev_b2, ev_isi, ev_meth, ev_lc, ev_lcif, ev_rng, ev_enum, ev_zip, ev_rev, evs_n, evs_c, alloc_v, alloc_f, setR_eq, ex_set, ex_tset, ex_sset, ex_saug, ex_ex, ex_ret, ex_retN, ex_ite, ex_whl, ex_for, ex_pass, ex_brk, ex_cnt, ex_raise, ex_try, exs_n, exs_c, tried_ok, tried_exc, rs_ret, rs_nx, rs_exc, R.bind_ok, R.bind_exc, R.bind_bad, R.st_ok, R.st_exc, RS.seq_nx, RS.seq_ret, RS.seq_bk, RS.seq_ct, RS.seq_exc, RS.turn_nx, RS.turn_ct, RS.turn_bk, RS.turn_ret, RS.turn_exc, R.nox_ok, orBad_some, lookV_some, lookD_some, onI_int, onLoc_loc, onB_true, onB_false, onB_dec, onBS_true, onBS_false, onBS_dec, bin_int, cmp_lt, cmp_le, cmp_gt, cmp_ge, cmp_eq, cmp_ne, cmp_isb, cmp_isnb, b1_int, b1_intb, b1_abs, b1_lent, b1_lenc, ix_t, ix_c, atR_def, at0, at1, at2, at3, at4, at5, add_of, sub_of, List.map_cons, List.map_nil, List.length_cons, List.length_nil, List.cons_append, List.nil_append, List.replicate_succ, List.replicate_zero, List.getElem?_cons_zero, List.getElem?_cons_succ, List.set_cons_zero, List.set_cons_succ, Nat.zero_add, Nat.reduceAdd, Nat.reduceSub, tupR_0, tupR_1, tupR_2, tupR_3, tupR_4, tupR_5, lstR_0, lstR_1, lstR_2, lstR_3, lstR_4, lstR_5, lstR_6, lstR_7, lstR_8, lstR_9, lstR_10, lstR_11, lstR_12, isi_int, isi_bl, isi_tup, isi_non, isi_str, fin_bl, fin_int, fin_non, fin_str, finX0, handle_hit, handle_nil, hx_bl, hx_str, hx_int, hx_non, hx_cnt, hx_pass, forR_it, forR_f, forR_t, forR_c, gmg, b1_repr, ne_repr, b2_max, b2_min, set_at0, set_at1, set_at2, set_at3, get_at0, get_at1, get_at2, get_at3, List.append_assoc, List.append_nil, List.length_append, List.length_set, Nat.add_zero, h3, h4, if_true, g0, g1, ix_l (gs _), dv, md]
        rw [h3] at kf' fin
        rw [kf']
        exact fin d bd
      · simp only [ev_int, ev_bl, ev_non, ev_str, ev_var, ev_glob, ev_bin, ev_neg, ev_not, ev_cmp, ev_chain, ev_and, ev_or, ev_ife, ev_tup, ev_lst, ev_ix, ev_sl, ev_omit, ev_slr, ev_call, ev_b1, ev_b2, ev_isi, ev_meth, ev_lc, ev_lcif, ev_rng, ev_enum, ev_zip, ev_rev, evs_n, evs_c, alloc_v, alloc_f, setR_eq, ex_set, ex_tset, ex_sset, ex_saug, ex_ex, ex_ret, ex_retN, ex_ite, ex_whl, ex_for, ex_pass, ex_brk, ex_cnt, ex_raise, ex_try, exs_n, exs_c, tried_ok, tried_exc, rs_ret, rs_nx, rs_exc, R.bind_ok, R.bind_exc, R.bind_bad, R.st_ok, R.st_exc, RS.seq_nx, RS.seq_ret, RS.seq_bk, RS.seq_ct, RS.seq_exc, RS.turn_nx, RS.turn_ct, RS.turn_bk, RS.turn_ret, RS.turn_exc, R.nox_ok, orBad_some, lookV_some, lookD_some, onI_int, onLoc_loc, onB_true, onB_false, onB_dec, onBS_true, onBS_false, onBS_dec, bin_int, cmp_lt, cmp_le, cmp_gt, cmp_ge, cmp_eq, cmp_ne, cmp_isb, cmp_isnb, b1_int, b1_intb, b1_abs, b1_lent, b1_lenc, ix_t, ix_c, atR_def, at0, at1, at2, at3, at4, at5, add_of, sub_of, List.map_cons, List.map_nil, List.length_cons, List.length_nil, List.cons_append, List.nil_append, List.replicate_succ, List.replicate_zero, List.getElem?_cons_zero, List.getElem?_cons_succ, List.set_cons_zero, List.set_cons_succ, Nat.zero_add, Nat.reduceAdd, Nat.reduceSub, tupR_0, tupR_1, tupR_2, tupR_3, tupR_4, tupR_5, lstR_0, lstR_1, lstR_2, lstR_3, lstR_4, lstR_5, lstR_6, lstR_7, lstR_8, lstR_9, lstR_10, lstR_11, lstR_12, isi_int, isi_bl, isi_tup, isi_non, isi_str, fin_bl, fin_int, fin_non, fin_str, finX0, handle_hit, handle_nil, hx_bl, hx_str, hx_int, hx_non, hx_cnt, hx_pass, forR_it, forR_f, forR_t, forR_c, gmg, b1_repr, ne_repr, b2_max, b2_min, set_at0, set_at1, set_at2, set_at3, get_at0, get_at1, get_at2, get_at3, List.append_assoc, List.append_nil, List.length_append, List.length_set, Nat.add_zero, h3, h4, if_true, if_false, g0, g1, ix_l (gs _), dv, md]
        rw [h3] at kf' fin
        rw [kf']
        exact fin _ bx
    · simp only [ev_int, ev_bl, ev_non, ev_str, ev_var, ev_glob, ev_bin, ev_neg, ev_not, ev_cmp, ev_chain, ev_and, ev_or, ev_ife, ev_tup, ev_lst, ev_ix, ev_sl, ev_omit, ev_slr, ev_call, ev_b1, ev_b2, ev_isi, ev_meth, ev_lc, ev_lcif, ev_rng, ev_enum, ev_zip, ev_rev, evs_n, evs_c, alloc_v, alloc_f, setR_eq, ex_set, ex_tset, ex_sset, ex_saug, ex_ex, ex_ret, ex_retN, ex_ite, ex_whl, ex_for, ex_pass, ex_brk, ex_cnt, ex_raise, ex_try, exs_n, exs_c, tried_ok, tried_exc, rs_ret, rs_nx, rs_exc, R.bind_ok, R.bind_exc, R.bind_bad, R.st_ok, R.st_exc, RS.seq_nx, RS.seq_ret, RS.seq_bk, RS.seq_ct, RS.seq_exc, RS.turn_nx, RS.turn_ct, RS.turn_bk, RS.turn_ret, RS.turn_exc, R.nox_ok, orBad_some, lookV_some, lookD_some, onI_int, onLoc_loc, onB_true, onB_false, onB_dec, onBS_true, onBS_false, onBS_dec, bin_int, cmp_lt, cmp_le, cmp_gt, cmp_ge, cmp_eq, cmp_ne, cmp_isb, cmp_isnb, b1_int, b1_intb, b1_abs, b1_lent, b1_lenc, ix_t, ix_c, atR_def, at0, at1, at2, at3, at4, at5, add_of, sub_of, List.map_cons, List.map_nil, List.length_cons, List.length_nil, List.cons_append, List.nil_append, List.replicate_succ, List.replicate_zero, List.getElem?_cons_zero, List.getElem?_cons_succ, List.set_cons_zero, List.set_cons_succ, Nat.zero_add, Nat.reduceAdd, Nat.reduceSub, tupR_0, tupR_1, tupR_2, tupR_3, tupR_4, tupR_5, lstR_0, lstR_1, lstR_2, lstR_3, lstR_4, lstR_5, lstR_6, lstR_7, lstR_8, lstR_9, lstR_10, lstR_11, lstR_12, isi_int, isi_bl, isi_tup, isi_non, isi_str, fin_bl, fin_int, fin_non, fin_str, finX0, handle_hit, handle_nil, hx_bl, hx_str, hx_int, hx_non, hx_cnt, hx_pass, forR_it, forR_f, forR_t, forR_c, gmg, b1_repr, ne_repr, b2_max, b2_min, set_at0, set_at1, set_at2, set_at3, get_at0, get_at1, get_at2, get_at3, List.append_assoc, List.append_nil, List.length_append, List.length_set, Nat.add_zero, h3, if_false, g0, g1, ix_l (gs _), dv, md]
      rw [kf']
      exact fin _ bx
  · have l4 : ∀ w x y z : D, ((List.length [w, x, y, z] : Nat) : Int) = 4 := fun _ _ _ _ => rfl
    have g0 : ∀ v : D, ∀ env, setLR env (.v (.loc n)) (.v (.int 0)) v T = .ok .nx env (T.set n (.lst [v, .int b, .int c, .int d])) := fun v env => by
      rw [setL_ok hT' (by decide) (by rw [l4]; decide)]; rfl
    simp only [fd_law_draw, ev_int, ev_bl, ev_non, ev_str, ev_var, ev_glob, ev_bin, ev_neg, ev_not, ev_cmp, ev_chain, ev_and, ev_or, ev_ife, ev_tup, ev_lst, ev_ix, ev_sl, ev_omit, ev_slr, ev_call, ev_b1, ev_b2, ev_isi, ev_meth, ev_lc, ev_lcif, ev_rng, ev_enum, ev_zip, ev_rev, evs_n, evs_c, alloc_v, alloc_f, setR_eq, ex_set, ex_tset, ex_sset, ex_saug, ex_ex, ex_ret, ex_retN, ex_ite, ex_whl, ex_for, ex_pass, ex_brk, ex_cnt, ex_raise, ex_try, exs_n, exs_c, tried_ok, tried_exc, rs_ret, rs_nx, rs_exc, R.bind_ok, R.bind_exc, R.bind_bad, R.st_ok, R.st_exc, RS.seq_nx, RS.seq_ret, RS.seq_bk, RS.seq_ct, RS.seq_exc, RS.turn_nx, RS.turn_ct, RS.turn_bk, RS.turn_ret, RS.turn_exc, R.nox_ok, orBad_some, lookV_some, lookD_some, onI_int, onLoc_loc, onB_true, onB_false, onB_dec, onBS_true, onBS_false, onBS_dec, bin_int, cmp_lt, cmp_le, cmp_gt, cmp_ge, cmp_eq, cmp_ne, cmp_isb, cmp_isnb, b1_int, b1_intb, b1_abs, b1_lent, b1_lenc, ix_t, ix_c, atR_def, at0, at1, at2, at3, at4, at5, add_of, sub_of, List.map_cons, List.map_nil, List.length_cons, List.length_nil, List.cons_append, List.nil_append, List.replicate_succ, List.replicate_zero, List.getElem?_cons_zero, List.getElem?_cons_succ, List.set_cons_zero, List.set_cons_succ, Nat.zero_add, Nat.reduceAdd, Nat.reduceSub, tupR_0, tupR_1, tupR_2, tupR_3, tupR_4, tupR_5, lstR_0, lstR_1, lstR_2, lstR_3, lstR_4, lstR_5, lstR_6, lstR_7, lstR_8, lstR_9, lstR_10, lstR_11, lstR_12, isi_int, isi_bl, isi_tup, isi_non, isi_str, fin_bl, fin_int, fin_non, fin_str, finX0, handle_hit, handle_nil, hx_bl, hx_str, hx_int, hx_non, hx_cnt, hx_pass, forR_it, forR_f, forR_t, forR_c, gmg, b1_repr, ne_repr, b2_max, b2_min, set_at0, set_at1, set_at2, set_at3, get_at0, get_at1, get_at2, get_at3, List.append_assoc, List.append_nil, List.length_append, List.length_set, Nat.add_zero, hm0, h0, if_false, ix_l hT', g0, dv, md]
    rw [kf _ _ rfl]
    have q := fmod_pos (a := a) (b := many) (by omega)
    exact ⟨a.fmod many, ⟨a.fdiv many, b, c, d⟩, rfl, q.1, q.2, ⟨ok.a.le (fdiv_le (by omega)), ok.b, ok.c0, by have h : c ≤ N := ok.c; show c ≤ ((N + 1 : Nat) : Int); omega, ok.d⟩⟩
end
end Py
namespace Py
open PySem
section
variable {T : Sto} {n : Nat}
theorem cellB {ns : List Int} (hb : ∀ z ∈ ns, z.natAbs < 2 ^ cellBits) {i : Nat} {z : Int} (h : ns[i]? = some z) : Bd cellBits z := hb z (List.mem_of_getElem? h)
/-- the bag of cell k -/
theorem sp_bag (k : Nat) {ns : List Int} (hb : ∀ z ∈ ns, z.natAbs < 2 ^ cellBits) {c : Nat} (hc : c < 1000) :
    ∃ g, (Γ (k + 1)).call 30 [.cl (ns.map D.int), .int c] T = .ok (.f [.int g.a, .int g.b, .int g.c, .int g.d]) T ∧ BagOk 0 g := by
  rw [call_n tab_law_bag rfl]
  have m1 : intOp .Mult 48611 (c : Int) = some (48611 * (c : Int)) := mul_of (bd_n (x := 48611) (n := 16) (by decide)) (bd_n (x := c) (n := 10) (by omega)) (by decide)
  have hk : Bd 64 (1061 + 48611 * (c : Int)) := by unfold Bd; omega
  have fin : ∀ z : Int, Bd cellBits z → ∃ g : Bag, (R.ok (W.f [.int 0, .int (1061 + 48611 * c), .int 0, .int z]) T : R W) = .ok (.f [.int g.a, .int g.b, .int g.c, .int g.d]) T ∧ BagOk 0 g := fun z hz =>
    ⟨⟨0, 1061 + 48611 * c, 0, z⟩, rfl, ⟨by show (0 : Nat) < 2 ^ _; exact Nat.two_pow_pos _, hk, Int.le_refl _, Int.le_refl _, hz⟩⟩
  have hl : ((List.map D.int ns).length : Int) = (ns.length : Int) := by rw [List.length_map]
  have f2 : ∀ z : Int, finish T T (.f [.int 0, .int (1061 + 48611 * c), .int 0, .int z]) = .ok (.f [.int 0, .int (1061 + 48611 * c), .int 0, .int z]) T := fun z => fin_f0 rfl
  by_cases h : (c : Int) < ns.length
  · have hc' : c < ns.length := by omega
    have e : atI (ns.map D.int) (c : Int) = some (.int ns[c]) := by
      rw [atI_nn (by omega), Int.toNat_natCast, List.getElem?_map, List.getElem?_eq_getElem hc']
      rfl
    simp only [fd_law_bag, ev_int, ev_bl, ev_non, ev_str, ev_var, ev_glob, ev_bin, ev_neg, ev_not, ev_cmp, ev_chain, ev_and, ev_or, ev_ife, ev_tup, ev_lst, ev_ix, ev_sl, ev_omit, ev_slr, ev_call, ev_b1, ev_b2, ev_isi, ev_meth, ev_lc, ev_lcif, ev_rng, ev_enum, ev_zip, ev_rev, evs_n, evs_c, alloc_v, alloc_f, setR_eq, ex_set, ex_tset, ex_sset, ex_saug, ex_ex, ex_ret, ex_retN, ex_ite, ex_whl, ex_for, ex_pass, ex_brk, ex_cnt, ex_raise, ex_try, exs_n, exs_c, tried_ok, tried_exc, rs_ret, rs_nx, rs_exc, R.bind_ok, R.bind_exc, R.bind_bad, R.st_ok, R.st_exc, RS.seq_nx, RS.seq_ret, RS.seq_bk, RS.seq_ct, RS.seq_exc, RS.turn_nx, RS.turn_ct, RS.turn_bk, RS.turn_ret, RS.turn_exc, R.nox_ok, orBad_some, lookV_some, lookD_some, onI_int, onLoc_loc, onB_true, onB_false, onB_dec, onBS_true, onBS_false, onBS_dec, bin_int, cmp_lt, cmp_le, cmp_gt, cmp_ge, cmp_eq, cmp_ne, cmp_isb, cmp_isnb, b1_int, b1_intb, b1_abs, b1_lent, b1_lenc, ix_t, ix_c, atR_def, at0, at1, at2, at3, at4, at5, add_of, sub_of, List.map_cons, List.map_nil, List.length_cons, List.length_nil, List.cons_append, List.nil_append, List.replicate_succ, List.replicate_zero, List.getElem?_cons_zero, List.getElem?_cons_succ, List.set_cons_zero, List.set_cons_succ, Nat.zero_add, Nat.reduceAdd, Nat.reduceSub, tupR_0, tupR_1, tupR_2, tupR_3, tupR_4, tupR_5, lstR_0, lstR_1, lstR_2, lstR_3, lstR_4, lstR_5, lstR_6, lstR_7, lstR_8, lstR_9, lstR_10, lstR_11, lstR_12, isi_int, isi_bl, isi_tup, isi_non, isi_str, fin_bl, fin_int, fin_non, fin_str, finX0, handle_hit, handle_nil, hx_bl, hx_str, hx_int, hx_non, hx_cnt, hx_pass, forR_it, forR_f, forR_t, forR_c, gmg, b1_repr, ne_repr, b2_max, b2_min, set_at0, set_at1, set_at2, set_at3, get_at0, get_at1, get_at2, get_at3, List.append_assoc, List.append_nil, List.length_append, List.length_set, Nat.add_zero, hl, h, if_true, e, m1, f2]
    exact fin _ (hb _ (List.getElem_mem hc'))
  · simp only [fd_law_bag, ev_int, ev_bl, ev_non, ev_str, ev_var, ev_glob, ev_bin, ev_neg, ev_not, ev_cmp, ev_chain, ev_and, ev_or, ev_ife, ev_tup, ev_lst, ev_ix, ev_sl, ev_omit, ev_slr, ev_call, ev_b1, ev_b2, ev_isi, ev_meth, ev_lc, ev_lcif, ev_rng, ev_enum, ev_zip, ev_rev, evs_n, evs_c, alloc_v, alloc_f, setR_eq, ex_set, ex_tset, ex_sset, ex_saug, ex_ex, ex_ret, ex_retN, ex_ite, ex_whl, ex_for, ex_pass, ex_brk, ex_cnt, ex_raise, ex_try, exs_n, exs_c, tried_ok, tried_exc, rs_ret, rs_nx, rs_exc, R.bind_ok, R.bind_exc, R.bind_bad, R.st_ok, R.st_exc, RS.seq_nx, RS.seq_ret, RS.seq_bk, RS.seq_ct, RS.seq_exc, RS.turn_nx, RS.turn_ct, RS.turn_bk, RS.turn_ret, RS.turn_exc, R.nox_ok, orBad_some, lookV_some, lookD_some, onI_int, onLoc_loc, onB_true, onB_false, onB_dec, onBS_true, onBS_false, onBS_dec, bin_int, cmp_lt, cmp_le, cmp_gt, cmp_ge, cmp_eq, cmp_ne, cmp_isb, cmp_isnb, b1_int, b1_intb, b1_abs, b1_lent, b1_lenc, ix_t, ix_c, atR_def, at0, at1, at2, at3, at4, at5, add_of, sub_of, List.map_cons, List.map_nil, List.length_cons, List.length_nil, List.cons_append, List.nil_append, List.replicate_succ, List.replicate_zero, List.getElem?_cons_zero, List.getElem?_cons_succ, List.set_cons_zero, List.set_cons_succ, Nat.zero_add, Nat.reduceAdd, Nat.reduceSub, tupR_0, tupR_1, tupR_2, tupR_3, tupR_4, tupR_5, lstR_0, lstR_1, lstR_2, lstR_3, lstR_4, lstR_5, lstR_6, lstR_7, lstR_8, lstR_9, lstR_10, lstR_11, lstR_12, isi_int, isi_bl, isi_tup, isi_non, isi_str, fin_bl, fin_int, fin_non, fin_str, finX0, handle_hit, handle_nil, hx_bl, hx_str, hx_int, hx_non, hx_cnt, hx_pass, forR_it, forR_f, forR_t, forR_c, gmg, b1_repr, ne_repr, b2_max, b2_min, set_at0, set_at1, set_at2, set_at3, get_at0, get_at1, get_at2, get_at3, List.append_assoc, List.append_nil, List.length_append, List.length_set, Nat.add_zero, hl, h, if_false, m1, f2]
    exact fin 0 (by show (0 : Nat) < 2 ^ _; exact Nat.two_pow_pos _)
/-- one of a row -/
theorem sp_one (k : Nat) {N : Nat} {g : Bag} (ok : BagOk N g) (hN : N < 2 ^ 60) (hT : T[n]? = some g.o) {m : Nat} {xs : List D} (hm : T[m]? = some (.lst xs)) (hnm : m ≠ n) (h1 : 1 ≤ xs.length) (h2 : xs.length < 2 ^ 60) (hu : ∀ x ∈ xs, und T.length x = true) :
    ∃ x g', (Γ (k + 2)).call 32 [.loc n, .loc m] T = .ok (.v x) (T.set n (Bag.o g')) ∧ x ∈ xs ∧ BagOk (N + 1) g' := by
  rw [call_n tab_law_one rfl]
  obtain ⟨r, g', e, r0, r1, ok'⟩ := sp_draw k ok hN hT (many := (xs.length : Int)) (by omega) (Bd.mono (n := 60) (bd_n h2) (by decide))
  have hi : r.toNat < xs.length := by omega
  have e2 : atI xs r = some xs[r.toNat] := by
    rw [atI_nn r0, List.getElem?_eq_getElem hi]
  have hm' : (T.set n (Bag.o g'))[m]? = some (.lst xs) := by rw [List.getElem?_set_ne (Ne.symm hnm)]; exact hm
  have kf : finish T (T.set n (Bag.o g')) (.v xs[r.toNat]) = .ok (.v xs[r.toNat]) (T.set n (Bag.o g')) := by
    have := fin_v (G := []) (d := xs[r.toNat]) (Kept.set (S := T) (n := n) (o := Bag.o g') undBag) (hu _ (List.getElem_mem hi))
    rwa [List.append_nil] at this
  simp only [fd_law_one, ev_int, ev_bl, ev_non, ev_str, ev_var, ev_glob, ev_bin, ev_neg, ev_not, ev_cmp, ev_chain, ev_and, ev_or, ev_ife, ev_tup, ev_lst, ev_ix, ev_sl, ev_omit, ev_slr, ev_call, ev_b1, ev_b2, ev_isi, ev_meth, ev_lc, ev_lcif, ev_rng, ev_enum, ev_zip, ev_rev, evs_n, evs_c, alloc_v, alloc_f, setR_eq, ex_set, ex_tset, ex_sset, ex_saug, ex_ex, ex_ret, ex_retN, ex_ite, ex_whl, ex_for, ex_pass, ex_brk, ex_cnt, ex_raise, ex_try, exs_n, exs_c, tried_ok, tried_exc, rs_ret, rs_nx, rs_exc, R.bind_ok, R.bind_exc, R.bind_bad, R.st_ok, R.st_exc, RS.seq_nx, RS.seq_ret, RS.seq_bk, RS.seq_ct, RS.seq_exc, RS.turn_nx, RS.turn_ct, RS.turn_bk, RS.turn_ret, RS.turn_exc, R.nox_ok, orBad_some, lookV_some, lookD_some, onI_int, onLoc_loc, onB_true, onB_false, onB_dec, onBS_true, onBS_false, onBS_dec, bin_int, cmp_lt, cmp_le, cmp_gt, cmp_ge, cmp_eq, cmp_ne, cmp_isb, cmp_isnb, b1_int, b1_intb, b1_abs, b1_lent, b1_lenc, ix_t, ix_c, atR_def, at0, at1, at2, at3, at4, at5, add_of, sub_of, List.map_cons, List.map_nil, List.length_cons, List.length_nil, List.cons_append, List.nil_append, List.replicate_succ, List.replicate_zero, List.getElem?_cons_zero, List.getElem?_cons_succ, List.set_cons_zero, List.set_cons_succ, Nat.zero_add, Nat.reduceAdd, Nat.reduceSub, tupR_0, tupR_1, tupR_2, tupR_3, tupR_4, tupR_5, lstR_0, lstR_1, lstR_2, lstR_3, lstR_4, lstR_5, lstR_6, lstR_7, lstR_8, lstR_9, lstR_10, lstR_11, lstR_12, isi_int, isi_bl, isi_tup, isi_non, isi_str, fin_bl, fin_int, fin_non, fin_str, finX0, handle_hit, handle_nil, hx_bl, hx_str, hx_int, hx_non, hx_cnt, hx_pass, forR_it, forR_f, forR_t, forR_c, gmg, b1_repr, ne_repr, b2_max, b2_min, set_at0, set_at1, set_at2, set_at3, get_at0, get_at1, get_at2, get_at3, List.append_assoc, List.append_nil, List.length_append, List.length_set, Nat.add_zero, b1_lenl hm, e, ix_l hm', e2, kf]
  exact ⟨_, g', rfl, List.getElem_mem hi, ok'⟩
end
end Py
namespace Py
open PySem
section
variable {T : Sto} {n : Nat}
/-- one of a row of ints -/
theorem sp_oneI (k : Nat) {N : Nat} {g : Bag} (ok : BagOk N g) (hN : N < 2 ^ 60) (hT : T[n]? = some g.o) {m : Nat} {is : List Int} (hm : T[m]? = some (.lst (is.map D.int))) (hnm : m ≠ n) (h1 : 1 ≤ is.length) (h2 : is.length < 2 ^ 60) :
    ∃ x g', (Γ (k + 2)).call 32 [.loc n, .loc m] T = .ok (.v (.int x)) (T.set n (Bag.o g')) ∧ x ∈ is ∧ BagOk (N + 1) g' := by
  obtain ⟨x, g', e, hx, ok'⟩ := sp_one k ok hN hT hm hnm (by rw [List.length_map]; exact h1) (by rw [List.length_map]; exact h2) (fun x hx => by
    obtain ⟨i, _, rfl⟩ := List.mem_map.mp hx
    rfl)
  obtain ⟨i, hi, rfl⟩ := List.mem_map.mp hx
  exact ⟨i, g', e, hi, ok'⟩
/-- one of a row that is just written -/
theorem sp_oneN (k : Nat) {N : Nat} {g : Bag} (ok : BagOk N g) (hN : N < 2 ^ 60) (hT : T[n]? = some g.o) (is : List Int) {xs : List D} (hx : xs = is.map D.int) (h1 : 1 ≤ is.length) (h2 : is.length < 2 ^ 60) :
    ∃ x g', (Γ (k + 2)).call 32 [.loc n, .loc T.length] (T ++ [.lst xs]) = .ok (.v (.int x)) (T.set n (Bag.o g') ++ [.lst xs]) ∧ x ∈ is ∧ BagOk (N + 1) g' := by
  subst hx
  have hn : n < T.length := (List.getElem?_eq_some_iff.mp hT).1
  obtain ⟨x, g', e, hx, ok'⟩ := sp_oneI k (T := T ++ [.lst (is.map D.int)]) (n := n) (m := T.length) ok hN (by rw [List.getElem?_append_left hn]; exact hT) (is := is) (by rw [List.getElem?_append_right (Nat.le_refl _), Nat.sub_self]; rfl) (by omega) h1 h2
  rw [set_app hn] at e
  exact ⟨x, g', e, hx, ok'⟩
/-- the bag in a store that has grown -/
theorem bag_app {g : Bag} {G : Sto} (hn : n < T.length) : (T.set n g.o ++ G)[n]? = some g.o := by
  rw [List.getElem?_append_left (by rw [List.length_set]; exact hn), get_set hn]
theorem set_app2 {x y : O} {G : Sto} (hn : n < T.length) : (T.set n x ++ G).set n y = T.set n y ++ G := by
  rw [set_app (by rw [List.length_set]; exact hn), List.set_set]
end
end Py

namespace Py
open PySem
section
variable {S : Sto}
theorem sp_is_number (k : Nat) (a : Int) : (Γ (k + 1)).call 19 [.int a] S = .ok (.v (.bl true)) S := by
  rw [call_n tab_is_number rfl]
  simp only [fd_is_number, ev_int, ev_bl, ev_non, ev_str, ev_var, ev_glob, ev_bin, ev_neg, ev_not, ev_cmp, ev_chain, ev_and, ev_or, ev_ife, ev_tup, ev_lst, ev_ix, ev_sl, ev_omit, ev_slr, ev_call, ev_b1, ev_b2, ev_isi, ev_meth, ev_lc, ev_lcif, ev_rng, ev_enum, ev_zip, ev_rev, evs_n, evs_c, alloc_v, alloc_f, setR_eq, ex_set, ex_tset, ex_sset, ex_saug, ex_ex, ex_ret, ex_retN, ex_ite, ex_whl, ex_for, ex_pass, ex_brk, ex_cnt, ex_raise, ex_try, exs_n, exs_c, tried_ok, tried_exc, rs_ret, rs_nx, rs_exc, R.bind_ok, R.bind_exc, R.bind_bad, R.st_ok, R.st_exc, RS.seq_nx, RS.seq_ret, RS.seq_bk, RS.seq_ct, RS.seq_exc, RS.turn_nx, RS.turn_ct, RS.turn_bk, RS.turn_ret, RS.turn_exc, R.nox_ok, orBad_some, lookV_some, lookD_some, onI_int, onLoc_loc, onB_true, onB_false, onB_dec, onBS_true, onBS_false, onBS_dec, bin_int, cmp_lt, cmp_le, cmp_gt, cmp_ge, cmp_eq, cmp_ne, cmp_isb, cmp_isnb, b1_int, b1_intb, b1_abs, b1_lent, b1_lenc, ix_t, ix_c, atR_def, at0, at1, at2, at3, at4, at5, add_of, sub_of, List.map_cons, List.map_nil, List.length_cons, List.length_nil, List.cons_append, List.nil_append, List.replicate_succ, List.replicate_zero, List.getElem?_cons_zero, List.getElem?_cons_succ, List.set_cons_zero, List.set_cons_succ, Nat.zero_add, Nat.reduceAdd, Nat.reduceSub, tupR_0, tupR_1, tupR_2, tupR_3, tupR_4, tupR_5, lstR_0, lstR_1, lstR_2, lstR_3, lstR_4, lstR_5, lstR_6, lstR_7, lstR_8, lstR_9, lstR_10, lstR_11, lstR_12, isi_int, isi_bl, isi_tup, isi_non, isi_str, fin_bl, fin_int, fin_non, fin_str, finX0, handle_hit, handle_nil, hx_bl, hx_str, hx_int, hx_non, hx_cnt, hx_pass, forR_it, forR_f, forR_t, forR_c, gmg, b1_repr, ne_repr, b2_max, b2_min, set_at0, set_at1, set_at2, set_at3, get_at0, get_at1, get_at2, get_at3, List.append_assoc, List.append_nil, List.length_append, List.length_set, Nat.add_zero, reduceCtorEq, decide_true, decide_false, if_true, if_false]
theorem sp_is_number_b (k : Nat) (a : Bool) : (Γ (k + 1)).call 19 [.bl a] S = .ok (.v (.bl false)) S := by
  rw [call_n tab_is_number rfl]
  simp only [fd_is_number, ev_int, ev_bl, ev_non, ev_str, ev_var, ev_glob, ev_bin, ev_neg, ev_not, ev_cmp, ev_chain, ev_and, ev_or, ev_ife, ev_tup, ev_lst, ev_ix, ev_sl, ev_omit, ev_slr, ev_call, ev_b1, ev_b2, ev_isi, ev_meth, ev_lc, ev_lcif, ev_rng, ev_enum, ev_zip, ev_rev, evs_n, evs_c, alloc_v, alloc_f, setR_eq, ex_set, ex_tset, ex_sset, ex_saug, ex_ex, ex_ret, ex_retN, ex_ite, ex_whl, ex_for, ex_pass, ex_brk, ex_cnt, ex_raise, ex_try, exs_n, exs_c, tried_ok, tried_exc, rs_ret, rs_nx, rs_exc, R.bind_ok, R.bind_exc, R.bind_bad, R.st_ok, R.st_exc, RS.seq_nx, RS.seq_ret, RS.seq_bk, RS.seq_ct, RS.seq_exc, RS.turn_nx, RS.turn_ct, RS.turn_bk, RS.turn_ret, RS.turn_exc, R.nox_ok, orBad_some, lookV_some, lookD_some, onI_int, onLoc_loc, onB_true, onB_false, onB_dec, onBS_true, onBS_false, onBS_dec, bin_int, cmp_lt, cmp_le, cmp_gt, cmp_ge, cmp_eq, cmp_ne, cmp_isb, cmp_isnb, b1_int, b1_intb, b1_abs, b1_lent, b1_lenc, ix_t, ix_c, atR_def, at0, at1, at2, at3, at4, at5, add_of, sub_of, List.map_cons, List.map_nil, List.length_cons, List.length_nil, List.cons_append, List.nil_append, List.replicate_succ, List.replicate_zero, List.getElem?_cons_zero, List.getElem?_cons_succ, List.set_cons_zero, List.set_cons_succ, Nat.zero_add, Nat.reduceAdd, Nat.reduceSub, tupR_0, tupR_1, tupR_2, tupR_3, tupR_4, tupR_5, lstR_0, lstR_1, lstR_2, lstR_3, lstR_4, lstR_5, lstR_6, lstR_7, lstR_8, lstR_9, lstR_10, lstR_11, lstR_12, isi_int, isi_bl, isi_tup, isi_non, isi_str, fin_bl, fin_int, fin_non, fin_str, finX0, handle_hit, handle_nil, hx_bl, hx_str, hx_int, hx_non, hx_cnt, hx_pass, forR_it, forR_f, forR_t, forR_c, gmg, b1_repr, ne_repr, b2_max, b2_min, set_at0, set_at1, set_at2, set_at3, get_at0, get_at1, get_at2, get_at3, List.append_assoc, List.append_nil, List.length_append, List.length_set, Nat.add_zero, reduceCtorEq, decide_true, decide_false, Bool.true_or, Bool.or_true, if_true, if_false]
theorem gcd_step {a b : Int} (ha : 0 ≤ a) (hb : 0 ≤ b) : Int.gcd b (a % b) = Int.gcd a b := by
  obtain ⟨m, rfl⟩ := Int.eq_ofNat_of_zero_le ha
  obtain ⟨n, rfl⟩ := Int.eq_ofNat_of_zero_le hb
  show Nat.gcd n (m % n) = Nat.gcd m n
  rw [Nat.gcd_comm n, ← Nat.gcd_rec, Nat.gcd_comm]
theorem gcd_c (k : Nat) (a b : Int) : ev (Γ k) fd_gcd_of_c1 [some (.int a), some (.int b)] S = .ok (.v (.bl (decide (0 < b)))) S := by
  simp only [fd_gcd_of_c1, ev_int, ev_bl, ev_non, ev_str, ev_var, ev_glob, ev_bin, ev_neg, ev_not, ev_cmp, ev_chain, ev_and, ev_or, ev_ife, ev_tup, ev_lst, ev_ix, ev_sl, ev_omit, ev_slr, ev_call, ev_b1, ev_b2, ev_isi, ev_meth, ev_lc, ev_lcif, ev_rng, ev_enum, ev_zip, ev_rev, evs_n, evs_c, alloc_v, alloc_f, setR_eq, ex_set, ex_tset, ex_sset, ex_saug, ex_ex, ex_ret, ex_retN, ex_ite, ex_whl, ex_for, ex_pass, ex_brk, ex_cnt, ex_raise, ex_try, exs_n, exs_c, tried_ok, tried_exc, rs_ret, rs_nx, rs_exc, R.bind_ok, R.bind_exc, R.bind_bad, R.st_ok, R.st_exc, RS.seq_nx, RS.seq_ret, RS.seq_bk, RS.seq_ct, RS.seq_exc, RS.turn_nx, RS.turn_ct, RS.turn_bk, RS.turn_ret, RS.turn_exc, R.nox_ok, orBad_some, lookV_some, lookD_some, onI_int, onLoc_loc, onB_true, onB_false, onB_dec, onBS_true, onBS_false, onBS_dec, bin_int, cmp_lt, cmp_le, cmp_gt, cmp_ge, cmp_eq, cmp_ne, cmp_isb, cmp_isnb, b1_int, b1_intb, b1_abs, b1_lent, b1_lenc, ix_t, ix_c, atR_def, at0, at1, at2, at3, at4, at5, add_of, sub_of, List.map_cons, List.map_nil, List.length_cons, List.length_nil, List.cons_append, List.nil_append, List.replicate_succ, List.replicate_zero, List.getElem?_cons_zero, List.getElem?_cons_succ, List.set_cons_zero, List.set_cons_succ, Nat.zero_add, Nat.reduceAdd, Nat.reduceSub, tupR_0, tupR_1, tupR_2, tupR_3, tupR_4, tupR_5, lstR_0, lstR_1, lstR_2, lstR_3, lstR_4, lstR_5, lstR_6, lstR_7, lstR_8, lstR_9, lstR_10, lstR_11, lstR_12, isi_int, isi_bl, isi_tup, isi_non, isi_str, fin_bl, fin_int, fin_non, fin_str, finX0, handle_hit, handle_nil, hx_bl, hx_str, hx_int, hx_non, hx_cnt, hx_pass, forR_it, forR_f, forR_t, forR_c, gmg, b1_repr, ne_repr, b2_max, b2_min, set_at0, set_at1, set_at2, set_at3, get_at0, get_at1, get_at2, get_at3, List.append_assoc, List.append_nil, List.length_append, List.length_set, Nat.add_zero]
theorem gcd_loop (k : Nat) : ∀ (n : Nat) (a b : Int), 0 ≤ a → 0 ≤ b → b.toNat ≤ n →
    whl (Γ k) fd_gcd_of_c1 fd_gcd_of_l1 [some (.int a), some (.int b)] S = .ok .nx [some (.int (Int.gcd a b)), some (.int 0)] S
  | n, a, b, ha, hb, hn => by
    have hc := gcd_c (S := S) k a b
    by_cases h : 0 < b
    · have hm := mod_of (x := a) (show b ≠ 0 by omega)
      have h1 := Int.emod_nonneg a (show b ≠ 0 by omega)
      have h2 := Int.emod_lt_of_pos a h
      have h3 : a.fmod b = a % b := Int.fmod_eq_emod_of_nonneg a hb
      have t2 : ∀ x y : D, bindR (.tup [.name 0, .name 1]) [some (.int a), some (.int b)] (.tup [x, y]) S = .ok .nx [some x, some y] S := fun _ _ => rfl
      have hx : execs (Γ k) fd_gcd_of_l1 [some (.int a), some (.int b)] S = .ok .nx [some (.int b), some (.int (a % b))] S := by
        simp only [fd_gcd_of_l1, ev_int, ev_bl, ev_non, ev_str, ev_var, ev_glob, ev_bin, ev_neg, ev_not, ev_cmp, ev_chain, ev_and, ev_or, ev_ife, ev_tup, ev_lst, ev_ix, ev_sl, ev_omit, ev_slr, ev_call, ev_b1, ev_b2, ev_isi, ev_meth, ev_lc, ev_lcif, ev_rng, ev_enum, ev_zip, ev_rev, evs_n, evs_c, alloc_v, alloc_f, setR_eq, ex_set, ex_tset, ex_sset, ex_saug, ex_ex, ex_ret, ex_retN, ex_ite, ex_whl, ex_for, ex_pass, ex_brk, ex_cnt, ex_raise, ex_try, exs_n, exs_c, tried_ok, tried_exc, rs_ret, rs_nx, rs_exc, R.bind_ok, R.bind_exc, R.bind_bad, R.st_ok, R.st_exc, RS.seq_nx, RS.seq_ret, RS.seq_bk, RS.seq_ct, RS.seq_exc, RS.turn_nx, RS.turn_ct, RS.turn_bk, RS.turn_ret, RS.turn_exc, R.nox_ok, orBad_some, lookV_some, lookD_some, onI_int, onLoc_loc, onB_true, onB_false, onB_dec, onBS_true, onBS_false, onBS_dec, bin_int, cmp_lt, cmp_le, cmp_gt, cmp_ge, cmp_eq, cmp_ne, cmp_isb, cmp_isnb, b1_int, b1_intb, b1_abs, b1_lent, b1_lenc, ix_t, ix_c, atR_def, at0, at1, at2, at3, at4, at5, add_of, sub_of, List.map_cons, List.map_nil, List.length_cons, List.length_nil, List.cons_append, List.nil_append, List.replicate_succ, List.replicate_zero, List.getElem?_cons_zero, List.getElem?_cons_succ, List.set_cons_zero, List.set_cons_succ, Nat.zero_add, Nat.reduceAdd, Nat.reduceSub, tupR_0, tupR_1, tupR_2, tupR_3, tupR_4, tupR_5, lstR_0, lstR_1, lstR_2, lstR_3, lstR_4, lstR_5, lstR_6, lstR_7, lstR_8, lstR_9, lstR_10, lstR_11, lstR_12, isi_int, isi_bl, isi_tup, isi_non, isi_str, fin_bl, fin_int, fin_non, fin_str, finX0, handle_hit, handle_nil, hx_bl, hx_str, hx_int, hx_non, hx_cnt, hx_pass, forR_it, forR_f, forR_t, forR_c, gmg, b1_repr, ne_repr, b2_max, b2_min, set_at0, set_at1, set_at2, set_at3, get_at0, get_at1, get_at2, get_at3, List.append_assoc, List.append_nil, List.length_append, List.length_set, Nat.add_zero, hm, h3, t2]
      rw [decide_eq_true h] at hc
      cases n with
      | zero => omega
      | succ n => rw [whl_t hc hx, gcd_loop k n b (a % b) hb h1 (by omega), gcd_step ha hb]
    · have : b = 0 := by omega
      subst this
      have e : ((Int.gcd a 0 : Nat) : Int) = a := by rw [Int.gcd_zero_right]; omega
      rw [decide_eq_false h] at hc
      rw [whl_f hc, e]
theorem sp_gcd_of (k : Nat) (a b : Int) : (Γ (k + 1)).call 20 [.int a, .int b] S = .ok (.v (.int (Int.gcd a b))) S := by
  rw [call_n tab_gcd_of rfl]
  have h := gcd_loop (S := S) k b.natAbs a.natAbs b.natAbs (by omega) (by omega) (by omega)
  have e : Int.gcd (a.natAbs : Int) (b.natAbs : Int) = Int.gcd a b := by
    show Nat.gcd _ _ = Nat.gcd _ _
    rw [Int.natAbs_natCast, Int.natAbs_natCast]
  rw [e] at h
  simp only [fd_gcd_of, ev_int, ev_bl, ev_non, ev_str, ev_var, ev_glob, ev_bin, ev_neg, ev_not, ev_cmp, ev_chain, ev_and, ev_or, ev_ife, ev_tup, ev_lst, ev_ix, ev_sl, ev_omit, ev_slr, ev_call, ev_b1, ev_b2, ev_isi, ev_meth, ev_lc, ev_lcif, ev_rng, ev_enum, ev_zip, ev_rev, evs_n, evs_c, alloc_v, alloc_f, setR_eq, ex_set, ex_tset, ex_sset, ex_saug, ex_ex, ex_ret, ex_retN, ex_ite, ex_whl, ex_for, ex_pass, ex_brk, ex_cnt, ex_raise, ex_try, exs_n, exs_c, tried_ok, tried_exc, rs_ret, rs_nx, rs_exc, R.bind_ok, R.bind_exc, R.bind_bad, R.st_ok, R.st_exc, RS.seq_nx, RS.seq_ret, RS.seq_bk, RS.seq_ct, RS.seq_exc, RS.turn_nx, RS.turn_ct, RS.turn_bk, RS.turn_ret, RS.turn_exc, R.nox_ok, orBad_some, lookV_some, lookD_some, onI_int, onLoc_loc, onB_true, onB_false, onB_dec, onBS_true, onBS_false, onBS_dec, bin_int, cmp_lt, cmp_le, cmp_gt, cmp_ge, cmp_eq, cmp_ne, cmp_isb, cmp_isnb, b1_int, b1_intb, b1_abs, b1_lent, b1_lenc, ix_t, ix_c, atR_def, at0, at1, at2, at3, at4, at5, add_of, sub_of, List.map_cons, List.map_nil, List.length_cons, List.length_nil, List.cons_append, List.nil_append, List.replicate_succ, List.replicate_zero, List.getElem?_cons_zero, List.getElem?_cons_succ, List.set_cons_zero, List.set_cons_succ, Nat.zero_add, Nat.reduceAdd, Nat.reduceSub, tupR_0, tupR_1, tupR_2, tupR_3, tupR_4, tupR_5, lstR_0, lstR_1, lstR_2, lstR_3, lstR_4, lstR_5, lstR_6, lstR_7, lstR_8, lstR_9, lstR_10, lstR_11, lstR_12, isi_int, isi_bl, isi_tup, isi_non, isi_str, fin_bl, fin_int, fin_non, fin_str, finX0, handle_hit, handle_nil, hx_bl, hx_str, hx_int, hx_non, hx_cnt, hx_pass, forR_it, forR_f, forR_t, forR_c, gmg, b1_repr, ne_repr, b2_max, b2_min, set_at0, set_at1, set_at2, set_at3, get_at0, get_at1, get_at2, get_at3, List.append_assoc, List.append_nil, List.length_append, List.length_set, Nat.add_zero, h]
/-- the fraction that p / q is -/
structure FrOf (p q x y : Int) : Prop where
  pos : 0 < y
  one : Int.gcd x y = 1
  eq : x * q = y * p
  le1 : x.natAbs ≤ p.natAbs
  le2 : y.natAbs ≤ q.natAbs
theorem sp_fraction0 (k : Nat) (p : Int) : (Γ (k + 1)).call 22 [.int p, .int 0] S = .exc ⟨9, []⟩ S := by
  rw [call_n tab_fraction rfl]
  simp only [fd_fraction, ev_int, ev_bl, ev_non, ev_str, ev_var, ev_glob, ev_bin, ev_neg, ev_not, ev_cmp, ev_chain, ev_and, ev_or, ev_ife, ev_tup, ev_lst, ev_ix, ev_sl, ev_omit, ev_slr, ev_call, ev_b1, ev_b2, ev_isi, ev_meth, ev_lc, ev_lcif, ev_rng, ev_enum, ev_zip, ev_rev, evs_n, evs_c, alloc_v, alloc_f, setR_eq, ex_set, ex_tset, ex_sset, ex_saug, ex_ex, ex_ret, ex_retN, ex_ite, ex_whl, ex_for, ex_pass, ex_brk, ex_cnt, ex_raise, ex_try, exs_n, exs_c, tried_ok, tried_exc, rs_ret, rs_nx, rs_exc, R.bind_ok, R.bind_exc, R.bind_bad, R.st_ok, R.st_exc, RS.seq_nx, RS.seq_ret, RS.seq_bk, RS.seq_ct, RS.seq_exc, RS.turn_nx, RS.turn_ct, RS.turn_bk, RS.turn_ret, RS.turn_exc, R.nox_ok, orBad_some, lookV_some, lookD_some, onI_int, onLoc_loc, onB_true, onB_false, onB_dec, onBS_true, onBS_false, onBS_dec, bin_int, cmp_lt, cmp_le, cmp_gt, cmp_ge, cmp_eq, cmp_ne, cmp_isb, cmp_isnb, b1_int, b1_intb, b1_abs, b1_lent, b1_lenc, ix_t, ix_c, atR_def, at0, at1, at2, at3, at4, at5, add_of, sub_of, List.map_cons, List.map_nil, List.length_cons, List.length_nil, List.cons_append, List.nil_append, List.replicate_succ, List.replicate_zero, List.getElem?_cons_zero, List.getElem?_cons_succ, List.set_cons_zero, List.set_cons_succ, Nat.zero_add, Nat.reduceAdd, Nat.reduceSub, tupR_0, tupR_1, tupR_2, tupR_3, tupR_4, tupR_5, lstR_0, lstR_1, lstR_2, lstR_3, lstR_4, lstR_5, lstR_6, lstR_7, lstR_8, lstR_9, lstR_10, lstR_11, lstR_12, isi_int, isi_bl, isi_tup, isi_non, isi_str, fin_bl, fin_int, fin_non, fin_str, finX0, handle_hit, handle_nil, hx_bl, hx_str, hx_int, hx_non, hx_cnt, hx_pass, forR_it, forR_f, forR_t, forR_c, gmg, b1_repr, ne_repr, b2_max, b2_min, set_at0, set_at1, set_at2, set_at3, get_at0, get_at1, get_at2, get_at3, List.append_assoc, List.append_nil, List.length_append, List.length_set, Nat.add_zero, if_true]
theorem fdiv_dvd {a b : Int} (h : b ∣ a) : a.fdiv b = a / b := Int.fdiv_eq_ediv_of_dvd h
theorem fr_ok {p q : Int} (hq : q ≠ 0) : FrOf p q (p / (if q < 0 then -(Int.gcd p q : Int) else Int.gcd p q)) (q / (if q < 0 then -(Int.gcd p q : Int) else Int.gcd p q)) := by
  have hg : 0 < Int.gcd p q := Int.gcd_pos_of_ne_zero_right p hq
  obtain ⟨x, hx⟩ := Int.gcd_dvd_left p q
  obtain ⟨y, hy⟩ := Int.gcd_dvd_right p q
  have one : Int.gcd x y = 1 := by
    have e1 : p.natAbs = Int.gcd p q * x.natAbs := by conv => lhs; rw [hx]
                                                      rw [Int.natAbs_mul, Int.natAbs_natCast]
    have e2 : q.natAbs = Int.gcd p q * y.natAbs := by conv => lhs; rw [hy]
                                                      rw [Int.natAbs_mul, Int.natAbs_natCast]
    have e3 : Int.gcd p q = Nat.gcd p.natAbs q.natAbs := rfl
    have e4 : Nat.gcd p.natAbs q.natAbs = Int.gcd p q * Nat.gcd x.natAbs y.natAbs := by
      conv => lhs; rw [e1, e2]
      exact Nat.gcd_mul_left ..
    rw [← e3] at e4
    show Nat.gcd x.natAbs y.natAbs = 1
    exact Nat.eq_of_mul_eq_mul_left hg (by rw [Nat.mul_one]; exact e4.symm)
  generalize hgg : Int.gcd p q = g at *
  have g1 : (1 : Int) ≤ g := by omega
  have ex : p / (g : Int) = x := by rw [hx]; exact Int.mul_ediv_cancel_left _ (by omega)
  have ey : q / (g : Int) = y := by rw [hy]; exact Int.mul_ediv_cancel_left _ (by omega)
  have lx : x.natAbs ≤ p.natAbs := by rw [hx, Int.natAbs_mul]; exact Nat.le_mul_of_pos_left _ (by omega)
  have ly : y.natAbs ≤ q.natAbs := by rw [hy, Int.natAbs_mul]; exact Nat.le_mul_of_pos_left _ (by omega)
  have eq : x * q = y * p := by
    rw [hx, hy]
    generalize (g : Int) = G
    rw [Int.mul_left_comm, Int.mul_left_comm y, Int.mul_comm x]
  by_cases h : q < 0
  · rw [if_pos h, Int.ediv_neg, Int.ediv_neg, ex, ey]
    have yn : y < 0 := by
      apply Classical.byContradiction
      intro hh
      have : 0 ≤ (g : Int) * y := Int.mul_nonneg (by omega) (by omega)
      rw [← hy] at this
      omega
    refine ⟨by omega, by rw [Int.neg_gcd, Int.gcd_neg]; exact one, ?_, by rw [Int.natAbs_neg]; exact lx, by rw [Int.natAbs_neg]; exact ly⟩
    rw [Int.neg_mul, Int.neg_mul, eq]
  · rw [if_neg h, ex, ey]
    have yp : 0 < y := by
      apply Classical.byContradiction
      intro hh
      have : (g : Int) * y ≤ 0 := Int.mul_nonpos_of_nonneg_of_nonpos (by omega) (by omega)
      rw [← hy] at this
      omega
    exact ⟨yp, one, eq, lx, ly⟩
theorem sp_fraction (k : Nat) {p q : Int} (hq : q ≠ 0) {n : Nat} (hb : Bd n q) (hn : n < 9000) : ∃ x y, (Γ (k + 2)).call 22 [.int p, .int q] S = .ok (.v (.tup [.int x, .int y])) S ∧ FrOf p q x y := by
  rw [call_n tab_fraction rfl]
  have hg : 0 < Int.gcd p q := Int.gcd_pos_of_ne_zero_right p hq
  have hgb : Bd n (Int.gcd p q : Int) := by
    refine hb.le ?_
    rw [Int.natAbs_natCast]
    exact Nat.le_of_dvd (by omega) (Nat.gcd_dvd_right _ _)
  have f1 : ∀ x y : Int, finish S S (.v (.tup [.int x, .int y])) = .ok (.v (.tup [.int x, .int y])) S := fun _ _ => fin_v0 rfl
  have ok := fr_ok (p := p) hq
  have e1 := sp_gcd_of (S := S) k p q
  by_cases h : q < 0
  · rw [if_pos h] at ok
    have d1 : ∀ x : Int, intOp .FloorDiv x (-(Int.gcd p q : Int)) = some (x.fdiv (-(Int.gcd p q : Int))) := fun x => div_of (by omega) hgb.neg hn
    simp only [fd_fraction, ev_int, ev_bl, ev_non, ev_str, ev_var, ev_glob, ev_bin, ev_neg, ev_not, ev_cmp, ev_chain, ev_and, ev_or, ev_ife, ev_tup, ev_lst, ev_ix, ev_sl, ev_omit, ev_slr, ev_call, ev_b1, ev_b2, ev_isi, ev_meth, ev_lc, ev_lcif, ev_rng, ev_enum, ev_zip, ev_rev, evs_n, evs_c, alloc_v, alloc_f, setR_eq, ex_set, ex_tset, ex_sset, ex_saug, ex_ex, ex_ret, ex_retN, ex_ite, ex_whl, ex_for, ex_pass, ex_brk, ex_cnt, ex_raise, ex_try, exs_n, exs_c, tried_ok, tried_exc, rs_ret, rs_nx, rs_exc, R.bind_ok, R.bind_exc, R.bind_bad, R.st_ok, R.st_exc, RS.seq_nx, RS.seq_ret, RS.seq_bk, RS.seq_ct, RS.seq_exc, RS.turn_nx, RS.turn_ct, RS.turn_bk, RS.turn_ret, RS.turn_exc, R.nox_ok, orBad_some, lookV_some, lookD_some, onI_int, onLoc_loc, onB_true, onB_false, onB_dec, onBS_true, onBS_false, onBS_dec, bin_int, cmp_lt, cmp_le, cmp_gt, cmp_ge, cmp_eq, cmp_ne, cmp_isb, cmp_isnb, b1_int, b1_intb, b1_abs, b1_lent, b1_lenc, ix_t, ix_c, atR_def, at0, at1, at2, at3, at4, at5, add_of, sub_of, List.map_cons, List.map_nil, List.length_cons, List.length_nil, List.cons_append, List.nil_append, List.replicate_succ, List.replicate_zero, List.getElem?_cons_zero, List.getElem?_cons_succ, List.set_cons_zero, List.set_cons_succ, Nat.zero_add, Nat.reduceAdd, Nat.reduceSub, tupR_0, tupR_1, tupR_2, tupR_3, tupR_4, tupR_5, lstR_0, lstR_1, lstR_2, lstR_3, lstR_4, lstR_5, lstR_6, lstR_7, lstR_8, lstR_9, lstR_10, lstR_11, lstR_12, isi_int, isi_bl, isi_tup, isi_non, isi_str, fin_bl, fin_int, fin_non, fin_str, finX0, handle_hit, handle_nil, hx_bl, hx_str, hx_int, hx_non, hx_cnt, hx_pass, forR_it, forR_f, forR_t, forR_c, gmg, b1_repr, ne_repr, b2_max, b2_min, set_at0, set_at1, set_at2, set_at3, get_at0, get_at1, get_at2, get_at3, List.append_assoc, List.append_nil, List.length_append, List.length_set, Nat.add_zero, hq, if_false, e1, h, if_true, d1, f1, fdiv_dvd (Int.neg_dvd.mpr (Int.gcd_dvd_left p q)), fdiv_dvd (Int.neg_dvd.mpr (Int.gcd_dvd_right p q))]
    exact ⟨_, _, rfl, ok⟩
  · rw [if_neg h] at ok
    have d1 : ∀ x : Int, intOp .FloorDiv x (Int.gcd p q : Int) = some (x.fdiv (Int.gcd p q : Int)) := fun x => div_of (by omega) hgb hn
    simp only [fd_fraction, ev_int, ev_bl, ev_non, ev_str, ev_var, ev_glob, ev_bin, ev_neg, ev_not, ev_cmp, ev_chain, ev_and, ev_or, ev_ife, ev_tup, ev_lst, ev_ix, ev_sl, ev_omit, ev_slr, ev_call, ev_b1, ev_b2, ev_isi, ev_meth, ev_lc, ev_lcif, ev_rng, ev_enum, ev_zip, ev_rev, evs_n, evs_c, alloc_v, alloc_f, setR_eq, ex_set, ex_tset, ex_sset, ex_saug, ex_ex, ex_ret, ex_retN, ex_ite, ex_whl, ex_for, ex_pass, ex_brk, ex_cnt, ex_raise, ex_try, exs_n, exs_c, tried_ok, tried_exc, rs_ret, rs_nx, rs_exc, R.bind_ok, R.bind_exc, R.bind_bad, R.st_ok, R.st_exc, RS.seq_nx, RS.seq_ret, RS.seq_bk, RS.seq_ct, RS.seq_exc, RS.turn_nx, RS.turn_ct, RS.turn_bk, RS.turn_ret, RS.turn_exc, R.nox_ok, orBad_some, lookV_some, lookD_some, onI_int, onLoc_loc, onB_true, onB_false, onB_dec, onBS_true, onBS_false, onBS_dec, bin_int, cmp_lt, cmp_le, cmp_gt, cmp_ge, cmp_eq, cmp_ne, cmp_isb, cmp_isnb, b1_int, b1_intb, b1_abs, b1_lent, b1_lenc, ix_t, ix_c, atR_def, at0, at1, at2, at3, at4, at5, add_of, sub_of, List.map_cons, List.map_nil, List.length_cons, List.length_nil, List.cons_append, List.nil_append, List.replicate_succ, List.replicate_zero, List.getElem?_cons_zero, List.getElem?_cons_succ, List.set_cons_zero, List.set_cons_succ, Nat.zero_add, Nat.reduceAdd, Nat.reduceSub, tupR_0, tupR_1, tupR_2, tupR_3, tupR_4, tupR_5, lstR_0, lstR_1, lstR_2, lstR_3, lstR_4, lstR_5, lstR_6, lstR_7, lstR_8, lstR_9, lstR_10, lstR_11, lstR_12, isi_int, isi_bl, isi_tup, isi_non, isi_str, fin_bl, fin_int, fin_non, fin_str, finX0, handle_hit, handle_nil, hx_bl, hx_str, hx_int, hx_non, hx_cnt, hx_pass, forR_it, forR_f, forR_t, forR_c, gmg, b1_repr, ne_repr, b2_max, b2_min, set_at0, set_at1, set_at2, set_at3, get_at0, get_at1, get_at2, get_at3, List.append_assoc, List.append_nil, List.length_append, List.length_set, Nat.add_zero, hq, if_false, e1, h, d1, f1, fdiv_dvd (Int.gcd_dvd_left p q), fdiv_dvd (Int.gcd_dvd_right p q)]
    exact ⟨_, _, rfl, ok⟩
end
end Py
namespace Py
open PySem
section
variable {S : Sto}
/-- a fraction's datum -/
abbrev fr (x y : Int) : D := .tup [.int x, .int y]
section
variable {a0 a1 b0 b1 : Int} {n : Nat}
theorem rs_of {r : R W} {env : Env} : ((r.st env fun w S1 => RS.ok (.ret w) env S1).seq fun env' S' => RS.ok .nx env' S').fin S = match r with
  | .ok w S1 => finish S S1 w
  | .exc x S1 => finishX S S1 x
  | .bad => .bad := by
  cases r <;> rfl
variable (ha0 : Bd n a0) (ha1 : Bd n a1) (hb0 : Bd n b0) (hb1 : Bd n b1) (hn : n < 2000) (pa : 0 < a1) (pb : 0 < b1)
include ha0 ha1 hb0 hb1 hn
theorem sp_plus (pa : 0 < a1) (pb : 0 < b1) (k : Nat) : ∃ x y, (Γ (k + 3)).call 23 [fr a0 a1, fr b0 b1] S = .ok (.v (fr x y)) S ∧ FrOf (a0 * b1 + b0 * a1) (a1 * b1) x y := by
  obtain ⟨x, y, e, ok⟩ := sp_fraction (S := S) k (p := a0 * b1 + b0 * a1) (q := a1 * b1) (Int.ne_of_gt (Int.mul_pos pa pb)) (ha1.mul hb1) (by omega)
  rw [call_n tab_plus rfl]
  have f1 : finish S S (.v (.tup [.int x, .int y])) = .ok (.v (.tup [.int x, .int y])) S := fin_v0 rfl
  simp only [fd_plus, ev_int, ev_bl, ev_non, ev_str, ev_var, ev_glob, ev_bin, ev_neg, ev_not, ev_cmp, ev_chain, ev_and, ev_or, ev_ife, ev_tup, ev_lst, ev_ix, ev_sl, ev_omit, ev_slr, ev_call, ev_b1, ev_b2, ev_isi, ev_meth, ev_lc, ev_lcif, ev_rng, ev_enum, ev_zip, ev_rev, evs_n, evs_c, alloc_v, alloc_f, setR_eq, ex_set, ex_tset, ex_sset, ex_saug, ex_ex, ex_ret, ex_retN, ex_ite, ex_whl, ex_for, ex_pass, ex_brk, ex_cnt, ex_raise, ex_try, exs_n, exs_c, tried_ok, tried_exc, rs_ret, rs_nx, rs_exc, R.bind_ok, R.bind_exc, R.bind_bad, R.st_ok, R.st_exc, RS.seq_nx, RS.seq_ret, RS.seq_bk, RS.seq_ct, RS.seq_exc, RS.turn_nx, RS.turn_ct, RS.turn_bk, RS.turn_ret, RS.turn_exc, R.nox_ok, orBad_some, lookV_some, lookD_some, onI_int, onLoc_loc, onB_true, onB_false, onB_dec, onBS_true, onBS_false, onBS_dec, bin_int, cmp_lt, cmp_le, cmp_gt, cmp_ge, cmp_eq, cmp_ne, cmp_isb, cmp_isnb, b1_int, b1_intb, b1_abs, b1_lent, b1_lenc, ix_t, ix_c, atR_def, at0, at1, at2, at3, at4, at5, add_of, sub_of, List.map_cons, List.map_nil, List.length_cons, List.length_nil, List.cons_append, List.nil_append, List.replicate_succ, List.replicate_zero, List.getElem?_cons_zero, List.getElem?_cons_succ, List.set_cons_zero, List.set_cons_succ, Nat.zero_add, Nat.reduceAdd, Nat.reduceSub, tupR_0, tupR_1, tupR_2, tupR_3, tupR_4, tupR_5, lstR_0, lstR_1, lstR_2, lstR_3, lstR_4, lstR_5, lstR_6, lstR_7, lstR_8, lstR_9, lstR_10, lstR_11, lstR_12, isi_int, isi_bl, isi_tup, isi_non, isi_str, fin_bl, fin_int, fin_non, fin_str, finX0, handle_hit, handle_nil, hx_bl, hx_str, hx_int, hx_non, hx_cnt, hx_pass, forR_it, forR_f, forR_t, forR_c, gmg, b1_repr, ne_repr, b2_max, b2_min, set_at0, set_at1, set_at2, set_at3, get_at0, get_at1, get_at2, get_at3, List.append_assoc, List.append_nil, List.length_append, List.length_set, Nat.add_zero, mul_of ha0 hb1 (by omega), mul_of hb0 ha1 (by omega), mul_of ha1 hb1 (by omega), e, f1]
  exact ⟨x, y, rfl, ok⟩
theorem sp_minus (pa : 0 < a1) (pb : 0 < b1) (k : Nat) : ∃ x y, (Γ (k + 3)).call 24 [fr a0 a1, fr b0 b1] S = .ok (.v (fr x y)) S ∧ FrOf (a0 * b1 - b0 * a1) (a1 * b1) x y := by
  obtain ⟨x, y, e, ok⟩ := sp_fraction (S := S) k (p := a0 * b1 - b0 * a1) (q := a1 * b1) (Int.ne_of_gt (Int.mul_pos pa pb)) (ha1.mul hb1) (by omega)
  rw [call_n tab_minus rfl]
  have f1 : finish S S (.v (.tup [.int x, .int y])) = .ok (.v (.tup [.int x, .int y])) S := fin_v0 rfl
  simp only [fd_minus, ev_int, ev_bl, ev_non, ev_str, ev_var, ev_glob, ev_bin, ev_neg, ev_not, ev_cmp, ev_chain, ev_and, ev_or, ev_ife, ev_tup, ev_lst, ev_ix, ev_sl, ev_omit, ev_slr, ev_call, ev_b1, ev_b2, ev_isi, ev_meth, ev_lc, ev_lcif, ev_rng, ev_enum, ev_zip, ev_rev, evs_n, evs_c, alloc_v, alloc_f, setR_eq, ex_set, ex_tset, ex_sset, ex_saug, ex_ex, ex_ret, ex_retN, ex_ite, ex_whl, ex_for, ex_pass, ex_brk, ex_cnt, ex_raise, ex_try, exs_n, exs_c, tried_ok, tried_exc, rs_ret, rs_nx, rs_exc, R.bind_ok, R.bind_exc, R.bind_bad, R.st_ok, R.st_exc, RS.seq_nx, RS.seq_ret, RS.seq_bk, RS.seq_ct, RS.seq_exc, RS.turn_nx, RS.turn_ct, RS.turn_bk, RS.turn_ret, RS.turn_exc, R.nox_ok, orBad_some, lookV_some, lookD_some, onI_int, onLoc_loc, onB_true, onB_false, onB_dec, onBS_true, onBS_false, onBS_dec, bin_int, cmp_lt, cmp_le, cmp_gt, cmp_ge, cmp_eq, cmp_ne, cmp_isb, cmp_isnb, b1_int, b1_intb, b1_abs, b1_lent, b1_lenc, ix_t, ix_c, atR_def, at0, at1, at2, at3, at4, at5, add_of, sub_of, List.map_cons, List.map_nil, List.length_cons, List.length_nil, List.cons_append, List.nil_append, List.replicate_succ, List.replicate_zero, List.getElem?_cons_zero, List.getElem?_cons_succ, List.set_cons_zero, List.set_cons_succ, Nat.zero_add, Nat.reduceAdd, Nat.reduceSub, tupR_0, tupR_1, tupR_2, tupR_3, tupR_4, tupR_5, lstR_0, lstR_1, lstR_2, lstR_3, lstR_4, lstR_5, lstR_6, lstR_7, lstR_8, lstR_9, lstR_10, lstR_11, lstR_12, isi_int, isi_bl, isi_tup, isi_non, isi_str, fin_bl, fin_int, fin_non, fin_str, finX0, handle_hit, handle_nil, hx_bl, hx_str, hx_int, hx_non, hx_cnt, hx_pass, forR_it, forR_f, forR_t, forR_c, gmg, b1_repr, ne_repr, b2_max, b2_min, set_at0, set_at1, set_at2, set_at3, get_at0, get_at1, get_at2, get_at3, List.append_assoc, List.append_nil, List.length_append, List.length_set, Nat.add_zero, mul_of ha0 hb1 (by omega), mul_of hb0 ha1 (by omega), mul_of ha1 hb1 (by omega), e, f1]
  exact ⟨x, y, rfl, ok⟩
theorem sp_times (pa : 0 < a1) (pb : 0 < b1) (k : Nat) : ∃ x y, (Γ (k + 3)).call 25 [fr a0 a1, fr b0 b1] S = .ok (.v (fr x y)) S ∧ FrOf (a0 * b0) (a1 * b1) x y := by
  obtain ⟨x, y, e, ok⟩ := sp_fraction (S := S) k (p := a0 * b0) (q := a1 * b1) (Int.ne_of_gt (Int.mul_pos pa pb)) (ha1.mul hb1) (by omega)
  rw [call_n tab_times rfl]
  have f1 : finish S S (.v (.tup [.int x, .int y])) = .ok (.v (.tup [.int x, .int y])) S := fin_v0 rfl
  simp only [fd_times, ev_int, ev_bl, ev_non, ev_str, ev_var, ev_glob, ev_bin, ev_neg, ev_not, ev_cmp, ev_chain, ev_and, ev_or, ev_ife, ev_tup, ev_lst, ev_ix, ev_sl, ev_omit, ev_slr, ev_call, ev_b1, ev_b2, ev_isi, ev_meth, ev_lc, ev_lcif, ev_rng, ev_enum, ev_zip, ev_rev, evs_n, evs_c, alloc_v, alloc_f, setR_eq, ex_set, ex_tset, ex_sset, ex_saug, ex_ex, ex_ret, ex_retN, ex_ite, ex_whl, ex_for, ex_pass, ex_brk, ex_cnt, ex_raise, ex_try, exs_n, exs_c, tried_ok, tried_exc, rs_ret, rs_nx, rs_exc, R.bind_ok, R.bind_exc, R.bind_bad, R.st_ok, R.st_exc, RS.seq_nx, RS.seq_ret, RS.seq_bk, RS.seq_ct, RS.seq_exc, RS.turn_nx, RS.turn_ct, RS.turn_bk, RS.turn_ret, RS.turn_exc, R.nox_ok, orBad_some, lookV_some, lookD_some, onI_int, onLoc_loc, onB_true, onB_false, onB_dec, onBS_true, onBS_false, onBS_dec, bin_int, cmp_lt, cmp_le, cmp_gt, cmp_ge, cmp_eq, cmp_ne, cmp_isb, cmp_isnb, b1_int, b1_intb, b1_abs, b1_lent, b1_lenc, ix_t, ix_c, atR_def, at0, at1, at2, at3, at4, at5, add_of, sub_of, List.map_cons, List.map_nil, List.length_cons, List.length_nil, List.cons_append, List.nil_append, List.replicate_succ, List.replicate_zero, List.getElem?_cons_zero, List.getElem?_cons_succ, List.set_cons_zero, List.set_cons_succ, Nat.zero_add, Nat.reduceAdd, Nat.reduceSub, tupR_0, tupR_1, tupR_2, tupR_3, tupR_4, tupR_5, lstR_0, lstR_1, lstR_2, lstR_3, lstR_4, lstR_5, lstR_6, lstR_7, lstR_8, lstR_9, lstR_10, lstR_11, lstR_12, isi_int, isi_bl, isi_tup, isi_non, isi_str, fin_bl, fin_int, fin_non, fin_str, finX0, handle_hit, handle_nil, hx_bl, hx_str, hx_int, hx_non, hx_cnt, hx_pass, forR_it, forR_f, forR_t, forR_c, gmg, b1_repr, ne_repr, b2_max, b2_min, set_at0, set_at1, set_at2, set_at3, get_at0, get_at1, get_at2, get_at3, List.append_assoc, List.append_nil, List.length_append, List.length_set, Nat.add_zero, mul_of ha0 hb0 (by omega), mul_of ha1 hb1 (by omega), e, f1]
  exact ⟨x, y, rfl, ok⟩
theorem sp_half (pa : 0 < a1) (pb : 0 < b1) (k : Nat) : ∃ x y, (Γ (k + 3)).call 29 [fr a0 a1, fr b0 b1] S = .ok (.v (fr x y)) S ∧ FrOf (a0 * b1 + b0 * a1) (2 * a1 * b1) x y := by
  have b2 : Bd 2 (2 : Int) := bd_n (x := 2) (by decide)
  obtain ⟨x, y, e, ok⟩ := sp_fraction (S := S) k (p := a0 * b1 + b0 * a1) (q := 2 * a1 * b1) (Int.ne_of_gt (Int.mul_pos (Int.mul_pos (by decide) pa) pb)) ((b2.mul ha1).mul hb1) (by omega)
  rw [call_n tab_half rfl]
  have f1 : finish S S (.v (.tup [.int x, .int y])) = .ok (.v (.tup [.int x, .int y])) S := fin_v0 rfl
  simp only [fd_half, ev_int, ev_bl, ev_non, ev_str, ev_var, ev_glob, ev_bin, ev_neg, ev_not, ev_cmp, ev_chain, ev_and, ev_or, ev_ife, ev_tup, ev_lst, ev_ix, ev_sl, ev_omit, ev_slr, ev_call, ev_b1, ev_b2, ev_isi, ev_meth, ev_lc, ev_lcif, ev_rng, ev_enum, ev_zip, ev_rev, evs_n, evs_c, alloc_v, alloc_f, setR_eq, ex_set, ex_tset, ex_sset, ex_saug, ex_ex, ex_ret, ex_retN, ex_ite, ex_whl, ex_for, ex_pass, ex_brk, ex_cnt, ex_raise, ex_try, exs_n, exs_c, tried_ok, tried_exc, rs_ret, rs_nx, rs_exc, R.bind_ok, R.bind_exc, R.bind_bad, R.st_ok, R.st_exc, RS.seq_nx, RS.seq_ret, RS.seq_bk, RS.seq_ct, RS.seq_exc, RS.turn_nx, RS.turn_ct, RS.turn_bk, RS.turn_ret, RS.turn_exc, R.nox_ok, orBad_some, lookV_some, lookD_some, onI_int, onLoc_loc, onB_true, onB_false, onB_dec, onBS_true, onBS_false, onBS_dec, bin_int, cmp_lt, cmp_le, cmp_gt, cmp_ge, cmp_eq, cmp_ne, cmp_isb, cmp_isnb, b1_int, b1_intb, b1_abs, b1_lent, b1_lenc, ix_t, ix_c, atR_def, at0, at1, at2, at3, at4, at5, add_of, sub_of, List.map_cons, List.map_nil, List.length_cons, List.length_nil, List.cons_append, List.nil_append, List.replicate_succ, List.replicate_zero, List.getElem?_cons_zero, List.getElem?_cons_succ, List.set_cons_zero, List.set_cons_succ, Nat.zero_add, Nat.reduceAdd, Nat.reduceSub, tupR_0, tupR_1, tupR_2, tupR_3, tupR_4, tupR_5, lstR_0, lstR_1, lstR_2, lstR_3, lstR_4, lstR_5, lstR_6, lstR_7, lstR_8, lstR_9, lstR_10, lstR_11, lstR_12, isi_int, isi_bl, isi_tup, isi_non, isi_str, fin_bl, fin_int, fin_non, fin_str, finX0, handle_hit, handle_nil, hx_bl, hx_str, hx_int, hx_non, hx_cnt, hx_pass, forR_it, forR_f, forR_t, forR_c, gmg, b1_repr, ne_repr, b2_max, b2_min, set_at0, set_at1, set_at2, set_at3, get_at0, get_at1, get_at2, get_at3, List.append_assoc, List.append_nil, List.length_append, List.length_set, Nat.add_zero, mul_of ha0 hb1 (by omega), mul_of hb0 ha1 (by omega), mul_of b2 ha1 (by omega), mul_of (b2.mul ha1) hb1 (by omega), e, f1]
  exact ⟨x, y, rfl, ok⟩
theorem sp_over (pa : 0 < a1) (pb : 0 < b1) (hz : b0 ≠ 0) (k : Nat) : ∃ x y, (Γ (k + 3)).call 26 [fr a0 a1, fr b0 b1] S = .ok (.v (fr x y)) S ∧ FrOf (a0 * b1) (a1 * b0) x y := by
  obtain ⟨x, y, e, ok⟩ := sp_fraction (S := S) k (p := a0 * b1) (q := a1 * b0) (Int.mul_ne_zero (Int.ne_of_gt pa) hz) (ha1.mul hb0) (by omega)
  rw [call_n tab_over rfl]
  have f1 : finish S S (.v (.tup [.int x, .int y])) = .ok (.v (.tup [.int x, .int y])) S := fin_v0 rfl
  simp only [fd_over, ev_int, ev_bl, ev_non, ev_str, ev_var, ev_glob, ev_bin, ev_neg, ev_not, ev_cmp, ev_chain, ev_and, ev_or, ev_ife, ev_tup, ev_lst, ev_ix, ev_sl, ev_omit, ev_slr, ev_call, ev_b1, ev_b2, ev_isi, ev_meth, ev_lc, ev_lcif, ev_rng, ev_enum, ev_zip, ev_rev, evs_n, evs_c, alloc_v, alloc_f, setR_eq, ex_set, ex_tset, ex_sset, ex_saug, ex_ex, ex_ret, ex_retN, ex_ite, ex_whl, ex_for, ex_pass, ex_brk, ex_cnt, ex_raise, ex_try, exs_n, exs_c, tried_ok, tried_exc, rs_ret, rs_nx, rs_exc, R.bind_ok, R.bind_exc, R.bind_bad, R.st_ok, R.st_exc, RS.seq_nx, RS.seq_ret, RS.seq_bk, RS.seq_ct, RS.seq_exc, RS.turn_nx, RS.turn_ct, RS.turn_bk, RS.turn_ret, RS.turn_exc, R.nox_ok, orBad_some, lookV_some, lookD_some, onI_int, onLoc_loc, onB_true, onB_false, onB_dec, onBS_true, onBS_false, onBS_dec, bin_int, cmp_lt, cmp_le, cmp_gt, cmp_ge, cmp_eq, cmp_ne, cmp_isb, cmp_isnb, b1_int, b1_intb, b1_abs, b1_lent, b1_lenc, ix_t, ix_c, atR_def, at0, at1, at2, at3, at4, at5, add_of, sub_of, List.map_cons, List.map_nil, List.length_cons, List.length_nil, List.cons_append, List.nil_append, List.replicate_succ, List.replicate_zero, List.getElem?_cons_zero, List.getElem?_cons_succ, List.set_cons_zero, List.set_cons_succ, Nat.zero_add, Nat.reduceAdd, Nat.reduceSub, tupR_0, tupR_1, tupR_2, tupR_3, tupR_4, tupR_5, lstR_0, lstR_1, lstR_2, lstR_3, lstR_4, lstR_5, lstR_6, lstR_7, lstR_8, lstR_9, lstR_10, lstR_11, lstR_12, isi_int, isi_bl, isi_tup, isi_non, isi_str, fin_bl, fin_int, fin_non, fin_str, finX0, handle_hit, handle_nil, hx_bl, hx_str, hx_int, hx_non, hx_cnt, hx_pass, forR_it, forR_f, forR_t, forR_c, gmg, b1_repr, ne_repr, b2_max, b2_min, set_at0, set_at1, set_at2, set_at3, get_at0, get_at1, get_at2, get_at3, List.append_assoc, List.append_nil, List.length_append, List.length_set, Nat.add_zero, mul_of ha0 hb1 (by omega), mul_of ha1 hb0 (by omega), e, f1]
  exact ⟨x, y, rfl, ok⟩
theorem sp_over0 (hz : b0 = 0) (k : Nat) : (Γ (k + 2)).call 26 [fr a0 a1, fr b0 b1] S = .exc ⟨9, []⟩ S := by
  subst hz
  have e := sp_fraction0 (S := S) k (a0 * b1)
  rw [call_n tab_over rfl]
  simp only [fd_over, ev_int, ev_bl, ev_non, ev_str, ev_var, ev_glob, ev_bin, ev_neg, ev_not, ev_cmp, ev_chain, ev_and, ev_or, ev_ife, ev_tup, ev_lst, ev_ix, ev_sl, ev_omit, ev_slr, ev_call, ev_b1, ev_b2, ev_isi, ev_meth, ev_lc, ev_lcif, ev_rng, ev_enum, ev_zip, ev_rev, evs_n, evs_c, alloc_v, alloc_f, setR_eq, ex_set, ex_tset, ex_sset, ex_saug, ex_ex, ex_ret, ex_retN, ex_ite, ex_whl, ex_for, ex_pass, ex_brk, ex_cnt, ex_raise, ex_try, exs_n, exs_c, tried_ok, tried_exc, rs_ret, rs_nx, rs_exc, R.bind_ok, R.bind_exc, R.bind_bad, R.st_ok, R.st_exc, RS.seq_nx, RS.seq_ret, RS.seq_bk, RS.seq_ct, RS.seq_exc, RS.turn_nx, RS.turn_ct, RS.turn_bk, RS.turn_ret, RS.turn_exc, R.nox_ok, orBad_some, lookV_some, lookD_some, onI_int, onLoc_loc, onB_true, onB_false, onB_dec, onBS_true, onBS_false, onBS_dec, bin_int, cmp_lt, cmp_le, cmp_gt, cmp_ge, cmp_eq, cmp_ne, cmp_isb, cmp_isnb, b1_int, b1_intb, b1_abs, b1_lent, b1_lenc, ix_t, ix_c, atR_def, at0, at1, at2, at3, at4, at5, add_of, sub_of, List.map_cons, List.map_nil, List.length_cons, List.length_nil, List.cons_append, List.nil_append, List.replicate_succ, List.replicate_zero, List.getElem?_cons_zero, List.getElem?_cons_succ, List.set_cons_zero, List.set_cons_succ, Nat.zero_add, Nat.reduceAdd, Nat.reduceSub, tupR_0, tupR_1, tupR_2, tupR_3, tupR_4, tupR_5, lstR_0, lstR_1, lstR_2, lstR_3, lstR_4, lstR_5, lstR_6, lstR_7, lstR_8, lstR_9, lstR_10, lstR_11, lstR_12, isi_int, isi_bl, isi_tup, isi_non, isi_str, fin_bl, fin_int, fin_non, fin_str, finX0, handle_hit, handle_nil, hx_bl, hx_str, hx_int, hx_non, hx_cnt, hx_pass, forR_it, forR_f, forR_t, forR_c, gmg, b1_repr, ne_repr, b2_max, b2_min, set_at0, set_at1, set_at2, set_at3, get_at0, get_at1, get_at2, get_at3, List.append_assoc, List.append_nil, List.length_append, List.length_set, Nat.add_zero, mul_of ha0 hb1 (by omega), mul_of ha1 hb0 (by omega), Int.mul_zero, e]
theorem sp_below (k : Nat) : (Γ (k + 1)).call 27 [fr a0 a1, fr b0 b1] S = .ok (.v (.bl (decide (a0 * b1 < b0 * a1)))) S := by
  rw [call_n tab_below rfl]
  simp only [fd_below, ev_int, ev_bl, ev_non, ev_str, ev_var, ev_glob, ev_bin, ev_neg, ev_not, ev_cmp, ev_chain, ev_and, ev_or, ev_ife, ev_tup, ev_lst, ev_ix, ev_sl, ev_omit, ev_slr, ev_call, ev_b1, ev_b2, ev_isi, ev_meth, ev_lc, ev_lcif, ev_rng, ev_enum, ev_zip, ev_rev, evs_n, evs_c, alloc_v, alloc_f, setR_eq, ex_set, ex_tset, ex_sset, ex_saug, ex_ex, ex_ret, ex_retN, ex_ite, ex_whl, ex_for, ex_pass, ex_brk, ex_cnt, ex_raise, ex_try, exs_n, exs_c, tried_ok, tried_exc, rs_ret, rs_nx, rs_exc, R.bind_ok, R.bind_exc, R.bind_bad, R.st_ok, R.st_exc, RS.seq_nx, RS.seq_ret, RS.seq_bk, RS.seq_ct, RS.seq_exc, RS.turn_nx, RS.turn_ct, RS.turn_bk, RS.turn_ret, RS.turn_exc, R.nox_ok, orBad_some, lookV_some, lookD_some, onI_int, onLoc_loc, onB_true, onB_false, onB_dec, onBS_true, onBS_false, onBS_dec, bin_int, cmp_lt, cmp_le, cmp_gt, cmp_ge, cmp_eq, cmp_ne, cmp_isb, cmp_isnb, b1_int, b1_intb, b1_abs, b1_lent, b1_lenc, ix_t, ix_c, atR_def, at0, at1, at2, at3, at4, at5, add_of, sub_of, List.map_cons, List.map_nil, List.length_cons, List.length_nil, List.cons_append, List.nil_append, List.replicate_succ, List.replicate_zero, List.getElem?_cons_zero, List.getElem?_cons_succ, List.set_cons_zero, List.set_cons_succ, Nat.zero_add, Nat.reduceAdd, Nat.reduceSub, tupR_0, tupR_1, tupR_2, tupR_3, tupR_4, tupR_5, lstR_0, lstR_1, lstR_2, lstR_3, lstR_4, lstR_5, lstR_6, lstR_7, lstR_8, lstR_9, lstR_10, lstR_11, lstR_12, isi_int, isi_bl, isi_tup, isi_non, isi_str, fin_bl, fin_int, fin_non, fin_str, finX0, handle_hit, handle_nil, hx_bl, hx_str, hx_int, hx_non, hx_cnt, hx_pass, forR_it, forR_f, forR_t, forR_c, gmg, b1_repr, ne_repr, b2_max, b2_min, set_at0, set_at1, set_at2, set_at3, get_at0, get_at1, get_at2, get_at3, List.append_assoc, List.append_nil, List.length_append, List.length_set, Nat.add_zero, mul_of ha0 hb1 (by omega), mul_of hb0 ha1 (by omega)]
end
theorem sp_sign_of (k : Nat) (a0 a1 : Int) : (Γ (k + 1)).call 28 [fr a0 a1] S = .ok (.v (.int ((if decide (0 < a0) = true then 1 else 0) - (if decide (a0 < 0) = true then 1 else 0)))) S := by
  rw [call_n tab_sign_of rfl]
  simp only [fd_sign_of, ev_int, ev_bl, ev_non, ev_str, ev_var, ev_glob, ev_bin, ev_neg, ev_not, ev_cmp, ev_chain, ev_and, ev_or, ev_ife, ev_tup, ev_lst, ev_ix, ev_sl, ev_omit, ev_slr, ev_call, ev_b1, ev_b2, ev_isi, ev_meth, ev_lc, ev_lcif, ev_rng, ev_enum, ev_zip, ev_rev, evs_n, evs_c, alloc_v, alloc_f, setR_eq, ex_set, ex_tset, ex_sset, ex_saug, ex_ex, ex_ret, ex_retN, ex_ite, ex_whl, ex_for, ex_pass, ex_brk, ex_cnt, ex_raise, ex_try, exs_n, exs_c, tried_ok, tried_exc, rs_ret, rs_nx, rs_exc, R.bind_ok, R.bind_exc, R.bind_bad, R.st_ok, R.st_exc, RS.seq_nx, RS.seq_ret, RS.seq_bk, RS.seq_ct, RS.seq_exc, RS.turn_nx, RS.turn_ct, RS.turn_bk, RS.turn_ret, RS.turn_exc, R.nox_ok, orBad_some, lookV_some, lookD_some, onI_int, onLoc_loc, onB_true, onB_false, onB_dec, onBS_true, onBS_false, onBS_dec, bin_int, cmp_lt, cmp_le, cmp_gt, cmp_ge, cmp_eq, cmp_ne, cmp_isb, cmp_isnb, b1_int, b1_intb, b1_abs, b1_lent, b1_lenc, ix_t, ix_c, atR_def, at0, at1, at2, at3, at4, at5, add_of, sub_of, List.map_cons, List.map_nil, List.length_cons, List.length_nil, List.cons_append, List.nil_append, List.replicate_succ, List.replicate_zero, List.getElem?_cons_zero, List.getElem?_cons_succ, List.set_cons_zero, List.set_cons_succ, Nat.zero_add, Nat.reduceAdd, Nat.reduceSub, tupR_0, tupR_1, tupR_2, tupR_3, tupR_4, tupR_5, lstR_0, lstR_1, lstR_2, lstR_3, lstR_4, lstR_5, lstR_6, lstR_7, lstR_8, lstR_9, lstR_10, lstR_11, lstR_12, isi_int, isi_bl, isi_tup, isi_non, isi_str, fin_bl, fin_int, fin_non, fin_str, finX0, handle_hit, handle_nil, hx_bl, hx_str, hx_int, hx_non, hx_cnt, hx_pass, forR_it, forR_f, forR_t, forR_c, gmg, b1_repr, ne_repr, b2_max, b2_min, set_at0, set_at1, set_at2, set_at3, get_at0, get_at1, get_at2, get_at3, List.append_assoc, List.append_nil, List.length_append, List.length_set, Nat.add_zero]
theorem ne_len {x : Nat} {S : Sto} {b : Bool} (h : decide ((x : Int) = 2) = b) : cmpW .NotEq (.v (.int x)) (.v (.int 2)) S = .ok (.v (.bl (!b))) S := by
  rw [cmp_ne, ← h]
  simp
theorem sp_is_fraction (k : Nat) (x y : Int) : (Γ (k + 2)).call 21 [fr x y] S = .ok (.v (.bl (decide (0 < y) && decide (Int.gcd x y = 1)))) S := by
  rw [call_n tab_is_fraction rfl]
  have e1 := sp_is_number (S := S) k x
  have e2 := sp_is_number (S := S) k y
  have e3 := sp_gcd_of (S := S) k x y
  have l2 : ((0 + 1 + 1 : Nat) : Int) ≠ 2 ↔ False := by decide
  simp only [fd_is_fraction, ev_int, ev_bl, ev_non, ev_str, ev_var, ev_glob, ev_bin, ev_neg, ev_not, ev_cmp, ev_chain, ev_and, ev_or, ev_ife, ev_tup, ev_lst, ev_ix, ev_sl, ev_omit, ev_slr, ev_call, ev_b1, ev_b2, ev_isi, ev_meth, ev_lc, ev_lcif, ev_rng, ev_enum, ev_zip, ev_rev, evs_n, evs_c, alloc_v, alloc_f, setR_eq, ex_set, ex_tset, ex_sset, ex_saug, ex_ex, ex_ret, ex_retN, ex_ite, ex_whl, ex_for, ex_pass, ex_brk, ex_cnt, ex_raise, ex_try, exs_n, exs_c, tried_ok, tried_exc, rs_ret, rs_nx, rs_exc, R.bind_ok, R.bind_exc, R.bind_bad, R.st_ok, R.st_exc, RS.seq_nx, RS.seq_ret, RS.seq_bk, RS.seq_ct, RS.seq_exc, RS.turn_nx, RS.turn_ct, RS.turn_bk, RS.turn_ret, RS.turn_exc, R.nox_ok, orBad_some, lookV_some, lookD_some, onI_int, onLoc_loc, onB_true, onB_false, onB_dec, onBS_true, onBS_false, onBS_dec, bin_int, cmp_lt, cmp_le, cmp_gt, cmp_ge, cmp_eq, cmp_ne, cmp_isb, cmp_isnb, b1_int, b1_intb, b1_abs, b1_lent, b1_lenc, ix_t, ix_c, atR_def, at0, at1, at2, at3, at4, at5, add_of, sub_of, List.map_cons, List.map_nil, List.length_cons, List.length_nil, List.cons_append, List.nil_append, List.replicate_succ, List.replicate_zero, List.getElem?_cons_zero, List.getElem?_cons_succ, List.set_cons_zero, List.set_cons_succ, Nat.zero_add, Nat.reduceAdd, Nat.reduceSub, tupR_0, tupR_1, tupR_2, tupR_3, tupR_4, tupR_5, lstR_0, lstR_1, lstR_2, lstR_3, lstR_4, lstR_5, lstR_6, lstR_7, lstR_8, lstR_9, lstR_10, lstR_11, lstR_12, isi_int, isi_bl, isi_tup, isi_non, isi_str, fin_bl, fin_int, fin_non, fin_str, finX0, handle_hit, handle_nil, hx_bl, hx_str, hx_int, hx_non, hx_cnt, hx_pass, forR_it, forR_f, forR_t, forR_c, gmg, b1_repr, ne_repr, b2_max, b2_min, set_at0, set_at1, set_at2, set_at3, get_at0, get_at1, get_at2, get_at3, List.append_assoc, List.append_nil, List.length_append, List.length_set, Nat.add_zero, e1, e2, e3, l2, decide_true, decide_false, if_false]
  by_cases h : 0 < y
  · by_cases h2 : Int.gcd x y = 1
    · have h3 : ((Int.gcd x y : Nat) : Int) = 1 := by omega
      simp only [ev_int, ev_bl, ev_non, ev_str, ev_var, ev_glob, ev_bin, ev_neg, ev_not, ev_cmp, ev_chain, ev_and, ev_or, ev_ife, ev_tup, ev_lst, ev_ix, ev_sl, ev_omit, ev_slr, ev_call, ev_b1, ev_b2, ev_isi, ev_meth, ev_lc, ev_lcif, ev_rng, ev_enum, ev_zip, ev_rev, evs_n, evs_c, alloc_v, alloc_f, setR_eq, ex_set, ex_tset, ex_sset, ex_saug, ex_ex, ex_ret, ex_retN, ex_ite, ex_whl, ex_for, ex_pass, ex_brk, ex_cnt, ex_raise, ex_try, exs_n, exs_c, tried_ok, tried_exc, rs_ret, rs_nx, rs_exc, R.bind_ok, R.bind_exc, R.bind_bad, R.st_ok, R.st_exc, RS.seq_nx, RS.seq_ret, RS.seq_bk, RS.seq_ct, RS.seq_exc, RS.turn_nx, RS.turn_ct, RS.turn_bk, RS.turn_ret, RS.turn_exc, R.nox_ok, orBad_some, lookV_some, lookD_some, onI_int, onLoc_loc, onB_true, onB_false, onB_dec, onBS_true, onBS_false, onBS_dec, bin_int, cmp_lt, cmp_le, cmp_gt, cmp_ge, cmp_eq, cmp_ne, cmp_isb, cmp_isnb, b1_int, b1_intb, b1_abs, b1_lent, b1_lenc, ix_t, ix_c, atR_def, at0, at1, at2, at3, at4, at5, add_of, sub_of, List.map_cons, List.map_nil, List.length_cons, List.length_nil, List.cons_append, List.nil_append, List.replicate_succ, List.replicate_zero, List.getElem?_cons_zero, List.getElem?_cons_succ, List.set_cons_zero, List.set_cons_succ, Nat.zero_add, Nat.reduceAdd, Nat.reduceSub, tupR_0, tupR_1, tupR_2, tupR_3, tupR_4, tupR_5, lstR_0, lstR_1, lstR_2, lstR_3, lstR_4, lstR_5, lstR_6, lstR_7, lstR_8, lstR_9, lstR_10, lstR_11, lstR_12, isi_int, isi_bl, isi_tup, isi_non, isi_str, fin_bl, fin_int, fin_non, fin_str, finX0, handle_hit, handle_nil, hx_bl, hx_str, hx_int, hx_non, hx_cnt, hx_pass, forR_it, forR_f, forR_t, forR_c, gmg, b1_repr, ne_repr, b2_max, b2_min, set_at0, set_at1, set_at2, set_at3, get_at0, get_at1, get_at2, get_at3, List.append_assoc, List.append_nil, List.length_append, List.length_set, Nat.add_zero, h, h2, if_true, decide_true, Bool.and_self, Int.natCast_one]
    · have h3 : ¬ ((Int.gcd x y : Nat) : Int) = 1 := by omega
      simp only [ev_int, ev_bl, ev_non, ev_str, ev_var, ev_glob, ev_bin, ev_neg, ev_not, ev_cmp, ev_chain, ev_and, ev_or, ev_ife, ev_tup, ev_lst, ev_ix, ev_sl, ev_omit, ev_slr, ev_call, ev_b1, ev_b2, ev_isi, ev_meth, ev_lc, ev_lcif, ev_rng, ev_enum, ev_zip, ev_rev, evs_n, evs_c, alloc_v, alloc_f, setR_eq, ex_set, ex_tset, ex_sset, ex_saug, ex_ex, ex_ret, ex_retN, ex_ite, ex_whl, ex_for, ex_pass, ex_brk, ex_cnt, ex_raise, ex_try, exs_n, exs_c, tried_ok, tried_exc, rs_ret, rs_nx, rs_exc, R.bind_ok, R.bind_exc, R.bind_bad, R.st_ok, R.st_exc, RS.seq_nx, RS.seq_ret, RS.seq_bk, RS.seq_ct, RS.seq_exc, RS.turn_nx, RS.turn_ct, RS.turn_bk, RS.turn_ret, RS.turn_exc, R.nox_ok, orBad_some, lookV_some, lookD_some, onI_int, onLoc_loc, onB_true, onB_false, onB_dec, onBS_true, onBS_false, onBS_dec, bin_int, cmp_lt, cmp_le, cmp_gt, cmp_ge, cmp_eq, cmp_ne, cmp_isb, cmp_isnb, b1_int, b1_intb, b1_abs, b1_lent, b1_lenc, ix_t, ix_c, atR_def, at0, at1, at2, at3, at4, at5, add_of, sub_of, List.map_cons, List.map_nil, List.length_cons, List.length_nil, List.cons_append, List.nil_append, List.replicate_succ, List.replicate_zero, List.getElem?_cons_zero, List.getElem?_cons_succ, List.set_cons_zero, List.set_cons_succ, Nat.zero_add, Nat.reduceAdd, Nat.reduceSub, tupR_0, tupR_1, tupR_2, tupR_3, tupR_4, tupR_5, lstR_0, lstR_1, lstR_2, lstR_3, lstR_4, lstR_5, lstR_6, lstR_7, lstR_8, lstR_9, lstR_10, lstR_11, lstR_12, isi_int, isi_bl, isi_tup, isi_non, isi_str, fin_bl, fin_int, fin_non, fin_str, finX0, handle_hit, handle_nil, hx_bl, hx_str, hx_int, hx_non, hx_cnt, hx_pass, forR_it, forR_f, forR_t, forR_c, gmg, b1_repr, ne_repr, b2_max, b2_min, set_at0, set_at1, set_at2, set_at3, get_at0, get_at1, get_at2, get_at3, List.append_assoc, List.append_nil, List.length_append, List.length_set, Nat.add_zero, h, h2, h3, if_true, decide_true, decide_false, Bool.and_false]
  · simp only [ev_int, ev_bl, ev_non, ev_str, ev_var, ev_glob, ev_bin, ev_neg, ev_not, ev_cmp, ev_chain, ev_and, ev_or, ev_ife, ev_tup, ev_lst, ev_ix, ev_sl, ev_omit, ev_slr, ev_call, ev_b1, ev_b2, ev_isi, ev_meth, ev_lc, ev_lcif, ev_rng, ev_enum, ev_zip, ev_rev, evs_n, evs_c, alloc_v, alloc_f, setR_eq, ex_set, ex_tset, ex_sset, ex_saug, ex_ex, ex_ret, ex_retN, ex_ite, ex_whl, ex_for, ex_pass, ex_brk, ex_cnt, ex_raise, ex_try, exs_n, exs_c, tried_ok, tried_exc, rs_ret, rs_nx, rs_exc, R.bind_ok, R.bind_exc, R.bind_bad, R.st_ok, R.st_exc, RS.seq_nx, RS.seq_ret, RS.seq_bk, RS.seq_ct, RS.seq_exc, RS.turn_nx, RS.turn_ct, RS.turn_bk, RS.turn_ret, RS.turn_exc, R.nox_ok, orBad_some, lookV_some, lookD_some, onI_int, onLoc_loc, onB_true, onB_false, onB_dec, onBS_true, onBS_false, onBS_dec, bin_int, cmp_lt, cmp_le, cmp_gt, cmp_ge, cmp_eq, cmp_ne, cmp_isb, cmp_isnb, b1_int, b1_intb, b1_abs, b1_lent, b1_lenc, ix_t, ix_c, atR_def, at0, at1, at2, at3, at4, at5, add_of, sub_of, List.map_cons, List.map_nil, List.length_cons, List.length_nil, List.cons_append, List.nil_append, List.replicate_succ, List.replicate_zero, List.getElem?_cons_zero, List.getElem?_cons_succ, List.set_cons_zero, List.set_cons_succ, Nat.zero_add, Nat.reduceAdd, Nat.reduceSub, tupR_0, tupR_1, tupR_2, tupR_3, tupR_4, tupR_5, lstR_0, lstR_1, lstR_2, lstR_3, lstR_4, lstR_5, lstR_6, lstR_7, lstR_8, lstR_9, lstR_10, lstR_11, lstR_12, isi_int, isi_bl, isi_tup, isi_non, isi_str, fin_bl, fin_int, fin_non, fin_str, finX0, handle_hit, handle_nil, hx_bl, hx_str, hx_int, hx_non, hx_cnt, hx_pass, forR_it, forR_f, forR_t, forR_c, gmg, b1_repr, ne_repr, b2_max, b2_min, set_at0, set_at1, set_at2, set_at3, get_at0, get_at1, get_at2, get_at3, List.append_assoc, List.append_nil, List.length_append, List.length_set, Nat.add_zero, h, if_false, decide_false, Bool.false_and]
/-- what is no tuple is no fraction -/
theorem sp_isf_no (k : Nat) {d : D} (h : isTy S (.v d) .ttup = some false) : (Γ (k + 1)).call 21 [d] S = .ok (.v (.bl false)) S := by
  rw [call_n tab_is_fraction rfl]
  simp only [fd_is_fraction, ev_int, ev_bl, ev_non, ev_str, ev_var, ev_glob, ev_bin, ev_neg, ev_not, ev_cmp, ev_chain, ev_and, ev_or, ev_ife, ev_tup, ev_lst, ev_ix, ev_sl, ev_omit, ev_slr, ev_call, ev_b1, ev_b2, ev_isi, ev_meth, ev_lc, ev_lcif, ev_rng, ev_enum, ev_zip, ev_rev, evs_n, evs_c, alloc_v, alloc_f, setR_eq, ex_set, ex_tset, ex_sset, ex_saug, ex_ex, ex_ret, ex_retN, ex_ite, ex_whl, ex_for, ex_pass, ex_brk, ex_cnt, ex_raise, ex_try, exs_n, exs_c, tried_ok, tried_exc, rs_ret, rs_nx, rs_exc, R.bind_ok, R.bind_exc, R.bind_bad, R.st_ok, R.st_exc, RS.seq_nx, RS.seq_ret, RS.seq_bk, RS.seq_ct, RS.seq_exc, RS.turn_nx, RS.turn_ct, RS.turn_bk, RS.turn_ret, RS.turn_exc, R.nox_ok, orBad_some, lookV_some, lookD_some, onI_int, onLoc_loc, onB_true, onB_false, onB_dec, onBS_true, onBS_false, onBS_dec, bin_int, cmp_lt, cmp_le, cmp_gt, cmp_ge, cmp_eq, cmp_ne, cmp_isb, cmp_isnb, b1_int, b1_intb, b1_abs, b1_lent, b1_lenc, ix_t, ix_c, atR_def, at0, at1, at2, at3, at4, at5, add_of, sub_of, List.map_cons, List.map_nil, List.length_cons, List.length_nil, List.cons_append, List.nil_append, List.replicate_succ, List.replicate_zero, List.getElem?_cons_zero, List.getElem?_cons_succ, List.set_cons_zero, List.set_cons_succ, Nat.zero_add, Nat.reduceAdd, Nat.reduceSub, tupR_0, tupR_1, tupR_2, tupR_3, tupR_4, tupR_5, lstR_0, lstR_1, lstR_2, lstR_3, lstR_4, lstR_5, lstR_6, lstR_7, lstR_8, lstR_9, lstR_10, lstR_11, lstR_12, isi_int, isi_bl, isi_tup, isi_non, isi_str, fin_bl, fin_int, fin_non, fin_str, finX0, handle_hit, handle_nil, hx_bl, hx_str, hx_int, hx_non, hx_cnt, hx_pass, forR_it, forR_f, forR_t, forR_c, gmg, b1_repr, ne_repr, b2_max, b2_min, set_at0, set_at1, set_at2, set_at3, get_at0, get_at1, get_at2, get_at3, List.append_assoc, List.append_nil, List.length_append, List.length_set, Nat.add_zero, h]
theorem sp_isf_len (k : Nat) {xs : List D} (h : (xs.length : Int) ≠ 2) : (Γ (k + 1)).call 21 [.tup xs] S = .ok (.v (.bl false)) S := by
  rw [call_n tab_is_fraction rfl]
  simp only [fd_is_fraction, ev_int, ev_bl, ev_non, ev_str, ev_var, ev_glob, ev_bin, ev_neg, ev_not, ev_cmp, ev_chain, ev_and, ev_or, ev_ife, ev_tup, ev_lst, ev_ix, ev_sl, ev_omit, ev_slr, ev_call, ev_b1, ev_b2, ev_isi, ev_meth, ev_lc, ev_lcif, ev_rng, ev_enum, ev_zip, ev_rev, evs_n, evs_c, alloc_v, alloc_f, setR_eq, ex_set, ex_tset, ex_sset, ex_saug, ex_ex, ex_ret, ex_retN, ex_ite, ex_whl, ex_for, ex_pass, ex_brk, ex_cnt, ex_raise, ex_try, exs_n, exs_c, tried_ok, tried_exc, rs_ret, rs_nx, rs_exc, R.bind_ok, R.bind_exc, R.bind_bad, R.st_ok, R.st_exc, RS.seq_nx, RS.seq_ret, RS.seq_bk, RS.seq_ct, RS.seq_exc, RS.turn_nx, RS.turn_ct, RS.turn_bk, RS.turn_ret, RS.turn_exc, R.nox_ok, orBad_some, lookV_some, lookD_some, onI_int, onLoc_loc, onB_true, onB_false, onB_dec, onBS_true, onBS_false, onBS_dec, bin_int, cmp_lt, cmp_le, cmp_gt, cmp_ge, cmp_eq, cmp_ne, cmp_isb, cmp_isnb, b1_int, b1_intb, b1_abs, b1_lent, b1_lenc, ix_t, ix_c, atR_def, at0, at1, at2, at3, at4, at5, add_of, sub_of, List.map_cons, List.map_nil, List.length_cons, List.length_nil, List.cons_append, List.nil_append, List.replicate_succ, List.replicate_zero, List.getElem?_cons_zero, List.getElem?_cons_succ, List.set_cons_zero, List.set_cons_succ, Nat.zero_add, Nat.reduceAdd, Nat.reduceSub, tupR_0, tupR_1, tupR_2, tupR_3, tupR_4, tupR_5, lstR_0, lstR_1, lstR_2, lstR_3, lstR_4, lstR_5, lstR_6, lstR_7, lstR_8, lstR_9, lstR_10, lstR_11, lstR_12, isi_int, isi_bl, isi_tup, isi_non, isi_str, fin_bl, fin_int, fin_non, fin_str, finX0, handle_hit, handle_nil, hx_bl, hx_str, hx_int, hx_non, hx_cnt, hx_pass, forR_it, forR_f, forR_t, forR_c, gmg, b1_repr, ne_repr, b2_max, b2_min, set_at0, set_at1, set_at2, set_at3, get_at0, get_at1, get_at2, get_at3, List.append_assoc, List.append_nil, List.length_append, List.length_set, Nat.add_zero, decide_true, h, if_true, ne_eq, not_false_eq_true]
theorem sp_isf_b1 (k : Nat) (b : Bool) (d : D) : (Γ (k + 2)).call 21 [.tup [.bl b, d]] S = .ok (.v (.bl false)) S := by
  rw [call_n tab_is_fraction rfl]
  have e1 := sp_is_number_b (S := S) k b
  have l2 : ((0 + 1 + 1 : Nat) : Int) ≠ 2 ↔ False := by decide
  simp only [fd_is_fraction, ev_int, ev_bl, ev_non, ev_str, ev_var, ev_glob, ev_bin, ev_neg, ev_not, ev_cmp, ev_chain, ev_and, ev_or, ev_ife, ev_tup, ev_lst, ev_ix, ev_sl, ev_omit, ev_slr, ev_call, ev_b1, ev_b2, ev_isi, ev_meth, ev_lc, ev_lcif, ev_rng, ev_enum, ev_zip, ev_rev, evs_n, evs_c, alloc_v, alloc_f, setR_eq, ex_set, ex_tset, ex_sset, ex_saug, ex_ex, ex_ret, ex_retN, ex_ite, ex_whl, ex_for, ex_pass, ex_brk, ex_cnt, ex_raise, ex_try, exs_n, exs_c, tried_ok, tried_exc, rs_ret, rs_nx, rs_exc, R.bind_ok, R.bind_exc, R.bind_bad, R.st_ok, R.st_exc, RS.seq_nx, RS.seq_ret, RS.seq_bk, RS.seq_ct, RS.seq_exc, RS.turn_nx, RS.turn_ct, RS.turn_bk, RS.turn_ret, RS.turn_exc, R.nox_ok, orBad_some, lookV_some, lookD_some, onI_int, onLoc_loc, onB_true, onB_false, onB_dec, onBS_true, onBS_false, onBS_dec, bin_int, cmp_lt, cmp_le, cmp_gt, cmp_ge, cmp_eq, cmp_ne, cmp_isb, cmp_isnb, b1_int, b1_intb, b1_abs, b1_lent, b1_lenc, ix_t, ix_c, atR_def, at0, at1, at2, at3, at4, at5, add_of, sub_of, List.map_cons, List.map_nil, List.length_cons, List.length_nil, List.cons_append, List.nil_append, List.replicate_succ, List.replicate_zero, List.getElem?_cons_zero, List.getElem?_cons_succ, List.set_cons_zero, List.set_cons_succ, Nat.zero_add, Nat.reduceAdd, Nat.reduceSub, tupR_0, tupR_1, tupR_2, tupR_3, tupR_4, tupR_5, lstR_0, lstR_1, lstR_2, lstR_3, lstR_4, lstR_5, lstR_6, lstR_7, lstR_8, lstR_9, lstR_10, lstR_11, lstR_12, isi_int, isi_bl, isi_tup, isi_non, isi_str, fin_bl, fin_int, fin_non, fin_str, finX0, handle_hit, handle_nil, hx_bl, hx_str, hx_int, hx_non, hx_cnt, hx_pass, forR_it, forR_f, forR_t, forR_c, gmg, b1_repr, ne_repr, b2_max, b2_min, set_at0, set_at1, set_at2, set_at3, get_at0, get_at1, get_at2, get_at3, List.append_assoc, List.append_nil, List.length_append, List.length_set, Nat.add_zero, e1, l2, decide_true, decide_false, if_false]
theorem sp_isf_b2 (k : Nat) (a : Int) (b : Bool) : (Γ (k + 2)).call 21 [.tup [.int a, .bl b]] S = .ok (.v (.bl false)) S := by
  rw [call_n tab_is_fraction rfl]
  have e1 := sp_is_number (S := S) k a
  have e2 := sp_is_number_b (S := S) k b
  have l2 : ((0 + 1 + 1 : Nat) : Int) ≠ 2 ↔ False := by decide
  simp only [fd_is_fraction, ev_int, ev_bl, ev_non, ev_str, ev_var, ev_glob, ev_bin, ev_neg, ev_not, ev_cmp, ev_chain, ev_and, ev_or, ev_ife, ev_tup, ev_lst, ev_ix, ev_sl, ev_omit, ev_slr, ev_call, ev_b1, ev_b2, ev_isi, ev_meth, ev_lc, ev_lcif, ev_rng, ev_enum, ev_zip, ev_rev, evs_n, evs_c, alloc_v, alloc_f, setR_eq, ex_set, ex_tset, ex_sset, ex_saug, ex_ex, ex_ret, ex_retN, ex_ite, ex_whl, ex_for, ex_pass, ex_brk, ex_cnt, ex_raise, ex_try, exs_n, exs_c, tried_ok, tried_exc, rs_ret, rs_nx, rs_exc, R.bind_ok, R.bind_exc, R.bind_bad, R.st_ok, R.st_exc, RS.seq_nx, RS.seq_ret, RS.seq_bk, RS.seq_ct, RS.seq_exc, RS.turn_nx, RS.turn_ct, RS.turn_bk, RS.turn_ret, RS.turn_exc, R.nox_ok, orBad_some, lookV_some, lookD_some, onI_int, onLoc_loc, onB_true, onB_false, onB_dec, onBS_true, onBS_false, onBS_dec, bin_int, cmp_lt, cmp_le, cmp_gt, cmp_ge, cmp_eq, cmp_ne, cmp_isb, cmp_isnb, b1_int, b1_intb, b1_abs, b1_lent, b1_lenc, ix_t, ix_c, atR_def, at0, at1, at2, at3, at4, at5, add_of, sub_of, List.map_cons, List.map_nil, List.length_cons, List.length_nil, List.cons_append, List.nil_append, List.replicate_succ, List.replicate_zero, List.getElem?_cons_zero, List.getElem?_cons_succ, List.set_cons_zero, List.set_cons_succ, Nat.zero_add, Nat.reduceAdd, Nat.reduceSub, tupR_0, tupR_1, tupR_2, tupR_3, tupR_4, tupR_5, lstR_0, lstR_1, lstR_2, lstR_3, lstR_4, lstR_5, lstR_6, lstR_7, lstR_8, lstR_9, lstR_10, lstR_11, lstR_12, isi_int, isi_bl, isi_tup, isi_non, isi_str, fin_bl, fin_int, fin_non, fin_str, finX0, handle_hit, handle_nil, hx_bl, hx_str, hx_int, hx_non, hx_cnt, hx_pass, forR_it, forR_f, forR_t, forR_c, gmg, b1_repr, ne_repr, b2_max, b2_min, set_at0, set_at1, set_at2, set_at3, get_at0, get_at1, get_at2, get_at3, List.append_assoc, List.append_nil, List.length_append, List.length_set, Nat.add_zero, e1, e2, l2, decide_true, decide_false, if_false]
theorem law_gcd_step {a b : Int} : Int.gcd b (a.fmod b) = Int.gcd a b := by
  rw [Int.fmod_def, Int.gcd_sub_mul_left_right, Int.gcd_comm]
theorem fmod_abs {a b : Int} (h : b ≠ 0) : (a.fmod b).natAbs < b.natAbs := by
  by_cases hb : 0 < b
  · have := fmod_pos (a := a) hb
    omega
  · have h1 := fmod_pos (a := -a) (b := -b) (by omega)
    rw [Int.neg_fmod_neg] at h1
    omega
theorem law_gcd_loop (k : Nat) : ∀ (n : Nat) (a b : Int), b.natAbs ≤ n →
    ∃ c : Int, whl (Γ k) fd_law_gcd_c1 fd_law_gcd_l1 [some (.int a), some (.int b)] S = .ok .nx [some (.int c), some (.int 0)] S ∧ c.natAbs = Int.gcd a b
  | n, a, b, hn => by
    have hc : ev (Γ k) fd_law_gcd_c1 [some (.int a), some (.int b)] S = .ok (.v (.bl (decide (b ≠ 0)))) S := by simp only [fd_law_gcd_c1, ev_int, ev_bl, ev_non, ev_str, ev_var, ev_glob, ev_bin, ev_neg, ev_not, ev_cmp, ev_chain, ev_and, ev_or, ev_ife, ev_tup, ev_lst, ev_ix, ev_sl, ev_omit, ev_slr, ev_call, ev_b1, ev_b2, ev_isi, ev_meth, ev_lc, ev_lcif, ev_rng, ev_enum, ev_zip, ev_rev, evs_n, evs_c, alloc_v, alloc_f, setR_eq, ex_set, ex_tset, ex_sset, ex_saug, ex_ex, ex_ret, ex_retN, ex_ite, ex_whl, ex_for, ex_pass, ex_brk, ex_cnt, ex_raise, ex_try, exs_n, exs_c, tried_ok, tried_exc, rs_ret, rs_nx, rs_exc, R.bind_ok, R.bind_exc, R.bind_bad, R.st_ok, R.st_exc, RS.seq_nx, RS.seq_ret, RS.seq_bk, RS.seq_ct, RS.seq_exc, RS.turn_nx, RS.turn_ct, RS.turn_bk, RS.turn_ret, RS.turn_exc, R.nox_ok, orBad_some, lookV_some, lookD_some, onI_int, onLoc_loc, onB_true, onB_false, onB_dec, onBS_true, onBS_false, onBS_dec, bin_int, cmp_lt, cmp_le, cmp_gt, cmp_ge, cmp_eq, cmp_ne, cmp_isb, cmp_isnb, b1_int, b1_intb, b1_abs, b1_lent, b1_lenc, ix_t, ix_c, atR_def, at0, at1, at2, at3, at4, at5, add_of, sub_of, List.map_cons, List.map_nil, List.length_cons, List.length_nil, List.cons_append, List.nil_append, List.replicate_succ, List.replicate_zero, List.getElem?_cons_zero, List.getElem?_cons_succ, List.set_cons_zero, List.set_cons_succ, Nat.zero_add, Nat.reduceAdd, Nat.reduceSub, tupR_0, tupR_1, tupR_2, tupR_3, tupR_4, tupR_5, lstR_0, lstR_1, lstR_2, lstR_3, lstR_4, lstR_5, lstR_6, lstR_7, lstR_8, lstR_9, lstR_10, lstR_11, lstR_12, isi_int, isi_bl, isi_tup, isi_non, isi_str, fin_bl, fin_int, fin_non, fin_str, finX0, handle_hit, handle_nil, hx_bl, hx_str, hx_int, hx_non, hx_cnt, hx_pass, forR_it, forR_f, forR_t, forR_c, gmg, b1_repr, ne_repr, b2_max, b2_min, set_at0, set_at1, set_at2, set_at3, get_at0, get_at1, get_at2, get_at3, List.append_assoc, List.append_nil, List.length_append, List.length_set, Nat.add_zero]
    by_cases h : b = 0
    · subst h
      rw [whl_f hc]
      exact ⟨a, rfl, by rw [Int.gcd_zero_right]⟩
    · have hm := mod_of (x := a) h
      have h1 := fmod_abs (a := a) h
      have t2 : ∀ x y : D, bindR (.tup [.name 0, .name 1]) [some (.int a), some (.int b)] (.tup [x, y]) S = .ok .nx [some x, some y] S := fun _ _ => rfl
      have hx : execs (Γ k) fd_law_gcd_l1 [some (.int a), some (.int b)] S = .ok .nx [some (.int b), some (.int (a.fmod b))] S := by
        simp only [fd_law_gcd_l1, ev_int, ev_bl, ev_non, ev_str, ev_var, ev_glob, ev_bin, ev_neg, ev_not, ev_cmp, ev_chain, ev_and, ev_or, ev_ife, ev_tup, ev_lst, ev_ix, ev_sl, ev_omit, ev_slr, ev_call, ev_b1, ev_b2, ev_isi, ev_meth, ev_lc, ev_lcif, ev_rng, ev_enum, ev_zip, ev_rev, evs_n, evs_c, alloc_v, alloc_f, setR_eq, ex_set, ex_tset, ex_sset, ex_saug, ex_ex, ex_ret, ex_retN, ex_ite, ex_whl, ex_for, ex_pass, ex_brk, ex_cnt, ex_raise, ex_try, exs_n, exs_c, tried_ok, tried_exc, rs_ret, rs_nx, rs_exc, R.bind_ok, R.bind_exc, R.bind_bad, R.st_ok, R.st_exc, RS.seq_nx, RS.seq_ret, RS.seq_bk, RS.seq_ct, RS.seq_exc, RS.turn_nx, RS.turn_ct, RS.turn_bk, RS.turn_ret, RS.turn_exc, R.nox_ok, orBad_some, lookV_some, lookD_some, onI_int, onLoc_loc, onB_true, onB_false, onB_dec, onBS_true, onBS_false, onBS_dec, bin_int, cmp_lt, cmp_le, cmp_gt, cmp_ge, cmp_eq, cmp_ne, cmp_isb, cmp_isnb, b1_int, b1_intb, b1_abs, b1_lent, b1_lenc, ix_t, ix_c, atR_def, at0, at1, at2, at3, at4, at5, add_of, sub_of, List.map_cons, List.map_nil, List.length_cons, List.length_nil, List.cons_append, List.nil_append, List.replicate_succ, List.replicate_zero, List.getElem?_cons_zero, List.getElem?_cons_succ, List.set_cons_zero, List.set_cons_succ, Nat.zero_add, Nat.reduceAdd, Nat.reduceSub, tupR_0, tupR_1, tupR_2, tupR_3, tupR_4, tupR_5, lstR_0, lstR_1, lstR_2, lstR_3, lstR_4, lstR_5, lstR_6, lstR_7, lstR_8, lstR_9, lstR_10, lstR_11, lstR_12, isi_int, isi_bl, isi_tup, isi_non, isi_str, fin_bl, fin_int, fin_non, fin_str, finX0, handle_hit, handle_nil, hx_bl, hx_str, hx_int, hx_non, hx_cnt, hx_pass, forR_it, forR_f, forR_t, forR_c, gmg, b1_repr, ne_repr, b2_max, b2_min, set_at0, set_at1, set_at2, set_at3, get_at0, get_at1, get_at2, get_at3, List.append_assoc, List.append_nil, List.length_append, List.length_set, Nat.add_zero, hm, t2]
      rw [decide_eq_true h] at hc
      cases n with
      | zero => omega
      | succ n =>
        obtain ⟨c, ih, hc'⟩ := law_gcd_loop k n b (a.fmod b) (by omega)
        rw [whl_t hc hx]
        exact ⟨c, ih, by rw [hc', law_gcd_step]⟩
theorem sp_law_gcd (k : Nat) (a b : Int) : (Γ (k + 1)).call 34 [.int a, .int b] S = .ok (.v (.int (Int.gcd a b))) S := by
  rw [call_n tab_law_gcd rfl]
  obtain ⟨c, e, hc⟩ := law_gcd_loop (S := S) k b.natAbs a b (Nat.le_refl _)
  simp only [fd_law_gcd, ev_int, ev_bl, ev_non, ev_str, ev_var, ev_glob, ev_bin, ev_neg, ev_not, ev_cmp, ev_chain, ev_and, ev_or, ev_ife, ev_tup, ev_lst, ev_ix, ev_sl, ev_omit, ev_slr, ev_call, ev_b1, ev_b2, ev_isi, ev_meth, ev_lc, ev_lcif, ev_rng, ev_enum, ev_zip, ev_rev, evs_n, evs_c, alloc_v, alloc_f, setR_eq, ex_set, ex_tset, ex_sset, ex_saug, ex_ex, ex_ret, ex_retN, ex_ite, ex_whl, ex_for, ex_pass, ex_brk, ex_cnt, ex_raise, ex_try, exs_n, exs_c, tried_ok, tried_exc, rs_ret, rs_nx, rs_exc, R.bind_ok, R.bind_exc, R.bind_bad, R.st_ok, R.st_exc, RS.seq_nx, RS.seq_ret, RS.seq_bk, RS.seq_ct, RS.seq_exc, RS.turn_nx, RS.turn_ct, RS.turn_bk, RS.turn_ret, RS.turn_exc, R.nox_ok, orBad_some, lookV_some, lookD_some, onI_int, onLoc_loc, onB_true, onB_false, onB_dec, onBS_true, onBS_false, onBS_dec, bin_int, cmp_lt, cmp_le, cmp_gt, cmp_ge, cmp_eq, cmp_ne, cmp_isb, cmp_isnb, b1_int, b1_intb, b1_abs, b1_lent, b1_lenc, ix_t, ix_c, atR_def, at0, at1, at2, at3, at4, at5, add_of, sub_of, List.map_cons, List.map_nil, List.length_cons, List.length_nil, List.cons_append, List.nil_append, List.replicate_succ, List.replicate_zero, List.getElem?_cons_zero, List.getElem?_cons_succ, List.set_cons_zero, List.set_cons_succ, Nat.zero_add, Nat.reduceAdd, Nat.reduceSub, tupR_0, tupR_1, tupR_2, tupR_3, tupR_4, tupR_5, lstR_0, lstR_1, lstR_2, lstR_3, lstR_4, lstR_5, lstR_6, lstR_7, lstR_8, lstR_9, lstR_10, lstR_11, lstR_12, isi_int, isi_bl, isi_tup, isi_non, isi_str, fin_bl, fin_int, fin_non, fin_str, finX0, handle_hit, handle_nil, hx_bl, hx_str, hx_int, hx_non, hx_cnt, hx_pass, forR_it, forR_f, forR_t, forR_c, gmg, b1_repr, ne_repr, b2_max, b2_min, set_at0, set_at1, set_at2, set_at3, get_at0, get_at1, get_at2, get_at3, List.append_assoc, List.append_nil, List.length_append, List.length_set, Nat.add_zero, e, hc]
theorem sp_good (k : Nat) {p q x y : Int} (ok : FrOf p q x y) {n : Nat} (hp : Bd n p) (hq : Bd n q) (hn : n < 9000) : (Γ (k + 3)).call 35 [fr x y, .int p, .int q] S = .ok (.v (.bl true)) S := by
  rw [call_n tab_law_good rfl]
  have e1 := sp_law_gcd (S := S) (k + 1) x y
  have e2 := sp_is_fraction (S := S) k x y
  have h1 := ok.pos
  have h2 := ok.one
  have h3 := ok.eq
  have h4 : ((Int.gcd x y : Nat) : Int) = 1 := by omega
  have l2 : ((0 + 1 + 1 : Nat) : Int) ≠ 2 ↔ False := by decide
  have m1 := mul_of (hp.le ok.le1) hq (by omega)
  have m2 := mul_of (hq.le ok.le2) hp (by omega)
  simp only [fd_law_good, ev_int, ev_bl, ev_non, ev_str, ev_var, ev_glob, ev_bin, ev_neg, ev_not, ev_cmp, ev_chain, ev_and, ev_or, ev_ife, ev_tup, ev_lst, ev_ix, ev_sl, ev_omit, ev_slr, ev_call, ev_b1, ev_b2, ev_isi, ev_meth, ev_lc, ev_lcif, ev_rng, ev_enum, ev_zip, ev_rev, evs_n, evs_c, alloc_v, alloc_f, setR_eq, ex_set, ex_tset, ex_sset, ex_saug, ex_ex, ex_ret, ex_retN, ex_ite, ex_whl, ex_for, ex_pass, ex_brk, ex_cnt, ex_raise, ex_try, exs_n, exs_c, tried_ok, tried_exc, rs_ret, rs_nx, rs_exc, R.bind_ok, R.bind_exc, R.bind_bad, R.st_ok, R.st_exc, RS.seq_nx, RS.seq_ret, RS.seq_bk, RS.seq_ct, RS.seq_exc, RS.turn_nx, RS.turn_ct, RS.turn_bk, RS.turn_ret, RS.turn_exc, R.nox_ok, orBad_some, lookV_some, lookD_some, onI_int, onLoc_loc, onB_true, onB_false, onB_dec, onBS_true, onBS_false, onBS_dec, bin_int, cmp_lt, cmp_le, cmp_gt, cmp_ge, cmp_eq, cmp_ne, cmp_isb, cmp_isnb, b1_int, b1_intb, b1_abs, b1_lent, b1_lenc, ix_t, ix_c, atR_def, at0, at1, at2, at3, at4, at5, add_of, sub_of, List.map_cons, List.map_nil, List.length_cons, List.length_nil, List.cons_append, List.nil_append, List.replicate_succ, List.replicate_zero, List.getElem?_cons_zero, List.getElem?_cons_succ, List.set_cons_zero, List.set_cons_succ, Nat.zero_add, Nat.reduceAdd, Nat.reduceSub, tupR_0, tupR_1, tupR_2, tupR_3, tupR_4, tupR_5, lstR_0, lstR_1, lstR_2, lstR_3, lstR_4, lstR_5, lstR_6, lstR_7, lstR_8, lstR_9, lstR_10, lstR_11, lstR_12, isi_int, isi_bl, isi_tup, isi_non, isi_str, fin_bl, fin_int, fin_non, fin_str, finX0, handle_hit, handle_nil, hx_bl, hx_str, hx_int, hx_non, hx_cnt, hx_pass, forR_it, forR_f, forR_t, forR_c, gmg, b1_repr, ne_repr, b2_max, b2_min, set_at0, set_at1, set_at2, set_at3, get_at0, get_at1, get_at2, get_at3, List.append_assoc, List.append_nil, List.length_append, List.length_set, Nat.add_zero, reduceCtorEq, e1, e2, l2, h1, h2, h4, m1, m2, h3, decide_true, decide_false, Bool.false_or, Bool.or_false, Bool.and_self, if_true, if_false, Int.natCast_one, eq_self]
theorem sp_by_zero (k : Nat) {f : Nat} (hf : hs f = true) {a b : D} (h : (Γ k).call f [a, b] S = .exc ⟨9, []⟩ S) : (Γ (k + 1)).call 36 [.fn f, a, b] S = .ok (.v (.bl true)) S := by
  rw [call_n tab_law_by_zero rfl]
  have hh : (Γ k).has f = true := by cases k <;> exact hf
  have e : ∀ env : Env, env[0]? = some (some (.fn f)) → ∀ es T, ev (Γ k) (.callv 0 es) env T = (evs (Γ k) es env T).bind fun ds S1 => (Γ k).call f ds S1 := fun env he es T => ev_callv he hh
  simp only [fd_law_by_zero, ev_int, ev_bl, ev_non, ev_str, ev_var, ev_glob, ev_bin, ev_neg, ev_not, ev_cmp, ev_chain, ev_and, ev_or, ev_ife, ev_tup, ev_lst, ev_ix, ev_sl, ev_omit, ev_slr, ev_call, ev_b1, ev_b2, ev_isi, ev_meth, ev_lc, ev_lcif, ev_rng, ev_enum, ev_zip, ev_rev, evs_n, evs_c, alloc_v, alloc_f, setR_eq, ex_set, ex_tset, ex_sset, ex_saug, ex_ex, ex_ret, ex_retN, ex_ite, ex_whl, ex_for, ex_pass, ex_brk, ex_cnt, ex_raise, ex_try, exs_n, exs_c, tried_ok, tried_exc, rs_ret, rs_nx, rs_exc, R.bind_ok, R.bind_exc, R.bind_bad, R.st_ok, R.st_exc, RS.seq_nx, RS.seq_ret, RS.seq_bk, RS.seq_ct, RS.seq_exc, RS.turn_nx, RS.turn_ct, RS.turn_bk, RS.turn_ret, RS.turn_exc, R.nox_ok, orBad_some, lookV_some, lookD_some, onI_int, onLoc_loc, onB_true, onB_false, onB_dec, onBS_true, onBS_false, onBS_dec, bin_int, cmp_lt, cmp_le, cmp_gt, cmp_ge, cmp_eq, cmp_ne, cmp_isb, cmp_isnb, b1_int, b1_intb, b1_abs, b1_lent, b1_lenc, ix_t, ix_c, atR_def, at0, at1, at2, at3, at4, at5, add_of, sub_of, List.map_cons, List.map_nil, List.length_cons, List.length_nil, List.cons_append, List.nil_append, List.replicate_succ, List.replicate_zero, List.getElem?_cons_zero, List.getElem?_cons_succ, List.set_cons_zero, List.set_cons_succ, Nat.zero_add, Nat.reduceAdd, Nat.reduceSub, tupR_0, tupR_1, tupR_2, tupR_3, tupR_4, tupR_5, lstR_0, lstR_1, lstR_2, lstR_3, lstR_4, lstR_5, lstR_6, lstR_7, lstR_8, lstR_9, lstR_10, lstR_11, lstR_12, isi_int, isi_bl, isi_tup, isi_non, isi_str, fin_bl, fin_int, fin_non, fin_str, finX0, handle_hit, handle_nil, hx_bl, hx_str, hx_int, hx_non, hx_cnt, hx_pass, forR_it, forR_f, forR_t, forR_c, gmg, b1_repr, ne_repr, b2_max, b2_min, set_at0, set_at1, set_at2, set_at3, get_at0, get_at1, get_at2, get_at3, List.append_assoc, List.append_nil, List.length_append, List.length_set, Nat.add_zero]
  rw [e _ rfl]
  simp only [ev_int, ev_bl, ev_non, ev_str, ev_var, ev_glob, ev_bin, ev_neg, ev_not, ev_cmp, ev_chain, ev_and, ev_or, ev_ife, ev_tup, ev_lst, ev_ix, ev_sl, ev_omit, ev_slr, ev_call, ev_b1, ev_b2, ev_isi, ev_meth, ev_lc, ev_lcif, ev_rng, ev_enum, ev_zip, ev_rev, evs_n, evs_c, alloc_v, alloc_f, setR_eq, ex_set, ex_tset, ex_sset, ex_saug, ex_ex, ex_ret, ex_retN, ex_ite, ex_whl, ex_for, ex_pass, ex_brk, ex_cnt, ex_raise, ex_try, exs_n, exs_c, tried_ok, tried_exc, rs_ret, rs_nx, rs_exc, R.bind_ok, R.bind_exc, R.bind_bad, R.st_ok, R.st_exc, RS.seq_nx, RS.seq_ret, RS.seq_bk, RS.seq_ct, RS.seq_exc, RS.turn_nx, RS.turn_ct, RS.turn_bk, RS.turn_ret, RS.turn_exc, R.nox_ok, orBad_some, lookV_some, lookD_some, onI_int, onLoc_loc, onB_true, onB_false, onB_dec, onBS_true, onBS_false, onBS_dec, bin_int, cmp_lt, cmp_le, cmp_gt, cmp_ge, cmp_eq, cmp_ne, cmp_isb, cmp_isnb, b1_int, b1_intb, b1_abs, b1_lent, b1_lenc, ix_t, ix_c, atR_def, at0, at1, at2, at3, at4, at5, add_of, sub_of, List.map_cons, List.map_nil, List.length_cons, List.length_nil, List.cons_append, List.nil_append, List.replicate_succ, List.replicate_zero, List.getElem?_cons_zero, List.getElem?_cons_succ, List.set_cons_zero, List.set_cons_succ, Nat.zero_add, Nat.reduceAdd, Nat.reduceSub, tupR_0, tupR_1, tupR_2, tupR_3, tupR_4, tupR_5, lstR_0, lstR_1, lstR_2, lstR_3, lstR_4, lstR_5, lstR_6, lstR_7, lstR_8, lstR_9, lstR_10, lstR_11, lstR_12, isi_int, isi_bl, isi_tup, isi_non, isi_str, fin_bl, fin_int, fin_non, fin_str, finX0, handle_hit, handle_nil, hx_bl, hx_str, hx_int, hx_non, hx_cnt, hx_pass, forR_it, forR_f, forR_t, forR_c, gmg, b1_repr, ne_repr, b2_max, b2_min, set_at0, set_at1, set_at2, set_at3, get_at0, get_at1, get_at2, get_at3, List.append_assoc, List.append_nil, List.length_append, List.length_set, Nat.add_zero, h]
end
end Py

namespace Py
open PySem
section
variable {S : Sto}
theorem mapM_int (n : Nat) : ∀ p : List Int, (p.map D.int).mapM (toPy (n + 1) S) = some (p.map PyData.int)
  | [] => rfl
  | a :: p => by
    rw [List.map_cons, List.mapM_cons, mapM_int n p]
    rfl
theorem canLay_ints : ∀ p : List Int, PyData.canLayAll0 (p.map PyData.int) = true
  | [] => by simp [PyData.canLayAll0]
  | a :: p => by simp [PyData.canLayAll0, PyData.canLay0, canLay_ints p]
theorem depth_ints : ∀ p : List Int, PyData.depthAll (p.map PyData.int) = 0
  | [] => by simp [PyData.depthAll]
  | a :: p => by simp [PyData.depthAll, PyData.depth, depth_ints p]
theorem eqvAll_ints : ∀ p q : List Int, PyData.eqvAll (p.map PyData.int) (q.map PyData.int) = decide (p = q)
  | [], [] => by simp [PyData.eqvAll]
  | [], b :: q => by simp [PyData.eqvAll]
  | a :: p, [] => by simp [PyData.eqvAll]
  | a :: p, b :: q => by
    simp [PyData.eqvAll, PyData.eqv, eqvAll_ints p q]
    rfl
theorem eqW_of {a b : W} {x y : PyData} (h1 : toPyW S a = some x) (h2 : toPyW S b = some y) (h3 : SeqAt.shaped x = true) (h4 : SeqAt.shaped y = true) : eqW S a b = some (PyData.eqv x y) := by
  unfold eqW
  rw [h1, h2]
  show (if (SeqAt.shaped x && SeqAt.shaped y) = true then _ else _) = _
  rw [h3, h4]
  rfl
theorem sh_tup (p : List Int) : SeqAt.shaped (.tuple (p.map PyData.int)) = true := by simp [SeqAt.shaped, PyData.canLay0, PyData.depth, canLay_ints, depth_ints]
theorem sh_lst (p : List Int) : SeqAt.shaped (.list (p.map PyData.int)) = true := by simp [SeqAt.shaped, PyData.canLay0, PyData.depth, canLay_ints, depth_ints]
theorem py_tup (p : List Int) : toPyW S (.v (pD p)) = some (.tuple (p.map PyData.int)) := by
  show ((p.map D.int).mapM (toPy 69 S)).map _ = _
  rw [mapM_int]
  rfl
theorem py_f (p : List Int) : toPyW S (.f (p.map .int)) = some (.list (p.map PyData.int)) := by
  show ((p.map D.int).mapM (toPy 70 S)).map _ = _
  rw [mapM_int]
  rfl
theorem py_l {n : Nat} {p : List Int} (h : S[n]? = some (.lst (p.map .int))) : toPyW S (.v (.loc n)) = some (.list (p.map PyData.int)) := by
  show (match S[n]? with | some (.lst xs) => (xs.mapM (toPy 69 S)).map _ | none => none) = _
  rw [h]
  show ((p.map D.int).mapM (toPy 69 S)).map _ = _
  rw [mapM_int]
  rfl
theorem eq_tt (p q : List Int) : cmpW .Eq (.v (pD p)) (.v (pD q)) S = .ok (.v (.bl (decide (p = q)))) S := by
  have h : eqW S (.v (pD p)) (.v (pD q)) = some (decide (p = q)) := by
    rw [eqW_of (py_tup p) (py_tup q) (sh_tup p) (sh_tup q), ← eqvAll_ints p q]
    simp [PyData.eqv]
  simp [cmpW, cmpB, h]
theorem ne_tt (p q : List Int) : cmpW .NotEq (.v (pD p)) (.v (pD q)) S = .ok (.v (.bl (decide (p ≠ q)))) S := by
  have h : eqW S (.v (pD p)) (.v (pD q)) = some (decide (p = q)) := by
    rw [eqW_of (py_tup p) (py_tup q) (sh_tup p) (sh_tup q), ← eqvAll_ints p q]
    simp [PyData.eqv]
  simp [cmpW, cmpB, h]
theorem ne_lf {n : Nat} {p : List Int} (q : List Int) (hn : S[n]? = some (.lst (p.map .int))) : cmpW .NotEq (.v (.loc n)) (.f (q.map .int)) S = .ok (.v (.bl (decide (p ≠ q)))) S := by
  have h : eqW S (.v (.loc n)) (.f (q.map .int)) = some (decide (p = q)) := by
    rw [eqW_of (py_l hn) (py_f q) (sh_lst p) (sh_lst q), ← eqvAll_ints p q]
    simp [PyData.eqv]
  simp [cmpW, cmpB, h]
theorem at_m1 {α : Type} {xs : List α} (h : xs ≠ []) : atI xs (-1) = xs[xs.length - 1]? := by
  have : 0 < xs.length := List.length_pos_iff.mpr h
  rw [atI_neg (by decide) (by omega)]
  congr 1
  omega
theorem flat_ints (n : Nat) (p : List Int) : unds n (p.map D.int) = true := unds_mem fun x hx => by
  obtain ⟨i, _, rfl⟩ := List.mem_map.mp hx
  rfl
theorem b1_lst_t {xs : List D} : b1W .lst (.v (.tup xs)) S = some (.f xs) := rfl
theorem b1_lst_f {xs : List D} : b1W .lst (.f xs) S = some (.f xs) := rfl
theorem b1_lst_l {n : Nat} {xs : List D} (h : S[n]? = some (.lst xs)) : b1W .lst (.v (.loc n)) S = some (.f xs) := by
  show (match (match S[n]? with | some (.lst xs) => some xs | none => none) with | some xs => some (W.f xs) | none => none) = _
  rw [h]
theorem b1_tup_l {n : Nat} {xs : List D} (h : S[n]? = some (.lst xs)) : b1W .tup (.v (.loc n)) S = some (.v (.tup xs)) := by
  show (match (match S[n]? with | some (.lst xs) => some xs | none => none) with | some xs => some (W.v (.tup xs)) | none => none) = _
  rw [h]
theorem b1_tup_f {xs : List D} : b1W .tup (.f xs) S = some (.v (.tup xs)) := rfl
theorem mt_pop {n : Nat} {xs : List D} {y : D} (h : S[n]? = some (.lst xs)) (hy : xs[xs.length - 1]? = some y) : mtW .pop (.loc n) [] S = .ok (.v y) (S.set n (.lst xs.dropLast)) := by
  simp [mtW, h, hy]
theorem fin_p {p : List Int} : finish S S (.v (pD p)) = .ok (.v (pD p)) S := fin_v0 (flat_ints _ p)
theorem fin_pG {p : List Int} {G : Sto} : finish S (S ++ G) (.v (pD p)) = .ok (.v (pD p)) S := fin_v Kept.refl (flat_ints _ p)
theorem set_same {T : Sto} {n : Nat} {o : O} (h : T[n]? = some o) : T.set n o = T := by
  refine List.ext_getElem? fun i => ?_
  by_cases e : n = i
  · subst e
    rw [List.getElem?_set_self (List.getElem?_eq_some_iff.mp h).1, h]
  · rw [List.getElem?_set_ne e]
/-- the last is dropped while it is 0 -/
theorem trim_loop (k : Nat) (o : Option D) {n : Nat} : ∀ (m : Nat) (l : List Int) (S : Sto), l.length ≤ m → S[n]? = some (.lst (l.map .int)) →
    whl (Γ k) fd_trimmed_c1 fd_trimmed_l1 [o, some (.loc n)] S = .ok .nx [o, some (.loc n)] (S.set n (.lst ((trim l).map .int)))
  | m, l, S, hm, h => by
    have c1 : ev (Γ k) fd_trimmed_c1 [o, some (.loc n)] S = if l ≠ [] then (ixR (.v (.loc n)) (.v (.int (-1))) S).bind (fun x S1 => cmpW .Eq x (.v (.int 0)) S1) else .ok (.v (.bl false)) S := by
      have e := ne_lf (S := S) (p := l) [] h
      have e : cmpW .NotEq (.v (.loc n)) (.f []) S = .ok (.v (.bl (decide (l ≠ [])))) S := e
      simp only [fd_trimmed_c1, ev_int, ev_bl, ev_non, ev_str, ev_var, ev_glob, ev_bin, ev_neg, ev_not, ev_cmp, ev_chain, ev_and, ev_or, ev_ife, ev_tup, ev_lst, ev_ix, ev_sl, ev_omit, ev_slr, ev_call, ev_b1, ev_b2, ev_isi, ev_meth, ev_lc, ev_lcif, ev_rng, ev_enum, ev_zip, ev_rev, evs_n, evs_c, alloc_v, alloc_f, setR_eq, ex_set, ex_tset, ex_sset, ex_saug, ex_ex, ex_ret, ex_retN, ex_ite, ex_whl, ex_for, ex_pass, ex_brk, ex_cnt, ex_raise, ex_try, exs_n, exs_c, tried_ok, tried_exc, rs_ret, rs_nx, rs_exc, R.bind_ok, R.bind_exc, R.bind_bad, R.st_ok, R.st_exc, RS.seq_nx, RS.seq_ret, RS.seq_bk, RS.seq_ct, RS.seq_exc, RS.turn_nx, RS.turn_ct, RS.turn_bk, RS.turn_ret, RS.turn_exc, R.nox_ok, orBad_some, lookV_some, lookD_some, onI_int, onLoc_loc, onB_true, onB_false, onB_dec, onBS_true, onBS_false, onBS_dec, bin_int, cmp_lt, cmp_le, cmp_gt, cmp_ge, cmp_eq, cmp_ne, cmp_isb, cmp_isnb, b1_int, b1_intb, b1_abs, b1_lent, b1_lenc, ix_t, ix_c, atR_def, at0, at1, at2, at3, at4, at5, add_of, sub_of, List.map_cons, List.map_nil, List.length_cons, List.length_nil, List.cons_append, List.nil_append, List.replicate_succ, List.replicate_zero, List.getElem?_cons_zero, List.getElem?_cons_succ, List.set_cons_zero, List.set_cons_succ, Nat.zero_add, Nat.reduceAdd, Nat.reduceSub, tupR_0, tupR_1, tupR_2, tupR_3, tupR_4, tupR_5, lstR_0, lstR_1, lstR_2, lstR_3, lstR_4, lstR_5, lstR_6, lstR_7, lstR_8, lstR_9, lstR_10, lstR_11, lstR_12, isi_int, isi_bl, isi_tup, isi_non, isi_str, fin_bl, fin_int, fin_non, fin_str, finX0, handle_hit, handle_nil, hx_bl, hx_str, hx_int, hx_non, hx_cnt, hx_pass, forR_it, forR_f, forR_t, forR_c, gmg, b1_repr, ne_repr, b2_max, b2_min, set_at0, set_at1, set_at2, set_at3, get_at0, get_at1, get_at2, get_at3, List.append_assoc, List.append_nil, List.length_append, List.length_set, Nat.add_zero, e]
    have hn : n < S.length := (List.getElem?_eq_some_iff.mp h).1
    by_cases hl : l = []
    · subst hl
      rw [if_neg (by simp)] at c1
      rw [whl_f c1]
      rw [show trim [] = [] from rfl, set_same h]
    · rw [if_pos hl] at c1
      obtain ⟨r, a, rfl⟩ : ∃ r a, l = r ++ [a] := ⟨l.dropLast, l.getLast hl, (List.dropLast_concat_getLast hl).symm⟩
      have ea : atI ((r ++ [a]).map D.int) (-1) = some (.int a) := by
        rw [at_m1 (by simp)]
        simp
      simp only [ix_l h, ev_int, ev_bl, ev_non, ev_str, ev_var, ev_glob, ev_bin, ev_neg, ev_not, ev_cmp, ev_chain, ev_and, ev_or, ev_ife, ev_tup, ev_lst, ev_ix, ev_sl, ev_omit, ev_slr, ev_call, ev_b1, ev_b2, ev_isi, ev_meth, ev_lc, ev_lcif, ev_rng, ev_enum, ev_zip, ev_rev, evs_n, evs_c, alloc_v, alloc_f, setR_eq, ex_set, ex_tset, ex_sset, ex_saug, ex_ex, ex_ret, ex_retN, ex_ite, ex_whl, ex_for, ex_pass, ex_brk, ex_cnt, ex_raise, ex_try, exs_n, exs_c, tried_ok, tried_exc, rs_ret, rs_nx, rs_exc, R.bind_ok, R.bind_exc, R.bind_bad, R.st_ok, R.st_exc, RS.seq_nx, RS.seq_ret, RS.seq_bk, RS.seq_ct, RS.seq_exc, RS.turn_nx, RS.turn_ct, RS.turn_bk, RS.turn_ret, RS.turn_exc, R.nox_ok, orBad_some, lookV_some, lookD_some, onI_int, onLoc_loc, onB_true, onB_false, onB_dec, onBS_true, onBS_false, onBS_dec, bin_int, cmp_lt, cmp_le, cmp_gt, cmp_ge, cmp_eq, cmp_ne, cmp_isb, cmp_isnb, b1_int, b1_intb, b1_abs, b1_lent, b1_lenc, ix_t, ix_c, atR_def, at0, at1, at2, at3, at4, at5, add_of, sub_of, List.map_cons, List.map_nil, List.length_cons, List.length_nil, List.cons_append, List.nil_append, List.replicate_succ, List.replicate_zero, List.getElem?_cons_zero, List.getElem?_cons_succ, List.set_cons_zero, List.set_cons_succ, Nat.zero_add, Nat.reduceAdd, Nat.reduceSub, tupR_0, tupR_1, tupR_2, tupR_3, tupR_4, tupR_5, lstR_0, lstR_1, lstR_2, lstR_3, lstR_4, lstR_5, lstR_6, lstR_7, lstR_8, lstR_9, lstR_10, lstR_11, lstR_12, isi_int, isi_bl, isi_tup, isi_non, isi_str, fin_bl, fin_int, fin_non, fin_str, finX0, handle_hit, handle_nil, hx_bl, hx_str, hx_int, hx_non, hx_cnt, hx_pass, forR_it, forR_f, forR_t, forR_c, gmg, b1_repr, ne_repr, b2_max, b2_min, set_at0, set_at1, set_at2, set_at3, get_at0, get_at1, get_at2, get_at3, List.append_assoc, List.append_nil, List.length_append, List.length_set, Nat.add_zero, ea] at c1
      by_cases ha : a = 0
      · subst ha
        simp only [decide_true] at c1
        have hx : execs (Γ k) fd_trimmed_l1 [o, some (.loc n)] S = .ok .nx [o, some (.loc n)] (S.set n (.lst (r.map .int))) := by
          have hp := mt_pop (S := S) (y := .int 0) h (by simp)
          simp only [List.map_append, List.map_cons, List.map_nil, List.dropLast_concat] at hp
          simp only [fd_trimmed_l1, ev_int, ev_bl, ev_non, ev_str, ev_var, ev_glob, ev_bin, ev_neg, ev_not, ev_cmp, ev_chain, ev_and, ev_or, ev_ife, ev_tup, ev_lst, ev_ix, ev_sl, ev_omit, ev_slr, ev_call, ev_b1, ev_b2, ev_isi, ev_meth, ev_lc, ev_lcif, ev_rng, ev_enum, ev_zip, ev_rev, evs_n, evs_c, alloc_v, alloc_f, setR_eq, ex_set, ex_tset, ex_sset, ex_saug, ex_ex, ex_ret, ex_retN, ex_ite, ex_whl, ex_for, ex_pass, ex_brk, ex_cnt, ex_raise, ex_try, exs_n, exs_c, tried_ok, tried_exc, rs_ret, rs_nx, rs_exc, R.bind_ok, R.bind_exc, R.bind_bad, R.st_ok, R.st_exc, RS.seq_nx, RS.seq_ret, RS.seq_bk, RS.seq_ct, RS.seq_exc, RS.turn_nx, RS.turn_ct, RS.turn_bk, RS.turn_ret, RS.turn_exc, R.nox_ok, orBad_some, lookV_some, lookD_some, onI_int, onLoc_loc, onB_true, onB_false, onB_dec, onBS_true, onBS_false, onBS_dec, bin_int, cmp_lt, cmp_le, cmp_gt, cmp_ge, cmp_eq, cmp_ne, cmp_isb, cmp_isnb, b1_int, b1_intb, b1_abs, b1_lent, b1_lenc, ix_t, ix_c, atR_def, at0, at1, at2, at3, at4, at5, add_of, sub_of, List.map_cons, List.map_nil, List.length_cons, List.length_nil, List.cons_append, List.nil_append, List.replicate_succ, List.replicate_zero, List.getElem?_cons_zero, List.getElem?_cons_succ, List.set_cons_zero, List.set_cons_succ, Nat.zero_add, Nat.reduceAdd, Nat.reduceSub, tupR_0, tupR_1, tupR_2, tupR_3, tupR_4, tupR_5, lstR_0, lstR_1, lstR_2, lstR_3, lstR_4, lstR_5, lstR_6, lstR_7, lstR_8, lstR_9, lstR_10, lstR_11, lstR_12, isi_int, isi_bl, isi_tup, isi_non, isi_str, fin_bl, fin_int, fin_non, fin_str, finX0, handle_hit, handle_nil, hx_bl, hx_str, hx_int, hx_non, hx_cnt, hx_pass, forR_it, forR_f, forR_t, forR_c, gmg, b1_repr, ne_repr, b2_max, b2_min, set_at0, set_at1, set_at2, set_at3, get_at0, get_at1, get_at2, get_at3, List.append_assoc, List.append_nil, List.length_append, List.length_set, Nat.add_zero, hp]
        cases m with
        | zero => simp at hm
        | succ m =>
          rw [whl_t c1 hx, trim_loop k o m r _ (by simp at hm; omega) (get_set hn), List.set_set, trim_snoc0]
      · simp only [ha, decide_false] at c1
        rw [whl_f c1, trim_snoc r ha]
        rw [set_same h]
theorem sp_trimmed_W (k : Nat) {d : D} {l : List Int} (h : b1W .lst (.v d) S = some (.f (l.map .int))) : (Γ (k + 1)).call 118 [d] S = .ok (.v (pD (trim l))) S := by
  rw [call_n tab_trimmed rfl]
  have e := trim_loop k (some d) (n := S.length) l.length l (S ++ [.lst (l.map .int)]) (Nat.le_refl _) get_at0
  rw [set_at0] at e
  simp only [fd_trimmed, ev_int, ev_bl, ev_non, ev_str, ev_var, ev_glob, ev_bin, ev_neg, ev_not, ev_cmp, ev_chain, ev_and, ev_or, ev_ife, ev_tup, ev_lst, ev_ix, ev_sl, ev_omit, ev_slr, ev_call, ev_b1, ev_b2, ev_isi, ev_meth, ev_lc, ev_lcif, ev_rng, ev_enum, ev_zip, ev_rev, evs_n, evs_c, alloc_v, alloc_f, setR_eq, ex_set, ex_tset, ex_sset, ex_saug, ex_ex, ex_ret, ex_retN, ex_ite, ex_whl, ex_for, ex_pass, ex_brk, ex_cnt, ex_raise, ex_try, exs_n, exs_c, tried_ok, tried_exc, rs_ret, rs_nx, rs_exc, R.bind_ok, R.bind_exc, R.bind_bad, R.st_ok, R.st_exc, RS.seq_nx, RS.seq_ret, RS.seq_bk, RS.seq_ct, RS.seq_exc, RS.turn_nx, RS.turn_ct, RS.turn_bk, RS.turn_ret, RS.turn_exc, R.nox_ok, orBad_some, lookV_some, lookD_some, onI_int, onLoc_loc, onB_true, onB_false, onB_dec, onBS_true, onBS_false, onBS_dec, bin_int, cmp_lt, cmp_le, cmp_gt, cmp_ge, cmp_eq, cmp_ne, cmp_isb, cmp_isnb, b1_int, b1_intb, b1_abs, b1_lent, b1_lenc, ix_t, ix_c, atR_def, at0, at1, at2, at3, at4, at5, add_of, sub_of, List.map_cons, List.map_nil, List.length_cons, List.length_nil, List.cons_append, List.nil_append, List.replicate_succ, List.replicate_zero, List.getElem?_cons_zero, List.getElem?_cons_succ, List.set_cons_zero, List.set_cons_succ, Nat.zero_add, Nat.reduceAdd, Nat.reduceSub, tupR_0, tupR_1, tupR_2, tupR_3, tupR_4, tupR_5, lstR_0, lstR_1, lstR_2, lstR_3, lstR_4, lstR_5, lstR_6, lstR_7, lstR_8, lstR_9, lstR_10, lstR_11, lstR_12, isi_int, isi_bl, isi_tup, isi_non, isi_str, fin_bl, fin_int, fin_non, fin_str, finX0, handle_hit, handle_nil, hx_bl, hx_str, hx_int, hx_non, hx_cnt, hx_pass, forR_it, forR_f, forR_t, forR_c, gmg, b1_repr, ne_repr, b2_max, b2_min, set_at0, set_at1, set_at2, set_at3, get_at0, get_at1, get_at2, get_at3, List.append_assoc, List.append_nil, List.length_append, List.length_set, Nat.add_zero, h, e, b1_tup_l (S := S ++ [.lst ((trim l).map .int)]) (n := S.length) get_at0, fin_pG]
theorem sp_trimmed_t (k : Nat) (l : List Int) : (Γ (k + 1)).call 118 [pD l] S = .ok (.v (pD (trim l))) S := sp_trimmed_W k rfl
theorem sp_trimmed_l (k : Nat) {n : Nat} {l : List Int} (h : S[n]? = some (.lst (l.map .int))) : (Γ (k + 1)).call 118 [.loc n] S = .ok (.v (pD (trim l))) S := sp_trimmed_W k (b1_lst_l h)
end
end Py
namespace Py
open PySem
section
variable {S : Sto}
theorem ixLR_ok {n : Nat} {xs : List D} {i : Int} {d : D} (h : S[n]? = some (.lst xs)) (e : atI xs i = some d) : ixLR (.v (.loc n)) (.v (.int i)) S = .ok d S := by
  simp [ixLR, ixL, h, e]
theorem at_ints {l : List Int} {j : Nat} (h : j < l.length) : atI (l.map D.int) (j : Int) = some (.int (l[j]?.getD 0)) := by
  rw [atI_nn (by omega), Int.toNat_natCast, List.getElem?_map, List.getElem?_eq_getElem h]
  rfl
theorem set_ints {env : Env} {n : Nat} {l : List Int} {j : Nat} {z : Int} (h : S[n]? = some (.lst (l.map .int))) (hj : j < l.length) : setLR env (.v (.loc n)) (.v (.int j)) (.int z) S = .ok .nx env (S.set n (.lst ((l.set j z).map .int))) := by
  rw [setL_ok h (by omega) (by rw [List.length_map]; omega), Int.toNat_natCast, List.map_set]
theorem rep0 {m : Int} (h0 : 0 ≤ m) (h : m ≤ 1000000) : binW .Mult (.f [.int 0]) (.v (.int m)) S = .ok (.f ((List.replicate m.toNat (0 : Int)).map .int)) S := by
  have e : repL [D.int 0] m = (List.replicate m.toNat (0 : Int)).map D.int := by
    unfold repL
    rw [List.map_replicate]
    generalize m.toNat = k
    induction k with
    | zero => rfl
    | succ k ih => rw [List.replicate_succ, List.flatten_cons, ih]; rfl
  have hr : repOk 1 m = true := by
    unfold repOk
    rw [decide_eq_true (show m.natAbs < 2 ^ 62 by omega), decide_eq_true (show 1 * m.toNat ≤ lim by show 1 * m.toNat ≤ 1048576; omega)]
    rfl
  show (if repOk 1 m = true then R.ok (W.f (repL [D.int 0] m)) S else .bad) = _
  rw [if_pos hr, e]
theorem rep0i {x : Nat} (hl : x ≤ 1000000) : binW .Mult (.f [.int 0]) (.v (.int (x : Int))) S = .ok (.f ((List.replicate (x : Int).toNat (0 : Int)).map .int)) S := rep0 (S := S) (m := (x : Int)) (by omega) (by omega)
theorem rep0N {x : Nat} (hl : x ≤ 1000000) : binW .Mult (.f [.int 0]) (.v (.int (x : Int))) S = .ok (.f ((List.replicate x (0 : Int)).map .int)) S := by
  have h := rep0i (S := S) hl
  rw [Int.toNat_natCast] at h
  exact h
theorem rep0M {x y : Nat} (hl : x + y ≤ 1000000) : binW .Mult (.f [.int 0]) (.v (.int ((max x y : Nat) : Int))) S = .ok (.f ((List.replicate (max x y) (0 : Int)).map .int)) S := rep0N (by omega)
theorem rep0P {x y : Nat} (hl : x + y ≤ 1000000) : binW .Mult (.f [.int 0]) (.v (.int ((x + y - 1 : Nat) : Int))) S = .ok (.f ((List.replicate (x + y - 1) (0 : Int)).map .int)) S := rep0N (by omega)
theorem enum_map (j : Nat) (a : Int) (p : List Int) : enumFrom j ((a :: p).map D.int) = .tup [.int j, .int a] :: enumFrom (j + 1) (p.map D.int) := rfl
/-- found[i] += n along a polynomial -/
theorem add_loop (k : Nat) {n : Nat} {o0 o1 : Option D} : ∀ (p : List Int) (j : Nat) (f : List Int) (T : Sto) (o3 o4 : Option D), T[n]? = some (.lst (f.map .int)) → j + p.length ≤ f.length →
    ∃ o3' o4', frs (Γ k) [none] (.tup [.name 3, .name 4]) [.saug (.var 2) (.var 3) .Add (.var 4)] (enumFrom j (p.map .int)) [o0, o1, some (.loc n), o3, o4] T = .ok .nx [o0, o1, some (.loc n), o3', o4'] (T.set n (.lst ((addAt j p f).map .int)))
  | [], j, f, T, o3, o4, h, hl => ⟨o3, o4, by rw [show enumFrom j (([] : List Int).map D.int) = [] from rfl, frs_nil noneSrc, show addAt j [] f = f from rfl, set_same h]⟩
  | a :: p, j, f, T, o3, o4, h, hl => by
    simp only [List.length_cons] at hl
    have hn : n < T.length := (List.getElem?_eq_some_iff.mp h).1
    have hx : execs (Γ k) [.saug (.var 2) (.var 3) .Add (.var 4)] [o0, o1, some (.loc n), some (.int j), some (.int a)] T = .ok .nx [o0, o1, some (.loc n), some (.int j), some (.int a)] (T.set n (.lst ((f.set j (f[j]?.getD 0 + a)).map .int))) := by
      simp only [ev_int, ev_bl, ev_non, ev_str, ev_var, ev_glob, ev_bin, ev_neg, ev_not, ev_cmp, ev_chain, ev_and, ev_or, ev_ife, ev_tup, ev_lst, ev_ix, ev_sl, ev_omit, ev_slr, ev_call, ev_b1, ev_b2, ev_isi, ev_meth, ev_lc, ev_lcif, ev_rng, ev_enum, ev_zip, ev_rev, evs_n, evs_c, alloc_v, alloc_f, setR_eq, ex_set, ex_tset, ex_sset, ex_saug, ex_ex, ex_ret, ex_retN, ex_ite, ex_whl, ex_for, ex_pass, ex_brk, ex_cnt, ex_raise, ex_try, exs_n, exs_c, tried_ok, tried_exc, rs_ret, rs_nx, rs_exc, R.bind_ok, R.bind_exc, R.bind_bad, R.st_ok, R.st_exc, RS.seq_nx, RS.seq_ret, RS.seq_bk, RS.seq_ct, RS.seq_exc, RS.turn_nx, RS.turn_ct, RS.turn_bk, RS.turn_ret, RS.turn_exc, R.nox_ok, orBad_some, lookV_some, lookD_some, onI_int, onLoc_loc, onB_true, onB_false, onB_dec, onBS_true, onBS_false, onBS_dec, bin_int, cmp_lt, cmp_le, cmp_gt, cmp_ge, cmp_eq, cmp_ne, cmp_isb, cmp_isnb, b1_int, b1_intb, b1_abs, b1_lent, b1_lenc, ix_t, ix_c, atR_def, at0, at1, at2, at3, at4, at5, add_of, sub_of, List.map_cons, List.map_nil, List.length_cons, List.length_nil, List.cons_append, List.nil_append, List.replicate_succ, List.replicate_zero, List.getElem?_cons_zero, List.getElem?_cons_succ, List.set_cons_zero, List.set_cons_succ, Nat.zero_add, Nat.reduceAdd, Nat.reduceSub, tupR_0, tupR_1, tupR_2, tupR_3, tupR_4, tupR_5, lstR_0, lstR_1, lstR_2, lstR_3, lstR_4, lstR_5, lstR_6, lstR_7, lstR_8, lstR_9, lstR_10, lstR_11, lstR_12, isi_int, isi_bl, isi_tup, isi_non, isi_str, fin_bl, fin_int, fin_non, fin_str, finX0, handle_hit, handle_nil, hx_bl, hx_str, hx_int, hx_non, hx_cnt, hx_pass, forR_it, forR_f, forR_t, forR_c, gmg, b1_repr, ne_repr, b2_max, b2_min, set_at0, set_at1, set_at2, set_at3, get_at0, get_at1, get_at2, get_at3, List.append_assoc, List.append_nil, List.length_append, List.length_set, Nat.add_zero, ixLR_ok h (at_ints (show j < f.length by omega)), saugR_ok (add_of), set_ints h (show j < f.length by omega)]
    rw [enum_map, frs_nx noneSrc rfl hx]
    obtain ⟨p3, p4, e⟩ := add_loop k p (j + 1) (f.set j (f[j]?.getD 0 + a)) _ (some (.int j)) (some (.int a)) (get_set hn) (by rw [List.length_set]; omega)
    refine ⟨p3, p4, ?_⟩
    rw [e, List.set_set]
    rfl
theorem max_len {a b : Nat} : (if (b : Int) > (a : Int) then (b : Int) else a) = ((max a b : Nat) : Int) := by split <;> omega
theorem sp_sum (k : Nat) {p q : List Int} (hl : p.length + q.length ≤ 1000000) : (Γ (k + 2)).call 120 [pD p, pD q] S = .ok (.v (pD (psum p q))) S := by
  rw [call_n tab_sum_of rfl]
  have hr := rep0M (S := S) hl
  obtain ⟨a3, a4, e1⟩ := add_loop (k + 1) (o0 := some (pD p)) (o1 := some (pD q)) (n := S.length) p 0 (List.replicate (max p.length q.length) 0) (S ++ [.lst ((List.replicate (max p.length q.length) (0 : Int)).map .int)]) none none get_at0 (by rw [List.length_replicate]; omega)
  rw [set_at0] at e1
  obtain ⟨b3, b4, e2⟩ := add_loop (k + 1) (o0 := some (pD p)) (o1 := some (pD q)) (n := S.length) q 0 (addAt 0 p (List.replicate (max p.length q.length) 0)) (S ++ [.lst ((addAt 0 p (List.replicate (max p.length q.length) 0)).map .int)]) a3 a4 get_at0 (by rw [addAt_len, List.length_replicate]; omega)
  rw [set_at0] at e2
  have e3 := sp_trimmed_l (S := S ++ [.lst ((addAt 0 q (addAt 0 p (List.replicate (max p.length q.length) 0))).map .int)]) k (n := S.length) get_at0
  have s0 : seqOf S (.v (pD p)) = some (p.map .int) := rfl
  have sp : ∀ T : Sto, seqOf T (.v (pD p)) = some (p.map .int) := fun _ => rfl
  have sq : ∀ T : Sto, seqOf T (.v (pD q)) = some (q.map .int) := fun _ => rfl
  have rp : ∀ T : Sto, srcOf T (.v (pD p)) = none := fun _ => rfl
  have rq : ∀ T : Sto, srcOf T (.v (pD q)) = none := fun _ => rfl
  simp only [fd_sum_of, fd_sum_of_l1, fd_sum_of_l2, ev_int, ev_bl, ev_non, ev_str, ev_var, ev_glob, ev_bin, ev_neg, ev_not, ev_cmp, ev_chain, ev_and, ev_or, ev_ife, ev_tup, ev_lst, ev_ix, ev_sl, ev_omit, ev_slr, ev_call, ev_b1, ev_b2, ev_isi, ev_meth, ev_lc, ev_lcif, ev_rng, ev_enum, ev_zip, ev_rev, evs_n, evs_c, alloc_v, alloc_f, setR_eq, ex_set, ex_tset, ex_sset, ex_saug, ex_ex, ex_ret, ex_retN, ex_ite, ex_whl, ex_for, ex_pass, ex_brk, ex_cnt, ex_raise, ex_try, exs_n, exs_c, tried_ok, tried_exc, rs_ret, rs_nx, rs_exc, R.bind_ok, R.bind_exc, R.bind_bad, R.st_ok, R.st_exc, RS.seq_nx, RS.seq_ret, RS.seq_bk, RS.seq_ct, RS.seq_exc, RS.turn_nx, RS.turn_ct, RS.turn_bk, RS.turn_ret, RS.turn_exc, R.nox_ok, orBad_some, lookV_some, lookD_some, onI_int, onLoc_loc, onB_true, onB_false, onB_dec, onBS_true, onBS_false, onBS_dec, bin_int, cmp_lt, cmp_le, cmp_gt, cmp_ge, cmp_eq, cmp_ne, cmp_isb, cmp_isnb, b1_int, b1_intb, b1_abs, b1_lent, b1_lenc, ix_t, ix_c, atR_def, at0, at1, at2, at3, at4, at5, add_of, sub_of, List.map_cons, List.map_nil, List.length_cons, List.length_nil, List.cons_append, List.nil_append, List.replicate_succ, List.replicate_zero, List.getElem?_cons_zero, List.getElem?_cons_succ, List.set_cons_zero, List.set_cons_succ, Nat.zero_add, Nat.reduceAdd, Nat.reduceSub, tupR_0, tupR_1, tupR_2, tupR_3, tupR_4, tupR_5, lstR_0, lstR_1, lstR_2, lstR_3, lstR_4, lstR_5, lstR_6, lstR_7, lstR_8, lstR_9, lstR_10, lstR_11, lstR_12, isi_int, isi_bl, isi_tup, isi_non, isi_str, fin_bl, fin_int, fin_non, fin_str, finX0, handle_hit, handle_nil, hx_bl, hx_str, hx_int, hx_non, hx_cnt, hx_pass, forR_it, forR_f, forR_t, forR_c, gmg, b1_repr, ne_repr, b2_max, b2_min, set_at0, set_at1, set_at2, set_at3, get_at0, get_at1, get_at2, get_at3, List.append_assoc, List.append_nil, List.length_append, List.length_set, Nat.add_zero, List.length_map, max_len, hr, sp, sq, rp, rq, e1, e2, e3, fin_pG]
  rfl
theorem lc_scale (k : Nat) {c : Int} {n m : Nat} (hc : Bd n c) (hnm : n + m < 100000000) : ∀ {p : List Int}, AB m p → ∀ {T : Sto} {o1 : Option D},
    lcR (Γ k) (.bin .Mult (.var 0) (.var 2)) [2] (.name 2) [some (.int c), o1, none] [none] (p.map .int) T = .ok ((p.map (c * ·)).map .int) T
  | [], _, T, o1 => lcR_nil noneSrc
  | a :: p, hp, T, o1 => by
    have m1 := mul_of hc (hp a List.mem_cons_self) hnm
    rw [List.map_cons, lcR_cons (env1 := [some (.int c), o1, some (.int a)]) noneSrc rfl]
    simp only [ev_int, ev_bl, ev_non, ev_str, ev_var, ev_glob, ev_bin, ev_neg, ev_not, ev_cmp, ev_chain, ev_and, ev_or, ev_ife, ev_tup, ev_lst, ev_ix, ev_sl, ev_omit, ev_slr, ev_call, ev_b1, ev_b2, ev_isi, ev_meth, ev_lc, ev_lcif, ev_rng, ev_enum, ev_zip, ev_rev, evs_n, evs_c, alloc_v, alloc_f, setR_eq, ex_set, ex_tset, ex_sset, ex_saug, ex_ex, ex_ret, ex_retN, ex_ite, ex_whl, ex_for, ex_pass, ex_brk, ex_cnt, ex_raise, ex_try, exs_n, exs_c, tried_ok, tried_exc, rs_ret, rs_nx, rs_exc, R.bind_ok, R.bind_exc, R.bind_bad, R.st_ok, R.st_exc, RS.seq_nx, RS.seq_ret, RS.seq_bk, RS.seq_ct, RS.seq_exc, RS.turn_nx, RS.turn_ct, RS.turn_bk, RS.turn_ret, RS.turn_exc, R.nox_ok, orBad_some, lookV_some, lookD_some, onI_int, onLoc_loc, onB_true, onB_false, onB_dec, onBS_true, onBS_false, onBS_dec, bin_int, cmp_lt, cmp_le, cmp_gt, cmp_ge, cmp_eq, cmp_ne, cmp_isb, cmp_isnb, b1_int, b1_intb, b1_abs, b1_lent, b1_lenc, ix_t, ix_c, atR_def, at0, at1, at2, at3, at4, at5, add_of, sub_of, List.map_cons, List.map_nil, List.length_cons, List.length_nil, List.cons_append, List.nil_append, List.replicate_succ, List.replicate_zero, List.getElem?_cons_zero, List.getElem?_cons_succ, List.set_cons_zero, List.set_cons_succ, Nat.zero_add, Nat.reduceAdd, Nat.reduceSub, tupR_0, tupR_1, tupR_2, tupR_3, tupR_4, tupR_5, lstR_0, lstR_1, lstR_2, lstR_3, lstR_4, lstR_5, lstR_6, lstR_7, lstR_8, lstR_9, lstR_10, lstR_11, lstR_12, isi_int, isi_bl, isi_tup, isi_non, isi_str, fin_bl, fin_int, fin_non, fin_str, finX0, handle_hit, handle_nil, hx_bl, hx_str, hx_int, hx_non, hx_cnt, hx_pass, forR_it, forR_f, forR_t, forR_c, gmg, b1_repr, ne_repr, b2_max, b2_min, set_at0, set_at1, set_at2, set_at3, get_at0, get_at1, get_at2, get_at3, List.append_assoc, List.append_nil, List.length_append, List.length_set, Nat.add_zero, m1, lc_scale k hc hnm (fun b hb => hp b (List.mem_cons_of_mem _ hb))]
theorem sp_scaled (k : Nat) {c : Int} {p : List Int} {n m : Nat} (hc : Bd n c) (hp : AB m p) (hnm : n + m < 100000000) (hl : p.length ≤ 1000000) : (Γ (k + 2)).call 121 [.int c, pD p] S = .ok (.v (pD (pscale c p))) S := by
  rw [call_n tab_scaled rfl]
  have e1 := lc_scale (k + 1) hc hnm hp (T := S) (o1 := some (pD p))
  have e2 := sp_trimmed_l (S := S ++ [.lst ((p.map (c * ·)).map .int)]) k (n := S.length) get_at0
  have it : ∀ T : Sto, itemsOf (.v (pD p)) T = some (p.map .int, [none]) := fun _ => rfl
  have l1 : lstR ((p.map (c * ·)).map D.int) S = .ok (.f ((p.map (c * ·)).map .int)) S := lstR_ok (by rw [List.length_map, List.length_map]; show p.length ≤ 1048576; omega)
  simp only [fd_scaled, ev_int, ev_bl, ev_non, ev_str, ev_var, ev_glob, ev_bin, ev_neg, ev_not, ev_cmp, ev_chain, ev_and, ev_or, ev_ife, ev_tup, ev_lst, ev_ix, ev_sl, ev_omit, ev_slr, ev_call, ev_b1, ev_b2, ev_isi, ev_meth, ev_lc, ev_lcif, ev_rng, ev_enum, ev_zip, ev_rev, evs_n, evs_c, alloc_v, alloc_f, setR_eq, ex_set, ex_tset, ex_sset, ex_saug, ex_ex, ex_ret, ex_retN, ex_ite, ex_whl, ex_for, ex_pass, ex_brk, ex_cnt, ex_raise, ex_try, exs_n, exs_c, tried_ok, tried_exc, rs_ret, rs_nx, rs_exc, R.bind_ok, R.bind_exc, R.bind_bad, R.st_ok, R.st_exc, RS.seq_nx, RS.seq_ret, RS.seq_bk, RS.seq_ct, RS.seq_exc, RS.turn_nx, RS.turn_ct, RS.turn_bk, RS.turn_ret, RS.turn_exc, R.nox_ok, orBad_some, lookV_some, lookD_some, onI_int, onLoc_loc, onB_true, onB_false, onB_dec, onBS_true, onBS_false, onBS_dec, bin_int, cmp_lt, cmp_le, cmp_gt, cmp_ge, cmp_eq, cmp_ne, cmp_isb, cmp_isnb, b1_int, b1_intb, b1_abs, b1_lent, b1_lenc, ix_t, ix_c, atR_def, at0, at1, at2, at3, at4, at5, add_of, sub_of, List.map_cons, List.map_nil, List.length_cons, List.length_nil, List.cons_append, List.nil_append, List.replicate_succ, List.replicate_zero, List.getElem?_cons_zero, List.getElem?_cons_succ, List.set_cons_zero, List.set_cons_succ, Nat.zero_add, Nat.reduceAdd, Nat.reduceSub, tupR_0, tupR_1, tupR_2, tupR_3, tupR_4, tupR_5, lstR_0, lstR_1, lstR_2, lstR_3, lstR_4, lstR_5, lstR_6, lstR_7, lstR_8, lstR_9, lstR_10, lstR_11, lstR_12, isi_int, isi_bl, isi_tup, isi_non, isi_str, fin_bl, fin_int, fin_non, fin_str, finX0, handle_hit, handle_nil, hx_bl, hx_str, hx_int, hx_non, hx_cnt, hx_pass, forR_it, forR_f, forR_t, forR_c, gmg, b1_repr, ne_repr, b2_max, b2_min, set_at0, set_at1, set_at2, set_at3, get_at0, get_at1, get_at2, get_at3, List.append_assoc, List.append_nil, List.length_append, List.length_set, Nat.add_zero, it, e1, l1, e2, fin_pG]
  rfl
theorem sp_difference (k : Nat) {p q : List Int} {m : Nat} (hq : AB m q) (hm : 1 + m < 100000000) (hl : p.length + q.length ≤ 1000000) : (Γ (k + 3)).call 122 [pD p, pD q] S = .ok (.v (pD (pdif p q))) S := by
  rw [call_n tab_difference rfl]
  have e1 := sp_scaled (S := S) k (c := -1) (n := 1) (by show (1 : Nat) < 2; decide) hq hm (by omega)
  have e2 := sp_sum (S := S) k (p := p) (q := pscale (-1) q) (by have := pscale_len (c := -1) (p := q); omega)
  simp only [fd_difference, ev_int, ev_bl, ev_non, ev_str, ev_var, ev_glob, ev_bin, ev_neg, ev_not, ev_cmp, ev_chain, ev_and, ev_or, ev_ife, ev_tup, ev_lst, ev_ix, ev_sl, ev_omit, ev_slr, ev_call, ev_b1, ev_b2, ev_isi, ev_meth, ev_lc, ev_lcif, ev_rng, ev_enum, ev_zip, ev_rev, evs_n, evs_c, alloc_v, alloc_f, setR_eq, ex_set, ex_tset, ex_sset, ex_saug, ex_ex, ex_ret, ex_retN, ex_ite, ex_whl, ex_for, ex_pass, ex_brk, ex_cnt, ex_raise, ex_try, exs_n, exs_c, tried_ok, tried_exc, rs_ret, rs_nx, rs_exc, R.bind_ok, R.bind_exc, R.bind_bad, R.st_ok, R.st_exc, RS.seq_nx, RS.seq_ret, RS.seq_bk, RS.seq_ct, RS.seq_exc, RS.turn_nx, RS.turn_ct, RS.turn_bk, RS.turn_ret, RS.turn_exc, R.nox_ok, orBad_some, lookV_some, lookD_some, onI_int, onLoc_loc, onB_true, onB_false, onB_dec, onBS_true, onBS_false, onBS_dec, bin_int, cmp_lt, cmp_le, cmp_gt, cmp_ge, cmp_eq, cmp_ne, cmp_isb, cmp_isnb, b1_int, b1_intb, b1_abs, b1_lent, b1_lenc, ix_t, ix_c, atR_def, at0, at1, at2, at3, at4, at5, add_of, sub_of, List.map_cons, List.map_nil, List.length_cons, List.length_nil, List.cons_append, List.nil_append, List.replicate_succ, List.replicate_zero, List.getElem?_cons_zero, List.getElem?_cons_succ, List.set_cons_zero, List.set_cons_succ, Nat.zero_add, Nat.reduceAdd, Nat.reduceSub, tupR_0, tupR_1, tupR_2, tupR_3, tupR_4, tupR_5, lstR_0, lstR_1, lstR_2, lstR_3, lstR_4, lstR_5, lstR_6, lstR_7, lstR_8, lstR_9, lstR_10, lstR_11, lstR_12, isi_int, isi_bl, isi_tup, isi_non, isi_str, fin_bl, fin_int, fin_non, fin_str, finX0, handle_hit, handle_nil, hx_bl, hx_str, hx_int, hx_non, hx_cnt, hx_pass, forR_it, forR_f, forR_t, forR_c, gmg, b1_repr, ne_repr, b2_max, b2_min, set_at0, set_at1, set_at2, set_at3, get_at0, get_at1, get_at2, get_at3, List.append_assoc, List.append_nil, List.length_append, List.length_set, Nat.add_zero, e1, e2, fin_p]
  rfl
/-- found[i + j] += n * m along q -/
theorem mul_loop2 (k : Nat) {n : Nat} {o0 o1 : Option D} {a : Int} {i na m : Nat} (ha : Bd na a) (hnm : na + m < 100000000) : ∀ (q : List Int) (j : Nat) (f : List Int) (T : Sto) (o5 o6 : Option D), AB m q → T[n]? = some (.lst (f.map .int)) → i + j + q.length ≤ f.length →
    ∃ o5' o6', frs (Γ k) [none] (.tup [.name 5, .name 6]) fd_product_l2 (enumFrom j (q.map .int)) [o0, o1, some (.loc n), some (.int i), some (.int a), o5, o6] T = .ok .nx [o0, o1, some (.loc n), some (.int i), some (.int a), o5', o6'] (T.set n (.lst ((addAt (i + j) (q.map (a * ·)) f).map .int)))
  | [], j, f, T, o5, o6, _, h, hl => ⟨o5, o6, by rw [show enumFrom j (([] : List Int).map D.int) = [] from rfl, frs_nil noneSrc, List.map_nil, show addAt (i + j) [] f = f from rfl, set_same h]⟩
  | b :: q, j, f, T, o5, o6, hq, h, hl => by
    simp only [List.length_cons] at hl
    have hn : n < T.length := (List.getElem?_eq_some_iff.mp h).1
    have m1 := mul_of ha (hq b List.mem_cons_self) hnm
    have ei : (i : Int) + (j : Int) = ((i + j : Nat) : Int) := by omega
    have hx : execs (Γ k) fd_product_l2 [o0, o1, some (.loc n), some (.int i), some (.int a), some (.int j), some (.int b)] T = .ok .nx [o0, o1, some (.loc n), some (.int i), some (.int a), some (.int j), some (.int b)] (T.set n (.lst ((f.set (i + j) (f[i + j]?.getD 0 + a * b)).map .int))) := by
      simp only [fd_product_l2, ev_int, ev_bl, ev_non, ev_str, ev_var, ev_glob, ev_bin, ev_neg, ev_not, ev_cmp, ev_chain, ev_and, ev_or, ev_ife, ev_tup, ev_lst, ev_ix, ev_sl, ev_omit, ev_slr, ev_call, ev_b1, ev_b2, ev_isi, ev_meth, ev_lc, ev_lcif, ev_rng, ev_enum, ev_zip, ev_rev, evs_n, evs_c, alloc_v, alloc_f, setR_eq, ex_set, ex_tset, ex_sset, ex_saug, ex_ex, ex_ret, ex_retN, ex_ite, ex_whl, ex_for, ex_pass, ex_brk, ex_cnt, ex_raise, ex_try, exs_n, exs_c, tried_ok, tried_exc, rs_ret, rs_nx, rs_exc, R.bind_ok, R.bind_exc, R.bind_bad, R.st_ok, R.st_exc, RS.seq_nx, RS.seq_ret, RS.seq_bk, RS.seq_ct, RS.seq_exc, RS.turn_nx, RS.turn_ct, RS.turn_bk, RS.turn_ret, RS.turn_exc, R.nox_ok, orBad_some, lookV_some, lookD_some, onI_int, onLoc_loc, onB_true, onB_false, onB_dec, onBS_true, onBS_false, onBS_dec, bin_int, cmp_lt, cmp_le, cmp_gt, cmp_ge, cmp_eq, cmp_ne, cmp_isb, cmp_isnb, b1_int, b1_intb, b1_abs, b1_lent, b1_lenc, ix_t, ix_c, atR_def, at0, at1, at2, at3, at4, at5, add_of, sub_of, List.map_cons, List.map_nil, List.length_cons, List.length_nil, List.cons_append, List.nil_append, List.replicate_succ, List.replicate_zero, List.getElem?_cons_zero, List.getElem?_cons_succ, List.set_cons_zero, List.set_cons_succ, Nat.zero_add, Nat.reduceAdd, Nat.reduceSub, tupR_0, tupR_1, tupR_2, tupR_3, tupR_4, tupR_5, lstR_0, lstR_1, lstR_2, lstR_3, lstR_4, lstR_5, lstR_6, lstR_7, lstR_8, lstR_9, lstR_10, lstR_11, lstR_12, isi_int, isi_bl, isi_tup, isi_non, isi_str, fin_bl, fin_int, fin_non, fin_str, finX0, handle_hit, handle_nil, hx_bl, hx_str, hx_int, hx_non, hx_cnt, hx_pass, forR_it, forR_f, forR_t, forR_c, gmg, b1_repr, ne_repr, b2_max, b2_min, set_at0, set_at1, set_at2, set_at3, get_at0, get_at1, get_at2, get_at3, List.append_assoc, List.append_nil, List.length_append, List.length_set, Nat.add_zero, ei, m1, ixLR_ok h (at_ints (show i + j < f.length by omega)), saugR_ok (add_of), set_ints h (show i + j < f.length by omega)]
    rw [enum_map, frs_nx noneSrc rfl hx]
    obtain ⟨p5, p6, e⟩ := mul_loop2 (i := i) k ha hnm q (j + 1) (f.set (i + j) (f[i + j]?.getD 0 + a * b)) _ (some (.int j)) (some (.int b)) (fun c hc => hq c (List.mem_cons_of_mem _ hc)) (get_set hn) (by rw [List.length_set]; omega)
    refine ⟨p5, p6, ?_⟩
    rw [e, List.set_set]
    rfl
theorem mul_loop (k : Nat) {n : Nat} {o0 : Option D} {q : List Int} {na m : Nat} (hq : AB m q) (hnm : na + m < 100000000) : ∀ (p : List Int) (i : Nat) (f : List Int) (T : Sto) (o3 o4 o5 o6 : Option D), AB na p → T[n]? = some (.lst (f.map .int)) → (i + p.length + q.length ≤ f.length + 1 ∨ q = []) →
    ∃ o3' o4' o5' o6', frs (Γ k) [none] (.tup [.name 3, .name 4]) fd_product_l1 (enumFrom i (p.map .int)) [o0, some (pD q), some (.loc n), o3, o4, o5, o6] T = .ok .nx [o0, some (pD q), some (.loc n), o3', o4', o5', o6'] (T.set n (.lst ((mulAt i p q f).map .int)))
  | [], i, f, T, o3, o4, o5, o6, _, h, hl => ⟨o3, o4, o5, o6, by rw [show enumFrom i (([] : List Int).map D.int) = [] from rfl, frs_nil noneSrc, show mulAt i [] q f = f from rfl, set_same h]⟩
  | a :: p, i, f, T, o3, o4, o5, o6, hp, h, hl => by
    have hn : n < T.length := (List.getElem?_eq_some_iff.mp h).1
    obtain ⟨p5, p6, e1⟩ : ∃ o5' o6', frs (Γ k) [none] (.tup [.name 5, .name 6]) fd_product_l2 (enumFrom 0 (q.map .int)) [o0, some (pD q), some (.loc n), some (.int i), some (.int a), o5, o6] T = .ok .nx [o0, some (pD q), some (.loc n), some (.int i), some (.int a), o5', o6'] (T.set n (.lst ((addAt i (q.map (a * ·)) f).map .int))) := by
      rcases hl with hl | hl
      · simp only [List.length_cons] at hl
        exact mul_loop2 (i := i) k (hp a List.mem_cons_self) hnm q 0 f T o5 o6 hq h (by omega)
      · subst hl
        exact ⟨o5, o6, by rw [show enumFrom 0 (([] : List Int).map D.int) = [] from rfl, frs_nil noneSrc, List.map_nil, show addAt i [] f = f from rfl, set_same h]⟩
    have sq : ∀ T : Sto, seqOf T (.v (pD q)) = some (q.map .int) := fun _ => rfl
    have rq : ∀ T : Sto, srcOf T (.v (pD q)) = none := fun _ => rfl
    have hx : execs (Γ k) fd_product_l1 [o0, some (pD q), some (.loc n), some (.int i), some (.int a), o5, o6] T = .ok .nx [o0, some (pD q), some (.loc n), some (.int i), some (.int a), p5, p6] (T.set n (.lst ((addAt i (q.map (a * ·)) f).map .int))) := by
      simp only [fd_product_l1, ev_int, ev_bl, ev_non, ev_str, ev_var, ev_glob, ev_bin, ev_neg, ev_not, ev_cmp, ev_chain, ev_and, ev_or, ev_ife, ev_tup, ev_lst, ev_ix, ev_sl, ev_omit, ev_slr, ev_call, ev_b1, ev_b2, ev_isi, ev_meth, ev_lc, ev_lcif, ev_rng, ev_enum, ev_zip, ev_rev, evs_n, evs_c, alloc_v, alloc_f, setR_eq, ex_set, ex_tset, ex_sset, ex_saug, ex_ex, ex_ret, ex_retN, ex_ite, ex_whl, ex_for, ex_pass, ex_brk, ex_cnt, ex_raise, ex_try, exs_n, exs_c, tried_ok, tried_exc, rs_ret, rs_nx, rs_exc, R.bind_ok, R.bind_exc, R.bind_bad, R.st_ok, R.st_exc, RS.seq_nx, RS.seq_ret, RS.seq_bk, RS.seq_ct, RS.seq_exc, RS.turn_nx, RS.turn_ct, RS.turn_bk, RS.turn_ret, RS.turn_exc, R.nox_ok, orBad_some, lookV_some, lookD_some, onI_int, onLoc_loc, onB_true, onB_false, onB_dec, onBS_true, onBS_false, onBS_dec, bin_int, cmp_lt, cmp_le, cmp_gt, cmp_ge, cmp_eq, cmp_ne, cmp_isb, cmp_isnb, b1_int, b1_intb, b1_abs, b1_lent, b1_lenc, ix_t, ix_c, atR_def, at0, at1, at2, at3, at4, at5, add_of, sub_of, List.map_cons, List.map_nil, List.length_cons, List.length_nil, List.cons_append, List.nil_append, List.replicate_succ, List.replicate_zero, List.getElem?_cons_zero, List.getElem?_cons_succ, List.set_cons_zero, List.set_cons_succ, Nat.zero_add, Nat.reduceAdd, Nat.reduceSub, tupR_0, tupR_1, tupR_2, tupR_3, tupR_4, tupR_5, lstR_0, lstR_1, lstR_2, lstR_3, lstR_4, lstR_5, lstR_6, lstR_7, lstR_8, lstR_9, lstR_10, lstR_11, lstR_12, isi_int, isi_bl, isi_tup, isi_non, isi_str, fin_bl, fin_int, fin_non, fin_str, finX0, handle_hit, handle_nil, hx_bl, hx_str, hx_int, hx_non, hx_cnt, hx_pass, forR_it, forR_f, forR_t, forR_c, gmg, b1_repr, ne_repr, b2_max, b2_min, set_at0, set_at1, set_at2, set_at3, get_at0, get_at1, get_at2, get_at3, List.append_assoc, List.append_nil, List.length_append, List.length_set, Nat.add_zero, sq, rq, e1]
    rw [enum_map, frs_nx noneSrc rfl hx]
    obtain ⟨q3, q4, q5, q6, e⟩ := mul_loop k hq hnm p (i + 1) (addAt i (q.map (a * ·)) f) _ (some (.int i)) (some (.int a)) p5 p6 (fun c hc => hp c (List.mem_cons_of_mem _ hc)) (get_set hn) (by
      rw [addAt_len]
      rcases hl with hl | hl
      · simp only [List.length_cons] at hl
        left
        omega
      · exact .inr hl)
    refine ⟨q3, q4, q5, q6, ?_⟩
    rw [e, List.set_set]
    rfl
theorem sp_product (k : Nat) {p q : List Int} {n m : Nat} (hp : AB n p) (hq : AB m q) (hnm : n + m < 100000000) (hl : p.length + q.length ≤ 1000000) : (Γ (k + 2)).call 123 [pD p, pD q] S = .ok (.v (pD (pmul p q))) S := by
  rw [call_n tab_product rfl]
  have hm : (if (p.length : Int) + (q.length : Int) - 1 > 0 then (p.length : Int) + (q.length : Int) - 1 else 0) = ((p.length + q.length - 1 : Nat) : Int) := by split <;> omega
  have hr := rep0P (S := S) hl
  obtain ⟨a3, a4, a5, a6, e1⟩ := mul_loop (k + 1) (o0 := some (pD p)) (n := S.length) hq hnm p 0 (List.replicate (p.length + q.length - 1) 0) (S ++ [.lst ((List.replicate (p.length + q.length - 1) (0 : Int)).map .int)]) none none none none hp get_at0 (by rw [List.length_replicate]; left; omega)
  rw [set_at0] at e1
  have e3 := sp_trimmed_l (S := S ++ [.lst ((mulAt 0 p q (List.replicate (p.length + q.length - 1) 0)).map .int)]) k (n := S.length) get_at0
  have sp : ∀ T : Sto, seqOf T (.v (pD p)) = some (p.map .int) := fun _ => rfl
  have rp : ∀ T : Sto, srcOf T (.v (pD p)) = none := fun _ => rfl
  simp only [fd_product, ev_int, ev_bl, ev_non, ev_str, ev_var, ev_glob, ev_bin, ev_neg, ev_not, ev_cmp, ev_chain, ev_and, ev_or, ev_ife, ev_tup, ev_lst, ev_ix, ev_sl, ev_omit, ev_slr, ev_call, ev_b1, ev_b2, ev_isi, ev_meth, ev_lc, ev_lcif, ev_rng, ev_enum, ev_zip, ev_rev, evs_n, evs_c, alloc_v, alloc_f, setR_eq, ex_set, ex_tset, ex_sset, ex_saug, ex_ex, ex_ret, ex_retN, ex_ite, ex_whl, ex_for, ex_pass, ex_brk, ex_cnt, ex_raise, ex_try, exs_n, exs_c, tried_ok, tried_exc, rs_ret, rs_nx, rs_exc, R.bind_ok, R.bind_exc, R.bind_bad, R.st_ok, R.st_exc, RS.seq_nx, RS.seq_ret, RS.seq_bk, RS.seq_ct, RS.seq_exc, RS.turn_nx, RS.turn_ct, RS.turn_bk, RS.turn_ret, RS.turn_exc, R.nox_ok, orBad_some, lookV_some, lookD_some, onI_int, onLoc_loc, onB_true, onB_false, onB_dec, onBS_true, onBS_false, onBS_dec, bin_int, cmp_lt, cmp_le, cmp_gt, cmp_ge, cmp_eq, cmp_ne, cmp_isb, cmp_isnb, b1_int, b1_intb, b1_abs, b1_lent, b1_lenc, ix_t, ix_c, atR_def, at0, at1, at2, at3, at4, at5, add_of, sub_of, List.map_cons, List.map_nil, List.length_cons, List.length_nil, List.cons_append, List.nil_append, List.replicate_succ, List.replicate_zero, List.getElem?_cons_zero, List.getElem?_cons_succ, List.set_cons_zero, List.set_cons_succ, Nat.zero_add, Nat.reduceAdd, Nat.reduceSub, tupR_0, tupR_1, tupR_2, tupR_3, tupR_4, tupR_5, lstR_0, lstR_1, lstR_2, lstR_3, lstR_4, lstR_5, lstR_6, lstR_7, lstR_8, lstR_9, lstR_10, lstR_11, lstR_12, isi_int, isi_bl, isi_tup, isi_non, isi_str, fin_bl, fin_int, fin_non, fin_str, finX0, handle_hit, handle_nil, hx_bl, hx_str, hx_int, hx_non, hx_cnt, hx_pass, forR_it, forR_f, forR_t, forR_c, gmg, b1_repr, ne_repr, b2_max, b2_min, set_at0, set_at1, set_at2, set_at3, get_at0, get_at1, get_at2, get_at3, List.append_assoc, List.append_nil, List.length_append, List.length_set, Nat.add_zero, List.length_map, hm, hr, sp, rp, e1, e3, fin_pG]
  rfl
end
end Py
namespace Py
open PySem
theorem ppow_len {p : List Int} {L : Nat} (h : p.length ≤ L) : ∀ e, (ppow p e).length ≤ e * L + 1
  | 0 => Nat.le_of_eq (by simp [ppow])
  | e + 1 => by
    have h1 := pmul_len (p := ppow p e) (q := p)
    have h2 := ppow_len h e
    show (pmul (ppow p e) p).length ≤ _
    rw [Nat.succ_mul]
    omega
theorem ppow_AB {p : List Int} {L n K : Nat} (h : p.length ≤ L) (hp : AB n p) : ∀ e, e ≤ K → AB (1 + e * (n + K * L + 1)) (ppow p e)
  | 0, _ => fun a ha => by
    have : a = 1 := by simpa [ppow] using ha
    subst this
    show (1 : Nat) < 2 ^ _
    exact Nat.one_lt_two_pow (by omega)
  | e + 1, he => by
    have h1 := pmul_AB (ppow_AB (K := K) h hp e (by omega)) hp
    refine h1.mono ?_
    have h2 := ppow_len h e
    have h3 : e * L ≤ K * L := Nat.mul_le_mul_right L (by omega)
    rw [Nat.succ_mul]
    omega
section
variable {S : Sto}
theorem pow_loop (k : Nat) {p : List Int} {L n K : Nat} {o1 : Option D} (h : p.length ≤ L) (hp : AB n p) (hb : 1 + K * (n + K * L + 1) + n < 100000000) (hl : K * L + 1 + L ≤ 1000000) : ∀ (xs : List D) (i : Nat) (o3 : Option D), i + xs.length ≤ K →
    ∃ o3', frs (Γ (k + 2)) [] (.name 3) fd_power_l1 xs [some (pD p), o1, some (pD (ppow p i)), o3] S = .ok .nx [some (pD p), o1, some (pD (ppow p (i + xs.length))), o3'] S
  | [], i, o3, _ => ⟨o3, frs_nil noSrc⟩
  | x :: xs, i, o3, hi => by
    simp only [List.length_cons] at hi
    have h1 := ppow_AB (K := K) h hp i (by omega)
    have h2 := ppow_len h i
    have h3 : i * (n + K * L + 1) ≤ K * (n + K * L + 1) := Nat.mul_le_mul_right _ (by omega)
    have h4 : i * L ≤ K * L := Nat.mul_le_mul_right _ (by omega)
    have e := sp_product (S := S) k h1 hp (by omega) (by omega)
    have hx : execs (Γ (k + 2)) fd_power_l1 [some (pD p), o1, some (pD (ppow p i)), some x] S = .ok .nx [some (pD p), o1, some (pD (ppow p (i + 1))), some x] S := by
      simp only [fd_power_l1, ev_int, ev_bl, ev_non, ev_str, ev_var, ev_glob, ev_bin, ev_neg, ev_not, ev_cmp, ev_chain, ev_and, ev_or, ev_ife, ev_tup, ev_lst, ev_ix, ev_sl, ev_omit, ev_slr, ev_call, ev_b1, ev_b2, ev_isi, ev_meth, ev_lc, ev_lcif, ev_rng, ev_enum, ev_zip, ev_rev, evs_n, evs_c, alloc_v, alloc_f, setR_eq, ex_set, ex_tset, ex_sset, ex_saug, ex_ex, ex_ret, ex_retN, ex_ite, ex_whl, ex_for, ex_pass, ex_brk, ex_cnt, ex_raise, ex_try, exs_n, exs_c, tried_ok, tried_exc, rs_ret, rs_nx, rs_exc, R.bind_ok, R.bind_exc, R.bind_bad, R.st_ok, R.st_exc, RS.seq_nx, RS.seq_ret, RS.seq_bk, RS.seq_ct, RS.seq_exc, RS.turn_nx, RS.turn_ct, RS.turn_bk, RS.turn_ret, RS.turn_exc, R.nox_ok, orBad_some, lookV_some, lookD_some, onI_int, onLoc_loc, onB_true, onB_false, onB_dec, onBS_true, onBS_false, onBS_dec, bin_int, cmp_lt, cmp_le, cmp_gt, cmp_ge, cmp_eq, cmp_ne, cmp_isb, cmp_isnb, b1_int, b1_intb, b1_abs, b1_lent, b1_lenc, ix_t, ix_c, atR_def, at0, at1, at2, at3, at4, at5, add_of, sub_of, List.map_cons, List.map_nil, List.length_cons, List.length_nil, List.cons_append, List.nil_append, List.replicate_succ, List.replicate_zero, List.getElem?_cons_zero, List.getElem?_cons_succ, List.set_cons_zero, List.set_cons_succ, Nat.zero_add, Nat.reduceAdd, Nat.reduceSub, tupR_0, tupR_1, tupR_2, tupR_3, tupR_4, tupR_5, lstR_0, lstR_1, lstR_2, lstR_3, lstR_4, lstR_5, lstR_6, lstR_7, lstR_8, lstR_9, lstR_10, lstR_11, lstR_12, isi_int, isi_bl, isi_tup, isi_non, isi_str, fin_bl, fin_int, fin_non, fin_str, finX0, handle_hit, handle_nil, hx_bl, hx_str, hx_int, hx_non, hx_cnt, hx_pass, forR_it, forR_f, forR_t, forR_c, gmg, b1_repr, ne_repr, b2_max, b2_min, set_at0, set_at1, set_at2, set_at3, get_at0, get_at1, get_at2, get_at3, List.append_assoc, List.append_nil, List.length_append, List.length_set, Nat.add_zero, e]
      rfl
    rw [frs_nx noSrc rfl hx]
    obtain ⟨o, e2⟩ := pow_loop k h hp hb hl xs (i + 1) (some x) (by omega)
    exact ⟨o, by rw [e2, List.length_cons, Nat.add_right_comm]; rfl⟩
theorem sp_power (k : Nat) {p : List Int} {L n e : Nat} (h : p.length ≤ L) (hp : AB n p) (hb : 1 + e * (n + e * L + 1) + n < 100000000) (hl : e * L + 1 + L ≤ 1000000) (he : e < 1000000) : (Γ (k + 3)).call 209 [pD p, .int e] S = .ok (.v (pD (ppow p e))) S := by
  rw [call_n tab_power rfl]
  have hr : rngW [.int (e : Int)] = some (rangeD 0 e) := rng_1 (by unfold small; exact decide_eq_true (by omega))
  have hlen : (rangeD 0 (e : Int)).length = e := by rw [range_len]; omega
  obtain ⟨o, e1⟩ := pow_loop (S := S) k (K := e) (o1 := some (.int e)) h hp hb hl (rangeD 0 e) 0 none (by omega)
  rw [hlen, Nat.zero_add] at e1
  have i1 : D.tup [.int 1] = pD (ppow p 0) := rfl
  simp only [fd_power, ev_int, ev_bl, ev_non, ev_str, ev_var, ev_glob, ev_bin, ev_neg, ev_not, ev_cmp, ev_chain, ev_and, ev_or, ev_ife, ev_tup, ev_lst, ev_ix, ev_sl, ev_omit, ev_slr, ev_call, ev_b1, ev_b2, ev_isi, ev_meth, ev_lc, ev_lcif, ev_rng, ev_enum, ev_zip, ev_rev, evs_n, evs_c, alloc_v, alloc_f, setR_eq, ex_set, ex_tset, ex_sset, ex_saug, ex_ex, ex_ret, ex_retN, ex_ite, ex_whl, ex_for, ex_pass, ex_brk, ex_cnt, ex_raise, ex_try, exs_n, exs_c, tried_ok, tried_exc, rs_ret, rs_nx, rs_exc, R.bind_ok, R.bind_exc, R.bind_bad, R.st_ok, R.st_exc, RS.seq_nx, RS.seq_ret, RS.seq_bk, RS.seq_ct, RS.seq_exc, RS.turn_nx, RS.turn_ct, RS.turn_bk, RS.turn_ret, RS.turn_exc, R.nox_ok, orBad_some, lookV_some, lookD_some, onI_int, onLoc_loc, onB_true, onB_false, onB_dec, onBS_true, onBS_false, onBS_dec, bin_int, cmp_lt, cmp_le, cmp_gt, cmp_ge, cmp_eq, cmp_ne, cmp_isb, cmp_isnb, b1_int, b1_intb, b1_abs, b1_lent, b1_lenc, ix_t, ix_c, atR_def, at0, at1, at2, at3, at4, at5, add_of, sub_of, List.map_cons, List.map_nil, List.length_cons, List.length_nil, List.cons_append, List.nil_append, List.replicate_succ, List.replicate_zero, List.getElem?_cons_zero, List.getElem?_cons_succ, List.set_cons_zero, List.set_cons_succ, Nat.zero_add, Nat.reduceAdd, Nat.reduceSub, tupR_0, tupR_1, tupR_2, tupR_3, tupR_4, tupR_5, lstR_0, lstR_1, lstR_2, lstR_3, lstR_4, lstR_5, lstR_6, lstR_7, lstR_8, lstR_9, lstR_10, lstR_11, lstR_12, isi_int, isi_bl, isi_tup, isi_non, isi_str, fin_bl, fin_int, fin_non, fin_str, finX0, handle_hit, handle_nil, hx_bl, hx_str, hx_int, hx_non, hx_cnt, hx_pass, forR_it, forR_f, forR_t, forR_c, gmg, b1_repr, ne_repr, b2_max, b2_min, set_at0, set_at1, set_at2, set_at3, get_at0, get_at1, get_at2, get_at3, List.append_assoc, List.append_nil, List.length_append, List.length_set, Nat.add_zero, hr]
  rw [i1, e1]
  simp only [ev_int, ev_bl, ev_non, ev_str, ev_var, ev_glob, ev_bin, ev_neg, ev_not, ev_cmp, ev_chain, ev_and, ev_or, ev_ife, ev_tup, ev_lst, ev_ix, ev_sl, ev_omit, ev_slr, ev_call, ev_b1, ev_b2, ev_isi, ev_meth, ev_lc, ev_lcif, ev_rng, ev_enum, ev_zip, ev_rev, evs_n, evs_c, alloc_v, alloc_f, setR_eq, ex_set, ex_tset, ex_sset, ex_saug, ex_ex, ex_ret, ex_retN, ex_ite, ex_whl, ex_for, ex_pass, ex_brk, ex_cnt, ex_raise, ex_try, exs_n, exs_c, tried_ok, tried_exc, rs_ret, rs_nx, rs_exc, R.bind_ok, R.bind_exc, R.bind_bad, R.st_ok, R.st_exc, RS.seq_nx, RS.seq_ret, RS.seq_bk, RS.seq_ct, RS.seq_exc, RS.turn_nx, RS.turn_ct, RS.turn_bk, RS.turn_ret, RS.turn_exc, R.nox_ok, orBad_some, lookV_some, lookD_some, onI_int, onLoc_loc, onB_true, onB_false, onB_dec, onBS_true, onBS_false, onBS_dec, bin_int, cmp_lt, cmp_le, cmp_gt, cmp_ge, cmp_eq, cmp_ne, cmp_isb, cmp_isnb, b1_int, b1_intb, b1_abs, b1_lent, b1_lenc, ix_t, ix_c, atR_def, at0, at1, at2, at3, at4, at5, add_of, sub_of, List.map_cons, List.map_nil, List.length_cons, List.length_nil, List.cons_append, List.nil_append, List.replicate_succ, List.replicate_zero, List.getElem?_cons_zero, List.getElem?_cons_succ, List.set_cons_zero, List.set_cons_succ, Nat.zero_add, Nat.reduceAdd, Nat.reduceSub, tupR_0, tupR_1, tupR_2, tupR_3, tupR_4, tupR_5, lstR_0, lstR_1, lstR_2, lstR_3, lstR_4, lstR_5, lstR_6, lstR_7, lstR_8, lstR_9, lstR_10, lstR_11, lstR_12, isi_int, isi_bl, isi_tup, isi_non, isi_str, fin_bl, fin_int, fin_non, fin_str, finX0, handle_hit, handle_nil, hx_bl, hx_str, hx_int, hx_non, hx_cnt, hx_pass, forR_it, forR_f, forR_t, forR_c, gmg, b1_repr, ne_repr, b2_max, b2_min, set_at0, set_at1, set_at2, set_at3, get_at0, get_at1, get_at2, get_at3, List.append_assoc, List.append_nil, List.length_append, List.length_set, Nat.add_zero, fin_p]
end
def derAt : Nat → List Int → List Int
  | _, [] => []
  | j, a :: p => (j : Int) * a :: derAt (j + 1) p
def pder (p : List Int) : List Int := (derAt 0 p).drop 1
theorem derAt_len : ∀ (p : List Int) (j : Nat), (derAt j p).length = p.length
  | [], _ => rfl
  | a :: p, j => by
    show (derAt (j + 1) p).length + 1 = p.length + 1
    rw [derAt_len p]
theorem trim_derAt : ∀ (l : List Int) (j : Nat), trim (derAt (j + 1) l) = derAt (j + 1) (trim l)
  | [], _ => rfl
  | a :: l, j => by
    have ih := trim_derAt l (j + 1)
    show trim (((j + 1 : Nat) : Int) * a :: derAt (j + 1 + 1) l) = _
    conv => lhs; unfold trim
    conv => rhs; rhs; unfold trim
    rw [ih]
    cases h : trim l with
    | nil =>
      show (if ((j + 1 : Nat) : Int) * a = 0 then [] else [((j + 1 : Nat) : Int) * a]) = _
      by_cases ha : a = 0
      · subst ha
        simp [derAt]
      · have : ¬ (((j + 1 : Nat) : Int) * a = 0) := fun z => by
          rcases Int.mul_eq_zero.mp z with z | z
          · omega
          · exact ha z
        rw [if_neg this]
        simp [ha, derAt]
    | cons b r => rfl
theorem Tr.tail {a : Int} {l : List Int} (h : Tr (a :: l)) : Tr l := by
  unfold Tr at h ⊢
  unfold trim at h
  cases e : trim l with
  | nil =>
    rw [e] at h
    by_cases ha : a = 0
    · simp [ha] at h
    · simp [ha] at h
      exact h.symm ▸ rfl
  | cons b r =>
    rw [e] at h
    simpa using h
theorem pder_tr {p : List Int} (h : Tr p) : Tr (pder p) := by
  cases p with
  | nil => rfl
  | cons a p =>
    show trim (derAt 1 p) = derAt 1 p
    rw [trim_derAt p 0, h.tail]
theorem derAt_AB {n m : Nat} : ∀ (p : List Int) (j : Nat), AB n p → j + p.length ≤ 2 ^ m → AB (m + n) (derAt j p)
  | [], _, _, _ => fun _ h => by cases h
  | a :: p, j, hp, hl => by
    simp only [List.length_cons] at hl
    refine AB.cons (Bd.mul ?_ (hp a List.mem_cons_self)) (derAt_AB p (j + 1) (fun b hb => hp b (List.mem_cons_of_mem _ hb)) (by omega))
    exact bd_n (by omega)
section
variable {S : Sto}
theorem lc_der (k : Nat) {m n : Nat} (hmn : m + n < 100000000) {o0 : Option D} : ∀ (p : List Int) (j : Nat), AB n p → j + p.length ≤ 2 ^ m →
    lcR (Γ k) (.bin .Mult (.var 1) (.var 2)) [1, 2] (.tup [.name 1, .name 2]) [o0, none, none] [none] (enumFrom j (p.map .int)) S = .ok ((derAt j p).map .int) S
  | [], j, _, _ => lcR_nil noneSrc
  | a :: p, j, hp, hl => by
    simp only [List.length_cons] at hl
    have m1 := mul_of (bd_n (x := j) (n := m) (by omega)) (hp a List.mem_cons_self) hmn
    rw [enum_map, lcR_cons (env1 := [o0, some (.int j), some (.int a)]) noneSrc rfl]
    simp only [ev_int, ev_bl, ev_non, ev_str, ev_var, ev_glob, ev_bin, ev_neg, ev_not, ev_cmp, ev_chain, ev_and, ev_or, ev_ife, ev_tup, ev_lst, ev_ix, ev_sl, ev_omit, ev_slr, ev_call, ev_b1, ev_b2, ev_isi, ev_meth, ev_lc, ev_lcif, ev_rng, ev_enum, ev_zip, ev_rev, evs_n, evs_c, alloc_v, alloc_f, setR_eq, ex_set, ex_tset, ex_sset, ex_saug, ex_ex, ex_ret, ex_retN, ex_ite, ex_whl, ex_for, ex_pass, ex_brk, ex_cnt, ex_raise, ex_try, exs_n, exs_c, tried_ok, tried_exc, rs_ret, rs_nx, rs_exc, R.bind_ok, R.bind_exc, R.bind_bad, R.st_ok, R.st_exc, RS.seq_nx, RS.seq_ret, RS.seq_bk, RS.seq_ct, RS.seq_exc, RS.turn_nx, RS.turn_ct, RS.turn_bk, RS.turn_ret, RS.turn_exc, R.nox_ok, orBad_some, lookV_some, lookD_some, onI_int, onLoc_loc, onB_true, onB_false, onB_dec, onBS_true, onBS_false, onBS_dec, bin_int, cmp_lt, cmp_le, cmp_gt, cmp_ge, cmp_eq, cmp_ne, cmp_isb, cmp_isnb, b1_int, b1_intb, b1_abs, b1_lent, b1_lenc, ix_t, ix_c, atR_def, at0, at1, at2, at3, at4, at5, add_of, sub_of, List.map_cons, List.map_nil, List.length_cons, List.length_nil, List.cons_append, List.nil_append, List.replicate_succ, List.replicate_zero, List.getElem?_cons_zero, List.getElem?_cons_succ, List.set_cons_zero, List.set_cons_succ, Nat.zero_add, Nat.reduceAdd, Nat.reduceSub, tupR_0, tupR_1, tupR_2, tupR_3, tupR_4, tupR_5, lstR_0, lstR_1, lstR_2, lstR_3, lstR_4, lstR_5, lstR_6, lstR_7, lstR_8, lstR_9, lstR_10, lstR_11, lstR_12, isi_int, isi_bl, isi_tup, isi_non, isi_str, fin_bl, fin_int, fin_non, fin_str, finX0, handle_hit, handle_nil, hx_bl, hx_str, hx_int, hx_non, hx_cnt, hx_pass, forR_it, forR_f, forR_t, forR_c, gmg, b1_repr, ne_repr, b2_max, b2_min, set_at0, set_at1, set_at2, set_at3, get_at0, get_at1, get_at2, get_at3, List.append_assoc, List.append_nil, List.length_append, List.length_set, Nat.add_zero, m1, lc_der k hmn p (j + 1) (fun b hb => hp b (List.mem_cons_of_mem _ hb)) (by omega)]
    rfl
theorem sp_derivative (k : Nat) {p : List Int} {m n : Nat} (hp : AB n p) (hl : p.length ≤ 2 ^ m) (hmn : m + n < 100000000) (hl2 : p.length ≤ 1000000) : (Γ (k + 1)).call 210 [pD p] S = .ok (.v (pD (pder p))) S := by
  rw [call_n tab_derivative rfl]
  have e := lc_der (S := S) k hmn (o0 := some (pD p)) p 0 hp (by omega)
  have sp : ∀ T : Sto, seqOf T (.v (pD p)) = some (p.map .int) := fun _ => rfl
  have rp : ∀ T : Sto, srcOf T (.v (pD p)) = none := fun _ => rfl
  have it : ∀ (xs : List D) (s : List Src) (T : Sto), itemsOf (.it xs s) T = some (xs, s) := fun _ _ _ => rfl
  have l1 : lstR ((derAt 0 p).map D.int) S = .ok (.f ((derAt 0 p).map .int)) S := lstR_ok (by rw [List.length_map, derAt_len]; show p.length ≤ 1048576; omega)
  have p1 : partOf (.v (.int 1)) = some (some 1) := rfl
  have p2 : partOf (.it [] []) = some none := rfl
  have s1 : slW (.f ((derAt 0 p).map D.int)) (some 1) none S = some (.f ((pder p).map .int)) := by
    show some (W.f (cut ((derAt 0 p).map D.int) (some 1) none)) = _
    congr 2
    unfold cut sIx pder
    rw [List.map_drop, List.length_map]
    cases hq : derAt 0 p with
    | nil => rfl
    | cons a l =>
      simp
      exact List.take_of_length_le (by rw [List.length_map]; exact Nat.le_refl _)
  simp only [fd_derivative, ev_int, ev_bl, ev_non, ev_str, ev_var, ev_glob, ev_bin, ev_neg, ev_not, ev_cmp, ev_chain, ev_and, ev_or, ev_ife, ev_tup, ev_lst, ev_ix, ev_sl, ev_omit, ev_slr, ev_call, ev_b1, ev_b2, ev_isi, ev_meth, ev_lc, ev_lcif, ev_rng, ev_enum, ev_zip, ev_rev, evs_n, evs_c, alloc_v, alloc_f, setR_eq, ex_set, ex_tset, ex_sset, ex_saug, ex_ex, ex_ret, ex_retN, ex_ite, ex_whl, ex_for, ex_pass, ex_brk, ex_cnt, ex_raise, ex_try, exs_n, exs_c, tried_ok, tried_exc, rs_ret, rs_nx, rs_exc, R.bind_ok, R.bind_exc, R.bind_bad, R.st_ok, R.st_exc, RS.seq_nx, RS.seq_ret, RS.seq_bk, RS.seq_ct, RS.seq_exc, RS.turn_nx, RS.turn_ct, RS.turn_bk, RS.turn_ret, RS.turn_exc, R.nox_ok, orBad_some, lookV_some, lookD_some, onI_int, onLoc_loc, onB_true, onB_false, onB_dec, onBS_true, onBS_false, onBS_dec, bin_int, cmp_lt, cmp_le, cmp_gt, cmp_ge, cmp_eq, cmp_ne, cmp_isb, cmp_isnb, b1_int, b1_intb, b1_abs, b1_lent, b1_lenc, ix_t, ix_c, atR_def, at0, at1, at2, at3, at4, at5, add_of, sub_of, List.map_cons, List.map_nil, List.length_cons, List.length_nil, List.cons_append, List.nil_append, List.replicate_succ, List.replicate_zero, List.getElem?_cons_zero, List.getElem?_cons_succ, List.set_cons_zero, List.set_cons_succ, Nat.zero_add, Nat.reduceAdd, Nat.reduceSub, tupR_0, tupR_1, tupR_2, tupR_3, tupR_4, tupR_5, lstR_0, lstR_1, lstR_2, lstR_3, lstR_4, lstR_5, lstR_6, lstR_7, lstR_8, lstR_9, lstR_10, lstR_11, lstR_12, isi_int, isi_bl, isi_tup, isi_non, isi_str, fin_bl, fin_int, fin_non, fin_str, finX0, handle_hit, handle_nil, hx_bl, hx_str, hx_int, hx_non, hx_cnt, hx_pass, forR_it, forR_f, forR_t, forR_c, gmg, b1_repr, ne_repr, b2_max, b2_min, set_at0, set_at1, set_at2, set_at3, get_at0, get_at1, get_at2, get_at3, List.append_assoc, List.append_nil, List.length_append, List.length_set, Nat.add_zero, sp, rp, it, e, l1, p1, p2, s1, b1_tup_f, fin_p]
end
end Py
namespace Py
open PySem
def contF : Nat → List Int → Nat
  | c, [] => c
  | c, a :: p => contF (Int.gcd c a) p
theorem contF_dvd : ∀ (p : List Int) (c : Nat), (contF c p : Int) ∣ c ∧ ∀ a ∈ p, (contF c p : Int) ∣ a
  | [], c => ⟨Int.dvd_refl _, fun _ h => by cases h⟩
  | b :: p, c => by
    obtain ⟨h1, h2⟩ := contF_dvd p (Int.gcd c b)
    show ((contF (Int.gcd c b) p : Nat) : Int) ∣ c ∧ _
    refine ⟨Int.dvd_trans h1 (Int.gcd_dvd_left _ _), fun a ha => ?_⟩
    rcases List.mem_cons.mp ha with e | ha
    · rw [e]
      exact Int.dvd_trans h1 (Int.gcd_dvd_right _ _)
    · exact h2 a ha
theorem contF_zero : ∀ (p : List Int) (c : Nat), contF c p = 0 → c = 0 ∧ ∀ a ∈ p, a = 0
  | [], c, h => ⟨h, fun _ h => by cases h⟩
  | b :: p, c, h => by
    obtain ⟨h1, h2⟩ := contF_zero p (Int.gcd c b) h
    have h3 := Int.gcd_eq_zero_iff.mp h1
    refine ⟨by omega, fun a ha => ?_⟩
    rcases List.mem_cons.mp ha with e | ha
    · rw [e]
      exact h3.2
    · exact h2 a ha
theorem contF_bd {n : Nat} (p : List Int) (h : AB n p) : Bd n (contF 0 p : Int) := by
  cases hp : contF 0 p with
  | zero => exact Nat.two_pow_pos _
  | succ m =>
    by_cases hz : ∀ a ∈ p, a = 0
    · have : contF 0 p = 0 := by
        clear hp h
        induction p with
        | nil => rfl
        | cons a p ih =>
          have ha := hz a List.mem_cons_self
          subst ha
          exact ih fun b hb => hz b (List.mem_cons_of_mem _ hb)
      omega
    · obtain ⟨a, ha⟩ := Classical.not_forall.mp hz
      obtain ⟨ha, hne⟩ := Classical.not_imp.mp ha
      have hd := (contF_dvd p 0).2 a ha
      rw [hp] at hd
      refine (h a ha).le ?_
      exact Nat.le_of_dvd (by omega) (Int.natAbs_dvd_natAbs.mpr hd)
section
variable {S : Sto}
theorem cont_loop (k : Nat) {o0 : Option D} : ∀ (p : List Int) (c : Nat) (o2 : Option D),
    ∃ o2', frs (Γ (k + 1)) [none] (.name 2) fd_content_l1 (p.map .int) [o0, some (.int c), o2] S = .ok .nx [o0, some (.int (contF c p)), o2'] S
  | [], c, o2 => ⟨o2, frs_nil noneSrc⟩
  | a :: p, c, o2 => by
    have e := sp_gcd_of (S := S) k c a
    have hx : execs (Γ (k + 1)) fd_content_l1 [o0, some (.int c), some (.int a)] S = .ok .nx [o0, some (.int (Int.gcd c a)), some (.int a)] S := by
      simp only [fd_content_l1, ev_int, ev_bl, ev_non, ev_str, ev_var, ev_glob, ev_bin, ev_neg, ev_not, ev_cmp, ev_chain, ev_and, ev_or, ev_ife, ev_tup, ev_lst, ev_ix, ev_sl, ev_omit, ev_slr, ev_call, ev_b1, ev_b2, ev_isi, ev_meth, ev_lc, ev_lcif, ev_rng, ev_enum, ev_zip, ev_rev, evs_n, evs_c, alloc_v, alloc_f, setR_eq, ex_set, ex_tset, ex_sset, ex_saug, ex_ex, ex_ret, ex_retN, ex_ite, ex_whl, ex_for, ex_pass, ex_brk, ex_cnt, ex_raise, ex_try, exs_n, exs_c, tried_ok, tried_exc, rs_ret, rs_nx, rs_exc, R.bind_ok, R.bind_exc, R.bind_bad, R.st_ok, R.st_exc, RS.seq_nx, RS.seq_ret, RS.seq_bk, RS.seq_ct, RS.seq_exc, RS.turn_nx, RS.turn_ct, RS.turn_bk, RS.turn_ret, RS.turn_exc, R.nox_ok, orBad_some, lookV_some, lookD_some, onI_int, onLoc_loc, onB_true, onB_false, onB_dec, onBS_true, onBS_false, onBS_dec, bin_int, cmp_lt, cmp_le, cmp_gt, cmp_ge, cmp_eq, cmp_ne, cmp_isb, cmp_isnb, b1_int, b1_intb, b1_abs, b1_lent, b1_lenc, ix_t, ix_c, atR_def, at0, at1, at2, at3, at4, at5, add_of, sub_of, List.map_cons, List.map_nil, List.length_cons, List.length_nil, List.cons_append, List.nil_append, List.replicate_succ, List.replicate_zero, List.getElem?_cons_zero, List.getElem?_cons_succ, List.set_cons_zero, List.set_cons_succ, Nat.zero_add, Nat.reduceAdd, Nat.reduceSub, tupR_0, tupR_1, tupR_2, tupR_3, tupR_4, tupR_5, lstR_0, lstR_1, lstR_2, lstR_3, lstR_4, lstR_5, lstR_6, lstR_7, lstR_8, lstR_9, lstR_10, lstR_11, lstR_12, isi_int, isi_bl, isi_tup, isi_non, isi_str, fin_bl, fin_int, fin_non, fin_str, finX0, handle_hit, handle_nil, hx_bl, hx_str, hx_int, hx_non, hx_cnt, hx_pass, forR_it, forR_f, forR_t, forR_c, gmg, b1_repr, ne_repr, b2_max, b2_min, set_at0, set_at1, set_at2, set_at3, get_at0, get_at1, get_at2, get_at3, List.append_assoc, List.append_nil, List.length_append, List.length_set, Nat.add_zero, e]
    rw [List.map_cons, frs_nx noneSrc rfl hx]
    exact cont_loop k p (Int.gcd c a) _
theorem sp_content (k : Nat) (p : List Int) : (Γ (k + 2)).call 211 [pD p] S = .ok (.v (.int (contF 0 p))) S := by
  rw [call_n tab_content rfl]
  obtain ⟨o, e⟩ := cont_loop (S := S) k (o0 := some (pD p)) p 0 none
  have e : frs (Γ (k + 1)) [none] (.name 2) fd_content_l1 (p.map .int) [some (pD p), some (.int 0), none] S = _ := e
  simp only [fd_content, ev_int, ev_bl, ev_non, ev_str, ev_var, ev_glob, ev_bin, ev_neg, ev_not, ev_cmp, ev_chain, ev_and, ev_or, ev_ife, ev_tup, ev_lst, ev_ix, ev_sl, ev_omit, ev_slr, ev_call, ev_b1, ev_b2, ev_isi, ev_meth, ev_lc, ev_lcif, ev_rng, ev_enum, ev_zip, ev_rev, evs_n, evs_c, alloc_v, alloc_f, setR_eq, ex_set, ex_tset, ex_sset, ex_saug, ex_ex, ex_ret, ex_retN, ex_ite, ex_whl, ex_for, ex_pass, ex_brk, ex_cnt, ex_raise, ex_try, exs_n, exs_c, tried_ok, tried_exc, rs_ret, rs_nx, rs_exc, R.bind_ok, R.bind_exc, R.bind_bad, R.st_ok, R.st_exc, RS.seq_nx, RS.seq_ret, RS.seq_bk, RS.seq_ct, RS.seq_exc, RS.turn_nx, RS.turn_ct, RS.turn_bk, RS.turn_ret, RS.turn_exc, R.nox_ok, orBad_some, lookV_some, lookD_some, onI_int, onLoc_loc, onB_true, onB_false, onB_dec, onBS_true, onBS_false, onBS_dec, bin_int, cmp_lt, cmp_le, cmp_gt, cmp_ge, cmp_eq, cmp_ne, cmp_isb, cmp_isnb, b1_int, b1_intb, b1_abs, b1_lent, b1_lenc, ix_t, ix_c, atR_def, at0, at1, at2, at3, at4, at5, add_of, sub_of, List.map_cons, List.map_nil, List.length_cons, List.length_nil, List.cons_append, List.nil_append, List.replicate_succ, List.replicate_zero, List.getElem?_cons_zero, List.getElem?_cons_succ, List.set_cons_zero, List.set_cons_succ, Nat.zero_add, Nat.reduceAdd, Nat.reduceSub, tupR_0, tupR_1, tupR_2, tupR_3, tupR_4, tupR_5, lstR_0, lstR_1, lstR_2, lstR_3, lstR_4, lstR_5, lstR_6, lstR_7, lstR_8, lstR_9, lstR_10, lstR_11, lstR_12, isi_int, isi_bl, isi_tup, isi_non, isi_str, fin_bl, fin_int, fin_non, fin_str, finX0, handle_hit, handle_nil, hx_bl, hx_str, hx_int, hx_non, hx_cnt, hx_pass, forR_it, forR_f, forR_t, forR_c, gmg, b1_repr, ne_repr, b2_max, b2_min, set_at0, set_at1, set_at2, set_at3, get_at0, get_at1, get_at2, get_at3, List.append_assoc, List.append_nil, List.length_append, List.length_set, Nat.add_zero, e]
theorem lcont_loop (k : Nat) {o0 : Option D} : ∀ (p : List Int) (c : Nat) (o2 : Option D),
    ∃ o2', frs (Γ (k + 1)) [none] (.name 2) fd_law_content_l1 (p.map .int) [o0, some (.int c), o2] S = .ok .nx [o0, some (.int (contF c p)), o2'] S
  | [], c, o2 => ⟨o2, frs_nil noneSrc⟩
  | a :: p, c, o2 => by
    have e := sp_law_gcd (S := S) k c a
    have hx : execs (Γ (k + 1)) fd_law_content_l1 [o0, some (.int c), some (.int a)] S = .ok .nx [o0, some (.int (Int.gcd c a)), some (.int a)] S := by
      simp only [fd_law_content_l1, ev_int, ev_bl, ev_non, ev_str, ev_var, ev_glob, ev_bin, ev_neg, ev_not, ev_cmp, ev_chain, ev_and, ev_or, ev_ife, ev_tup, ev_lst, ev_ix, ev_sl, ev_omit, ev_slr, ev_call, ev_b1, ev_b2, ev_isi, ev_meth, ev_lc, ev_lcif, ev_rng, ev_enum, ev_zip, ev_rev, evs_n, evs_c, alloc_v, alloc_f, setR_eq, ex_set, ex_tset, ex_sset, ex_saug, ex_ex, ex_ret, ex_retN, ex_ite, ex_whl, ex_for, ex_pass, ex_brk, ex_cnt, ex_raise, ex_try, exs_n, exs_c, tried_ok, tried_exc, rs_ret, rs_nx, rs_exc, R.bind_ok, R.bind_exc, R.bind_bad, R.st_ok, R.st_exc, RS.seq_nx, RS.seq_ret, RS.seq_bk, RS.seq_ct, RS.seq_exc, RS.turn_nx, RS.turn_ct, RS.turn_bk, RS.turn_ret, RS.turn_exc, R.nox_ok, orBad_some, lookV_some, lookD_some, onI_int, onLoc_loc, onB_true, onB_false, onB_dec, onBS_true, onBS_false, onBS_dec, bin_int, cmp_lt, cmp_le, cmp_gt, cmp_ge, cmp_eq, cmp_ne, cmp_isb, cmp_isnb, b1_int, b1_intb, b1_abs, b1_lent, b1_lenc, ix_t, ix_c, atR_def, at0, at1, at2, at3, at4, at5, add_of, sub_of, List.map_cons, List.map_nil, List.length_cons, List.length_nil, List.cons_append, List.nil_append, List.replicate_succ, List.replicate_zero, List.getElem?_cons_zero, List.getElem?_cons_succ, List.set_cons_zero, List.set_cons_succ, Nat.zero_add, Nat.reduceAdd, Nat.reduceSub, tupR_0, tupR_1, tupR_2, tupR_3, tupR_4, tupR_5, lstR_0, lstR_1, lstR_2, lstR_3, lstR_4, lstR_5, lstR_6, lstR_7, lstR_8, lstR_9, lstR_10, lstR_11, lstR_12, isi_int, isi_bl, isi_tup, isi_non, isi_str, fin_bl, fin_int, fin_non, fin_str, finX0, handle_hit, handle_nil, hx_bl, hx_str, hx_int, hx_non, hx_cnt, hx_pass, forR_it, forR_f, forR_t, forR_c, gmg, b1_repr, ne_repr, b2_max, b2_min, set_at0, set_at1, set_at2, set_at3, get_at0, get_at1, get_at2, get_at3, List.append_assoc, List.append_nil, List.length_append, List.length_set, Nat.add_zero, e]
    rw [List.map_cons, frs_nx noneSrc rfl hx]
    exact lcont_loop k p (Int.gcd c a) _
theorem sp_law_content (k : Nat) (p : List Int) : (Γ (k + 2)).call 219 [pD p] S = .ok (.v (.int (contF 0 p))) S := by
  rw [call_n tab_law_content rfl]
  obtain ⟨o, e⟩ := lcont_loop (S := S) k (o0 := some (pD p)) p 0 none
  have e : frs (Γ (k + 1)) [none] (.name 2) fd_law_content_l1 (p.map .int) [some (pD p), some (.int 0), none] S = _ := e
  simp only [fd_law_content, ev_int, ev_bl, ev_non, ev_str, ev_var, ev_glob, ev_bin, ev_neg, ev_not, ev_cmp, ev_chain, ev_and, ev_or, ev_ife, ev_tup, ev_lst, ev_ix, ev_sl, ev_omit, ev_slr, ev_call, ev_b1, ev_b2, ev_isi, ev_meth, ev_lc, ev_lcif, ev_rng, ev_enum, ev_zip, ev_rev, evs_n, evs_c, alloc_v, alloc_f, setR_eq, ex_set, ex_tset, ex_sset, ex_saug, ex_ex, ex_ret, ex_retN, ex_ite, ex_whl, ex_for, ex_pass, ex_brk, ex_cnt, ex_raise, ex_try, exs_n, exs_c, tried_ok, tried_exc, rs_ret, rs_nx, rs_exc, R.bind_ok, R.bind_exc, R.bind_bad, R.st_ok, R.st_exc, RS.seq_nx, RS.seq_ret, RS.seq_bk, RS.seq_ct, RS.seq_exc, RS.turn_nx, RS.turn_ct, RS.turn_bk, RS.turn_ret, RS.turn_exc, R.nox_ok, orBad_some, lookV_some, lookD_some, onI_int, onLoc_loc, onB_true, onB_false, onB_dec, onBS_true, onBS_false, onBS_dec, bin_int, cmp_lt, cmp_le, cmp_gt, cmp_ge, cmp_eq, cmp_ne, cmp_isb, cmp_isnb, b1_int, b1_intb, b1_abs, b1_lent, b1_lenc, ix_t, ix_c, atR_def, at0, at1, at2, at3, at4, at5, add_of, sub_of, List.map_cons, List.map_nil, List.length_cons, List.length_nil, List.cons_append, List.nil_append, List.replicate_succ, List.replicate_zero, List.getElem?_cons_zero, List.getElem?_cons_succ, List.set_cons_zero, List.set_cons_succ, Nat.zero_add, Nat.reduceAdd, Nat.reduceSub, tupR_0, tupR_1, tupR_2, tupR_3, tupR_4, tupR_5, lstR_0, lstR_1, lstR_2, lstR_3, lstR_4, lstR_5, lstR_6, lstR_7, lstR_8, lstR_9, lstR_10, lstR_11, lstR_12, isi_int, isi_bl, isi_tup, isi_non, isi_str, fin_bl, fin_int, fin_non, fin_str, finX0, handle_hit, handle_nil, hx_bl, hx_str, hx_int, hx_non, hx_cnt, hx_pass, forR_it, forR_f, forR_t, forR_c, gmg, b1_repr, ne_repr, b2_max, b2_min, set_at0, set_at1, set_at2, set_at3, get_at0, get_at1, get_at2, get_at3, List.append_assoc, List.append_nil, List.length_append, List.length_set, Nat.add_zero, e]
/-- the primitive: the leading coefficient above 0 -/
def psgn (p : List Int) : Int := if p.getLast?.getD 0 < 0 then -(contF 0 p : Int) else contF 0 p
def pprim (p : List Int) : List Int := if contF 0 p = 0 then [] else p.map (·.fdiv (psgn p))
theorem lc_div (k : Nat) {g : Int} {n : Nat} (hg : Bd n g) (hn : n < 9000) (h0 : g ≠ 0) : ∀ {p : List Int} {T : Sto} {o0 : Option D},
    lcR (Γ k) (.bin .FloorDiv (.var 2) (.var 1)) [2] (.name 2) [o0, some (.int g), none] [none] (p.map .int) T = .ok ((p.map (·.fdiv g)).map .int) T
  | [], T, o1 => lcR_nil noneSrc
  | a :: p, T, o1 => by
    have m1 := div_of (x := a) h0 hg hn
    rw [List.map_cons, lcR_cons (env1 := [o1, some (.int g), some (.int a)]) noneSrc rfl]
    simp only [ev_int, ev_bl, ev_non, ev_str, ev_var, ev_glob, ev_bin, ev_neg, ev_not, ev_cmp, ev_chain, ev_and, ev_or, ev_ife, ev_tup, ev_lst, ev_ix, ev_sl, ev_omit, ev_slr, ev_call, ev_b1, ev_b2, ev_isi, ev_meth, ev_lc, ev_lcif, ev_rng, ev_enum, ev_zip, ev_rev, evs_n, evs_c, alloc_v, alloc_f, setR_eq, ex_set, ex_tset, ex_sset, ex_saug, ex_ex, ex_ret, ex_retN, ex_ite, ex_whl, ex_for, ex_pass, ex_brk, ex_cnt, ex_raise, ex_try, exs_n, exs_c, tried_ok, tried_exc, rs_ret, rs_nx, rs_exc, R.bind_ok, R.bind_exc, R.bind_bad, R.st_ok, R.st_exc, RS.seq_nx, RS.seq_ret, RS.seq_bk, RS.seq_ct, RS.seq_exc, RS.turn_nx, RS.turn_ct, RS.turn_bk, RS.turn_ret, RS.turn_exc, R.nox_ok, orBad_some, lookV_some, lookD_some, onI_int, onLoc_loc, onB_true, onB_false, onB_dec, onBS_true, onBS_false, onBS_dec, bin_int, cmp_lt, cmp_le, cmp_gt, cmp_ge, cmp_eq, cmp_ne, cmp_isb, cmp_isnb, b1_int, b1_intb, b1_abs, b1_lent, b1_lenc, ix_t, ix_c, atR_def, at0, at1, at2, at3, at4, at5, add_of, sub_of, List.map_cons, List.map_nil, List.length_cons, List.length_nil, List.cons_append, List.nil_append, List.replicate_succ, List.replicate_zero, List.getElem?_cons_zero, List.getElem?_cons_succ, List.set_cons_zero, List.set_cons_succ, Nat.zero_add, Nat.reduceAdd, Nat.reduceSub, tupR_0, tupR_1, tupR_2, tupR_3, tupR_4, tupR_5, lstR_0, lstR_1, lstR_2, lstR_3, lstR_4, lstR_5, lstR_6, lstR_7, lstR_8, lstR_9, lstR_10, lstR_11, lstR_12, isi_int, isi_bl, isi_tup, isi_non, isi_str, fin_bl, fin_int, fin_non, fin_str, finX0, handle_hit, handle_nil, hx_bl, hx_str, hx_int, hx_non, hx_cnt, hx_pass, forR_it, forR_f, forR_t, forR_c, gmg, b1_repr, ne_repr, b2_max, b2_min, set_at0, set_at1, set_at2, set_at3, get_at0, get_at1, get_at2, get_at3, List.append_assoc, List.append_nil, List.length_append, List.length_set, Nat.add_zero, m1, lc_div k hg hn h0 (p := p)]
theorem last_at {p : List Int} (h : p ≠ []) : atI (p.map D.int) (-1) = some (.int (p.getLast?.getD 0)) := by
  have : p.map D.int ≠ [] := by simpa using h
  rw [at_m1 this, List.getElem?_map, List.length_map, ← List.getLast?_eq_getElem?, List.getLast?_eq_getLast h]
  rfl
theorem sp_primitive (k : Nat) {p : List Int} {n : Nat} (hp : AB n p) (hn : n < 9000) (hl : p.length ≤ 1000000) : (Γ (k + 3)).call 212 [pD p] S = .ok (.v (pD (pprim p))) S := by
  rw [call_n tab_primitive rfl]
  have e := sp_content (S := S) k p
  have hb := contF_bd p hp
  have it : ∀ T : Sto, itemsOf (.v (pD p)) T = some (p.map .int, [none]) := fun _ => rfl
  by_cases h : contF 0 p = 0
  · have hz : (((contF 0 p : Nat) : Int) = 0) = True := eq_true (by omega)
    have e0 : finish S S (.v (.tup [])) = .ok (.v (pD (pprim p))) S := by
      rw [show pprim p = [] by unfold pprim; rw [if_pos h]]
      exact fin_v0 rfl
    simp only [fd_primitive, ev_int, ev_bl, ev_non, ev_str, ev_var, ev_glob, ev_bin, ev_neg, ev_not, ev_cmp, ev_chain, ev_and, ev_or, ev_ife, ev_tup, ev_lst, ev_ix, ev_sl, ev_omit, ev_slr, ev_call, ev_b1, ev_b2, ev_isi, ev_meth, ev_lc, ev_lcif, ev_rng, ev_enum, ev_zip, ev_rev, evs_n, evs_c, alloc_v, alloc_f, setR_eq, ex_set, ex_tset, ex_sset, ex_saug, ex_ex, ex_ret, ex_retN, ex_ite, ex_whl, ex_for, ex_pass, ex_brk, ex_cnt, ex_raise, ex_try, exs_n, exs_c, tried_ok, tried_exc, rs_ret, rs_nx, rs_exc, R.bind_ok, R.bind_exc, R.bind_bad, R.st_ok, R.st_exc, RS.seq_nx, RS.seq_ret, RS.seq_bk, RS.seq_ct, RS.seq_exc, RS.turn_nx, RS.turn_ct, RS.turn_bk, RS.turn_ret, RS.turn_exc, R.nox_ok, orBad_some, lookV_some, lookD_some, onI_int, onLoc_loc, onB_true, onB_false, onB_dec, onBS_true, onBS_false, onBS_dec, bin_int, cmp_lt, cmp_le, cmp_gt, cmp_ge, cmp_eq, cmp_ne, cmp_isb, cmp_isnb, b1_int, b1_intb, b1_abs, b1_lent, b1_lenc, ix_t, ix_c, atR_def, at0, at1, at2, at3, at4, at5, add_of, sub_of, List.map_cons, List.map_nil, List.length_cons, List.length_nil, List.cons_append, List.nil_append, List.replicate_succ, List.replicate_zero, List.getElem?_cons_zero, List.getElem?_cons_succ, List.set_cons_zero, List.set_cons_succ, Nat.zero_add, Nat.reduceAdd, Nat.reduceSub, tupR_0, tupR_1, tupR_2, tupR_3, tupR_4, tupR_5, lstR_0, lstR_1, lstR_2, lstR_3, lstR_4, lstR_5, lstR_6, lstR_7, lstR_8, lstR_9, lstR_10, lstR_11, lstR_12, isi_int, isi_bl, isi_tup, isi_non, isi_str, fin_bl, fin_int, fin_non, fin_str, finX0, handle_hit, handle_nil, hx_bl, hx_str, hx_int, hx_non, hx_cnt, hx_pass, forR_it, forR_f, forR_t, forR_c, gmg, b1_repr, ne_repr, b2_max, b2_min, set_at0, set_at1, set_at2, set_at3, get_at0, get_at1, get_at2, get_at3, List.append_assoc, List.append_nil, List.length_append, List.length_set, Nat.add_zero, e, hz, if_true, e0]
  · have hz : (((contF 0 p : Nat) : Int) = 0) = False := eq_false (by omega)
    have hne : p ≠ [] := fun z => h (by rw [z]; rfl)
    have e1 : pprim p = p.map (·.fdiv (psgn p)) := by unfold pprim; rw [if_neg h]
    have l1 : ∀ g : Int, lstR ((p.map (·.fdiv g)).map D.int) S = .ok (.f ((p.map (·.fdiv g)).map .int)) S := fun g => lstR_ok (by rw [List.length_map, List.length_map]; show p.length ≤ 1048576; omega)
    by_cases hs : p.getLast?.getD 0 < 0
    · have e2 := lc_div (k + 2) (p := p) (T := S) (o0 := some (pD p)) hb.neg hn (by omega)
      rw [show psgn p = -(contF 0 p : Int) by unfold psgn; rw [if_pos hs]] at e1
      simp only [fd_primitive, ev_int, ev_bl, ev_non, ev_str, ev_var, ev_glob, ev_bin, ev_neg, ev_not, ev_cmp, ev_chain, ev_and, ev_or, ev_ife, ev_tup, ev_lst, ev_ix, ev_sl, ev_omit, ev_slr, ev_call, ev_b1, ev_b2, ev_isi, ev_meth, ev_lc, ev_lcif, ev_rng, ev_enum, ev_zip, ev_rev, evs_n, evs_c, alloc_v, alloc_f, setR_eq, ex_set, ex_tset, ex_sset, ex_saug, ex_ex, ex_ret, ex_retN, ex_ite, ex_whl, ex_for, ex_pass, ex_brk, ex_cnt, ex_raise, ex_try, exs_n, exs_c, tried_ok, tried_exc, rs_ret, rs_nx, rs_exc, R.bind_ok, R.bind_exc, R.bind_bad, R.st_ok, R.st_exc, RS.seq_nx, RS.seq_ret, RS.seq_bk, RS.seq_ct, RS.seq_exc, RS.turn_nx, RS.turn_ct, RS.turn_bk, RS.turn_ret, RS.turn_exc, R.nox_ok, orBad_some, lookV_some, lookD_some, onI_int, onLoc_loc, onB_true, onB_false, onB_dec, onBS_true, onBS_false, onBS_dec, bin_int, cmp_lt, cmp_le, cmp_gt, cmp_ge, cmp_eq, cmp_ne, cmp_isb, cmp_isnb, b1_int, b1_intb, b1_abs, b1_lent, b1_lenc, ix_t, ix_c, atR_def, at0, at1, at2, at3, at4, at5, add_of, sub_of, List.map_cons, List.map_nil, List.length_cons, List.length_nil, List.cons_append, List.nil_append, List.replicate_succ, List.replicate_zero, List.getElem?_cons_zero, List.getElem?_cons_succ, List.set_cons_zero, List.set_cons_succ, Nat.zero_add, Nat.reduceAdd, Nat.reduceSub, tupR_0, tupR_1, tupR_2, tupR_3, tupR_4, tupR_5, lstR_0, lstR_1, lstR_2, lstR_3, lstR_4, lstR_5, lstR_6, lstR_7, lstR_8, lstR_9, lstR_10, lstR_11, lstR_12, isi_int, isi_bl, isi_tup, isi_non, isi_str, fin_bl, fin_int, fin_non, fin_str, finX0, handle_hit, handle_nil, hx_bl, hx_str, hx_int, hx_non, hx_cnt, hx_pass, forR_it, forR_f, forR_t, forR_c, gmg, b1_repr, ne_repr, b2_max, b2_min, set_at0, set_at1, set_at2, set_at3, get_at0, get_at1, get_at2, get_at3, List.append_assoc, List.append_nil, List.length_append, List.length_set, Nat.add_zero, e, hz, if_false, last_at hne, hs, if_true, it, e2, l1, b1_tup_f, fin_p, e1]
    · have e2 := lc_div (k + 2) (p := p) (T := S) (o0 := some (pD p)) hb hn (by omega)
      rw [show psgn p = (contF 0 p : Int) by unfold psgn; rw [if_neg hs]] at e1
      simp only [fd_primitive, ev_int, ev_bl, ev_non, ev_str, ev_var, ev_glob, ev_bin, ev_neg, ev_not, ev_cmp, ev_chain, ev_and, ev_or, ev_ife, ev_tup, ev_lst, ev_ix, ev_sl, ev_omit, ev_slr, ev_call, ev_b1, ev_b2, ev_isi, ev_meth, ev_lc, ev_lcif, ev_rng, ev_enum, ev_zip, ev_rev, evs_n, evs_c, alloc_v, alloc_f, setR_eq, ex_set, ex_tset, ex_sset, ex_saug, ex_ex, ex_ret, ex_retN, ex_ite, ex_whl, ex_for, ex_pass, ex_brk, ex_cnt, ex_raise, ex_try, exs_n, exs_c, tried_ok, tried_exc, rs_ret, rs_nx, rs_exc, R.bind_ok, R.bind_exc, R.bind_bad, R.st_ok, R.st_exc, RS.seq_nx, RS.seq_ret, RS.seq_bk, RS.seq_ct, RS.seq_exc, RS.turn_nx, RS.turn_ct, RS.turn_bk, RS.turn_ret, RS.turn_exc, R.nox_ok, orBad_some, lookV_some, lookD_some, onI_int, onLoc_loc, onB_true, onB_false, onB_dec, onBS_true, onBS_false, onBS_dec, bin_int, cmp_lt, cmp_le, cmp_gt, cmp_ge, cmp_eq, cmp_ne, cmp_isb, cmp_isnb, b1_int, b1_intb, b1_abs, b1_lent, b1_lenc, ix_t, ix_c, atR_def, at0, at1, at2, at3, at4, at5, add_of, sub_of, List.map_cons, List.map_nil, List.length_cons, List.length_nil, List.cons_append, List.nil_append, List.replicate_succ, List.replicate_zero, List.getElem?_cons_zero, List.getElem?_cons_succ, List.set_cons_zero, List.set_cons_succ, Nat.zero_add, Nat.reduceAdd, Nat.reduceSub, tupR_0, tupR_1, tupR_2, tupR_3, tupR_4, tupR_5, lstR_0, lstR_1, lstR_2, lstR_3, lstR_4, lstR_5, lstR_6, lstR_7, lstR_8, lstR_9, lstR_10, lstR_11, lstR_12, isi_int, isi_bl, isi_tup, isi_non, isi_str, fin_bl, fin_int, fin_non, fin_str, finX0, handle_hit, handle_nil, hx_bl, hx_str, hx_int, hx_non, hx_cnt, hx_pass, forR_it, forR_f, forR_t, forR_c, gmg, b1_repr, ne_repr, b2_max, b2_min, set_at0, set_at1, set_at2, set_at3, get_at0, get_at1, get_at2, get_at3, List.append_assoc, List.append_nil, List.length_append, List.length_set, Nat.add_zero, e, hz, if_false, last_at hne, hs, it, e2, l1, b1_tup_f, fin_p, e1]
end
end Py
namespace Py
open PySem
def hstep (x y : Int) (s : Int × Int) (n : Int) : Int × Int := (s.1 * x + n * s.2, s.2 * y)
def phom (x y : Int) : List Int → Int
  | [] => 0
  | a :: l => a * y ^ l.length + x * phom x y l
theorem hfold (x y : Int) : ∀ p : List Int, p.reverse.foldl (hstep x y) (0, 1) = (phom x y p, y ^ p.length)
  | [] => by simp [phom]
  | a :: p => by
    rw [List.reverse_cons, List.foldl_append, hfold x y p]
    show (phom x y p * x + a * y ^ p.length, y ^ p.length * y) = _
    rw [List.length_cons, Int.pow_succ]
    congr 1
    show _ = a * y ^ p.length + x * phom x y p
    grind
section
variable {S : Sto}
theorem val_loop (k : Nat) {p : D} {x y : Int} {n m : Nat} (hx : Bd m x) (hy : Bd m y) (hm : 1 ≤ m) : ∀ (l : List Int) (i : Nat) (t w : Int) (o4 : Option D), AB n l → Bd (n + i * (m + 1) + 1) t → Bd (1 + i * m) w → n + (i + l.length + 1) * (m + 1) + m + 2 < 100000000 →
    ∃ o4', frs (Γ k) [none] (.name 4) fd_value_at_l1 (l.map .int) [some p, some (fr x y), some (.int t), some (.int w), o4] S = .ok .nx [some p, some (fr x y), some (.int (l.foldl (hstep x y) (t, w)).1), some (.int (l.foldl (hstep x y) (t, w)).2), o4'] S
  | [], i, t, w, o4, _, _, _, _ => ⟨o4, frs_nil noneSrc⟩
  | a :: l, i, t, w, o4, hl, ht, hw, hb => by
    simp only [List.length_cons] at hb
    have e1 : (i + 1) * (m + 1) = i * (m + 1) + (m + 1) := Nat.succ_mul ..
    have e2 : (i + 1) * m = i * m + m := Nat.succ_mul ..
    have e3 : i * (m + 1) = i * m + i := Nat.mul_succ ..
    have e4 : (i + (l.length + 1) + 1) * (m + 1) = (i + l.length + 1) * (m + 1) + (m + 1) := by rw [show i + (l.length + 1) + 1 = (i + l.length + 1) + 1 by omega]; exact Nat.succ_mul ..
    have e5 : i * (m + 1) ≤ (i + l.length + 1) * (m + 1) := Nat.mul_le_mul_right _ (by omega)
    have ha := hl a List.mem_cons_self
    have m1 := mul_of ht hx (by omega)
    have m2 := mul_of ha hw (by omega)
    have m3 := mul_of hw hy (by omega)
    have b1 : Bd (n + (i + 1) * (m + 1) + 1) (t * x + a * w) := ((ht.mul hx).mono (m := n + i * (m + 1) + m + 1) (by omega)).add ((ha.mul hw).mono (by omega)) |>.mono (by omega)
    have b2 : Bd (1 + (i + 1) * m) (w * y) := (hw.mul hy).mono (by omega)
    have hx' : execs (Γ k) fd_value_at_l1 [some p, some (fr x y), some (.int t), some (.int w), some (.int a)] S = .ok .nx [some p, some (fr x y), some (.int (t * x + a * w)), some (.int (w * y)), some (.int a)] S := by
      simp only [fd_value_at_l1, ev_int, ev_bl, ev_non, ev_str, ev_var, ev_glob, ev_bin, ev_neg, ev_not, ev_cmp, ev_chain, ev_and, ev_or, ev_ife, ev_tup, ev_lst, ev_ix, ev_sl, ev_omit, ev_slr, ev_call, ev_b1, ev_b2, ev_isi, ev_meth, ev_lc, ev_lcif, ev_rng, ev_enum, ev_zip, ev_rev, evs_n, evs_c, alloc_v, alloc_f, setR_eq, ex_set, ex_tset, ex_sset, ex_saug, ex_ex, ex_ret, ex_retN, ex_ite, ex_whl, ex_for, ex_pass, ex_brk, ex_cnt, ex_raise, ex_try, exs_n, exs_c, tried_ok, tried_exc, rs_ret, rs_nx, rs_exc, R.bind_ok, R.bind_exc, R.bind_bad, R.st_ok, R.st_exc, RS.seq_nx, RS.seq_ret, RS.seq_bk, RS.seq_ct, RS.seq_exc, RS.turn_nx, RS.turn_ct, RS.turn_bk, RS.turn_ret, RS.turn_exc, R.nox_ok, orBad_some, lookV_some, lookD_some, onI_int, onLoc_loc, onB_true, onB_false, onB_dec, onBS_true, onBS_false, onBS_dec, bin_int, cmp_lt, cmp_le, cmp_gt, cmp_ge, cmp_eq, cmp_ne, cmp_isb, cmp_isnb, b1_int, b1_intb, b1_abs, b1_lent, b1_lenc, ix_t, ix_c, atR_def, at0, at1, at2, at3, at4, at5, add_of, sub_of, List.map_cons, List.map_nil, List.length_cons, List.length_nil, List.cons_append, List.nil_append, List.replicate_succ, List.replicate_zero, List.getElem?_cons_zero, List.getElem?_cons_succ, List.set_cons_zero, List.set_cons_succ, Nat.zero_add, Nat.reduceAdd, Nat.reduceSub, tupR_0, tupR_1, tupR_2, tupR_3, tupR_4, tupR_5, lstR_0, lstR_1, lstR_2, lstR_3, lstR_4, lstR_5, lstR_6, lstR_7, lstR_8, lstR_9, lstR_10, lstR_11, lstR_12, isi_int, isi_bl, isi_tup, isi_non, isi_str, fin_bl, fin_int, fin_non, fin_str, finX0, handle_hit, handle_nil, hx_bl, hx_str, hx_int, hx_non, hx_cnt, hx_pass, forR_it, forR_f, forR_t, forR_c, gmg, b1_repr, ne_repr, b2_max, b2_min, set_at0, set_at1, set_at2, set_at3, get_at0, get_at1, get_at2, get_at3, List.append_assoc, List.append_nil, List.length_append, List.length_set, Nat.add_zero, m1, m2]
      rw [ex_aug rfl]
      simp only [ev_int, ev_bl, ev_non, ev_str, ev_var, ev_glob, ev_bin, ev_neg, ev_not, ev_cmp, ev_chain, ev_and, ev_or, ev_ife, ev_tup, ev_lst, ev_ix, ev_sl, ev_omit, ev_slr, ev_call, ev_b1, ev_b2, ev_isi, ev_meth, ev_lc, ev_lcif, ev_rng, ev_enum, ev_zip, ev_rev, evs_n, evs_c, alloc_v, alloc_f, setR_eq, ex_set, ex_tset, ex_sset, ex_saug, ex_ex, ex_ret, ex_retN, ex_ite, ex_whl, ex_for, ex_pass, ex_brk, ex_cnt, ex_raise, ex_try, exs_n, exs_c, tried_ok, tried_exc, rs_ret, rs_nx, rs_exc, R.bind_ok, R.bind_exc, R.bind_bad, R.st_ok, R.st_exc, RS.seq_nx, RS.seq_ret, RS.seq_bk, RS.seq_ct, RS.seq_exc, RS.turn_nx, RS.turn_ct, RS.turn_bk, RS.turn_ret, RS.turn_exc, R.nox_ok, orBad_some, lookV_some, lookD_some, onI_int, onLoc_loc, onB_true, onB_false, onB_dec, onBS_true, onBS_false, onBS_dec, bin_int, cmp_lt, cmp_le, cmp_gt, cmp_ge, cmp_eq, cmp_ne, cmp_isb, cmp_isnb, b1_int, b1_intb, b1_abs, b1_lent, b1_lenc, ix_t, ix_c, atR_def, at0, at1, at2, at3, at4, at5, add_of, sub_of, List.map_cons, List.map_nil, List.length_cons, List.length_nil, List.cons_append, List.nil_append, List.replicate_succ, List.replicate_zero, List.getElem?_cons_zero, List.getElem?_cons_succ, List.set_cons_zero, List.set_cons_succ, Nat.zero_add, Nat.reduceAdd, Nat.reduceSub, tupR_0, tupR_1, tupR_2, tupR_3, tupR_4, tupR_5, lstR_0, lstR_1, lstR_2, lstR_3, lstR_4, lstR_5, lstR_6, lstR_7, lstR_8, lstR_9, lstR_10, lstR_11, lstR_12, isi_int, isi_bl, isi_tup, isi_non, isi_str, fin_bl, fin_int, fin_non, fin_str, finX0, handle_hit, handle_nil, hx_bl, hx_str, hx_int, hx_non, hx_cnt, hx_pass, forR_it, forR_f, forR_t, forR_c, gmg, b1_repr, ne_repr, b2_max, b2_min, set_at0, set_at1, set_at2, set_at3, get_at0, get_at1, get_at2, get_at3, List.append_assoc, List.append_nil, List.length_append, List.length_set, Nat.add_zero, augR_ok m3]
    rw [List.map_cons, frs_nx noneSrc rfl hx']
    exact val_loop k hx hy hm l (i + 1) (t * x + a * w) (w * y) (some (.int a)) (fun b hb => hl b (List.mem_cons_of_mem _ hb)) b1 b2 (by
      rw [show i + 1 + l.length + 1 = i + (l.length + 1) + 1 by omega]
      exact hb)
theorem Bd.pow {m : Nat} {x : Int} (h : Bd m x) : ∀ k : Nat, Bd (k * m + 1) (x ^ k)
  | 0 => by rw [Int.pow_zero]; show (1 : Nat) < 2 ^ _; exact Nat.one_lt_two_pow (by omega)
  | k + 1 => by
    rw [Int.pow_succ]
    exact ((Bd.pow h k).mul h).mono (by rw [Nat.succ_mul]; omega)
theorem sp_value_at (k : Nat) {p : List Int} {x y : Int} {n m : Nat} (hp : AB n p) (hx : Bd m x) (hy : Bd m y) (hm : 1 ≤ m) (py : 0 < y) (hb : n + (p.length + 1) * (m + 1) + m + 2 < 100000000) (hb2 : p.length * m + 1 < 9000) (hm2 : m < 9000) :
    ∃ u v, (Γ (k + 3)).call 189 [pD p, fr x y] S = .ok (.v (fr u v)) S ∧ FrOf (phom x y p) (y ^ (p.length - 1)) u v := by
  rw [call_n tab_value_at rfl]
  obtain ⟨o, e⟩ := val_loop (S := S) (k + 2) (p := pD p) hx hy hm p.reverse 0 0 1 none (fun a ha => hp a (List.mem_reverse.mp ha)) (by show (0 : Nat) < 2 ^ _; exact Nat.two_pow_pos _) (by show (1 : Nat) < 2 ^ _; exact Nat.one_lt_two_pow (by omega)) (by rw [List.length_reverse, Nat.zero_add]; exact hb)
  rw [hfold] at e
  have rv : revW (.v (pD p)) S = some (.v (pD p.reverse)) := by
    show some (W.v (.tup (p.map D.int).reverse)) = _
    rw [← List.map_reverse]
  have eqn := eq_tt (S := S) p []
  have eqn : cmpW .Eq (.v (pD p)) (.v (.tup [])) S = .ok (.v (.bl (decide (p = [])))) S := eqn
  by_cases h : p = []
  · have h' : (p = []) = True := eq_true h
    have f0 : finish S S (.v (.tup [.int 0, .int 1])) = .ok (.v (.tup [.int 0, .int 1])) S := fin_v0 rfl
    simp only [fd_value_at, ev_int, ev_bl, ev_non, ev_str, ev_var, ev_glob, ev_bin, ev_neg, ev_not, ev_cmp, ev_chain, ev_and, ev_or, ev_ife, ev_tup, ev_lst, ev_ix, ev_sl, ev_omit, ev_slr, ev_call, ev_b1, ev_b2, ev_isi, ev_meth, ev_lc, ev_lcif, ev_rng, ev_enum, ev_zip, ev_rev, evs_n, evs_c, alloc_v, alloc_f, setR_eq, ex_set, ex_tset, ex_sset, ex_saug, ex_ex, ex_ret, ex_retN, ex_ite, ex_whl, ex_for, ex_pass, ex_brk, ex_cnt, ex_raise, ex_try, exs_n, exs_c, tried_ok, tried_exc, rs_ret, rs_nx, rs_exc, R.bind_ok, R.bind_exc, R.bind_bad, R.st_ok, R.st_exc, RS.seq_nx, RS.seq_ret, RS.seq_bk, RS.seq_ct, RS.seq_exc, RS.turn_nx, RS.turn_ct, RS.turn_bk, RS.turn_ret, RS.turn_exc, R.nox_ok, orBad_some, lookV_some, lookD_some, onI_int, onLoc_loc, onB_true, onB_false, onB_dec, onBS_true, onBS_false, onBS_dec, bin_int, cmp_lt, cmp_le, cmp_gt, cmp_ge, cmp_eq, cmp_ne, cmp_isb, cmp_isnb, b1_int, b1_intb, b1_abs, b1_lent, b1_lenc, ix_t, ix_c, atR_def, at0, at1, at2, at3, at4, at5, add_of, sub_of, List.map_cons, List.map_nil, List.length_cons, List.length_nil, List.cons_append, List.nil_append, List.replicate_succ, List.replicate_zero, List.getElem?_cons_zero, List.getElem?_cons_succ, List.set_cons_zero, List.set_cons_succ, Nat.zero_add, Nat.reduceAdd, Nat.reduceSub, tupR_0, tupR_1, tupR_2, tupR_3, tupR_4, tupR_5, lstR_0, lstR_1, lstR_2, lstR_3, lstR_4, lstR_5, lstR_6, lstR_7, lstR_8, lstR_9, lstR_10, lstR_11, lstR_12, isi_int, isi_bl, isi_tup, isi_non, isi_str, fin_bl, fin_int, fin_non, fin_str, finX0, handle_hit, handle_nil, hx_bl, hx_str, hx_int, hx_non, hx_cnt, hx_pass, forR_it, forR_f, forR_t, forR_c, gmg, b1_repr, ne_repr, b2_max, b2_min, set_at0, set_at1, set_at2, set_at3, get_at0, get_at1, get_at2, get_at3, List.append_assoc, List.append_nil, List.length_append, List.length_set, Nat.add_zero, rv, e, eqn, h', if_true, f0]
    refine ⟨0, 1, rfl, ?_⟩
    subst h
    exact ⟨by decide, by decide, by simp [phom], Nat.zero_le _, by simp⟩
  · have h' : (p = []) = False := eq_false h
    have hpos : 0 < p.length := List.length_pos_iff.mpr h
    have pe : y ^ p.length = y ^ (p.length - 1) * y := by
      rw [← Int.pow_succ]
      congr 1
      omega
    have d1 : intOp .FloorDiv (y ^ p.length) y = some (y ^ (p.length - 1)) := by
      rw [div_of (by omega) hy hm2, pe]
      congr 1
      exact Int.mul_fdiv_cancel _ (by omega)
    have yp : (0 : Int) < y ^ (p.length - 1) := Int.pow_pos py
    obtain ⟨u, v, e3, fo⟩ := sp_fraction (S := S) k (p := phom x y p) (q := y ^ (p.length - 1)) (by omega) ((Bd.pow hy (p.length - 1)).mono (m := p.length * m + 1) (by
      have : (p.length - 1) * m ≤ p.length * m := Nat.mul_le_mul_right _ (by omega)
      omega)) hb2
    have f0 : finish S S (.v (.tup [.int u, .int v])) = .ok (.v (.tup [.int u, .int v])) S := fin_v0 rfl
    simp only [fd_value_at, ev_int, ev_bl, ev_non, ev_str, ev_var, ev_glob, ev_bin, ev_neg, ev_not, ev_cmp, ev_chain, ev_and, ev_or, ev_ife, ev_tup, ev_lst, ev_ix, ev_sl, ev_omit, ev_slr, ev_call, ev_b1, ev_b2, ev_isi, ev_meth, ev_lc, ev_lcif, ev_rng, ev_enum, ev_zip, ev_rev, evs_n, evs_c, alloc_v, alloc_f, setR_eq, ex_set, ex_tset, ex_sset, ex_saug, ex_ex, ex_ret, ex_retN, ex_ite, ex_whl, ex_for, ex_pass, ex_brk, ex_cnt, ex_raise, ex_try, exs_n, exs_c, tried_ok, tried_exc, rs_ret, rs_nx, rs_exc, R.bind_ok, R.bind_exc, R.bind_bad, R.st_ok, R.st_exc, RS.seq_nx, RS.seq_ret, RS.seq_bk, RS.seq_ct, RS.seq_exc, RS.turn_nx, RS.turn_ct, RS.turn_bk, RS.turn_ret, RS.turn_exc, R.nox_ok, orBad_some, lookV_some, lookD_some, onI_int, onLoc_loc, onB_true, onB_false, onB_dec, onBS_true, onBS_false, onBS_dec, bin_int, cmp_lt, cmp_le, cmp_gt, cmp_ge, cmp_eq, cmp_ne, cmp_isb, cmp_isnb, b1_int, b1_intb, b1_abs, b1_lent, b1_lenc, ix_t, ix_c, atR_def, at0, at1, at2, at3, at4, at5, add_of, sub_of, List.map_cons, List.map_nil, List.length_cons, List.length_nil, List.cons_append, List.nil_append, List.replicate_succ, List.replicate_zero, List.getElem?_cons_zero, List.getElem?_cons_succ, List.set_cons_zero, List.set_cons_succ, Nat.zero_add, Nat.reduceAdd, Nat.reduceSub, tupR_0, tupR_1, tupR_2, tupR_3, tupR_4, tupR_5, lstR_0, lstR_1, lstR_2, lstR_3, lstR_4, lstR_5, lstR_6, lstR_7, lstR_8, lstR_9, lstR_10, lstR_11, lstR_12, isi_int, isi_bl, isi_tup, isi_non, isi_str, fin_bl, fin_int, fin_non, fin_str, finX0, handle_hit, handle_nil, hx_bl, hx_str, hx_int, hx_non, hx_cnt, hx_pass, forR_it, forR_f, forR_t, forR_c, gmg, b1_repr, ne_repr, b2_max, b2_min, set_at0, set_at1, set_at2, set_at3, get_at0, get_at1, get_at2, get_at3, List.append_assoc, List.append_nil, List.length_append, List.length_set, Nat.add_zero, rv, e, eqn, h', if_false, d1, e3, f0]
    exact ⟨u, v, rfl, fo⟩
end
end Py
namespace Py
open PySem
/-- the sign -/
def isgn (x : Int) : Int := (if decide (0 < x) = true then 1 else 0) - (if decide (x < 0) = true then 1 else 0)
theorem isgn_eq {u v t w : Int} (hv : 0 < v) (hw : 0 < w) (h : u * w = v * t) : isgn u = isgn t := by
  have key : (0 < u ↔ 0 < t) ∧ (u < 0 ↔ t < 0) := by
    rcases Int.lt_trichotomy u 0 with hu | hu | hu <;> rcases Int.lt_trichotomy t 0 with ht | ht | ht
    · omega
    · subst ht
      have := Int.mul_neg_of_neg_of_pos hu hw
      omega
    · have := Int.mul_neg_of_neg_of_pos hu hw
      have := Int.mul_pos hv ht
      omega
    · subst hu
      have := Int.mul_neg_of_pos_of_neg hv ht
      omega
    · omega
    · subst hu
      have := Int.mul_pos hv ht
      omega
    · have := Int.mul_pos hu hw
      have := Int.mul_neg_of_pos_of_neg hv ht
      omega
    · subst ht
      have := Int.mul_pos hu hw
      omega
    · omega
  unfold isgn
  simp only [key.1, key.2]
def cstep (q f : List Int) (n : Int) : List Int := psum (pmul f q) (trim [n])
def pcomp (p q : List Int) : List Int := p.reverse.foldl (cstep q) []
theorem cstep_ev {q f : List Int} {n x : Int} : pev (cstep q f n) x = pev f x * pev q x + n := by
  unfold cstep
  rw [psum_ev, pmul_ev, pev_trim]
  simp
theorem pcomp_ev (q : List Int) (x : Int) : ∀ p : List Int, pev (pcomp p q) x = pev p (pev q x)
  | [] => rfl
  | a :: p => by
    have ih := pcomp_ev q x p
    unfold pcomp at ih ⊢
    rw [List.reverse_cons, List.foldl_append]
    show pev (cstep q _ a) x = _
    rw [cstep_ev, ih, pev_cons]
    grind
theorem pcomp_tr (p q : List Int) : Tr (pcomp p q) := by
  cases p with
  | nil => rfl
  | cons a p =>
    unfold pcomp
    rw [List.reverse_cons, List.foldl_append]
    exact psum_tr
section
variable {S : Sto}
theorem sp_sign_at (k : Nat) {p : List Int} {x y : Int} {n m : Nat} (hp : AB n p) (hx : Bd m x) (hy : Bd m y) (hm : 1 ≤ m) (py : 0 < y) (hb : n + (p.length + 1) * (m + 1) + m + 2 < 100000000) (hb2 : p.length * m + 1 < 9000) (hm2 : m < 9000) :
    (Γ (k + 4)).call 213 [pD p, fr x y] S = .ok (.v (.int (isgn (phom x y p)))) S := by
  rw [call_n tab_sign_at rfl]
  obtain ⟨u, v, e, fo⟩ := sp_value_at (S := S) k hp hx hy hm py hb hb2 hm2
  have e2 := sp_sign_of (S := S) (k + 2) u v
  have hs := isgn_eq fo.pos (show (0 : Int) < y ^ (p.length - 1) from Int.pow_pos py) fo.eq
  unfold isgn at hs
  rw [hs] at e2
  simp only [fd_sign_at, ev_int, ev_bl, ev_non, ev_str, ev_var, ev_glob, ev_bin, ev_neg, ev_not, ev_cmp, ev_chain, ev_and, ev_or, ev_ife, ev_tup, ev_lst, ev_ix, ev_sl, ev_omit, ev_slr, ev_call, ev_b1, ev_b2, ev_isi, ev_meth, ev_lc, ev_lcif, ev_rng, ev_enum, ev_zip, ev_rev, evs_n, evs_c, alloc_v, alloc_f, setR_eq, ex_set, ex_tset, ex_sset, ex_saug, ex_ex, ex_ret, ex_retN, ex_ite, ex_whl, ex_for, ex_pass, ex_brk, ex_cnt, ex_raise, ex_try, exs_n, exs_c, tried_ok, tried_exc, rs_ret, rs_nx, rs_exc, R.bind_ok, R.bind_exc, R.bind_bad, R.st_ok, R.st_exc, RS.seq_nx, RS.seq_ret, RS.seq_bk, RS.seq_ct, RS.seq_exc, RS.turn_nx, RS.turn_ct, RS.turn_bk, RS.turn_ret, RS.turn_exc, R.nox_ok, orBad_some, lookV_some, lookD_some, onI_int, onLoc_loc, onB_true, onB_false, onB_dec, onBS_true, onBS_false, onBS_dec, bin_int, cmp_lt, cmp_le, cmp_gt, cmp_ge, cmp_eq, cmp_ne, cmp_isb, cmp_isnb, b1_int, b1_intb, b1_abs, b1_lent, b1_lenc, ix_t, ix_c, atR_def, at0, at1, at2, at3, at4, at5, add_of, sub_of, List.map_cons, List.map_nil, List.length_cons, List.length_nil, List.cons_append, List.nil_append, List.replicate_succ, List.replicate_zero, List.getElem?_cons_zero, List.getElem?_cons_succ, List.set_cons_zero, List.set_cons_succ, Nat.zero_add, Nat.reduceAdd, Nat.reduceSub, tupR_0, tupR_1, tupR_2, tupR_3, tupR_4, tupR_5, lstR_0, lstR_1, lstR_2, lstR_3, lstR_4, lstR_5, lstR_6, lstR_7, lstR_8, lstR_9, lstR_10, lstR_11, lstR_12, isi_int, isi_bl, isi_tup, isi_non, isi_str, fin_bl, fin_int, fin_non, fin_str, finX0, handle_hit, handle_nil, hx_bl, hx_str, hx_int, hx_non, hx_cnt, hx_pass, forR_it, forR_f, forR_t, forR_c, gmg, b1_repr, ne_repr, b2_max, b2_min, set_at0, set_at1, set_at2, set_at3, get_at0, get_at1, get_at2, get_at3, List.append_assoc, List.append_nil, List.length_append, List.length_set, Nat.add_zero, e, e2]
  rfl
theorem comp_loop (k : Nat) {p : D} {q : List Int} {n m L K : Nat} (hq : AB m q) (hL : q.length ≤ L) (hb : n + K * (m + K * L + 3) + m + 2 < 100000000) (hb2 : K * L + 1 + L ≤ 1000000 - 1) : ∀ (l : List Int) (i : Nat) (f : List Int) (o3 : Option D) (S : Sto), i + l.length ≤ K → AB n l → AB (n + i * (m + K * L + 3) + 2) f → f.length ≤ i * L + 1 →
    ∃ (o3' : Option D) (G : Sto), frs (Γ (k + 3)) [none] (.name 3) fd_composed_l1 (l.map .int) [some p, some (pD q), some (pD f), o3] S = .ok .nx [some p, some (pD q), some (pD (l.foldl (cstep q) f)), o3'] (S ++ G)
  | [], i, f, o3, S, _, _, _, _ => ⟨o3, [], by rw [List.append_nil]; exact frs_nil noneSrc⟩
  | a :: l, i, f, o3, S, hi, hl, hf, hfl => by
    simp only [List.length_cons] at hi
    have h1 : i * (m + K * L + 3) ≤ K * (m + K * L + 3) := Nat.mul_le_mul_right _ (by omega)
    have h2 : i * L ≤ K * L := Nat.mul_le_mul_right _ (by omega)
    have h3 : (i + 1) * (m + K * L + 3) = i * (m + K * L + 3) + (m + K * L + 3) := Nat.succ_mul ..
    have h4 : (i + 1) * L = i * L + L := Nat.succ_mul ..
    have ta : AB n (trim [a]) := AB.trim fun b hb => hl b (by rw [List.mem_singleton.mp hb]; exact List.mem_cons_self)
    have tl : (trim [a]).length ≤ 1 := trim_len [a]
    have p1 := pmul_AB hf hq
    have p2 := pmul_len (p := f) (q := q)
    have e1 := sp_product (S := S) (k + 1) hf hq (by omega) (by omega)
    have e2 := sp_trimmed_l (S := S ++ [.lst [.int a]]) (k + 2) (n := S.length) (l := [a]) get_at0
    have e3 := sp_sum (S := S ++ [.lst [.int a]]) (k + 1) (p := pmul f q) (q := trim [a]) (by omega)
    have nb : AB (n + (i + 1) * (m + K * L + 3) + 2) (cstep q f a) := (psum_AB (n := n + i * (m + K * L + 3) + 2 + m + f.length) p1 (ta.mono (by omega))).mono (by omega)
    have nl : (cstep q f a).length ≤ (i + 1) * L + 1 := by
      have := psum_len (p := pmul f q) (q := trim [a])
      unfold cstep
      omega
    have hx : execs (Γ (k + 3)) fd_composed_l1 [some p, some (pD q), some (pD f), some (.int a)] S = .ok .nx [some p, some (pD q), some (pD (cstep q f a)), some (.int a)] (S ++ [.lst [.int a]]) := by
      simp only [fd_composed_l1, ev_int, ev_bl, ev_non, ev_str, ev_var, ev_glob, ev_bin, ev_neg, ev_not, ev_cmp, ev_chain, ev_and, ev_or, ev_ife, ev_tup, ev_lst, ev_ix, ev_sl, ev_omit, ev_slr, ev_call, ev_b1, ev_b2, ev_isi, ev_meth, ev_lc, ev_lcif, ev_rng, ev_enum, ev_zip, ev_rev, evs_n, evs_c, alloc_v, alloc_f, setR_eq, ex_set, ex_tset, ex_sset, ex_saug, ex_ex, ex_ret, ex_retN, ex_ite, ex_whl, ex_for, ex_pass, ex_brk, ex_cnt, ex_raise, ex_try, exs_n, exs_c, tried_ok, tried_exc, rs_ret, rs_nx, rs_exc, R.bind_ok, R.bind_exc, R.bind_bad, R.st_ok, R.st_exc, RS.seq_nx, RS.seq_ret, RS.seq_bk, RS.seq_ct, RS.seq_exc, RS.turn_nx, RS.turn_ct, RS.turn_bk, RS.turn_ret, RS.turn_exc, R.nox_ok, orBad_some, lookV_some, lookD_some, onI_int, onLoc_loc, onB_true, onB_false, onB_dec, onBS_true, onBS_false, onBS_dec, bin_int, cmp_lt, cmp_le, cmp_gt, cmp_ge, cmp_eq, cmp_ne, cmp_isb, cmp_isnb, b1_int, b1_intb, b1_abs, b1_lent, b1_lenc, ix_t, ix_c, atR_def, at0, at1, at2, at3, at4, at5, add_of, sub_of, List.map_cons, List.map_nil, List.length_cons, List.length_nil, List.cons_append, List.nil_append, List.replicate_succ, List.replicate_zero, List.getElem?_cons_zero, List.getElem?_cons_succ, List.set_cons_zero, List.set_cons_succ, Nat.zero_add, Nat.reduceAdd, Nat.reduceSub, tupR_0, tupR_1, tupR_2, tupR_3, tupR_4, tupR_5, lstR_0, lstR_1, lstR_2, lstR_3, lstR_4, lstR_5, lstR_6, lstR_7, lstR_8, lstR_9, lstR_10, lstR_11, lstR_12, isi_int, isi_bl, isi_tup, isi_non, isi_str, fin_bl, fin_int, fin_non, fin_str, finX0, handle_hit, handle_nil, hx_bl, hx_str, hx_int, hx_non, hx_cnt, hx_pass, forR_it, forR_f, forR_t, forR_c, gmg, b1_repr, ne_repr, b2_max, b2_min, set_at0, set_at1, set_at2, set_at3, get_at0, get_at1, get_at2, get_at3, List.append_assoc, List.append_nil, List.length_append, List.length_set, Nat.add_zero, e1, e2, e3]
      rfl
    rw [List.map_cons, frs_nx noneSrc rfl hx]
    obtain ⟨o, G, e⟩ := comp_loop k hq hL hb hb2 l (i + 1) (cstep q f a) (some (.int a)) (S ++ [.lst [.int a]]) (by omega) (fun b hb => hl b (List.mem_cons_of_mem _ hb)) nb nl
    exact ⟨o, [.lst [.int a]] ++ G, by rw [e, List.append_assoc]; rfl⟩
theorem sp_composed (k : Nat) {p q : List Int} {n m L K : Nat} (hp : AB n p) (hq : AB m q) (hL : q.length ≤ L) (hK : p.length ≤ K) (hb : n + K * (m + K * L + 3) + m + 2 < 100000000) (hb2 : K * L + 1 + L ≤ 1000000 - 1) : (Γ (k + 4)).call 214 [pD p, pD q] S = .ok (.v (pD (pcomp p q))) S := by
  rw [call_n tab_composed rfl]
  obtain ⟨o, G, e⟩ := comp_loop k (p := pD p) hq hL hb hb2 p.reverse 0 [] none S (by rw [List.length_reverse]; omega) (fun a ha => hp a (List.mem_reverse.mp ha)) (fun a ha => by cases ha) (Nat.zero_le _)
  have e : frs (Γ (k + 3)) [none] (.name 3) fd_composed_l1 (p.reverse.map .int) [some (pD p), some (pD q), some (.tup []), none] S = _ := e
  have rv : revW (.v (pD p)) S = some (.v (pD p.reverse)) := by
    show some (W.v (.tup (p.map D.int).reverse)) = _
    rw [← List.map_reverse]
  simp only [fd_composed, ev_int, ev_bl, ev_non, ev_str, ev_var, ev_glob, ev_bin, ev_neg, ev_not, ev_cmp, ev_chain, ev_and, ev_or, ev_ife, ev_tup, ev_lst, ev_ix, ev_sl, ev_omit, ev_slr, ev_call, ev_b1, ev_b2, ev_isi, ev_meth, ev_lc, ev_lcif, ev_rng, ev_enum, ev_zip, ev_rev, evs_n, evs_c, alloc_v, alloc_f, setR_eq, ex_set, ex_tset, ex_sset, ex_saug, ex_ex, ex_ret, ex_retN, ex_ite, ex_whl, ex_for, ex_pass, ex_brk, ex_cnt, ex_raise, ex_try, exs_n, exs_c, tried_ok, tried_exc, rs_ret, rs_nx, rs_exc, R.bind_ok, R.bind_exc, R.bind_bad, R.st_ok, R.st_exc, RS.seq_nx, RS.seq_ret, RS.seq_bk, RS.seq_ct, RS.seq_exc, RS.turn_nx, RS.turn_ct, RS.turn_bk, RS.turn_ret, RS.turn_exc, R.nox_ok, orBad_some, lookV_some, lookD_some, onI_int, onLoc_loc, onB_true, onB_false, onB_dec, onBS_true, onBS_false, onBS_dec, bin_int, cmp_lt, cmp_le, cmp_gt, cmp_ge, cmp_eq, cmp_ne, cmp_isb, cmp_isnb, b1_int, b1_intb, b1_abs, b1_lent, b1_lenc, ix_t, ix_c, atR_def, at0, at1, at2, at3, at4, at5, add_of, sub_of, List.map_cons, List.map_nil, List.length_cons, List.length_nil, List.cons_append, List.nil_append, List.replicate_succ, List.replicate_zero, List.getElem?_cons_zero, List.getElem?_cons_succ, List.set_cons_zero, List.set_cons_succ, Nat.zero_add, Nat.reduceAdd, Nat.reduceSub, tupR_0, tupR_1, tupR_2, tupR_3, tupR_4, tupR_5, lstR_0, lstR_1, lstR_2, lstR_3, lstR_4, lstR_5, lstR_6, lstR_7, lstR_8, lstR_9, lstR_10, lstR_11, lstR_12, isi_int, isi_bl, isi_tup, isi_non, isi_str, fin_bl, fin_int, fin_non, fin_str, finX0, handle_hit, handle_nil, hx_bl, hx_str, hx_int, hx_non, hx_cnt, hx_pass, forR_it, forR_f, forR_t, forR_c, gmg, b1_repr, ne_repr, b2_max, b2_min, set_at0, set_at1, set_at2, set_at3, get_at0, get_at1, get_at2, get_at3, List.append_assoc, List.append_nil, List.length_append, List.length_set, Nat.add_zero, rv, e, fin_pG]
  rfl
theorem lc_isnum (k : Nat) {o0 : Option D} : ∀ {p : List Int} {T : Sto}, lcR (Γ (k + 1)) (.call 19 [.var 1]) [1] (.name 1) [o0, none] [none] (p.map .int) T = .ok (p.map fun _ => .bl true) T
  | [], T => lcR_nil noneSrc
  | a :: p, T => by
    have e := sp_is_number (S := T) k a
    rw [List.map_cons, lcR_cons (env1 := [o0, some (.int a)]) noneSrc rfl]
    simp only [ev_int, ev_bl, ev_non, ev_str, ev_var, ev_glob, ev_bin, ev_neg, ev_not, ev_cmp, ev_chain, ev_and, ev_or, ev_ife, ev_tup, ev_lst, ev_ix, ev_sl, ev_omit, ev_slr, ev_call, ev_b1, ev_b2, ev_isi, ev_meth, ev_lc, ev_lcif, ev_rng, ev_enum, ev_zip, ev_rev, evs_n, evs_c, alloc_v, alloc_f, setR_eq, ex_set, ex_tset, ex_sset, ex_saug, ex_ex, ex_ret, ex_retN, ex_ite, ex_whl, ex_for, ex_pass, ex_brk, ex_cnt, ex_raise, ex_try, exs_n, exs_c, tried_ok, tried_exc, rs_ret, rs_nx, rs_exc, R.bind_ok, R.bind_exc, R.bind_bad, R.st_ok, R.st_exc, RS.seq_nx, RS.seq_ret, RS.seq_bk, RS.seq_ct, RS.seq_exc, RS.turn_nx, RS.turn_ct, RS.turn_bk, RS.turn_ret, RS.turn_exc, R.nox_ok, orBad_some, lookV_some, lookD_some, onI_int, onLoc_loc, onB_true, onB_false, onB_dec, onBS_true, onBS_false, onBS_dec, bin_int, cmp_lt, cmp_le, cmp_gt, cmp_ge, cmp_eq, cmp_ne, cmp_isb, cmp_isnb, b1_int, b1_intb, b1_abs, b1_lent, b1_lenc, ix_t, ix_c, atR_def, at0, at1, at2, at3, at4, at5, add_of, sub_of, List.map_cons, List.map_nil, List.length_cons, List.length_nil, List.cons_append, List.nil_append, List.replicate_succ, List.replicate_zero, List.getElem?_cons_zero, List.getElem?_cons_succ, List.set_cons_zero, List.set_cons_succ, Nat.zero_add, Nat.reduceAdd, Nat.reduceSub, tupR_0, tupR_1, tupR_2, tupR_3, tupR_4, tupR_5, lstR_0, lstR_1, lstR_2, lstR_3, lstR_4, lstR_5, lstR_6, lstR_7, lstR_8, lstR_9, lstR_10, lstR_11, lstR_12, isi_int, isi_bl, isi_tup, isi_non, isi_str, fin_bl, fin_int, fin_non, fin_str, finX0, handle_hit, handle_nil, hx_bl, hx_str, hx_int, hx_non, hx_cnt, hx_pass, forR_it, forR_f, forR_t, forR_c, gmg, b1_repr, ne_repr, b2_max, b2_min, set_at0, set_at1, set_at2, set_at3, get_at0, get_at1, get_at2, get_at3, List.append_assoc, List.append_nil, List.length_append, List.length_set, Nat.add_zero, e, lc_isnum k (p := p)]
theorem bools_true : ∀ p : List Int, boolsOf (p.map fun _ => D.bl true) = some (p.map fun _ => true)
  | [] => rfl
  | a :: p => by
    have ih := bools_true p
    unfold boolsOf at ih ⊢
    rw [List.map_cons, List.mapM_cons, ih]
    rfl
theorem Tr_iff {p : List Int} : Tr p ↔ p = [] ∨ p.getLast?.getD 0 ≠ 0 := by
  by_cases h : p = []
  · subst h
    exact ⟨fun _ => .inl rfl, fun _ => rfl⟩
  · obtain ⟨r, a, rfl⟩ : ∃ r a, p = r ++ [a] := ⟨p.dropLast, p.getLast h, (List.dropLast_concat_getLast h).symm⟩
    have e : (r ++ [a]).getLast?.getD 0 = a := by simp
    rw [e]
    constructor
    · intro ht
      right
      intro ha
      subst ha
      unfold Tr at ht
      rw [trim_snoc0] at ht
      have := trim_len r
      rw [ht, List.length_append] at this
      simp only [List.length_cons, List.length_nil] at this
      omega
    · intro hor
      rcases hor with z | z
      · simp at z
      · exact trim_snoc r z
instance {p : List Int} : Decidable (Tr p) := inferInstanceAs (Decidable (trim p = p))
theorem sp_is_polynomial (k : Nat) {p : List Int} (hl : p.length ≤ 1000000) : (Γ (k + 2)).call 117 [pD p] S = .ok (.v (.bl (decide (Tr p)))) S := by
  rw [call_n tab_is_polynomial rfl]
  have e := lc_isnum k (p := p) (T := S) (o0 := some (pD p))
  have it : ∀ T : Sto, itemsOf (.v (pD p)) T = some (p.map .int, [none]) := fun _ => rfl
  have l1 : lstR (p.map fun _ => D.bl true) S = .ok (.f (p.map fun _ => .bl true)) S := lstR_ok (by rw [List.length_map]; show p.length ≤ 1048576; omega)
  have al : b1W .all (.f (p.map fun _ => D.bl true)) S = some (.v (.bl true)) := by
    show (match (boolsOf (p.map fun _ => D.bl true)) with | some bs => some (W.v (.bl (bs.all id))) | none => none) = _
    rw [bools_true]
    simp
  have eqn : cmpW .Eq (.v (pD p)) (.v (.tup [])) S = .ok (.v (.bl (decide (p = [])))) S := eq_tt (S := S) p []
  by_cases h : p = []
  · have h' : (p = []) = True := eq_true h
    have ht : decide (Tr p) = true := decide_eq_true (Tr_iff.mpr (.inl h))
    simp only [fd_is_polynomial, ev_int, ev_bl, ev_non, ev_str, ev_var, ev_glob, ev_bin, ev_neg, ev_not, ev_cmp, ev_chain, ev_and, ev_or, ev_ife, ev_tup, ev_lst, ev_ix, ev_sl, ev_omit, ev_slr, ev_call, ev_b1, ev_b2, ev_isi, ev_meth, ev_lc, ev_lcif, ev_rng, ev_enum, ev_zip, ev_rev, evs_n, evs_c, alloc_v, alloc_f, setR_eq, ex_set, ex_tset, ex_sset, ex_saug, ex_ex, ex_ret, ex_retN, ex_ite, ex_whl, ex_for, ex_pass, ex_brk, ex_cnt, ex_raise, ex_try, exs_n, exs_c, tried_ok, tried_exc, rs_ret, rs_nx, rs_exc, R.bind_ok, R.bind_exc, R.bind_bad, R.st_ok, R.st_exc, RS.seq_nx, RS.seq_ret, RS.seq_bk, RS.seq_ct, RS.seq_exc, RS.turn_nx, RS.turn_ct, RS.turn_bk, RS.turn_ret, RS.turn_exc, R.nox_ok, orBad_some, lookV_some, lookD_some, onI_int, onLoc_loc, onB_true, onB_false, onB_dec, onBS_true, onBS_false, onBS_dec, bin_int, cmp_lt, cmp_le, cmp_gt, cmp_ge, cmp_eq, cmp_ne, cmp_isb, cmp_isnb, b1_int, b1_intb, b1_abs, b1_lent, b1_lenc, ix_t, ix_c, atR_def, at0, at1, at2, at3, at4, at5, add_of, sub_of, List.map_cons, List.map_nil, List.length_cons, List.length_nil, List.cons_append, List.nil_append, List.replicate_succ, List.replicate_zero, List.getElem?_cons_zero, List.getElem?_cons_succ, List.set_cons_zero, List.set_cons_succ, Nat.zero_add, Nat.reduceAdd, Nat.reduceSub, tupR_0, tupR_1, tupR_2, tupR_3, tupR_4, tupR_5, lstR_0, lstR_1, lstR_2, lstR_3, lstR_4, lstR_5, lstR_6, lstR_7, lstR_8, lstR_9, lstR_10, lstR_11, lstR_12, isi_int, isi_bl, isi_tup, isi_non, isi_str, fin_bl, fin_int, fin_non, fin_str, finX0, handle_hit, handle_nil, hx_bl, hx_str, hx_int, hx_non, hx_cnt, hx_pass, forR_it, forR_f, forR_t, forR_c, gmg, b1_repr, ne_repr, b2_max, b2_min, set_at0, set_at1, set_at2, set_at3, get_at0, get_at1, get_at2, get_at3, List.append_assoc, List.append_nil, List.length_append, List.length_set, Nat.add_zero, decide_true, it, e, l1, al, eqn, h', if_true, ht]
  · have h' : (p = []) = False := eq_false h
    have ht : decide (Tr p) = decide (p.getLast?.getD 0 ≠ 0) := by
      congr 1
      exact propext ⟨fun z => (Tr_iff.mp z).resolve_left h, fun z => Tr_iff.mpr (.inr z)⟩
    simp only [fd_is_polynomial, ev_int, ev_bl, ev_non, ev_str, ev_var, ev_glob, ev_bin, ev_neg, ev_not, ev_cmp, ev_chain, ev_and, ev_or, ev_ife, ev_tup, ev_lst, ev_ix, ev_sl, ev_omit, ev_slr, ev_call, ev_b1, ev_b2, ev_isi, ev_meth, ev_lc, ev_lcif, ev_rng, ev_enum, ev_zip, ev_rev, evs_n, evs_c, alloc_v, alloc_f, setR_eq, ex_set, ex_tset, ex_sset, ex_saug, ex_ex, ex_ret, ex_retN, ex_ite, ex_whl, ex_for, ex_pass, ex_brk, ex_cnt, ex_raise, ex_try, exs_n, exs_c, tried_ok, tried_exc, rs_ret, rs_nx, rs_exc, R.bind_ok, R.bind_exc, R.bind_bad, R.st_ok, R.st_exc, RS.seq_nx, RS.seq_ret, RS.seq_bk, RS.seq_ct, RS.seq_exc, RS.turn_nx, RS.turn_ct, RS.turn_bk, RS.turn_ret, RS.turn_exc, R.nox_ok, orBad_some, lookV_some, lookD_some, onI_int, onLoc_loc, onB_true, onB_false, onB_dec, onBS_true, onBS_false, onBS_dec, bin_int, cmp_lt, cmp_le, cmp_gt, cmp_ge, cmp_eq, cmp_ne, cmp_isb, cmp_isnb, b1_int, b1_intb, b1_abs, b1_lent, b1_lenc, ix_t, ix_c, atR_def, at0, at1, at2, at3, at4, at5, add_of, sub_of, List.map_cons, List.map_nil, List.length_cons, List.length_nil, List.cons_append, List.nil_append, List.replicate_succ, List.replicate_zero, List.getElem?_cons_zero, List.getElem?_cons_succ, List.set_cons_zero, List.set_cons_succ, Nat.zero_add, Nat.reduceAdd, Nat.reduceSub, tupR_0, tupR_1, tupR_2, tupR_3, tupR_4, tupR_5, lstR_0, lstR_1, lstR_2, lstR_3, lstR_4, lstR_5, lstR_6, lstR_7, lstR_8, lstR_9, lstR_10, lstR_11, lstR_12, isi_int, isi_bl, isi_tup, isi_non, isi_str, fin_bl, fin_int, fin_non, fin_str, finX0, handle_hit, handle_nil, hx_bl, hx_str, hx_int, hx_non, hx_cnt, hx_pass, forR_it, forR_f, forR_t, forR_c, gmg, b1_repr, ne_repr, b2_max, b2_min, set_at0, set_at1, set_at2, set_at3, get_at0, get_at1, get_at2, get_at3, List.append_assoc, List.append_nil, List.length_append, List.length_set, Nat.add_zero, decide_true, it, e, l1, al, eqn, h', if_false, last_at h, ht]
end
end Py

namespace Py
open PySem
section
variable {S : Sto}
theorem cut_m1 {α : Type} (xs : List α) : cut xs none (some (-1)) = xs.dropLast := by
  show (xs.drop 0).take ((if (-1 : Int) < 0 then ((-1 : Int) + (xs.length : Int)).toNat else min (-1 : Int).toNat xs.length) - 0) = _
  rw [if_pos (by decide), List.drop_zero, List.dropLast_eq_take]
  congr 1
  omega
theorem sl_l {n : Nat} {xs : List D} {lo hi : Option Int} (h : S[n]? = some (.lst xs)) : slW (.v (.loc n)) lo hi S = some (.f (cut xs lo hi)) := by
  show (match (match S[n]? with | some (.lst xs) => some xs | none => none) with | some xs => some (W.f (cut xs lo hi)) | none => none) = _
  rw [h]
theorem ltrim_loop (k : Nat) : ∀ (m : Nat) (l : List Int) (T : Sto) (n : Nat), l.length ≤ m → T[n]? = some (.lst (l.map .int)) →
    ∃ n' G, whl (Γ k) fd_law_trim_2_c1 fd_law_trim_2_l1 [some (.loc n)] T = .ok .nx [some (.loc n')] (T ++ G) ∧ (T ++ G)[n']? = some (.lst ((trim l).map .int))
  | m, l, T, n, hm, h => by
    have c1 : ev (Γ k) fd_law_trim_2_c1 [some (.loc n)] T = if (0 : Int) < l.length then (ixR (.v (.loc n)) (.v (.int (-1))) T).bind (fun x S1 => cmpW .Eq x (.v (.int 0)) S1) else .ok (.v (.bl false)) T := by
      simp only [fd_law_trim_2_c1, ev_int, ev_bl, ev_non, ev_str, ev_var, ev_glob, ev_bin, ev_neg, ev_not, ev_cmp, ev_chain, ev_and, ev_or, ev_ife, ev_tup, ev_lst, ev_ix, ev_sl, ev_omit, ev_slr, ev_call, ev_b1, ev_b2, ev_isi, ev_meth, ev_lc, ev_lcif, ev_rng, ev_enum, ev_zip, ev_rev, evs_n, evs_c, alloc_v, alloc_f, setR_eq, ex_set, ex_tset, ex_sset, ex_saug, ex_ex, ex_ret, ex_retN, ex_ite, ex_whl, ex_for, ex_pass, ex_brk, ex_cnt, ex_raise, ex_try, exs_n, exs_c, tried_ok, tried_exc, rs_ret, rs_nx, rs_exc, R.bind_ok, R.bind_exc, R.bind_bad, R.st_ok, R.st_exc, RS.seq_nx, RS.seq_ret, RS.seq_bk, RS.seq_ct, RS.seq_exc, RS.turn_nx, RS.turn_ct, RS.turn_bk, RS.turn_ret, RS.turn_exc, R.nox_ok, orBad_some, lookV_some, lookD_some, onI_int, onLoc_loc, onB_true, onB_false, onB_dec, onBS_true, onBS_false, onBS_dec, bin_int, cmp_lt, cmp_le, cmp_gt, cmp_ge, cmp_eq, cmp_ne, cmp_isb, cmp_isnb, b1_int, b1_intb, b1_abs, b1_lent, b1_lenc, ix_t, ix_c, atR_def, at0, at1, at2, at3, at4, at5, add_of, sub_of, List.map_cons, List.map_nil, List.length_cons, List.length_nil, List.cons_append, List.nil_append, List.replicate_succ, List.replicate_zero, List.getElem?_cons_zero, List.getElem?_cons_succ, List.set_cons_zero, List.set_cons_succ, Nat.zero_add, Nat.reduceAdd, Nat.reduceSub, tupR_0, tupR_1, tupR_2, tupR_3, tupR_4, tupR_5, lstR_0, lstR_1, lstR_2, lstR_3, lstR_4, lstR_5, lstR_6, lstR_7, lstR_8, lstR_9, lstR_10, lstR_11, lstR_12, isi_int, isi_bl, isi_tup, isi_non, isi_str, fin_bl, fin_int, fin_non, fin_str, finX0, handle_hit, handle_nil, hx_bl, hx_str, hx_int, hx_non, hx_cnt, hx_pass, forR_it, forR_f, forR_t, forR_c, gmg, b1_repr, ne_repr, b2_max, b2_min, set_at0, set_at1, set_at2, set_at3, get_at0, get_at1, get_at2, get_at3, List.append_assoc, List.append_nil, List.length_append, List.length_set, Nat.add_zero, b1_lenl h, List.length_map]
    by_cases hl : l = []
    · subst hl
      rw [if_neg (by simp)] at c1
      exact ⟨n, [], by rw [whl_f c1, List.append_nil], by rw [List.append_nil]; exact h⟩
    · have hpos : 0 < l.length := List.length_pos_iff.mpr hl
      rw [if_pos (by omega)] at c1
      obtain ⟨r, a, rfl⟩ : ∃ r a, l = r ++ [a] := ⟨l.dropLast, l.getLast hl, (List.dropLast_concat_getLast hl).symm⟩
      have ea : atI ((r ++ [a]).map D.int) (-1) = some (.int a) := by
        rw [at_m1 (by simp)]
        simp
      simp only [ix_l h, ev_int, ev_bl, ev_non, ev_str, ev_var, ev_glob, ev_bin, ev_neg, ev_not, ev_cmp, ev_chain, ev_and, ev_or, ev_ife, ev_tup, ev_lst, ev_ix, ev_sl, ev_omit, ev_slr, ev_call, ev_b1, ev_b2, ev_isi, ev_meth, ev_lc, ev_lcif, ev_rng, ev_enum, ev_zip, ev_rev, evs_n, evs_c, alloc_v, alloc_f, setR_eq, ex_set, ex_tset, ex_sset, ex_saug, ex_ex, ex_ret, ex_retN, ex_ite, ex_whl, ex_for, ex_pass, ex_brk, ex_cnt, ex_raise, ex_try, exs_n, exs_c, tried_ok, tried_exc, rs_ret, rs_nx, rs_exc, R.bind_ok, R.bind_exc, R.bind_bad, R.st_ok, R.st_exc, RS.seq_nx, RS.seq_ret, RS.seq_bk, RS.seq_ct, RS.seq_exc, RS.turn_nx, RS.turn_ct, RS.turn_bk, RS.turn_ret, RS.turn_exc, R.nox_ok, orBad_some, lookV_some, lookD_some, onI_int, onLoc_loc, onB_true, onB_false, onB_dec, onBS_true, onBS_false, onBS_dec, bin_int, cmp_lt, cmp_le, cmp_gt, cmp_ge, cmp_eq, cmp_ne, cmp_isb, cmp_isnb, b1_int, b1_intb, b1_abs, b1_lent, b1_lenc, ix_t, ix_c, atR_def, at0, at1, at2, at3, at4, at5, add_of, sub_of, List.map_cons, List.map_nil, List.length_cons, List.length_nil, List.cons_append, List.nil_append, List.replicate_succ, List.replicate_zero, List.getElem?_cons_zero, List.getElem?_cons_succ, List.set_cons_zero, List.set_cons_succ, Nat.zero_add, Nat.reduceAdd, Nat.reduceSub, tupR_0, tupR_1, tupR_2, tupR_3, tupR_4, tupR_5, lstR_0, lstR_1, lstR_2, lstR_3, lstR_4, lstR_5, lstR_6, lstR_7, lstR_8, lstR_9, lstR_10, lstR_11, lstR_12, isi_int, isi_bl, isi_tup, isi_non, isi_str, fin_bl, fin_int, fin_non, fin_str, finX0, handle_hit, handle_nil, hx_bl, hx_str, hx_int, hx_non, hx_cnt, hx_pass, forR_it, forR_f, forR_t, forR_c, gmg, b1_repr, ne_repr, b2_max, b2_min, set_at0, set_at1, set_at2, set_at3, get_at0, get_at1, get_at2, get_at3, List.append_assoc, List.append_nil, List.length_append, List.length_set, Nat.add_zero, ea] at c1
      by_cases ha : a = 0
      · subst ha
        simp only [decide_true] at c1
        have p1 : partOf (.v (.int (-1))) = some (some (-1)) := rfl
        have p2 : partOf (.it [] []) = some none := rfl
        have hs := sl_l (lo := none) (hi := some (-1)) h
        rw [cut_m1, List.map_append, List.map_cons, List.map_nil, List.dropLast_concat] at hs
        have hx : execs (Γ k) fd_law_trim_2_l1 [some (.loc n)] T = .ok .nx [some (.loc T.length)] (T ++ [.lst (r.map .int)]) := by
          simp only [fd_law_trim_2_l1, ev_int, ev_bl, ev_non, ev_str, ev_var, ev_glob, ev_bin, ev_neg, ev_not, ev_cmp, ev_chain, ev_and, ev_or, ev_ife, ev_tup, ev_lst, ev_ix, ev_sl, ev_omit, ev_slr, ev_call, ev_b1, ev_b2, ev_isi, ev_meth, ev_lc, ev_lcif, ev_rng, ev_enum, ev_zip, ev_rev, evs_n, evs_c, alloc_v, alloc_f, setR_eq, ex_set, ex_tset, ex_sset, ex_saug, ex_ex, ex_ret, ex_retN, ex_ite, ex_whl, ex_for, ex_pass, ex_brk, ex_cnt, ex_raise, ex_try, exs_n, exs_c, tried_ok, tried_exc, rs_ret, rs_nx, rs_exc, R.bind_ok, R.bind_exc, R.bind_bad, R.st_ok, R.st_exc, RS.seq_nx, RS.seq_ret, RS.seq_bk, RS.seq_ct, RS.seq_exc, RS.turn_nx, RS.turn_ct, RS.turn_bk, RS.turn_ret, RS.turn_exc, R.nox_ok, orBad_some, lookV_some, lookD_some, onI_int, onLoc_loc, onB_true, onB_false, onB_dec, onBS_true, onBS_false, onBS_dec, bin_int, cmp_lt, cmp_le, cmp_gt, cmp_ge, cmp_eq, cmp_ne, cmp_isb, cmp_isnb, b1_int, b1_intb, b1_abs, b1_lent, b1_lenc, ix_t, ix_c, atR_def, at0, at1, at2, at3, at4, at5, add_of, sub_of, List.map_cons, List.map_nil, List.length_cons, List.length_nil, List.cons_append, List.nil_append, List.replicate_succ, List.replicate_zero, List.getElem?_cons_zero, List.getElem?_cons_succ, List.set_cons_zero, List.set_cons_succ, Nat.zero_add, Nat.reduceAdd, Nat.reduceSub, tupR_0, tupR_1, tupR_2, tupR_3, tupR_4, tupR_5, lstR_0, lstR_1, lstR_2, lstR_3, lstR_4, lstR_5, lstR_6, lstR_7, lstR_8, lstR_9, lstR_10, lstR_11, lstR_12, isi_int, isi_bl, isi_tup, isi_non, isi_str, fin_bl, fin_int, fin_non, fin_str, finX0, handle_hit, handle_nil, hx_bl, hx_str, hx_int, hx_non, hx_cnt, hx_pass, forR_it, forR_f, forR_t, forR_c, gmg, b1_repr, ne_repr, b2_max, b2_min, set_at0, set_at1, set_at2, set_at3, get_at0, get_at1, get_at2, get_at3, List.append_assoc, List.append_nil, List.length_append, List.length_set, Nat.add_zero, p1, p2, hs]
        cases m with
        | zero => simp at hm
        | succ m =>
          obtain ⟨n', G, e1, e2⟩ := ltrim_loop k m r (T ++ [.lst (r.map .int)]) T.length (by simp at hm; omega) get_at0
          rw [whl_t c1 hx, trim_snoc0]
          exact ⟨n', [.lst (r.map .int)] ++ G, by rw [e1, List.append_assoc], by rw [← List.append_assoc]; exact e2⟩
      · simp only [ha, decide_false] at c1
        rw [trim_snoc r ha]
        exact ⟨n, [], by rw [whl_f c1, List.append_nil], by rw [List.append_nil]; exact h⟩
theorem sp_ltrim_W (k : Nat) {d : D} {l : List Int} (h : b1W .lst (.v d) S = some (.f (l.map .int))) : (Γ (k + 1)).call 196 [d] S = .ok (.v (pD (trim l))) S := by
  rw [call_n tab_law_trim_2 rfl]
  obtain ⟨n', G, e1, e2⟩ := ltrim_loop k l.length l (S ++ [.lst (l.map .int)]) S.length (Nat.le_refl _) get_at0
  have f : finish S (S ++ [.lst (l.map .int)] ++ G) (.v (pD (trim l))) = .ok (.v (pD (trim l))) S := by
    rw [List.append_assoc]
    exact fin_pG
  simp only [fd_law_trim_2, exs_c, exs_n, ex_set, ex_whl, ex_ret, ev_b1, ev_var, List.map_cons, List.map_nil, List.cons_append, List.nil_append, List.length_cons, List.length_nil, Nat.zero_add, Nat.sub_self, List.replicate_zero, List.getElem?_cons_zero, lookV_some, R.bind_ok, R.st_ok, h, orBad_some, alloc_f, setR_eq, List.set_cons_zero, RS.seq_nx, e1, b1_tup_l e2, RS.seq_ret, rs_ret, f]
theorem sp_ltrim_t (k : Nat) (l : List Int) : (Γ (k + 1)).call 196 [pD l] S = .ok (.v (pD (trim l))) S := sp_ltrim_W k rfl
theorem sp_ltrim_l (k : Nat) {n : Nat} {l : List Int} (h : S[n]? = some (.lst (l.map .int))) : (Γ (k + 1)).call 196 [.loc n] S = .ok (.v (pD (trim l))) S := sp_ltrim_W k (b1_lst_l h)
theorem sp_lscale (k : Nat) {c : Int} {p : List Int} {n m : Nat} (hc : Bd n c) (hp : AB m p) (hnm : n + m < 100000000) (hl : p.length ≤ 1000000) : (Γ (k + 2)).call 217 [.int c, pD p] S = .ok (.v (pD (pscale c p))) S := by
  rw [call_n tab_law_scale_2 rfl]
  have e1 := lc_scale (k + 1) hc hnm hp (T := S) (o1 := some (pD p))
  have e2 := sp_ltrim_l (S := S ++ [.lst ((p.map (c * ·)).map .int)]) k (n := S.length) get_at0
  have it : ∀ T : Sto, itemsOf (.v (pD p)) T = some (p.map .int, [none]) := fun _ => rfl
  have l1 : lstR ((p.map (c * ·)).map D.int) S = .ok (.f ((p.map (c * ·)).map .int)) S := lstR_ok (by rw [List.length_map, List.length_map]; show p.length ≤ 1048576; omega)
  simp only [fd_law_scale_2, ev_int, ev_bl, ev_non, ev_str, ev_var, ev_glob, ev_bin, ev_neg, ev_not, ev_cmp, ev_chain, ev_and, ev_or, ev_ife, ev_tup, ev_lst, ev_ix, ev_sl, ev_omit, ev_slr, ev_call, ev_b1, ev_b2, ev_isi, ev_meth, ev_lc, ev_lcif, ev_rng, ev_enum, ev_zip, ev_rev, evs_n, evs_c, alloc_v, alloc_f, setR_eq, ex_set, ex_tset, ex_sset, ex_saug, ex_ex, ex_ret, ex_retN, ex_ite, ex_whl, ex_for, ex_pass, ex_brk, ex_cnt, ex_raise, ex_try, exs_n, exs_c, tried_ok, tried_exc, rs_ret, rs_nx, rs_exc, R.bind_ok, R.bind_exc, R.bind_bad, R.st_ok, R.st_exc, RS.seq_nx, RS.seq_ret, RS.seq_bk, RS.seq_ct, RS.seq_exc, RS.turn_nx, RS.turn_ct, RS.turn_bk, RS.turn_ret, RS.turn_exc, R.nox_ok, orBad_some, lookV_some, lookD_some, onI_int, onLoc_loc, onB_true, onB_false, onB_dec, onBS_true, onBS_false, onBS_dec, bin_int, cmp_lt, cmp_le, cmp_gt, cmp_ge, cmp_eq, cmp_ne, cmp_isb, cmp_isnb, b1_int, b1_intb, b1_abs, b1_lent, b1_lenc, ix_t, ix_c, atR_def, at0, at1, at2, at3, at4, at5, add_of, sub_of, List.map_cons, List.map_nil, List.length_cons, List.length_nil, List.cons_append, List.nil_append, List.replicate_succ, List.replicate_zero, List.getElem?_cons_zero, List.getElem?_cons_succ, List.set_cons_zero, List.set_cons_succ, Nat.zero_add, Nat.reduceAdd, Nat.reduceSub, tupR_0, tupR_1, tupR_2, tupR_3, tupR_4, tupR_5, lstR_0, lstR_1, lstR_2, lstR_3, lstR_4, lstR_5, lstR_6, lstR_7, lstR_8, lstR_9, lstR_10, lstR_11, lstR_12, isi_int, isi_bl, isi_tup, isi_non, isi_str, fin_bl, fin_int, fin_non, fin_str, finX0, handle_hit, handle_nil, hx_bl, hx_str, hx_int, hx_non, hx_cnt, hx_pass, forR_it, forR_f, forR_t, forR_c, gmg, b1_repr, ne_repr, b2_max, b2_min, set_at0, set_at1, set_at2, set_at3, get_at0, get_at1, get_at2, get_at3, List.append_assoc, List.append_nil, List.length_append, List.length_set, Nat.add_zero, it, e1, l1, e2, fin_pG]
  rfl
/-- a comprehension over a range -/
theorem lcR_rng (k : Nat) {e : E} {vs : List Nat} {tg : Tg} {env : Env} {lo : Int} {M : Nat} (f : Nat → Int) (ht : ∀ j, j < M → ∃ env1, bindTg S tg (.int (lo + j)) (wipe env vs) = some env1 ∧ ev (Γ k) e env1 S = .ok (.v (.int (f j))) S) :
    lcR (Γ k) e vs tg env [] (rangeD lo (lo + M)) S = .ok (((List.range M).map f).map .int) S := by
  have h := lcR_map (G := Γ k) (e := e) (vs := vs) (tg := tg) (env := env) (S := S) (src := []) (fun d => match d with | .int i => .int (f (i - lo).toNat) | d => d) noSrc (xs := rangeD lo (lo + M)) (fun x hx => by
    unfold rangeD at hx
    obtain ⟨j, hj, rfl⟩ := List.mem_map.mp hx
    have hj := List.mem_range.mp hj
    obtain ⟨env1, h1, h2⟩ := ht j (by omega)
    refine ⟨env1, h1, ?_⟩
    rw [h2]
    show _ = R.ok (W.v (.int (f (lo + (j : Int) - lo).toNat))) S
    rw [show (lo + (j : Int) - lo).toNat = j by omega])
  rw [h]
  congr 1
  unfold rangeD
  rw [show (lo + (M : Int) - lo).toNat = M by omega, List.map_map, List.map_map]
  refine List.map_congr_left fun j _ => ?_
  show D.int (f (lo + (j : Int) - lo).toNat) = D.int (f j)
  rw [show (lo + (j : Int) - lo).toNat = j by omega]
end
/-- the sum, place by place -/
def addL (p q : List Int) : List Int := (List.range (max p.length q.length)).map fun j => p[j]?.getD 0 + q[j]?.getD 0
theorem pev_range (f : Nat → Int) : ∀ (n : Nat) (x : Int), pev ((List.range (n + 1)).map f) x = f 0 + x * pev ((List.range n).map fun j => f (j + 1)) x := fun n x => by
  rw [List.range_succ_eq_map, List.map_cons, pev_cons, List.map_map]
  rfl
theorem pev_pad : ∀ (p : List Int) (n : Nat) (x : Int), p.length ≤ n → pev ((List.range n).map fun j => p[j]?.getD 0) x = pev p x
  | [], n, x, _ => by
    have : (List.range n).map (fun j => (([] : List Int)[j]?).getD 0) = List.replicate n 0 := by
      refine List.ext_getElem? fun i => ?_
      rw [List.getElem?_map, List.getElem?_replicate]
      by_cases h : i < n
      · rw [if_pos h, List.getElem?_range h]
        simp
      · rw [if_neg h, List.getElem?_eq_none (by rw [List.length_range]; omega)]
        rfl
    rw [this, pev_zeros]
    rfl
  | a :: p, 0, x, h => by simp at h
  | a :: p, n + 1, x, h => by
    rw [pev_range]
    simp only [List.getElem?_cons_zero, List.getElem?_cons_succ, Option.getD_some]
    rw [pev_pad p n x (by simpa using h), pev_cons]
theorem pev_addR (f g : Nat → Int) : ∀ (n : Nat) (x : Int), pev ((List.range n).map fun j => f j + g j) x = pev ((List.range n).map f) x + pev ((List.range n).map g) x := by
  intro n
  induction n generalizing f g with
  | zero => intro x; rfl
  | succ n ih =>
    intro x
    rw [pev_range, pev_range, pev_range, ih (fun j => f (j + 1)) (fun j => g (j + 1))]
    grind
theorem trim_addL (p q : List Int) : trim (addL p q) = psum p q := by
  refine pev_inj (trim_idem _) psum_tr fun x => ?_
  rw [pev_trim, psum_ev]
  unfold addL
  rw [pev_addR (fun j => p[j]?.getD 0) (fun j => q[j]?.getD 0), pev_pad p _ x (by omega), pev_pad q _ x (by omega)]
end Py
namespace Py
open PySem
section
variable {S : Sto}
theorem pick (k : Nat) {p : List Int} {i : Nat} {v : E} {j : Nat} {env : Env} (h0 : env[i]? = some (some (pD p))) (h2 : env[2]? = some (some (.int j))) : ev (Γ k) (.ife (.cmp .Lt (.var 2) (.b1 .len (.var i))) (.ix (.var i) (.var 2)) (.int 0)) env S = .ok (.v (.int (p[j]?.getD 0))) S := by
  by_cases h : (j : Int) < (p.length : Int)
  · simp only [ev_int, ev_bl, ev_non, ev_str, ev_var, ev_glob, ev_bin, ev_neg, ev_not, ev_cmp, ev_chain, ev_and, ev_or, ev_ife, ev_tup, ev_lst, ev_ix, ev_sl, ev_omit, ev_slr, ev_call, ev_b1, ev_b2, ev_isi, ev_meth, ev_lc, ev_lcif, ev_rng, ev_enum, ev_zip, ev_rev, evs_n, evs_c, alloc_v, alloc_f, setR_eq, ex_set, ex_tset, ex_sset, ex_saug, ex_ex, ex_ret, ex_retN, ex_ite, ex_whl, ex_for, ex_pass, ex_brk, ex_cnt, ex_raise, ex_try, exs_n, exs_c, tried_ok, tried_exc, rs_ret, rs_nx, rs_exc, R.bind_ok, R.bind_exc, R.bind_bad, R.st_ok, R.st_exc, RS.seq_nx, RS.seq_ret, RS.seq_bk, RS.seq_ct, RS.seq_exc, RS.turn_nx, RS.turn_ct, RS.turn_bk, RS.turn_ret, RS.turn_exc, R.nox_ok, orBad_some, lookV_some, lookD_some, onI_int, onLoc_loc, onB_true, onB_false, onB_dec, onBS_true, onBS_false, onBS_dec, bin_int, cmp_lt, cmp_le, cmp_gt, cmp_ge, cmp_eq, cmp_ne, cmp_isb, cmp_isnb, b1_int, b1_intb, b1_abs, b1_lent, b1_lenc, ix_t, ix_c, atR_def, at0, at1, at2, at3, at4, at5, add_of, sub_of, List.map_cons, List.map_nil, List.length_cons, List.length_nil, List.cons_append, List.nil_append, List.replicate_succ, List.replicate_zero, List.getElem?_cons_zero, List.getElem?_cons_succ, List.set_cons_zero, List.set_cons_succ, Nat.zero_add, Nat.reduceAdd, Nat.reduceSub, tupR_0, tupR_1, tupR_2, tupR_3, tupR_4, tupR_5, lstR_0, lstR_1, lstR_2, lstR_3, lstR_4, lstR_5, lstR_6, lstR_7, lstR_8, lstR_9, lstR_10, lstR_11, lstR_12, isi_int, isi_bl, isi_tup, isi_non, isi_str, fin_bl, fin_int, fin_non, fin_str, finX0, handle_hit, handle_nil, hx_bl, hx_str, hx_int, hx_non, hx_cnt, hx_pass, forR_it, forR_f, forR_t, forR_c, gmg, b1_repr, ne_repr, b2_max, b2_min, set_at0, set_at1, set_at2, set_at3, get_at0, get_at1, get_at2, get_at3, List.append_assoc, List.append_nil, List.length_append, List.length_set, Nat.add_zero, h0, h2, List.length_map, h, if_true, at_ints (show j < p.length by omega)]
  · have e : p[j]? = none := List.getElem?_eq_none (by omega)
    simp only [ev_int, ev_bl, ev_non, ev_str, ev_var, ev_glob, ev_bin, ev_neg, ev_not, ev_cmp, ev_chain, ev_and, ev_or, ev_ife, ev_tup, ev_lst, ev_ix, ev_sl, ev_omit, ev_slr, ev_call, ev_b1, ev_b2, ev_isi, ev_meth, ev_lc, ev_lcif, ev_rng, ev_enum, ev_zip, ev_rev, evs_n, evs_c, alloc_v, alloc_f, setR_eq, ex_set, ex_tset, ex_sset, ex_saug, ex_ex, ex_ret, ex_retN, ex_ite, ex_whl, ex_for, ex_pass, ex_brk, ex_cnt, ex_raise, ex_try, exs_n, exs_c, tried_ok, tried_exc, rs_ret, rs_nx, rs_exc, R.bind_ok, R.bind_exc, R.bind_bad, R.st_ok, R.st_exc, RS.seq_nx, RS.seq_ret, RS.seq_bk, RS.seq_ct, RS.seq_exc, RS.turn_nx, RS.turn_ct, RS.turn_bk, RS.turn_ret, RS.turn_exc, R.nox_ok, orBad_some, lookV_some, lookD_some, onI_int, onLoc_loc, onB_true, onB_false, onB_dec, onBS_true, onBS_false, onBS_dec, bin_int, cmp_lt, cmp_le, cmp_gt, cmp_ge, cmp_eq, cmp_ne, cmp_isb, cmp_isnb, b1_int, b1_intb, b1_abs, b1_lent, b1_lenc, ix_t, ix_c, atR_def, at0, at1, at2, at3, at4, at5, add_of, sub_of, List.map_cons, List.map_nil, List.length_cons, List.length_nil, List.cons_append, List.nil_append, List.replicate_succ, List.replicate_zero, List.getElem?_cons_zero, List.getElem?_cons_succ, List.set_cons_zero, List.set_cons_succ, Nat.zero_add, Nat.reduceAdd, Nat.reduceSub, tupR_0, tupR_1, tupR_2, tupR_3, tupR_4, tupR_5, lstR_0, lstR_1, lstR_2, lstR_3, lstR_4, lstR_5, lstR_6, lstR_7, lstR_8, lstR_9, lstR_10, lstR_11, lstR_12, isi_int, isi_bl, isi_tup, isi_non, isi_str, fin_bl, fin_int, fin_non, fin_str, finX0, handle_hit, handle_nil, hx_bl, hx_str, hx_int, hx_non, hx_cnt, hx_pass, forR_it, forR_f, forR_t, forR_c, gmg, b1_repr, ne_repr, b2_max, b2_min, set_at0, set_at1, set_at2, set_at3, get_at0, get_at1, get_at2, get_at3, List.append_assoc, List.append_nil, List.length_append, List.length_set, Nat.add_zero, h0, h2, List.length_map, h, if_false, e, Option.getD_none]
theorem sp_ladd (k : Nat) {p q : List Int} (hl : p.length + q.length ≤ 1000000) : (Γ (k + 2)).call 216 [pD p, pD q] S = .ok (.v (pD (psum p q))) S := by
  rw [call_n tab_law_add_2 rfl]
  have e := lcR_rng (S := S) (k + 1) (e := .bin .Add (.ife (.cmp .Lt (.var 2) (.b1 .len (.var 0))) (.ix (.var 0) (.var 2)) (.int 0)) (.ife (.cmp .Lt (.var 2) (.b1 .len (.var 1))) (.ix (.var 1) (.var 2)) (.int 0))) (vs := [2]) (tg := .name 2) (env := [some (pD p), some (pD q), none]) (lo := 0) (M := max p.length q.length) (fun j => p[j]?.getD 0 + q[j]?.getD 0) (fun j _ => by
    refine ⟨[some (pD p), some (pD q), some (.int j)], by rw [Int.zero_add]; rfl, ?_⟩
    rw [ev_bin, pick (k + 1) (p := p) (i := 0) (j := j) (v := .int 0) rfl rfl, R.bind_ok, pick (k + 1) (p := q) (i := 1) (j := j) (v := .int 0) rfl rfl, R.bind_ok, bin_int, add_of]
    rfl)
  rw [Int.zero_add] at e
  have e2 := sp_ltrim_l (S := S ++ [.lst ((addL p q).map .int)]) k (n := S.length) get_at0
  rw [trim_addL] at e2
  have hr : rngW [.int ((max p.length q.length : Nat) : Int)] = some (rangeD 0 ((max p.length q.length : Nat) : Int)) := rng_1 (by unfold small; exact decide_eq_true (by omega))
  have it : ∀ (xs : List D) (s : List Src) (T : Sto), itemsOf (.it xs s) T = some (xs, s) := fun _ _ _ => rfl
  have l1 : lstR ((addL p q).map D.int) S = .ok (.f ((addL p q).map .int)) S := lstR_ok (by unfold addL; rw [List.length_map, List.length_map, List.length_range]; show _ ≤ 1048576; omega)
  have e : lcR (Γ (k + 1)) (.bin .Add (.ife (.cmp .Lt (.var 2) (.b1 .len (.var 0))) (.ix (.var 0) (.var 2)) (.int 0)) (.ife (.cmp .Lt (.var 2) (.b1 .len (.var 1))) (.ix (.var 1) (.var 2)) (.int 0))) [2] (.name 2) [some (pD p), some (pD q), none] [] (rangeD 0 ((max p.length q.length : Nat) : Int)) S = .ok ((addL p q).map .int) S := e
  simp only [fd_law_add_2, ev_int, ev_bl, ev_non, ev_str, ev_var, ev_glob, ev_bin, ev_neg, ev_not, ev_cmp, ev_chain, ev_and, ev_or, ev_ife, ev_tup, ev_lst, ev_ix, ev_sl, ev_omit, ev_slr, ev_call, ev_b1, ev_b2, ev_isi, ev_meth, ev_lc, ev_lcif, ev_rng, ev_enum, ev_zip, ev_rev, evs_n, evs_c, alloc_v, alloc_f, setR_eq, ex_set, ex_tset, ex_sset, ex_saug, ex_ex, ex_ret, ex_retN, ex_ite, ex_whl, ex_for, ex_pass, ex_brk, ex_cnt, ex_raise, ex_try, exs_n, exs_c, tried_ok, tried_exc, rs_ret, rs_nx, rs_exc, R.bind_ok, R.bind_exc, R.bind_bad, R.st_ok, R.st_exc, RS.seq_nx, RS.seq_ret, RS.seq_bk, RS.seq_ct, RS.seq_exc, RS.turn_nx, RS.turn_ct, RS.turn_bk, RS.turn_ret, RS.turn_exc, R.nox_ok, orBad_some, lookV_some, lookD_some, onI_int, onLoc_loc, onB_true, onB_false, onB_dec, onBS_true, onBS_false, onBS_dec, bin_int, cmp_lt, cmp_le, cmp_gt, cmp_ge, cmp_eq, cmp_ne, cmp_isb, cmp_isnb, b1_int, b1_intb, b1_abs, b1_lent, b1_lenc, ix_t, ix_c, atR_def, at0, at1, at2, at3, at4, at5, add_of, sub_of, List.map_cons, List.map_nil, List.length_cons, List.length_nil, List.cons_append, List.nil_append, List.replicate_succ, List.replicate_zero, List.getElem?_cons_zero, List.getElem?_cons_succ, List.set_cons_zero, List.set_cons_succ, Nat.zero_add, Nat.reduceAdd, Nat.reduceSub, tupR_0, tupR_1, tupR_2, tupR_3, tupR_4, tupR_5, lstR_0, lstR_1, lstR_2, lstR_3, lstR_4, lstR_5, lstR_6, lstR_7, lstR_8, lstR_9, lstR_10, lstR_11, lstR_12, isi_int, isi_bl, isi_tup, isi_non, isi_str, fin_bl, fin_int, fin_non, fin_str, finX0, handle_hit, handle_nil, hx_bl, hx_str, hx_int, hx_non, hx_cnt, hx_pass, forR_it, forR_f, forR_t, forR_c, gmg, b1_repr, ne_repr, b2_max, b2_min, set_at0, set_at1, set_at2, set_at3, get_at0, get_at1, get_at2, get_at3, List.append_assoc, List.append_nil, List.length_append, List.length_set, Nat.add_zero, List.length_map, max_len, hr, it, e, l1, e2, fin_pG]
theorem addAt_snoc : ∀ (l : List Int) (i : Nat) (b : Int) (f : List Int), addAt i (l ++ [b]) f = (addAt i l f).set (i + l.length) ((addAt i l f)[i + l.length]?.getD 0 + b)
  | [], i, b, f => rfl
  | a :: l, i, b, f => by
    show addAt (i + 1) (l ++ [b]) _ = _
    rw [addAt_snoc l (i + 1) b, List.length_cons, show i + 1 + l.length = i + (l.length + 1) by omega]
    rfl
theorem mulAt_snoc : ∀ (p : List Int) (i : Nat) (a : Int) (q f : List Int), mulAt i (p ++ [a]) q f = addAt (i + p.length) (q.map (a * ·)) (mulAt i p q f)
  | [], i, a, q, f => rfl
  | b :: p, i, a, q, f => by
    show mulAt (i + 1) (p ++ [a]) q _ = _
    rw [mulAt_snoc p (i + 1) a, List.length_cons, show i + 1 + p.length = i + (p.length + 1) by omega]
    rfl
theorem take_snoc {α : Type} {l : List α} {j : Nat} (h : j < l.length) : l.take (j + 1) = l.take j ++ [l[j]] := (List.take_append_getElem h).symm
theorem lmul_loop2 (k : Nat) {n : Nat} {p q : List Int} {i na m : Nat} (hp : AB na p) (hq : AB m q) (hnm : na + m < 100000000) (hi : i < p.length) {f : List Int} (hl : i + q.length ≤ f.length) {T : Sto} (h : T[n]? = some (.lst (f.map .int))) (o4 : Option D) :
    ∃ o4', frs (Γ k) [] (.name 4) fd_law_mul_2_l2 (rangeD 0 (q.length : Int)) [some (pD p), some (pD q), some (.loc n), some (.int i), o4] T = .ok .nx [some (pD p), some (pD q), some (.loc n), some (.int i), o4'] (T.set n (.lst ((addAt i (q.map (p[i] * ·)) f).map .int))) := by
  have hn : n < T.length := (List.getElem?_eq_some_iff.mp h).1
  have main := frs_inv (G := Γ k) (src := []) (tg := .name 4) (b := fd_law_mul_2_l2) (xs := rangeD 0 (q.length : Int)) (fun j env S => (∃ o, env = [some (pD p), some (pD q), some (.loc n), some (.int i), o]) ∧ S = T.set n (.lst ((addAt i ((q.take j).map (p[i] * ·)) f).map .int))) (fun _ _ _ _ => noSrc) (fun j x env S hx hI => by
    obtain ⟨⟨o, rfl⟩, rfl⟩ := hI
    obtain ⟨rfl, hj⟩ := range_get hx
    have hj : j < q.length := by omega
    rw [Int.zero_add]
    have hg := get_set (n := n) (x := O.lst ((addAt i ((q.take j).map (p[i] * ·)) f).map .int)) hn
    have hlen : i + j < (addAt i ((q.take j).map (p[i] * ·)) f).length := by rw [addAt_len]; omega
    have m1 := mul_of (hp p[i] (List.getElem_mem hi)) (hq q[j] (List.getElem_mem hj)) hnm
    have ei : (i : Int) + (j : Int) = ((i + j : Nat) : Int) := by omega
    have pi : atI (p.map D.int) (i : Int) = some (.int p[i]) := by rw [at_ints hi, List.getElem?_eq_getElem hi]; rfl
    have qj : atI (q.map D.int) (j : Int) = some (.int q[j]) := by rw [at_ints hj, List.getElem?_eq_getElem hj]; rfl
    have hx : execs (Γ k) fd_law_mul_2_l2 [some (pD p), some (pD q), some (.loc n), some (.int i), some (.int j)] (T.set n (.lst ((addAt i ((q.take j).map (p[i] * ·)) f).map .int))) = .ok .nx [some (pD p), some (pD q), some (.loc n), some (.int i), some (.int j)] (T.set n (.lst ((addAt i ((q.take (j + 1)).map (p[i] * ·)) f).map .int))) := by
      have st := set_ints (env := [some (pD p), some (pD q), some (.loc n), some (.int i), some (.int j)]) (z := (addAt i ((q.take j).map (p[i] * ·)) f)[i + j]?.getD 0 + p[i] * q[j]) hg hlen
      rw [List.set_set] at st
      simp only [fd_law_mul_2_l2, ev_int, ev_bl, ev_non, ev_str, ev_var, ev_glob, ev_bin, ev_neg, ev_not, ev_cmp, ev_chain, ev_and, ev_or, ev_ife, ev_tup, ev_lst, ev_ix, ev_sl, ev_omit, ev_slr, ev_call, ev_b1, ev_b2, ev_isi, ev_meth, ev_lc, ev_lcif, ev_rng, ev_enum, ev_zip, ev_rev, evs_n, evs_c, alloc_v, alloc_f, setR_eq, ex_set, ex_tset, ex_sset, ex_saug, ex_ex, ex_ret, ex_retN, ex_ite, ex_whl, ex_for, ex_pass, ex_brk, ex_cnt, ex_raise, ex_try, exs_n, exs_c, tried_ok, tried_exc, rs_ret, rs_nx, rs_exc, R.bind_ok, R.bind_exc, R.bind_bad, R.st_ok, R.st_exc, RS.seq_nx, RS.seq_ret, RS.seq_bk, RS.seq_ct, RS.seq_exc, RS.turn_nx, RS.turn_ct, RS.turn_bk, RS.turn_ret, RS.turn_exc, R.nox_ok, orBad_some, lookV_some, lookD_some, onI_int, onLoc_loc, onB_true, onB_false, onB_dec, onBS_true, onBS_false, onBS_dec, bin_int, cmp_lt, cmp_le, cmp_gt, cmp_ge, cmp_eq, cmp_ne, cmp_isb, cmp_isnb, b1_int, b1_intb, b1_abs, b1_lent, b1_lenc, ix_t, ix_c, atR_def, at0, at1, at2, at3, at4, at5, add_of, sub_of, List.map_cons, List.map_nil, List.length_cons, List.length_nil, List.cons_append, List.nil_append, List.replicate_succ, List.replicate_zero, List.getElem?_cons_zero, List.getElem?_cons_succ, List.set_cons_zero, List.set_cons_succ, Nat.zero_add, Nat.reduceAdd, Nat.reduceSub, tupR_0, tupR_1, tupR_2, tupR_3, tupR_4, tupR_5, lstR_0, lstR_1, lstR_2, lstR_3, lstR_4, lstR_5, lstR_6, lstR_7, lstR_8, lstR_9, lstR_10, lstR_11, lstR_12, isi_int, isi_bl, isi_tup, isi_non, isi_str, fin_bl, fin_int, fin_non, fin_str, finX0, handle_hit, handle_nil, hx_bl, hx_str, hx_int, hx_non, hx_cnt, hx_pass, forR_it, forR_f, forR_t, forR_c, gmg, b1_repr, ne_repr, b2_max, b2_min, set_at0, set_at1, set_at2, set_at3, get_at0, get_at1, get_at2, get_at3, List.append_assoc, List.append_nil, List.length_append, List.length_set, Nat.add_zero, ei, ix_l hg, at_ints hlen, pi, qj, m1, st]
      rw [take_snoc hj, List.map_append, List.map_cons, List.map_nil, addAt_snoc, List.length_map, List.length_take, Nat.min_eq_left (Nat.le_of_lt hj)]
    exact ⟨_, rfl, _, _, .inl hx, ⟨_, rfl⟩, rfl⟩) _ 0 [some (pD p), some (pD q), some (.loc n), some (.int i), o4] T rfl (Nat.zero_le _) ⟨⟨_, rfl⟩, by rw [List.take_zero]; exact (set_same h).symm⟩
  obtain ⟨env', S', e, ⟨o, rfl⟩, rfl⟩ := main
  rw [List.drop_zero] at e
  refine ⟨o, ?_⟩
  rw [e, range_len, show ((q.length : Int) - 0).toNat = q.length by omega, List.take_length]
theorem lmul_loop (k : Nat) {n : Nat} {p q : List Int} {na m : Nat} (hp : AB na p) (hq : AB m q) (hnm : na + m < 100000000) {f : List Int} (hl : p.length + q.length ≤ f.length + 1) (hlq : q.length ≤ 1000000) {T : Sto} (h : T[n]? = some (.lst (f.map .int))) (o3 o4 : Option D) :
    ∃ o3' o4', frs (Γ k) [] (.name 3) fd_law_mul_2_l1 (rangeD 0 (p.length : Int)) [some (pD p), some (pD q), some (.loc n), o3, o4] T = .ok .nx [some (pD p), some (pD q), some (.loc n), o3', o4'] (T.set n (.lst ((mulAt 0 p q f).map .int))) := by
  have hn : n < T.length := (List.getElem?_eq_some_iff.mp h).1
  have hr : rngW [.int (q.length : Int)] = some (rangeD 0 (q.length : Int)) := rng_1 (by unfold small; exact decide_eq_true (by omega))
  have main := frs_inv (G := Γ k) (src := []) (tg := .name 3) (b := fd_law_mul_2_l1) (xs := rangeD 0 (p.length : Int)) (fun i env S => (∃ o o', env = [some (pD p), some (pD q), some (.loc n), o, o']) ∧ S = T.set n (.lst ((mulAt 0 (p.take i) q f).map .int))) (fun _ _ _ _ => noSrc) (fun i x env S hx hI => by
    obtain ⟨⟨o, o', rfl⟩, rfl⟩ := hI
    obtain ⟨rfl, hi⟩ := range_get hx
    have hi : i < p.length := by omega
    rw [Int.zero_add]
    obtain ⟨o4', e⟩ := lmul_loop2 k hp hq hnm hi (f := mulAt 0 (p.take i) q f) (by rw [mulAt_len]; omega) (get_set (x := O.lst ((mulAt 0 (p.take i) q f).map .int)) hn) o'
    rw [List.set_set] at e
    have hx : execs (Γ k) fd_law_mul_2_l1 [some (pD p), some (pD q), some (.loc n), some (.int i), o'] (T.set n (.lst ((mulAt 0 (p.take i) q f).map .int))) = .ok .nx [some (pD p), some (pD q), some (.loc n), some (.int i), o4'] (T.set n (.lst ((mulAt 0 (p.take (i + 1)) q f).map .int))) := by
      simp only [fd_law_mul_2_l1, ev_int, ev_bl, ev_non, ev_str, ev_var, ev_glob, ev_bin, ev_neg, ev_not, ev_cmp, ev_chain, ev_and, ev_or, ev_ife, ev_tup, ev_lst, ev_ix, ev_sl, ev_omit, ev_slr, ev_call, ev_b1, ev_b2, ev_isi, ev_meth, ev_lc, ev_lcif, ev_rng, ev_enum, ev_zip, ev_rev, evs_n, evs_c, alloc_v, alloc_f, setR_eq, ex_set, ex_tset, ex_sset, ex_saug, ex_ex, ex_ret, ex_retN, ex_ite, ex_whl, ex_for, ex_pass, ex_brk, ex_cnt, ex_raise, ex_try, exs_n, exs_c, tried_ok, tried_exc, rs_ret, rs_nx, rs_exc, R.bind_ok, R.bind_exc, R.bind_bad, R.st_ok, R.st_exc, RS.seq_nx, RS.seq_ret, RS.seq_bk, RS.seq_ct, RS.seq_exc, RS.turn_nx, RS.turn_ct, RS.turn_bk, RS.turn_ret, RS.turn_exc, R.nox_ok, orBad_some, lookV_some, lookD_some, onI_int, onLoc_loc, onB_true, onB_false, onB_dec, onBS_true, onBS_false, onBS_dec, bin_int, cmp_lt, cmp_le, cmp_gt, cmp_ge, cmp_eq, cmp_ne, cmp_isb, cmp_isnb, b1_int, b1_intb, b1_abs, b1_lent, b1_lenc, ix_t, ix_c, atR_def, at0, at1, at2, at3, at4, at5, add_of, sub_of, List.map_cons, List.map_nil, List.length_cons, List.length_nil, List.cons_append, List.nil_append, List.replicate_succ, List.replicate_zero, List.getElem?_cons_zero, List.getElem?_cons_succ, List.set_cons_zero, List.set_cons_succ, Nat.zero_add, Nat.reduceAdd, Nat.reduceSub, tupR_0, tupR_1, tupR_2, tupR_3, tupR_4, tupR_5, lstR_0, lstR_1, lstR_2, lstR_3, lstR_4, lstR_5, lstR_6, lstR_7, lstR_8, lstR_9, lstR_10, lstR_11, lstR_12, isi_int, isi_bl, isi_tup, isi_non, isi_str, fin_bl, fin_int, fin_non, fin_str, finX0, handle_hit, handle_nil, hx_bl, hx_str, hx_int, hx_non, hx_cnt, hx_pass, forR_it, forR_f, forR_t, forR_c, gmg, b1_repr, ne_repr, b2_max, b2_min, set_at0, set_at1, set_at2, set_at3, get_at0, get_at1, get_at2, get_at3, List.append_assoc, List.append_nil, List.length_append, List.length_set, Nat.add_zero, List.length_map, hr, e]
      rw [take_snoc hi, mulAt_snoc, List.length_take, Nat.min_eq_left (Nat.le_of_lt hi), Nat.zero_add]
    exact ⟨_, rfl, _, _, .inl hx, ⟨_, _, rfl⟩, rfl⟩) _ 0 [some (pD p), some (pD q), some (.loc n), o3, o4] T rfl (Nat.zero_le _) ⟨⟨_, _, rfl⟩, by rw [List.take_zero]; exact (set_same h).symm⟩
  obtain ⟨env', S', e, ⟨o, o', rfl⟩, rfl⟩ := main
  rw [List.drop_zero] at e
  refine ⟨o, o', ?_⟩
  rw [e, range_len, show ((p.length : Int) - 0).toNat = p.length by omega, List.take_length]
theorem sp_lmul (k : Nat) {p q : List Int} {n m : Nat} (hp : AB n p) (hq : AB m q) (hnm : n + m < 100000000) (hl : p.length + q.length ≤ 1000000) : (Γ (k + 2)).call 218 [pD p, pD q] S = .ok (.v (pD (pmul p q))) S := by
  rw [call_n tab_law_mul_2 rfl]
  have hm : (if (p.length : Int) + (q.length : Int) - 1 > 0 then (p.length : Int) + (q.length : Int) - 1 else 0) = ((p.length + q.length - 1 : Nat) : Int) := by split <;> omega
  have hr := rep0P (S := S) hl
  have hr2 : rngW [.int (p.length : Int)] = some (rangeD 0 (p.length : Int)) := rng_1 (by unfold small; exact decide_eq_true (by omega))
  obtain ⟨a3, a4, e1⟩ := lmul_loop (k + 1) hp hq hnm (f := List.replicate (p.length + q.length - 1) 0) (n := S.length) (T := S ++ [.lst ((List.replicate (p.length + q.length - 1) (0 : Int)).map .int)]) (by rw [List.length_replicate]; omega) (by omega) get_at0 none none
  rw [set_at0] at e1
  have e3 := sp_ltrim_l (S := S ++ [.lst ((mulAt 0 p q (List.replicate (p.length + q.length - 1) 0)).map .int)]) k (n := S.length) get_at0
  simp only [fd_law_mul_2, ev_int, ev_bl, ev_non, ev_str, ev_var, ev_glob, ev_bin, ev_neg, ev_not, ev_cmp, ev_chain, ev_and, ev_or, ev_ife, ev_tup, ev_lst, ev_ix, ev_sl, ev_omit, ev_slr, ev_call, ev_b1, ev_b2, ev_isi, ev_meth, ev_lc, ev_lcif, ev_rng, ev_enum, ev_zip, ev_rev, evs_n, evs_c, alloc_v, alloc_f, setR_eq, ex_set, ex_tset, ex_sset, ex_saug, ex_ex, ex_ret, ex_retN, ex_ite, ex_whl, ex_for, ex_pass, ex_brk, ex_cnt, ex_raise, ex_try, exs_n, exs_c, tried_ok, tried_exc, rs_ret, rs_nx, rs_exc, R.bind_ok, R.bind_exc, R.bind_bad, R.st_ok, R.st_exc, RS.seq_nx, RS.seq_ret, RS.seq_bk, RS.seq_ct, RS.seq_exc, RS.turn_nx, RS.turn_ct, RS.turn_bk, RS.turn_ret, RS.turn_exc, R.nox_ok, orBad_some, lookV_some, lookD_some, onI_int, onLoc_loc, onB_true, onB_false, onB_dec, onBS_true, onBS_false, onBS_dec, bin_int, cmp_lt, cmp_le, cmp_gt, cmp_ge, cmp_eq, cmp_ne, cmp_isb, cmp_isnb, b1_int, b1_intb, b1_abs, b1_lent, b1_lenc, ix_t, ix_c, atR_def, at0, at1, at2, at3, at4, at5, add_of, sub_of, List.map_cons, List.map_nil, List.length_cons, List.length_nil, List.cons_append, List.nil_append, List.replicate_succ, List.replicate_zero, List.getElem?_cons_zero, List.getElem?_cons_succ, List.set_cons_zero, List.set_cons_succ, Nat.zero_add, Nat.reduceAdd, Nat.reduceSub, tupR_0, tupR_1, tupR_2, tupR_3, tupR_4, tupR_5, lstR_0, lstR_1, lstR_2, lstR_3, lstR_4, lstR_5, lstR_6, lstR_7, lstR_8, lstR_9, lstR_10, lstR_11, lstR_12, isi_int, isi_bl, isi_tup, isi_non, isi_str, fin_bl, fin_int, fin_non, fin_str, finX0, handle_hit, handle_nil, hx_bl, hx_str, hx_int, hx_non, hx_cnt, hx_pass, forR_it, forR_f, forR_t, forR_c, gmg, b1_repr, ne_repr, b2_max, b2_min, set_at0, set_at1, set_at2, set_at3, get_at0, get_at1, get_at2, get_at3, List.append_assoc, List.append_nil, List.length_append, List.length_set, Nat.add_zero, List.length_map, hm, hr, hr2, e1, e3, fin_pG]
  rfl
end
end Py
namespace Py
open PySem
theorem pprim_tr {p : List Int} (h : Tr p) : Tr (pprim p) := by
  unfold pprim
  by_cases hc : contF 0 p = 0
  · rw [if_pos hc]; rfl
  · rw [if_neg hc]
    rcases Tr_iff.mp h with z | z
    · subst z; rfl
    · have hne : p ≠ [] := fun e => by subst e; exact z rfl
      obtain ⟨r, a, rfl⟩ : ∃ r a, p = r ++ [a] := ⟨p.dropLast, p.getLast hne, (List.dropLast_concat_getLast hne).symm⟩
      have ha : a ≠ 0 := by simpa using z
      have hd := (contF_dvd (r ++ [a]) 0).2 a (by simp)
      have hs : psgn (r ++ [a]) ∣ a := by
        unfold psgn
        split
        · exact Int.neg_dvd.mpr hd
        · exact hd
      rw [List.map_append, List.map_cons, List.map_nil]
      refine trim_snoc _ fun e => ha ?_
      rw [Int.fdiv_eq_ediv_of_dvd hs] at e
      have := Int.ediv_mul_cancel hs
      rw [e, Int.zero_mul] at this
      exact this.symm
section
variable {S : Sto}
theorem lc_div2 (k : Nat) {g : Int} {n : Nat} {P : List Int} (hP : P ≠ []) (hg : Bd n (if 0 < P.getLast?.getD 0 then g else -g)) (hn : n < 9000) (h0 : g ≠ 0) : ∀ {p : List Int} {T : Sto},
    lcR (Γ k) (.bin .FloorDiv (.var 2) (.ife (.cmp .Gt (.ix (.var 0) (.neg (.int 1))) (.int 0)) (.var 1) (.neg (.var 1)))) [2] (.name 2) [some (pD P), some (.int g), none] [none] (p.map .int) T = .ok ((p.map (·.fdiv (if 0 < P.getLast?.getD 0 then g else -g))).map .int) T
  | [], T => lcR_nil noneSrc
  | a :: p, T => by
    rw [List.map_cons, lcR_cons (env1 := [some (pD P), some (.int g), some (.int a)]) noneSrc rfl]
    by_cases hs : 0 < P.getLast?.getD 0
    · have ih := lc_div2 k hP hg hn h0 (p := p) (T := T)
      rw [if_pos hs] at hg ih ⊢
      have m1 := div_of (x := a) h0 hg hn
      simp only [ev_int, ev_bl, ev_non, ev_str, ev_var, ev_glob, ev_bin, ev_neg, ev_not, ev_cmp, ev_chain, ev_and, ev_or, ev_ife, ev_tup, ev_lst, ev_ix, ev_sl, ev_omit, ev_slr, ev_call, ev_b1, ev_b2, ev_isi, ev_meth, ev_lc, ev_lcif, ev_rng, ev_enum, ev_zip, ev_rev, evs_n, evs_c, alloc_v, alloc_f, setR_eq, ex_set, ex_tset, ex_sset, ex_saug, ex_ex, ex_ret, ex_retN, ex_ite, ex_whl, ex_for, ex_pass, ex_brk, ex_cnt, ex_raise, ex_try, exs_n, exs_c, tried_ok, tried_exc, rs_ret, rs_nx, rs_exc, R.bind_ok, R.bind_exc, R.bind_bad, R.st_ok, R.st_exc, RS.seq_nx, RS.seq_ret, RS.seq_bk, RS.seq_ct, RS.seq_exc, RS.turn_nx, RS.turn_ct, RS.turn_bk, RS.turn_ret, RS.turn_exc, R.nox_ok, orBad_some, lookV_some, lookD_some, onI_int, onLoc_loc, onB_true, onB_false, onB_dec, onBS_true, onBS_false, onBS_dec, bin_int, cmp_lt, cmp_le, cmp_gt, cmp_ge, cmp_eq, cmp_ne, cmp_isb, cmp_isnb, b1_int, b1_intb, b1_abs, b1_lent, b1_lenc, ix_t, ix_c, atR_def, at0, at1, at2, at3, at4, at5, add_of, sub_of, List.map_cons, List.map_nil, List.length_cons, List.length_nil, List.cons_append, List.nil_append, List.replicate_succ, List.replicate_zero, List.getElem?_cons_zero, List.getElem?_cons_succ, List.set_cons_zero, List.set_cons_succ, Nat.zero_add, Nat.reduceAdd, Nat.reduceSub, tupR_0, tupR_1, tupR_2, tupR_3, tupR_4, tupR_5, lstR_0, lstR_1, lstR_2, lstR_3, lstR_4, lstR_5, lstR_6, lstR_7, lstR_8, lstR_9, lstR_10, lstR_11, lstR_12, isi_int, isi_bl, isi_tup, isi_non, isi_str, fin_bl, fin_int, fin_non, fin_str, finX0, handle_hit, handle_nil, hx_bl, hx_str, hx_int, hx_non, hx_cnt, hx_pass, forR_it, forR_f, forR_t, forR_c, gmg, b1_repr, ne_repr, b2_max, b2_min, set_at0, set_at1, set_at2, set_at3, get_at0, get_at1, get_at2, get_at3, List.append_assoc, List.append_nil, List.length_append, List.length_set, Nat.add_zero, last_at hP, hs, if_true, m1, ih]
    · have ih := lc_div2 k hP hg hn h0 (p := p) (T := T)
      rw [if_neg hs] at hg ih ⊢
      have m1 := div_of (x := a) (y := -g) (by omega) hg hn
      simp only [ev_int, ev_bl, ev_non, ev_str, ev_var, ev_glob, ev_bin, ev_neg, ev_not, ev_cmp, ev_chain, ev_and, ev_or, ev_ife, ev_tup, ev_lst, ev_ix, ev_sl, ev_omit, ev_slr, ev_call, ev_b1, ev_b2, ev_isi, ev_meth, ev_lc, ev_lcif, ev_rng, ev_enum, ev_zip, ev_rev, evs_n, evs_c, alloc_v, alloc_f, setR_eq, ex_set, ex_tset, ex_sset, ex_saug, ex_ex, ex_ret, ex_retN, ex_ite, ex_whl, ex_for, ex_pass, ex_brk, ex_cnt, ex_raise, ex_try, exs_n, exs_c, tried_ok, tried_exc, rs_ret, rs_nx, rs_exc, R.bind_ok, R.bind_exc, R.bind_bad, R.st_ok, R.st_exc, RS.seq_nx, RS.seq_ret, RS.seq_bk, RS.seq_ct, RS.seq_exc, RS.turn_nx, RS.turn_ct, RS.turn_bk, RS.turn_ret, RS.turn_exc, R.nox_ok, orBad_some, lookV_some, lookD_some, onI_int, onLoc_loc, onB_true, onB_false, onB_dec, onBS_true, onBS_false, onBS_dec, bin_int, cmp_lt, cmp_le, cmp_gt, cmp_ge, cmp_eq, cmp_ne, cmp_isb, cmp_isnb, b1_int, b1_intb, b1_abs, b1_lent, b1_lenc, ix_t, ix_c, atR_def, at0, at1, at2, at3, at4, at5, add_of, sub_of, List.map_cons, List.map_nil, List.length_cons, List.length_nil, List.cons_append, List.nil_append, List.replicate_succ, List.replicate_zero, List.getElem?_cons_zero, List.getElem?_cons_succ, List.set_cons_zero, List.set_cons_succ, Nat.zero_add, Nat.reduceAdd, Nat.reduceSub, tupR_0, tupR_1, tupR_2, tupR_3, tupR_4, tupR_5, lstR_0, lstR_1, lstR_2, lstR_3, lstR_4, lstR_5, lstR_6, lstR_7, lstR_8, lstR_9, lstR_10, lstR_11, lstR_12, isi_int, isi_bl, isi_tup, isi_non, isi_str, fin_bl, fin_int, fin_non, fin_str, finX0, handle_hit, handle_nil, hx_bl, hx_str, hx_int, hx_non, hx_cnt, hx_pass, forR_it, forR_f, forR_t, forR_c, gmg, b1_repr, ne_repr, b2_max, b2_min, set_at0, set_at1, set_at2, set_at3, get_at0, get_at1, get_at2, get_at3, List.append_assoc, List.append_nil, List.length_append, List.length_set, Nat.add_zero, last_at hP, hs, if_false, m1, ih]
theorem sp_lprimitive (k : Nat) {p : List Int} {n : Nat} (ht : Tr p) (hp : AB n p) (hn : n < 9000) (hl : p.length ≤ 1000000) : (Γ (k + 3)).call 220 [pD p] S = .ok (.v (pD (pprim p))) S := by
  rw [call_n tab_law_primitive rfl]
  have e := sp_law_content (S := S) k p
  have hb := contF_bd p hp
  have it : ∀ T : Sto, itemsOf (.v (pD p)) T = some (p.map .int, [none]) := fun _ => rfl
  by_cases h : contF 0 p = 0
  · have hz : (((contF 0 p : Nat) : Int) = 0) = True := eq_true (by omega)
    have e0 : finish S S (.v (.tup [])) = .ok (.v (pD (pprim p))) S := by
      rw [show pprim p = [] by unfold pprim; rw [if_pos h]]
      exact fin_v0 rfl
    simp only [fd_law_primitive, ev_int, ev_bl, ev_non, ev_str, ev_var, ev_glob, ev_bin, ev_neg, ev_not, ev_cmp, ev_chain, ev_and, ev_or, ev_ife, ev_tup, ev_lst, ev_ix, ev_sl, ev_omit, ev_slr, ev_call, ev_b1, ev_b2, ev_isi, ev_meth, ev_lc, ev_lcif, ev_rng, ev_enum, ev_zip, ev_rev, evs_n, evs_c, alloc_v, alloc_f, setR_eq, ex_set, ex_tset, ex_sset, ex_saug, ex_ex, ex_ret, ex_retN, ex_ite, ex_whl, ex_for, ex_pass, ex_brk, ex_cnt, ex_raise, ex_try, exs_n, exs_c, tried_ok, tried_exc, rs_ret, rs_nx, rs_exc, R.bind_ok, R.bind_exc, R.bind_bad, R.st_ok, R.st_exc, RS.seq_nx, RS.seq_ret, RS.seq_bk, RS.seq_ct, RS.seq_exc, RS.turn_nx, RS.turn_ct, RS.turn_bk, RS.turn_ret, RS.turn_exc, R.nox_ok, orBad_some, lookV_some, lookD_some, onI_int, onLoc_loc, onB_true, onB_false, onB_dec, onBS_true, onBS_false, onBS_dec, bin_int, cmp_lt, cmp_le, cmp_gt, cmp_ge, cmp_eq, cmp_ne, cmp_isb, cmp_isnb, b1_int, b1_intb, b1_abs, b1_lent, b1_lenc, ix_t, ix_c, atR_def, at0, at1, at2, at3, at4, at5, add_of, sub_of, List.map_cons, List.map_nil, List.length_cons, List.length_nil, List.cons_append, List.nil_append, List.replicate_succ, List.replicate_zero, List.getElem?_cons_zero, List.getElem?_cons_succ, List.set_cons_zero, List.set_cons_succ, Nat.zero_add, Nat.reduceAdd, Nat.reduceSub, tupR_0, tupR_1, tupR_2, tupR_3, tupR_4, tupR_5, lstR_0, lstR_1, lstR_2, lstR_3, lstR_4, lstR_5, lstR_6, lstR_7, lstR_8, lstR_9, lstR_10, lstR_11, lstR_12, isi_int, isi_bl, isi_tup, isi_non, isi_str, fin_bl, fin_int, fin_non, fin_str, finX0, handle_hit, handle_nil, hx_bl, hx_str, hx_int, hx_non, hx_cnt, hx_pass, forR_it, forR_f, forR_t, forR_c, gmg, b1_repr, ne_repr, b2_max, b2_min, set_at0, set_at1, set_at2, set_at3, get_at0, get_at1, get_at2, get_at3, List.append_assoc, List.append_nil, List.length_append, List.length_set, Nat.add_zero, e, hz, if_true, e0]
  · have hz : (((contF 0 p : Nat) : Int) = 0) = False := eq_false (by omega)
    have hne : p ≠ [] := fun z => h (by rw [z]; rfl)
    have hlast := (Tr_iff.mp ht).resolve_left hne
    have sg : (if 0 < p.getLast?.getD 0 then (contF 0 p : Int) else -(contF 0 p : Int)) = psgn p := by
      unfold psgn
      split <;> split <;> omega
    have e2 := lc_div2 (k + 2) (g := (contF 0 p : Int)) (n := n) hne (by split; exact hb; exact hb.neg) hn (by omega) (p := p) (T := S)
    rw [sg] at e2
    have l1 : lstR ((p.map (·.fdiv (psgn p))).map D.int) S = .ok (.f ((p.map (·.fdiv (psgn p))).map .int)) S := lstR_ok (by rw [List.length_map, List.length_map]; show p.length ≤ 1048576; omega)
    have e3 := sp_ltrim_l (S := S ++ [.lst ((p.map (·.fdiv (psgn p))).map .int)]) (k + 1) (n := S.length) get_at0
    have tr : trim (p.map (·.fdiv (psgn p))) = pprim p := by
      have := pprim_tr ht
      unfold pprim at this ⊢
      rw [if_neg h] at this ⊢
      exact this
    rw [tr] at e3
    simp only [fd_law_primitive, ev_int, ev_bl, ev_non, ev_str, ev_var, ev_glob, ev_bin, ev_neg, ev_not, ev_cmp, ev_chain, ev_and, ev_or, ev_ife, ev_tup, ev_lst, ev_ix, ev_sl, ev_omit, ev_slr, ev_call, ev_b1, ev_b2, ev_isi, ev_meth, ev_lc, ev_lcif, ev_rng, ev_enum, ev_zip, ev_rev, evs_n, evs_c, alloc_v, alloc_f, setR_eq, ex_set, ex_tset, ex_sset, ex_saug, ex_ex, ex_ret, ex_retN, ex_ite, ex_whl, ex_for, ex_pass, ex_brk, ex_cnt, ex_raise, ex_try, exs_n, exs_c, tried_ok, tried_exc, rs_ret, rs_nx, rs_exc, R.bind_ok, R.bind_exc, R.bind_bad, R.st_ok, R.st_exc, RS.seq_nx, RS.seq_ret, RS.seq_bk, RS.seq_ct, RS.seq_exc, RS.turn_nx, RS.turn_ct, RS.turn_bk, RS.turn_ret, RS.turn_exc, R.nox_ok, orBad_some, lookV_some, lookD_some, onI_int, onLoc_loc, onB_true, onB_false, onB_dec, onBS_true, onBS_false, onBS_dec, bin_int, cmp_lt, cmp_le, cmp_gt, cmp_ge, cmp_eq, cmp_ne, cmp_isb, cmp_isnb, b1_int, b1_intb, b1_abs, b1_lent, b1_lenc, ix_t, ix_c, atR_def, at0, at1, at2, at3, at4, at5, add_of, sub_of, List.map_cons, List.map_nil, List.length_cons, List.length_nil, List.cons_append, List.nil_append, List.replicate_succ, List.replicate_zero, List.getElem?_cons_zero, List.getElem?_cons_succ, List.set_cons_zero, List.set_cons_succ, Nat.zero_add, Nat.reduceAdd, Nat.reduceSub, tupR_0, tupR_1, tupR_2, tupR_3, tupR_4, tupR_5, lstR_0, lstR_1, lstR_2, lstR_3, lstR_4, lstR_5, lstR_6, lstR_7, lstR_8, lstR_9, lstR_10, lstR_11, lstR_12, isi_int, isi_bl, isi_tup, isi_non, isi_str, fin_bl, fin_int, fin_non, fin_str, finX0, handle_hit, handle_nil, hx_bl, hx_str, hx_int, hx_non, hx_cnt, hx_pass, forR_it, forR_f, forR_t, forR_c, gmg, b1_repr, ne_repr, b2_max, b2_min, set_at0, set_at1, set_at2, set_at3, get_at0, get_at1, get_at2, get_at3, List.append_assoc, List.append_nil, List.length_append, List.length_set, Nat.add_zero, e, hz, if_false, it, e2, l1, e3, fin_pG]
end
end Py
namespace Py
open PySem
/-- x^j y^(k-j), the powers as they come -/
def tmk (x y : Int) (j : Nat) : Nat → Int
  | 0 => 1
  | k + 1 => tmk x y j k * (if k < j then x else y)
theorem tmk_eq (x y : Int) (j : Nat) : ∀ k, tmk x y j k = x ^ min k j * y ^ (k - min k j)
  | 0 => by simp [tmk]
  | k + 1 => by
    show tmk x y j k * (if k < j then x else y) = _
    rw [tmk_eq x y j k]
    by_cases h : k < j
    · rw [if_pos h, show min (k + 1) j = k + 1 by omega, show min k j = k by omega, Nat.sub_self, Nat.sub_self, Int.pow_succ]
      grind
    · rw [if_neg h, show min (k + 1) j = j by omega, show min k j = j by omega, show k + 1 - j = (k - j) + 1 by omega, Int.pow_succ]
      grind
theorem tmk_bd {x y : Int} {m : Nat} (hx : Bd m x) (hy : Bd m y) (j : Nat) : ∀ k, Bd (k * m + 1) (tmk x y j k)
  | 0 => by show (1 : Nat) < 2 ^ _; exact Nat.one_lt_two_pow (by omega)
  | k + 1 => by
    rw [Nat.succ_mul]
    show Bd _ (tmk x y j k * (if k < j then x else y))
    have ih := tmk_bd hx hy j k
    split
    · exact (ih.mul hx).mono (by omega)
    · exact (ih.mul hy).mono (by omega)
/-- the terms below j, the others' degree L -/
def hsum (x y : Int) (L : Nat) (p : List Int) : Nat → Int
  | 0 => 0
  | j + 1 => hsum x y L p j + p[j]?.getD 0 * tmk x y j L
theorem hsum_cons (x y a : Int) (L : Nat) (p : List Int) : ∀ j, j ≤ L + 1 → hsum x y (L + 1) (a :: p) (j + 1) = a * y ^ (L + 1) + x * hsum x y L p j
  | 0, _ => by
    show 0 + a * tmk x y 0 (L + 1) = _
    rw [tmk_eq]
    simp [hsum]
  | j + 1, h => by
    show hsum x y (L + 1) (a :: p) (j + 1) + p[j]?.getD 0 * tmk x y (j + 1) (L + 1) = _
    rw [hsum_cons x y a L p j (by omega)]
    show _ = a * y ^ (L + 1) + x * (hsum x y L p j + p[j]?.getD 0 * tmk x y j L)
    rw [tmk_eq, tmk_eq, show min (L + 1) (j + 1) = j + 1 by omega, show min L j = j by omega, show L + 1 - (j + 1) = L - j by omega, Int.pow_succ]
    grind
theorem hsum_all (x y : Int) : ∀ p : List Int, hsum x y (p.length - 1) p p.length = phom x y p
  | [] => rfl
  | [a] => by
    show 0 + a * tmk x y 0 0 = a * y ^ 0 + x * 0
    simp [tmk]
  | a :: b :: p => by
    have ih := hsum_all x y (b :: p)
    show hsum x y (p.length + 1) (a :: b :: p) (p.length + 1 + 1) = a * y ^ (p.length + 1) + x * phom x y (b :: p)
    rw [hsum_cons x y a p.length (b :: p) (p.length + 1) (Nat.le_refl _), ← ih]
    rfl
theorem hsum_bd {x y : Int} {m n L : Nat} {p : List Int} (hx : Bd m x) (hy : Bd m y) (hp : AB n p) : ∀ j, Bd (n + L * m + 1 + j) (hsum x y L p j)
  | 0 => by show (0 : Nat) < 2 ^ _; exact Nat.two_pow_pos _
  | j + 1 => by
    have ih := hsum_bd (L := L) hx hy hp j
    have b : Bd n (p[j]?.getD 0) := by
      cases h : p[j]? with
      | none => exact Nat.two_pow_pos _
      | some a => exact hp a (List.mem_of_getElem? h)
    exact (ih.add ((b.mul (tmk_bd hx hy j L)).mono (by omega)))
section
variable {S : Sto}
theorem lat_l2 (k : Nat) {p : D} {x y t0 : Int} {n m : Nat} (hx : Bd m x) (hy : Bd m y) (ht : Bd n t0) {o2 o6 : Option D} {j L : Nat} (hb : n + L * m + m + 2 < 100000000) (o5 : Option D) :
    ∃ o5', frs (Γ k) [] (.name 5) fd_law_at_l2 (rangeD 0 (L : Int)) [some p, some (fr x y), o2, some (.int j), some (.int t0), o5, o6] S = .ok .nx [some p, some (fr x y), o2, some (.int j), some (.int (t0 * tmk x y j L)), o5', o6] S := by
  have main := frs_inv (G := Γ k) (src := []) (tg := .name 5) (b := fd_law_at_l2) (xs := rangeD 0 (L : Int)) (fun i env T => (∃ o, env = [some p, some (fr x y), o2, some (.int j), some (.int (t0 * tmk x y j i)), o, o6]) ∧ T = S) (fun _ _ _ _ => noSrc) (fun i z env T hz hI => by
    obtain ⟨⟨o, rfl⟩, rfl⟩ := hI
    obtain ⟨rfl, hi⟩ := range_get hz
    have hi : i < L := by omega
    rw [Int.zero_add]
    have hm : i * m ≤ L * m := Nat.mul_le_mul_right _ (by omega)
    have bt := ht.mul (tmk_bd hx hy j i)
    have m1 := mul_of bt hx (by omega)
    have m2 := mul_of bt hy (by omega)
    have hx : execs (Γ k) fd_law_at_l2 [some p, some (fr x y), o2, some (.int j), some (.int (t0 * tmk x y j i)), some (.int i), o6] T = .ok .nx [some p, some (fr x y), o2, some (.int j), some (.int (t0 * tmk x y j (i + 1))), some (.int i), o6] T := by
      by_cases h : (i : Int) < (j : Int)
      · simp only [fd_law_at_l2, ev_int, ev_bl, ev_non, ev_str, ev_var, ev_glob, ev_bin, ev_neg, ev_not, ev_cmp, ev_chain, ev_and, ev_or, ev_ife, ev_tup, ev_lst, ev_ix, ev_sl, ev_omit, ev_slr, ev_call, ev_b1, ev_b2, ev_isi, ev_meth, ev_lc, ev_lcif, ev_rng, ev_enum, ev_zip, ev_rev, evs_n, evs_c, alloc_v, alloc_f, setR_eq, ex_set, ex_tset, ex_sset, ex_saug, ex_ex, ex_ret, ex_retN, ex_ite, ex_whl, ex_for, ex_pass, ex_brk, ex_cnt, ex_raise, ex_try, exs_n, exs_c, tried_ok, tried_exc, rs_ret, rs_nx, rs_exc, R.bind_ok, R.bind_exc, R.bind_bad, R.st_ok, R.st_exc, RS.seq_nx, RS.seq_ret, RS.seq_bk, RS.seq_ct, RS.seq_exc, RS.turn_nx, RS.turn_ct, RS.turn_bk, RS.turn_ret, RS.turn_exc, R.nox_ok, orBad_some, lookV_some, lookD_some, onI_int, onLoc_loc, onB_true, onB_false, onB_dec, onBS_true, onBS_false, onBS_dec, bin_int, cmp_lt, cmp_le, cmp_gt, cmp_ge, cmp_eq, cmp_ne, cmp_isb, cmp_isnb, b1_int, b1_intb, b1_abs, b1_lent, b1_lenc, ix_t, ix_c, atR_def, at0, at1, at2, at3, at4, at5, add_of, sub_of, List.map_cons, List.map_nil, List.length_cons, List.length_nil, List.cons_append, List.nil_append, List.replicate_succ, List.replicate_zero, List.getElem?_cons_zero, List.getElem?_cons_succ, List.set_cons_zero, List.set_cons_succ, Nat.zero_add, Nat.reduceAdd, Nat.reduceSub, tupR_0, tupR_1, tupR_2, tupR_3, tupR_4, tupR_5, lstR_0, lstR_1, lstR_2, lstR_3, lstR_4, lstR_5, lstR_6, lstR_7, lstR_8, lstR_9, lstR_10, lstR_11, lstR_12, isi_int, isi_bl, isi_tup, isi_non, isi_str, fin_bl, fin_int, fin_non, fin_str, finX0, handle_hit, handle_nil, hx_bl, hx_str, hx_int, hx_non, hx_cnt, hx_pass, forR_it, forR_f, forR_t, forR_c, gmg, b1_repr, ne_repr, b2_max, b2_min, set_at0, set_at1, set_at2, set_at3, get_at0, get_at1, get_at2, get_at3, List.append_assoc, List.append_nil, List.length_append, List.length_set, Nat.add_zero, h, if_true, m1]
        show RS.ok _ _ _ = RS.ok _ [_, _, _, _, some (.int (t0 * (tmk x y j i * (if i < j then x else y)))), _, _] _
        rw [if_pos (by omega), Int.mul_assoc]
      · simp only [fd_law_at_l2, ev_int, ev_bl, ev_non, ev_str, ev_var, ev_glob, ev_bin, ev_neg, ev_not, ev_cmp, ev_chain, ev_and, ev_or, ev_ife, ev_tup, ev_lst, ev_ix, ev_sl, ev_omit, ev_slr, ev_call, ev_b1, ev_b2, ev_isi, ev_meth, ev_lc, ev_lcif, ev_rng, ev_enum, ev_zip, ev_rev, evs_n, evs_c, alloc_v, alloc_f, setR_eq, ex_set, ex_tset, ex_sset, ex_saug, ex_ex, ex_ret, ex_retN, ex_ite, ex_whl, ex_for, ex_pass, ex_brk, ex_cnt, ex_raise, ex_try, exs_n, exs_c, tried_ok, tried_exc, rs_ret, rs_nx, rs_exc, R.bind_ok, R.bind_exc, R.bind_bad, R.st_ok, R.st_exc, RS.seq_nx, RS.seq_ret, RS.seq_bk, RS.seq_ct, RS.seq_exc, RS.turn_nx, RS.turn_ct, RS.turn_bk, RS.turn_ret, RS.turn_exc, R.nox_ok, orBad_some, lookV_some, lookD_some, onI_int, onLoc_loc, onB_true, onB_false, onB_dec, onBS_true, onBS_false, onBS_dec, bin_int, cmp_lt, cmp_le, cmp_gt, cmp_ge, cmp_eq, cmp_ne, cmp_isb, cmp_isnb, b1_int, b1_intb, b1_abs, b1_lent, b1_lenc, ix_t, ix_c, atR_def, at0, at1, at2, at3, at4, at5, add_of, sub_of, List.map_cons, List.map_nil, List.length_cons, List.length_nil, List.cons_append, List.nil_append, List.replicate_succ, List.replicate_zero, List.getElem?_cons_zero, List.getElem?_cons_succ, List.set_cons_zero, List.set_cons_succ, Nat.zero_add, Nat.reduceAdd, Nat.reduceSub, tupR_0, tupR_1, tupR_2, tupR_3, tupR_4, tupR_5, lstR_0, lstR_1, lstR_2, lstR_3, lstR_4, lstR_5, lstR_6, lstR_7, lstR_8, lstR_9, lstR_10, lstR_11, lstR_12, isi_int, isi_bl, isi_tup, isi_non, isi_str, fin_bl, fin_int, fin_non, fin_str, finX0, handle_hit, handle_nil, hx_bl, hx_str, hx_int, hx_non, hx_cnt, hx_pass, forR_it, forR_f, forR_t, forR_c, gmg, b1_repr, ne_repr, b2_max, b2_min, set_at0, set_at1, set_at2, set_at3, get_at0, get_at1, get_at2, get_at3, List.append_assoc, List.append_nil, List.length_append, List.length_set, Nat.add_zero, h, if_false, m2]
        show RS.ok _ _ _ = RS.ok _ [_, _, _, _, some (.int (t0 * (tmk x y j i * (if i < j then x else y)))), _, _] _
        rw [if_neg (by omega), Int.mul_assoc]
    exact ⟨_, rfl, _, _, .inl hx, ⟨_, rfl⟩, rfl⟩) _ 0 [some p, some (fr x y), o2, some (.int j), some (.int t0), o5, o6] S rfl (Nat.zero_le _) ⟨⟨o5, by rw [show tmk x y j 0 = 1 from rfl, Int.mul_one]⟩, rfl⟩
  obtain ⟨env', S', e, ⟨o, rfl⟩, rfl⟩ := main
  rw [List.drop_zero, range_len, show ((L : Int) - 0).toNat = L by omega] at e
  exact ⟨o, e⟩
theorem lat_l3 (k : Nat) {p : D} {x y : Int} {m : Nat} (hy : Bd m y) {o2 o3 o4 : Option D} {L : Nat} (hb : L * m + m + 2 < 100000000) (o5 : Option D) :
    ∃ o5', frs (Γ k) [] (.name 5) fd_law_at_l3 (rangeD 0 (L : Int)) [some p, some (fr x y), o2, o3, o4, o5, some (.int 1)] S = .ok .nx [some p, some (fr x y), o2, o3, o4, o5', some (.int (y ^ L))] S := by
  have main := frs_inv (G := Γ k) (src := []) (tg := .name 5) (b := fd_law_at_l3) (xs := rangeD 0 (L : Int)) (fun i env T => (∃ o, env = [some p, some (fr x y), o2, o3, o4, o, some (.int (y ^ i))]) ∧ T = S) (fun _ _ _ _ => noSrc) (fun i z env T hz hI => by
    obtain ⟨⟨o, rfl⟩, rfl⟩ := hI
    obtain ⟨rfl, hi⟩ := range_get hz
    have hi : i < L := by omega
    rw [Int.zero_add]
    have hm : i * m ≤ L * m := Nat.mul_le_mul_right _ (by omega)
    have m1 := mul_of (Bd.pow hy i) hy (by omega)
    have hx : execs (Γ k) fd_law_at_l3 [some p, some (fr x y), o2, o3, o4, some (.int i), some (.int (y ^ i))] T = .ok .nx [some p, some (fr x y), o2, o3, o4, some (.int i), some (.int (y ^ (i + 1)))] T := by
      simp only [fd_law_at_l3, ev_int, ev_bl, ev_non, ev_str, ev_var, ev_glob, ev_bin, ev_neg, ev_not, ev_cmp, ev_chain, ev_and, ev_or, ev_ife, ev_tup, ev_lst, ev_ix, ev_sl, ev_omit, ev_slr, ev_call, ev_b1, ev_b2, ev_isi, ev_meth, ev_lc, ev_lcif, ev_rng, ev_enum, ev_zip, ev_rev, evs_n, evs_c, alloc_v, alloc_f, setR_eq, ex_set, ex_tset, ex_sset, ex_saug, ex_ex, ex_ret, ex_retN, ex_ite, ex_whl, ex_for, ex_pass, ex_brk, ex_cnt, ex_raise, ex_try, exs_n, exs_c, tried_ok, tried_exc, rs_ret, rs_nx, rs_exc, R.bind_ok, R.bind_exc, R.bind_bad, R.st_ok, R.st_exc, RS.seq_nx, RS.seq_ret, RS.seq_bk, RS.seq_ct, RS.seq_exc, RS.turn_nx, RS.turn_ct, RS.turn_bk, RS.turn_ret, RS.turn_exc, R.nox_ok, orBad_some, lookV_some, lookD_some, onI_int, onLoc_loc, onB_true, onB_false, onB_dec, onBS_true, onBS_false, onBS_dec, bin_int, cmp_lt, cmp_le, cmp_gt, cmp_ge, cmp_eq, cmp_ne, cmp_isb, cmp_isnb, b1_int, b1_intb, b1_abs, b1_lent, b1_lenc, ix_t, ix_c, atR_def, at0, at1, at2, at3, at4, at5, add_of, sub_of, List.map_cons, List.map_nil, List.length_cons, List.length_nil, List.cons_append, List.nil_append, List.replicate_succ, List.replicate_zero, List.getElem?_cons_zero, List.getElem?_cons_succ, List.set_cons_zero, List.set_cons_succ, Nat.zero_add, Nat.reduceAdd, Nat.reduceSub, tupR_0, tupR_1, tupR_2, tupR_3, tupR_4, tupR_5, lstR_0, lstR_1, lstR_2, lstR_3, lstR_4, lstR_5, lstR_6, lstR_7, lstR_8, lstR_9, lstR_10, lstR_11, lstR_12, isi_int, isi_bl, isi_tup, isi_non, isi_str, fin_bl, fin_int, fin_non, fin_str, finX0, handle_hit, handle_nil, hx_bl, hx_str, hx_int, hx_non, hx_cnt, hx_pass, forR_it, forR_f, forR_t, forR_c, gmg, b1_repr, ne_repr, b2_max, b2_min, set_at0, set_at1, set_at2, set_at3, get_at0, get_at1, get_at2, get_at3, List.append_assoc, List.append_nil, List.length_append, List.length_set, Nat.add_zero, m1]
      rw [Int.pow_succ]
    exact ⟨_, rfl, _, _, .inl hx, ⟨_, rfl⟩, rfl⟩) _ 0 [some p, some (fr x y), o2, o3, o4, o5, some (.int 1)] S rfl (Nat.zero_le _) ⟨⟨o5, by rw [Int.pow_zero]⟩, rfl⟩
  obtain ⟨env', S', e, ⟨o, rfl⟩, rfl⟩ := main
  rw [List.drop_zero, range_len, show ((L : Int) - 0).toNat = L by omega] at e
  exact ⟨o, e⟩
/-- the range of one less: none of an empty row -/
theorem rng_less {q : Nat} (h : q ≤ 1000000) : rngW [.int ((q : Int) - 1)] = some (rangeD 0 ((q - 1 : Nat) : Int)) := by
  rw [rng_1 (by unfold small; exact decide_eq_true (by omega))]
  congr 1
  cases q with
  | zero => rfl
  | succ q => congr 1; omega
theorem sp_lat (k : Nat) {p : List Int} {x y : Int} {n m : Nat} (hp : AB n p) (hx : Bd m x) (hy : Bd m y) (hb : n + p.length * m + m + p.length + 2 < 100000000) (hl : p.length ≤ 1000000) : (Γ (k + 1)).call 221 [pD p, fr x y] S = .ok (.v (fr (phom x y p) (y ^ (p.length - 1)))) S := by
  rw [call_n tab_law_at rfl]
  have hr : rngW [.int (p.length : Int)] = some (rangeD 0 (p.length : Int)) := rng_1 (by unfold small; exact decide_eq_true (by omega))
  have hle : (p.length - 1) * m ≤ p.length * m := Nat.mul_le_mul_right _ (by omega)
  have main := frs_inv (G := Γ k) (src := []) (tg := .name 3) (b := fd_law_at_l1) (xs := rangeD 0 (p.length : Int)) (fun j env T => (∃ o3 o4 o5, env = [some (pD p), some (fr x y), some (.int (hsum x y (p.length - 1) p j)), o3, o4, o5, none]) ∧ T = S) (fun _ _ _ _ => noSrc) (fun j z env T hz hI => by
    obtain ⟨⟨o3, o4, o5, rfl⟩, rfl⟩ := hI
    obtain ⟨rfl, hj⟩ := range_get hz
    have hj : j < p.length := by omega
    rw [Int.zero_add]
    have pj : atI (p.map D.int) (j : Int) = some (.int p[j]) := by rw [at_ints hj, List.getElem?_eq_getElem hj]; rfl
    obtain ⟨o5', e⟩ := lat_l2 (S := T) k (p := pD p) hx hy (hp p[j] (List.getElem_mem hj)) (o2 := some (.int (hsum x y (p.length - 1) p j))) (o6 := none) (j := j) (L := p.length - 1) (by omega) o5
    have hx : execs (Γ k) fd_law_at_l1 [some (pD p), some (fr x y), some (.int (hsum x y (p.length - 1) p j)), some (.int j), o4, o5, none] T = .ok .nx [some (pD p), some (fr x y), some (.int (hsum x y (p.length - 1) p (j + 1))), some (.int j), some (.int (p[j] * tmk x y j (p.length - 1))), o5', none] T := by
      simp only [fd_law_at_l1, ev_int, ev_bl, ev_non, ev_str, ev_var, ev_glob, ev_bin, ev_neg, ev_not, ev_cmp, ev_chain, ev_and, ev_or, ev_ife, ev_tup, ev_lst, ev_ix, ev_sl, ev_omit, ev_slr, ev_call, ev_b1, ev_b2, ev_isi, ev_meth, ev_lc, ev_lcif, ev_rng, ev_enum, ev_zip, ev_rev, evs_n, evs_c, alloc_v, alloc_f, setR_eq, ex_set, ex_tset, ex_sset, ex_saug, ex_ex, ex_ret, ex_retN, ex_ite, ex_whl, ex_for, ex_pass, ex_brk, ex_cnt, ex_raise, ex_try, exs_n, exs_c, tried_ok, tried_exc, rs_ret, rs_nx, rs_exc, R.bind_ok, R.bind_exc, R.bind_bad, R.st_ok, R.st_exc, RS.seq_nx, RS.seq_ret, RS.seq_bk, RS.seq_ct, RS.seq_exc, RS.turn_nx, RS.turn_ct, RS.turn_bk, RS.turn_ret, RS.turn_exc, R.nox_ok, orBad_some, lookV_some, lookD_some, onI_int, onLoc_loc, onB_true, onB_false, onB_dec, onBS_true, onBS_false, onBS_dec, bin_int, cmp_lt, cmp_le, cmp_gt, cmp_ge, cmp_eq, cmp_ne, cmp_isb, cmp_isnb, b1_int, b1_intb, b1_abs, b1_lent, b1_lenc, ix_t, ix_c, atR_def, at0, at1, at2, at3, at4, at5, add_of, sub_of, List.map_cons, List.map_nil, List.length_cons, List.length_nil, List.cons_append, List.nil_append, List.replicate_succ, List.replicate_zero, List.getElem?_cons_zero, List.getElem?_cons_succ, List.set_cons_zero, List.set_cons_succ, Nat.zero_add, Nat.reduceAdd, Nat.reduceSub, tupR_0, tupR_1, tupR_2, tupR_3, tupR_4, tupR_5, lstR_0, lstR_1, lstR_2, lstR_3, lstR_4, lstR_5, lstR_6, lstR_7, lstR_8, lstR_9, lstR_10, lstR_11, lstR_12, isi_int, isi_bl, isi_tup, isi_non, isi_str, fin_bl, fin_int, fin_non, fin_str, finX0, handle_hit, handle_nil, hx_bl, hx_str, hx_int, hx_non, hx_cnt, hx_pass, forR_it, forR_f, forR_t, forR_c, gmg, b1_repr, ne_repr, b2_max, b2_min, set_at0, set_at1, set_at2, set_at3, get_at0, get_at1, get_at2, get_at3, List.append_assoc, List.append_nil, List.length_append, List.length_set, Nat.add_zero, pj, List.length_map, rng_less hl, e]
      show _ = RS.ok _ [_, _, some (.int (hsum x y (p.length - 1) p j + p[j]?.getD 0 * tmk x y j (p.length - 1))), _, _, _, _] _
      rw [List.getElem?_eq_getElem hj]
      rfl
    exact ⟨_, rfl, _, _, .inl hx, ⟨_, _, _, rfl⟩, rfl⟩) _ 0 [some (pD p), some (fr x y), some (.int 0), none, none, none, none] S rfl (Nat.zero_le _) ⟨⟨_, _, _, rfl⟩, rfl⟩
  obtain ⟨env', S', e, ⟨o3, o4, o5, rfl⟩, rfl⟩ := main
  rw [List.drop_zero, range_len, show ((p.length : Int) - 0).toNat = p.length by omega, hsum_all] at e
  obtain ⟨o5', e2⟩ := lat_l3 (S := S') k (p := pD p) (x := x) hy (o2 := some (.int (phom x y p))) (o3 := o3) (o4 := o4) (L := p.length - 1) (by omega) o5
  have f0 : ∀ a b : Int, finish S' S' (.v (.tup [.int a, .int b])) = .ok (.v (.tup [.int a, .int b])) S' := fun _ _ => fin_v0 rfl
  simp only [fd_law_at, ev_int, ev_bl, ev_non, ev_str, ev_var, ev_glob, ev_bin, ev_neg, ev_not, ev_cmp, ev_chain, ev_and, ev_or, ev_ife, ev_tup, ev_lst, ev_ix, ev_sl, ev_omit, ev_slr, ev_call, ev_b1, ev_b2, ev_isi, ev_meth, ev_lc, ev_lcif, ev_rng, ev_enum, ev_zip, ev_rev, evs_n, evs_c, alloc_v, alloc_f, setR_eq, ex_set, ex_tset, ex_sset, ex_saug, ex_ex, ex_ret, ex_retN, ex_ite, ex_whl, ex_for, ex_pass, ex_brk, ex_cnt, ex_raise, ex_try, exs_n, exs_c, tried_ok, tried_exc, rs_ret, rs_nx, rs_exc, R.bind_ok, R.bind_exc, R.bind_bad, R.st_ok, R.st_exc, RS.seq_nx, RS.seq_ret, RS.seq_bk, RS.seq_ct, RS.seq_exc, RS.turn_nx, RS.turn_ct, RS.turn_bk, RS.turn_ret, RS.turn_exc, R.nox_ok, orBad_some, lookV_some, lookD_some, onI_int, onLoc_loc, onB_true, onB_false, onB_dec, onBS_true, onBS_false, onBS_dec, bin_int, cmp_lt, cmp_le, cmp_gt, cmp_ge, cmp_eq, cmp_ne, cmp_isb, cmp_isnb, b1_int, b1_intb, b1_abs, b1_lent, b1_lenc, ix_t, ix_c, atR_def, at0, at1, at2, at3, at4, at5, add_of, sub_of, List.map_cons, List.map_nil, List.length_cons, List.length_nil, List.cons_append, List.nil_append, List.replicate_succ, List.replicate_zero, List.getElem?_cons_zero, List.getElem?_cons_succ, List.set_cons_zero, List.set_cons_succ, Nat.zero_add, Nat.reduceAdd, Nat.reduceSub, tupR_0, tupR_1, tupR_2, tupR_3, tupR_4, tupR_5, lstR_0, lstR_1, lstR_2, lstR_3, lstR_4, lstR_5, lstR_6, lstR_7, lstR_8, lstR_9, lstR_10, lstR_11, lstR_12, isi_int, isi_bl, isi_tup, isi_non, isi_str, fin_bl, fin_int, fin_non, fin_str, finX0, handle_hit, handle_nil, hx_bl, hx_str, hx_int, hx_non, hx_cnt, hx_pass, forR_it, forR_f, forR_t, forR_c, gmg, b1_repr, ne_repr, b2_max, b2_min, set_at0, set_at1, set_at2, set_at3, get_at0, get_at1, get_at2, get_at3, List.append_assoc, List.append_nil, List.length_append, List.length_set, Nat.add_zero, List.length_map, hr, e, rng_less hl, e2, f0]
theorem sp_lsign (k : Nat) {p : List Int} {x y : Int} {n m : Nat} (hp : AB n p) (hx : Bd m x) (hy : Bd m y) (hb : n + p.length * m + m + p.length + 2 < 100000000) (hl : p.length ≤ 1000000) : (Γ (k + 2)).call 222 [pD p, fr x y] S = .ok (.v (.int (isgn (phom x y p)))) S := by
  rw [call_n tab_law_sign_2 rfl]
  have e := sp_lat (S := S) k hp hx hy hb hl
  simp only [fd_law_sign_2, ev_int, ev_bl, ev_non, ev_str, ev_var, ev_glob, ev_bin, ev_neg, ev_not, ev_cmp, ev_chain, ev_and, ev_or, ev_ife, ev_tup, ev_lst, ev_ix, ev_sl, ev_omit, ev_slr, ev_call, ev_b1, ev_b2, ev_isi, ev_meth, ev_lc, ev_lcif, ev_rng, ev_enum, ev_zip, ev_rev, evs_n, evs_c, alloc_v, alloc_f, setR_eq, ex_set, ex_tset, ex_sset, ex_saug, ex_ex, ex_ret, ex_retN, ex_ite, ex_whl, ex_for, ex_pass, ex_brk, ex_cnt, ex_raise, ex_try, exs_n, exs_c, tried_ok, tried_exc, rs_ret, rs_nx, rs_exc, R.bind_ok, R.bind_exc, R.bind_bad, R.st_ok, R.st_exc, RS.seq_nx, RS.seq_ret, RS.seq_bk, RS.seq_ct, RS.seq_exc, RS.turn_nx, RS.turn_ct, RS.turn_bk, RS.turn_ret, RS.turn_exc, R.nox_ok, orBad_some, lookV_some, lookD_some, onI_int, onLoc_loc, onB_true, onB_false, onB_dec, onBS_true, onBS_false, onBS_dec, bin_int, cmp_lt, cmp_le, cmp_gt, cmp_ge, cmp_eq, cmp_ne, cmp_isb, cmp_isnb, b1_int, b1_intb, b1_abs, b1_lent, b1_lenc, ix_t, ix_c, atR_def, at0, at1, at2, at3, at4, at5, add_of, sub_of, List.map_cons, List.map_nil, List.length_cons, List.length_nil, List.cons_append, List.nil_append, List.replicate_succ, List.replicate_zero, List.getElem?_cons_zero, List.getElem?_cons_succ, List.set_cons_zero, List.set_cons_succ, Nat.zero_add, Nat.reduceAdd, Nat.reduceSub, tupR_0, tupR_1, tupR_2, tupR_3, tupR_4, tupR_5, lstR_0, lstR_1, lstR_2, lstR_3, lstR_4, lstR_5, lstR_6, lstR_7, lstR_8, lstR_9, lstR_10, lstR_11, lstR_12, isi_int, isi_bl, isi_tup, isi_non, isi_str, fin_bl, fin_int, fin_non, fin_str, finX0, handle_hit, handle_nil, hx_bl, hx_str, hx_int, hx_non, hx_cnt, hx_pass, forR_it, forR_f, forR_t, forR_c, gmg, b1_repr, ne_repr, b2_max, b2_min, set_at0, set_at1, set_at2, set_at3, get_at0, get_at1, get_at2, get_at3, List.append_assoc, List.append_nil, List.length_append, List.length_set, Nat.add_zero, e]
  rfl
end
end Py
namespace Py
open PySem
section
variable {T : Sto} {n : Nat}
/-- a comprehension that draws -/
theorem lc_draw (k : Nat) {N : Nat} {size : Int} {o1 : Option D} (hs0 : 1 ≤ size) (hs : Bd 200 size) : ∀ (xs : List D) (g : Bag) (M : Nat) (T : Sto), BagOk M g → M + xs.length < N → N < 2 ^ 60 → T[n]? = some g.o →
    ∃ (l : List Int) (g' : Bag), lcR (Γ (k + 1)) (.bin .Sub (.call 31 [.var 0, .bin .Add (.bin .Mult (.int 2) (.var 2)) (.int 1)]) (.var 2)) [3] (.name 3) [some (.loc n), o1, some (.int size), none] [] xs T = .ok (l.map .int) (T.set n (Bag.o g')) ∧ l.length = xs.length ∧ AB 203 l ∧ BagOk (M + xs.length) g'
  | [], g, M, T, ok, hM, hN, hT => ⟨[], g, by rw [show T.set n (Bag.o g) = T from set_same hT]; exact lcR_nil noSrc, rfl, fun _ h => (by cases h), ok⟩
  | x :: xs, g, M, T, ok, hM, hN, hT => by
    simp only [List.length_cons] at hM
    have hn : n < T.length := (List.getElem?_eq_some_iff.mp hT).1
    have b2 : Bd 2 (2 : Int) := bd_n (x := 2) (by decide)
    have m1 := mul_of b2 hs (by decide)
    have bm : Bd 203 (2 * size + 1) := ((b2.mul hs).add (Bd.mono (n := 1) (by show (1 : Nat) < 2; decide) (by decide))).mono (by decide)
    obtain ⟨r, g1, e, r0, r1, ok1⟩ := sp_draw (T := T) k ok (by omega) hT (many := 2 * size + 1) (by omega) (bm.mono (by decide))
    obtain ⟨l, g2, e2, h1, h2, h3⟩ := lc_draw (o1 := o1) k hs0 hs xs g1 (M + 1) (T.set n g1.o) ok1 (by omega) hN (get_set hn)
    rw [List.set_set] at e2
    refine ⟨(r - size) :: l, g2, ?_, by rw [List.length_cons, List.length_cons, h1], AB.cons ?_ h2, by rw [List.length_cons, show M + (xs.length + 1) = M + 1 + xs.length by omega]; exact h3⟩
    · rw [lcR_cons (env1 := [some (.loc n), o1, some (.int size), some x]) noSrc rfl]
      simp only [ev_int, ev_bl, ev_non, ev_str, ev_var, ev_glob, ev_bin, ev_neg, ev_not, ev_cmp, ev_chain, ev_and, ev_or, ev_ife, ev_tup, ev_lst, ev_ix, ev_sl, ev_omit, ev_slr, ev_call, ev_b1, ev_b2, ev_isi, ev_meth, ev_lc, ev_lcif, ev_rng, ev_enum, ev_zip, ev_rev, evs_n, evs_c, alloc_v, alloc_f, setR_eq, ex_set, ex_tset, ex_sset, ex_saug, ex_ex, ex_ret, ex_retN, ex_ite, ex_whl, ex_for, ex_pass, ex_brk, ex_cnt, ex_raise, ex_try, exs_n, exs_c, tried_ok, tried_exc, rs_ret, rs_nx, rs_exc, R.bind_ok, R.bind_exc, R.bind_bad, R.st_ok, R.st_exc, RS.seq_nx, RS.seq_ret, RS.seq_bk, RS.seq_ct, RS.seq_exc, RS.turn_nx, RS.turn_ct, RS.turn_bk, RS.turn_ret, RS.turn_exc, R.nox_ok, orBad_some, lookV_some, lookD_some, onI_int, onLoc_loc, onB_true, onB_false, onB_dec, onBS_true, onBS_false, onBS_dec, bin_int, cmp_lt, cmp_le, cmp_gt, cmp_ge, cmp_eq, cmp_ne, cmp_isb, cmp_isnb, b1_int, b1_intb, b1_abs, b1_lent, b1_lenc, ix_t, ix_c, atR_def, at0, at1, at2, at3, at4, at5, add_of, sub_of, List.map_cons, List.map_nil, List.length_cons, List.length_nil, List.cons_append, List.nil_append, List.replicate_succ, List.replicate_zero, List.getElem?_cons_zero, List.getElem?_cons_succ, List.set_cons_zero, List.set_cons_succ, Nat.zero_add, Nat.reduceAdd, Nat.reduceSub, tupR_0, tupR_1, tupR_2, tupR_3, tupR_4, tupR_5, lstR_0, lstR_1, lstR_2, lstR_3, lstR_4, lstR_5, lstR_6, lstR_7, lstR_8, lstR_9, lstR_10, lstR_11, lstR_12, isi_int, isi_bl, isi_tup, isi_non, isi_str, fin_bl, fin_int, fin_non, fin_str, finX0, handle_hit, handle_nil, hx_bl, hx_str, hx_int, hx_non, hx_cnt, hx_pass, forR_it, forR_f, forR_t, forR_c, gmg, b1_repr, ne_repr, b2_max, b2_min, set_at0, set_at1, set_at2, set_at3, get_at0, get_at1, get_at2, get_at3, List.append_assoc, List.append_nil, List.length_append, List.length_set, Nat.add_zero, m1, e, e2]
    · unfold Bd at bm ⊢
      omega
theorem sp_lpoly (k : Nat) {N : Nat} {g : Bag} (ok : BagOk N g) (hT : T[n]? = some g.o) {most : Nat} {size : Int} (hmost : most ≤ 100) (hs0 : 1 ≤ size) (hs : Bd 200 size) (hN : N + most + 10 < 2 ^ 60) :
    ∃ (p : List Int) (g' : Bag), (Γ (k + 2)).call 197 [.loc n, .int most, .int size] T = .ok (.v (pD p)) (T.set n (Bag.o g')) ∧ Tr p ∧ p.length ≤ most + 1 ∧ AB 203 p ∧ BagOk (N + most + 2) g' := by
  have hn : n < T.length := (List.getElem?_eq_some_iff.mp hT).1
  rw [call_n tab_law_poly_2 rfl]
  obtain ⟨r, g1, e, r0, r1, ok1⟩ := sp_draw (T := T) k ok (by omega) hT (many := (most : Int) + 2) (by omega) (Bd.mono (n := 10) (by unfold Bd; omega) (by decide))
  have hr : rngW [.int r] = some (rangeD 0 r) := rng_1 (by unfold small; exact decide_eq_true (by omega))
  have hlen : (rangeD 0 r).length = r.toNat := by rw [range_len]; omega
  obtain ⟨l, g2, e2, h1, h2, h3⟩ := lc_draw (n := n) k (N := N + most + 10) (o1 := some (.int most)) hs0 hs (rangeD 0 r) g1 (N + 1) (T.set n g1.o) ok1 (by rw [hlen]; omega) hN (get_set hn)
  rw [List.set_set] at e2
  rw [hlen] at h1 h3
  have it : ∀ (xs : List D) (s : List Src) (T : Sto), itemsOf (.it xs s) T = some (xs, s) := fun _ _ _ => rfl
  have l1 : ∀ T : Sto, lstR (l.map D.int) T = .ok (.f (l.map .int)) T := fun T => lstR_ok (by rw [List.length_map]; show _ ≤ 1048576; omega)
  have e3 := sp_ltrim_l (S := T.set n g2.o ++ [.lst (l.map .int)]) k (n := T.length) (l := l) (by rw [show T.length = (T.set n g2.o).length by rw [List.length_set]]; exact get_at0)
  have f : finish T (T.set n g2.o ++ [.lst (l.map .int)]) (.v (pD (trim l))) = .ok (.v (pD (trim l))) (T.set n g2.o) := fin_v (Kept.set undBag) (flat_ints _ _)
  refine ⟨trim l, g2, ?_, trim_idem l, by have := trim_len l; omega, h2.trim, h3.mono (by omega)⟩
  simp only [fd_law_poly_2, ev_int, ev_bl, ev_non, ev_str, ev_var, ev_glob, ev_bin, ev_neg, ev_not, ev_cmp, ev_chain, ev_and, ev_or, ev_ife, ev_tup, ev_lst, ev_ix, ev_sl, ev_omit, ev_slr, ev_call, ev_b1, ev_b2, ev_isi, ev_meth, ev_lc, ev_lcif, ev_rng, ev_enum, ev_zip, ev_rev, evs_n, evs_c, alloc_v, alloc_f, setR_eq, ex_set, ex_tset, ex_sset, ex_saug, ex_ex, ex_ret, ex_retN, ex_ite, ex_whl, ex_for, ex_pass, ex_brk, ex_cnt, ex_raise, ex_try, exs_n, exs_c, tried_ok, tried_exc, rs_ret, rs_nx, rs_exc, R.bind_ok, R.bind_exc, R.bind_bad, R.st_ok, R.st_exc, RS.seq_nx, RS.seq_ret, RS.seq_bk, RS.seq_ct, RS.seq_exc, RS.turn_nx, RS.turn_ct, RS.turn_bk, RS.turn_ret, RS.turn_exc, R.nox_ok, orBad_some, lookV_some, lookD_some, onI_int, onLoc_loc, onB_true, onB_false, onB_dec, onBS_true, onBS_false, onBS_dec, bin_int, cmp_lt, cmp_le, cmp_gt, cmp_ge, cmp_eq, cmp_ne, cmp_isb, cmp_isnb, b1_int, b1_intb, b1_abs, b1_lent, b1_lenc, ix_t, ix_c, atR_def, at0, at1, at2, at3, at4, at5, add_of, sub_of, List.map_cons, List.map_nil, List.length_cons, List.length_nil, List.cons_append, List.nil_append, List.replicate_succ, List.replicate_zero, List.getElem?_cons_zero, List.getElem?_cons_succ, List.set_cons_zero, List.set_cons_succ, Nat.zero_add, Nat.reduceAdd, Nat.reduceSub, tupR_0, tupR_1, tupR_2, tupR_3, tupR_4, tupR_5, lstR_0, lstR_1, lstR_2, lstR_3, lstR_4, lstR_5, lstR_6, lstR_7, lstR_8, lstR_9, lstR_10, lstR_11, lstR_12, isi_int, isi_bl, isi_tup, isi_non, isi_str, fin_bl, fin_int, fin_non, fin_str, finX0, handle_hit, handle_nil, hx_bl, hx_str, hx_int, hx_non, hx_cnt, hx_pass, forR_it, forR_f, forR_t, forR_c, gmg, b1_repr, ne_repr, b2_max, b2_min, set_at0, set_at1, set_at2, set_at3, get_at0, get_at1, get_at2, get_at3, List.append_assoc, List.append_nil, List.length_append, List.length_set, Nat.add_zero, e, hr, it, e2, l1, e3, f]
theorem sp_frac (k : Nat) {N : Nat} {g : Bag} (ok : BagOk N g) (hT : T[n]? = some g.o) (hN : N + 10 < 2 ^ 60) :
    ∃ x y g', (Γ (k + 2)).call 198 [.loc n] T = .ok (.v (fr x y)) (T.set n (Bag.o g')) ∧ 0 < y ∧ Bd 5 x ∧ Bd 5 y ∧ BagOk (N + 2) g' := by
  have hn : n < T.length := (List.getElem?_eq_some_iff.mp hT).1
  rw [call_n tab_law_frac rfl]
  obtain ⟨p, g1, e1, p0, p1, ok1⟩ := sp_draw (T := T) k ok (by omega) hT (many := 41) (by decide) (Bd.mono (n := 10) (by unfold Bd; decide) (by decide))
  obtain ⟨q, g2, e2, q0, q1, ok2⟩ := sp_draw (T := T.set n g1.o) k ok1 (by omega) (get_set hn) (many := 9) (by decide) (Bd.mono (n := 10) (by unfold Bd; decide) (by decide))
  rw [List.set_set] at e2
  have e3 := sp_law_gcd (S := T.set n g2.o) k (p - 20) (1 + q)
  have hg : 0 < Int.gcd (p - 20) (1 + q) := Int.gcd_pos_of_ne_zero_right _ (by omega)
  have hgl : Int.gcd (p - 20) (1 + q) ≤ (1 + q).natAbs := Nat.le_of_dvd (by omega) (Nat.gcd_dvd_right _ _)
  have bg : Bd 5 (Int.gcd (p - 20) (1 + q) : Int) := by unfold Bd; omega
  have d1 : ∀ z : Int, intOp .FloorDiv z (Int.gcd (p - 20) (1 + q) : Int) = some (z.fdiv (Int.gcd (p - 20) (1 + q) : Int)) := fun z => div_of (by omega) bg (by decide)
  have f : ∀ a b : Int, finish T (T.set n g2.o) (.v (.tup [.int a, .int b])) = .ok (.v (.tup [.int a, .int b])) (T.set n g2.o) := fun a b => by
    have := fin_v (G := []) (d := .tup [.int a, .int b]) (Kept.set (S := T) (n := n) (o := Bag.o g2) undBag) rfl
    rwa [List.append_nil] at this
  simp only [fd_law_frac, ev_int, ev_bl, ev_non, ev_str, ev_var, ev_glob, ev_bin, ev_neg, ev_not, ev_cmp, ev_chain, ev_and, ev_or, ev_ife, ev_tup, ev_lst, ev_ix, ev_sl, ev_omit, ev_slr, ev_call, ev_b1, ev_b2, ev_isi, ev_meth, ev_lc, ev_lcif, ev_rng, ev_enum, ev_zip, ev_rev, evs_n, evs_c, alloc_v, alloc_f, setR_eq, ex_set, ex_tset, ex_sset, ex_saug, ex_ex, ex_ret, ex_retN, ex_ite, ex_whl, ex_for, ex_pass, ex_brk, ex_cnt, ex_raise, ex_try, exs_n, exs_c, tried_ok, tried_exc, rs_ret, rs_nx, rs_exc, R.bind_ok, R.bind_exc, R.bind_bad, R.st_ok, R.st_exc, RS.seq_nx, RS.seq_ret, RS.seq_bk, RS.seq_ct, RS.seq_exc, RS.turn_nx, RS.turn_ct, RS.turn_bk, RS.turn_ret, RS.turn_exc, R.nox_ok, orBad_some, lookV_some, lookD_some, onI_int, onLoc_loc, onB_true, onB_false, onB_dec, onBS_true, onBS_false, onBS_dec, bin_int, cmp_lt, cmp_le, cmp_gt, cmp_ge, cmp_eq, cmp_ne, cmp_isb, cmp_isnb, b1_int, b1_intb, b1_abs, b1_lent, b1_lenc, ix_t, ix_c, atR_def, at0, at1, at2, at3, at4, at5, add_of, sub_of, List.map_cons, List.map_nil, List.length_cons, List.length_nil, List.cons_append, List.nil_append, List.replicate_succ, List.replicate_zero, List.getElem?_cons_zero, List.getElem?_cons_succ, List.set_cons_zero, List.set_cons_succ, Nat.zero_add, Nat.reduceAdd, Nat.reduceSub, tupR_0, tupR_1, tupR_2, tupR_3, tupR_4, tupR_5, lstR_0, lstR_1, lstR_2, lstR_3, lstR_4, lstR_5, lstR_6, lstR_7, lstR_8, lstR_9, lstR_10, lstR_11, lstR_12, isi_int, isi_bl, isi_tup, isi_non, isi_str, fin_bl, fin_int, fin_non, fin_str, finX0, handle_hit, handle_nil, hx_bl, hx_str, hx_int, hx_non, hx_cnt, hx_pass, forR_it, forR_f, forR_t, forR_c, gmg, b1_repr, ne_repr, b2_max, b2_min, set_at0, set_at1, set_at2, set_at3, get_at0, get_at1, get_at2, get_at3, List.append_assoc, List.append_nil, List.length_append, List.length_set, Nat.add_zero, e1, e2, e3, d1, f]
  refine ⟨_, _, g2, rfl, ?_, ?_, ?_, ok2⟩
  · rw [fdiv_dvd (Int.gcd_dvd_right _ _)]
    obtain ⟨c, hc⟩ := Int.gcd_dvd_right (p - 20) (1 + q)
    have : (1 + q) / (Int.gcd (p - 20) (1 + q) : Int) = c := by
      conv => lhs; lhs; rw [hc]
      exact Int.mul_ediv_cancel_left _ (by omega)
    rw [this]
    apply Classical.byContradiction
    intro hh
    have : (Int.gcd (p - 20) (1 + q) : Int) * c ≤ 0 := Int.mul_nonpos_of_nonneg_of_nonpos (by omega) (by omega)
    rw [← hc] at this
    omega
  · have := fdiv_le (a := p - 20) (b := (Int.gcd (p - 20) (1 + q) : Int)) (by omega)
    unfold Bd
    omega
  · have := fdiv_le (a := 1 + q) (b := (Int.gcd (p - 20) (1 + q) : Int)) (by omega)
    unfold Bd
    omega
theorem sp_bag_10 (k : Nat) {ns : List Int} (hb : ∀ z ∈ ns, z.natAbs < 2 ^ cellBits) {c : Nat} (hc : c < 1000) :
    ∃ g, (Γ (k + 1)).call 215 [.cl (ns.map D.int), .int c] T = .ok (.f [.int g.a, .int g.b, .int g.c, .int g.d]) T ∧ BagOk 0 g := by
  rw [call_n tab_law_bag_10 rfl]
  have m1 : intOp .Mult 48611 (c : Int) = some (48611 * (c : Int)) := mul_of (bd_n (x := 48611) (n := 16) (by decide)) (bd_n (x := c) (n := 10) (by omega)) (by decide)
  have hk : Bd 64 (1093 + 48611 * (c : Int)) := by unfold Bd; omega
  have fin : ∀ z : Int, Bd cellBits z → ∃ g : Bag, (R.ok (W.f [.int 0, .int (1093 + 48611 * c), .int 0, .int z]) T : R W) = .ok (.f [.int g.a, .int g.b, .int g.c, .int g.d]) T ∧ BagOk 0 g := fun z hz =>
    ⟨⟨0, 1093 + 48611 * c, 0, z⟩, rfl, ⟨by show (0 : Nat) < 2 ^ _; exact Nat.two_pow_pos _, hk, Int.le_refl _, Int.le_refl _, hz⟩⟩
  have hl : ((List.map D.int ns).length : Int) = (ns.length : Int) := by rw [List.length_map]
  have f2 : ∀ z : Int, finish T T (.f [.int 0, .int (1093 + 48611 * c), .int 0, .int z]) = .ok (.f [.int 0, .int (1093 + 48611 * c), .int 0, .int z]) T := fun z => fin_f0 rfl
  by_cases h : (c : Int) < ns.length
  · have hc' : c < ns.length := by omega
    have e : atI (ns.map D.int) (c : Int) = some (.int ns[c]) := by
      rw [atI_nn (by omega), Int.toNat_natCast, List.getElem?_map, List.getElem?_eq_getElem hc']
      rfl
    simp only [fd_law_bag_10, ev_int, ev_bl, ev_non, ev_str, ev_var, ev_glob, ev_bin, ev_neg, ev_not, ev_cmp, ev_chain, ev_and, ev_or, ev_ife, ev_tup, ev_lst, ev_ix, ev_sl, ev_omit, ev_slr, ev_call, ev_b1, ev_b2, ev_isi, ev_meth, ev_lc, ev_lcif, ev_rng, ev_enum, ev_zip, ev_rev, evs_n, evs_c, alloc_v, alloc_f, setR_eq, ex_set, ex_tset, ex_sset, ex_saug, ex_ex, ex_ret, ex_retN, ex_ite, ex_whl, ex_for, ex_pass, ex_brk, ex_cnt, ex_raise, ex_try, exs_n, exs_c, tried_ok, tried_exc, rs_ret, rs_nx, rs_exc, R.bind_ok, R.bind_exc, R.bind_bad, R.st_ok, R.st_exc, RS.seq_nx, RS.seq_ret, RS.seq_bk, RS.seq_ct, RS.seq_exc, RS.turn_nx, RS.turn_ct, RS.turn_bk, RS.turn_ret, RS.turn_exc, R.nox_ok, orBad_some, lookV_some, lookD_some, onI_int, onLoc_loc, onB_true, onB_false, onB_dec, onBS_true, onBS_false, onBS_dec, bin_int, cmp_lt, cmp_le, cmp_gt, cmp_ge, cmp_eq, cmp_ne, cmp_isb, cmp_isnb, b1_int, b1_intb, b1_abs, b1_lent, b1_lenc, ix_t, ix_c, atR_def, at0, at1, at2, at3, at4, at5, add_of, sub_of, List.map_cons, List.map_nil, List.length_cons, List.length_nil, List.cons_append, List.nil_append, List.replicate_succ, List.replicate_zero, List.getElem?_cons_zero, List.getElem?_cons_succ, List.set_cons_zero, List.set_cons_succ, Nat.zero_add, Nat.reduceAdd, Nat.reduceSub, tupR_0, tupR_1, tupR_2, tupR_3, tupR_4, tupR_5, lstR_0, lstR_1, lstR_2, lstR_3, lstR_4, lstR_5, lstR_6, lstR_7, lstR_8, lstR_9, lstR_10, lstR_11, lstR_12, isi_int, isi_bl, isi_tup, isi_non, isi_str, fin_bl, fin_int, fin_non, fin_str, finX0, handle_hit, handle_nil, hx_bl, hx_str, hx_int, hx_non, hx_cnt, hx_pass, forR_it, forR_f, forR_t, forR_c, gmg, b1_repr, ne_repr, b2_max, b2_min, set_at0, set_at1, set_at2, set_at3, get_at0, get_at1, get_at2, get_at3, List.append_assoc, List.append_nil, List.length_append, List.length_set, Nat.add_zero, hl, h, if_true, e, m1, f2]
    exact fin _ (hb _ (List.getElem_mem hc'))
  · simp only [fd_law_bag_10, ev_int, ev_bl, ev_non, ev_str, ev_var, ev_glob, ev_bin, ev_neg, ev_not, ev_cmp, ev_chain, ev_and, ev_or, ev_ife, ev_tup, ev_lst, ev_ix, ev_sl, ev_omit, ev_slr, ev_call, ev_b1, ev_b2, ev_isi, ev_meth, ev_lc, ev_lcif, ev_rng, ev_enum, ev_zip, ev_rev, evs_n, evs_c, alloc_v, alloc_f, setR_eq, ex_set, ex_tset, ex_sset, ex_saug, ex_ex, ex_ret, ex_retN, ex_ite, ex_whl, ex_for, ex_pass, ex_brk, ex_cnt, ex_raise, ex_try, exs_n, exs_c, tried_ok, tried_exc, rs_ret, rs_nx, rs_exc, R.bind_ok, R.bind_exc, R.bind_bad, R.st_ok, R.st_exc, RS.seq_nx, RS.seq_ret, RS.seq_bk, RS.seq_ct, RS.seq_exc, RS.turn_nx, RS.turn_ct, RS.turn_bk, RS.turn_ret, RS.turn_exc, R.nox_ok, orBad_some, lookV_some, lookD_some, onI_int, onLoc_loc, onB_true, onB_false, onB_dec, onBS_true, onBS_false, onBS_dec, bin_int, cmp_lt, cmp_le, cmp_gt, cmp_ge, cmp_eq, cmp_ne, cmp_isb, cmp_isnb, b1_int, b1_intb, b1_abs, b1_lent, b1_lenc, ix_t, ix_c, atR_def, at0, at1, at2, at3, at4, at5, add_of, sub_of, List.map_cons, List.map_nil, List.length_cons, List.length_nil, List.cons_append, List.nil_append, List.replicate_succ, List.replicate_zero, List.getElem?_cons_zero, List.getElem?_cons_succ, List.set_cons_zero, List.set_cons_succ, Nat.zero_add, Nat.reduceAdd, Nat.reduceSub, tupR_0, tupR_1, tupR_2, tupR_3, tupR_4, tupR_5, lstR_0, lstR_1, lstR_2, lstR_3, lstR_4, lstR_5, lstR_6, lstR_7, lstR_8, lstR_9, lstR_10, lstR_11, lstR_12, isi_int, isi_bl, isi_tup, isi_non, isi_str, fin_bl, fin_int, fin_non, fin_str, finX0, handle_hit, handle_nil, hx_bl, hx_str, hx_int, hx_non, hx_cnt, hx_pass, forR_it, forR_f, forR_t, forR_c, gmg, b1_repr, ne_repr, b2_max, b2_min, set_at0, set_at1, set_at2, set_at3, get_at0, get_at1, get_at2, get_at3, List.append_assoc, List.append_nil, List.length_append, List.length_set, Nat.add_zero, hl, h, if_false, m1, f2]
    exact fin 0 (by show (0 : Nat) < 2 ^ _; exact Nat.two_pow_pos _)

end
end Py
namespace Py
open PySem
section
variable {S : Sto}
theorem is_non_int {a : Int} : cmpW .Is (.v (.int a)) (.v .non) S = .ok (.v (.bl false)) S := rfl
theorem notin_true {α : Type} (p : List α) : cmpW .NotIn (.v (.bl false)) (.f (p.map fun _ => .bl true)) S = .ok (.v (.bl true)) S := by
  have h : inD (.bl false) (p.map fun _ => .bl true) = some false := by
    unfold inD
    have h1 : (p.map fun _ => D.bl true).all atomB = true := by simp [atomB]
    have h2 : ((p.map fun _ => D.bl true).any fun y => atomEq y (.bl false)) = false := by simp [atomEq]
    rw [h1, h2]
    rfl
  have h2 : isIn S (.v (.bl false)) (.f (p.map fun _ => .bl true)) = some false := h
  simp [cmpW, cmpB, h2]
theorem sp_same_int (k : Nat) (a : Int) : (Γ (k + 1)).call 84 [.int a, .int a] S = .ok (.v (.bl true)) S := by
  rw [call_n tab_law_same rfl]
  simp only [fd_law_same, ev_int, ev_bl, ev_non, ev_str, ev_var, ev_glob, ev_bin, ev_neg, ev_not, ev_cmp, ev_chain, ev_and, ev_or, ev_ife, ev_tup, ev_lst, ev_ix, ev_sl, ev_omit, ev_slr, ev_call, ev_b1, ev_b2, ev_isi, ev_meth, ev_lc, ev_lcif, ev_rng, ev_enum, ev_zip, ev_rev, evs_n, evs_c, alloc_v, alloc_f, setR_eq, ex_set, ex_tset, ex_sset, ex_saug, ex_ex, ex_ret, ex_retN, ex_ite, ex_whl, ex_for, ex_pass, ex_brk, ex_cnt, ex_raise, ex_try, exs_n, exs_c, tried_ok, tried_exc, rs_ret, rs_nx, rs_exc, R.bind_ok, R.bind_exc, R.bind_bad, R.st_ok, R.st_exc, RS.seq_nx, RS.seq_ret, RS.seq_bk, RS.seq_ct, RS.seq_exc, RS.turn_nx, RS.turn_ct, RS.turn_bk, RS.turn_ret, RS.turn_exc, R.nox_ok, orBad_some, lookV_some, lookD_some, onI_int, onLoc_loc, onB_true, onB_false, onB_dec, onBS_true, onBS_false, onBS_dec, bin_int, cmp_lt, cmp_le, cmp_gt, cmp_ge, cmp_eq, cmp_ne, cmp_isb, cmp_isnb, b1_int, b1_intb, b1_abs, b1_lent, b1_lenc, ix_t, ix_c, atR_def, at0, at1, at2, at3, at4, at5, add_of, sub_of, List.map_cons, List.map_nil, List.length_cons, List.length_nil, List.cons_append, List.nil_append, List.replicate_succ, List.replicate_zero, List.getElem?_cons_zero, List.getElem?_cons_succ, List.set_cons_zero, List.set_cons_succ, Nat.zero_add, Nat.reduceAdd, Nat.reduceSub, tupR_0, tupR_1, tupR_2, tupR_3, tupR_4, tupR_5, lstR_0, lstR_1, lstR_2, lstR_3, lstR_4, lstR_5, lstR_6, lstR_7, lstR_8, lstR_9, lstR_10, lstR_11, lstR_12, isi_int, isi_bl, isi_tup, isi_non, isi_str, fin_bl, fin_int, fin_non, fin_str, finX0, handle_hit, handle_nil, hx_bl, hx_str, hx_int, hx_non, hx_cnt, hx_pass, forR_it, forR_f, forR_t, forR_c, gmg, b1_repr, ne_repr, b2_max, b2_min, set_at0, set_at1, set_at2, set_at3, get_at0, get_at1, get_at2, get_at3, List.append_assoc, List.append_nil, List.length_append, List.length_set, Nat.add_zero, reduceCtorEq, decide_true, decide_false, Bool.or_false, Bool.or_true, is_non_int, if_true, if_false]
theorem sp_same_p (k : Nat) {p : List Int} (hl : p.length ≤ 1000000) : (Γ (k + 2)).call 84 [pD p, pD p] S = .ok (.v (.bl true)) S := by
  rw [call_n tab_law_same rfl]
  have hr : rngW [.int (p.length : Int)] = some (rangeD 0 (p.length : Int)) := rng_1 (by unfold small; exact decide_eq_true (by omega))
  have it : ∀ (xs : List D) (s : List Src) (T : Sto), itemsOf (.it xs s) T = some (xs, s) := fun _ _ _ => rfl
  have e := lcR_map (G := Γ (k + 1)) (e := .call 84 [.ix (.var 0) (.var 2), .ix (.var 1) (.var 2)]) (vs := [2]) (tg := .name 2) (env := [some (pD p), some (pD p), none]) (S := S) (src := []) (fun _ => .bl true) noSrc (xs := rangeD 0 (p.length : Int)) (fun x hx => by
    obtain ⟨i, hi⟩ := List.getElem_of_mem hx
    obtain ⟨rfl, hj⟩ := range_get (List.getElem?_eq_some_iff.mpr hi)
    refine ⟨[some (pD p), some (pD p), some (.int i)], by rw [Int.zero_add]; rfl, ?_⟩
    have hi : i < p.length := by omega
    have e1 := sp_same_int (S := S) k (p[i]?.getD 0)
    simp only [ev_int, ev_bl, ev_non, ev_str, ev_var, ev_glob, ev_bin, ev_neg, ev_not, ev_cmp, ev_chain, ev_and, ev_or, ev_ife, ev_tup, ev_lst, ev_ix, ev_sl, ev_omit, ev_slr, ev_call, ev_b1, ev_b2, ev_isi, ev_meth, ev_lc, ev_lcif, ev_rng, ev_enum, ev_zip, ev_rev, evs_n, evs_c, alloc_v, alloc_f, setR_eq, ex_set, ex_tset, ex_sset, ex_saug, ex_ex, ex_ret, ex_retN, ex_ite, ex_whl, ex_for, ex_pass, ex_brk, ex_cnt, ex_raise, ex_try, exs_n, exs_c, tried_ok, tried_exc, rs_ret, rs_nx, rs_exc, R.bind_ok, R.bind_exc, R.bind_bad, R.st_ok, R.st_exc, RS.seq_nx, RS.seq_ret, RS.seq_bk, RS.seq_ct, RS.seq_exc, RS.turn_nx, RS.turn_ct, RS.turn_bk, RS.turn_ret, RS.turn_exc, R.nox_ok, orBad_some, lookV_some, lookD_some, onI_int, onLoc_loc, onB_true, onB_false, onB_dec, onBS_true, onBS_false, onBS_dec, bin_int, cmp_lt, cmp_le, cmp_gt, cmp_ge, cmp_eq, cmp_ne, cmp_isb, cmp_isnb, b1_int, b1_intb, b1_abs, b1_lent, b1_lenc, ix_t, ix_c, atR_def, at0, at1, at2, at3, at4, at5, add_of, sub_of, List.map_cons, List.map_nil, List.length_cons, List.length_nil, List.cons_append, List.nil_append, List.replicate_succ, List.replicate_zero, List.getElem?_cons_zero, List.getElem?_cons_succ, List.set_cons_zero, List.set_cons_succ, Nat.zero_add, Nat.reduceAdd, Nat.reduceSub, tupR_0, tupR_1, tupR_2, tupR_3, tupR_4, tupR_5, lstR_0, lstR_1, lstR_2, lstR_3, lstR_4, lstR_5, lstR_6, lstR_7, lstR_8, lstR_9, lstR_10, lstR_11, lstR_12, isi_int, isi_bl, isi_tup, isi_non, isi_str, fin_bl, fin_int, fin_non, fin_str, finX0, handle_hit, handle_nil, hx_bl, hx_str, hx_int, hx_non, hx_cnt, hx_pass, forR_it, forR_f, forR_t, forR_c, gmg, b1_repr, ne_repr, b2_max, b2_min, set_at0, set_at1, set_at2, set_at3, get_at0, get_at1, get_at2, get_at3, List.append_assoc, List.append_nil, List.length_append, List.length_set, Nat.add_zero, at_ints hi, e1])
  have l1 : lstR ((rangeD 0 (p.length : Int)).map fun _ => D.bl true) S = .ok (.f ((rangeD 0 (p.length : Int)).map fun _ => .bl true)) S := lstR_ok (by rw [List.length_map, range_len]; show _ ≤ 1048576; omega)
  have l2 : decide ((p.length : Int) = (p.length : Int)) = true := decide_eq_true rfl
  simp only [fd_law_same, ev_int, ev_bl, ev_non, ev_str, ev_var, ev_glob, ev_bin, ev_neg, ev_not, ev_cmp, ev_chain, ev_and, ev_or, ev_ife, ev_tup, ev_lst, ev_ix, ev_sl, ev_omit, ev_slr, ev_call, ev_b1, ev_b2, ev_isi, ev_meth, ev_lc, ev_lcif, ev_rng, ev_enum, ev_zip, ev_rev, evs_n, evs_c, alloc_v, alloc_f, setR_eq, ex_set, ex_tset, ex_sset, ex_saug, ex_ex, ex_ret, ex_retN, ex_ite, ex_whl, ex_for, ex_pass, ex_brk, ex_cnt, ex_raise, ex_try, exs_n, exs_c, tried_ok, tried_exc, rs_ret, rs_nx, rs_exc, R.bind_ok, R.bind_exc, R.bind_bad, R.st_ok, R.st_exc, RS.seq_nx, RS.seq_ret, RS.seq_bk, RS.seq_ct, RS.seq_exc, RS.turn_nx, RS.turn_ct, RS.turn_bk, RS.turn_ret, RS.turn_exc, R.nox_ok, orBad_some, lookV_some, lookD_some, onI_int, onLoc_loc, onB_true, onB_false, onB_dec, onBS_true, onBS_false, onBS_dec, bin_int, cmp_lt, cmp_le, cmp_gt, cmp_ge, cmp_eq, cmp_ne, cmp_isb, cmp_isnb, b1_int, b1_intb, b1_abs, b1_lent, b1_lenc, ix_t, ix_c, atR_def, at0, at1, at2, at3, at4, at5, add_of, sub_of, List.map_cons, List.map_nil, List.length_cons, List.length_nil, List.cons_append, List.nil_append, List.replicate_succ, List.replicate_zero, List.getElem?_cons_zero, List.getElem?_cons_succ, List.set_cons_zero, List.set_cons_succ, Nat.zero_add, Nat.reduceAdd, Nat.reduceSub, tupR_0, tupR_1, tupR_2, tupR_3, tupR_4, tupR_5, lstR_0, lstR_1, lstR_2, lstR_3, lstR_4, lstR_5, lstR_6, lstR_7, lstR_8, lstR_9, lstR_10, lstR_11, lstR_12, isi_int, isi_bl, isi_tup, isi_non, isi_str, fin_bl, fin_int, fin_non, fin_str, finX0, handle_hit, handle_nil, hx_bl, hx_str, hx_int, hx_non, hx_cnt, hx_pass, forR_it, forR_f, forR_t, forR_c, gmg, b1_repr, ne_repr, b2_max, b2_min, set_at0, set_at1, set_at2, set_at3, get_at0, get_at1, get_at2, get_at3, List.append_assoc, List.append_nil, List.length_append, List.length_set, Nat.add_zero, decide_true, List.length_map, hr, it, e, l1, notin_true, if_true]
end
end Py

namespace Py
open PySem
/-- an expression ends in Q, or raises into X -/
def wR {α : Type} (r : R α) (Q : α → Sto → Prop) (X : Exn → Sto → Prop) : Prop := match r with
  | .ok a S => Q a S
  | .exc x S => X x S
  | .bad => False
/-- a suite ends in P, or raises into X -/
def wS (r : RS) (P : Fl → Env → Sto → Prop) (X : Exn → Env → Sto → Prop) : Prop := match r with
  | .ok f env S => P f env S
  | .exc x env S => X x env S
  | .bad => False
section
variable {α β : Type} {Q : α → Sto → Prop} {X : Exn → Sto → Prop} {P : Fl → Env → Sto → Prop} {Y : Exn → Env → Sto → Prop} {S : Sto} {env : Env}
theorem wR_ok {a : α} : wR (.ok a S) Q X = Q a S := rfl
theorem wR_exc {x : Exn} : wR (.exc x S : R α) Q X = X x S := rfl
theorem wR_bad : wR (.bad : R α) Q X = False := rfl
theorem wR_bind {Q : β → Sto → Prop} {r : R α} {k : α → Sto → R β} : wR (r.bind k) Q X = wR r (fun a T => wR (k a T) Q X) X := by cases r <;> rfl
theorem wS_ok {f : Fl} : wS (.ok f env S) P Y = P f env S := rfl
theorem wS_exc {x : Exn} : wS (.exc x env S) P Y = Y x env S := rfl
theorem wS_bad : wS .bad P Y = False := rfl
theorem wS_st {r : R α} {k : α → Sto → RS} : wS (r.st env k) P Y = wR r (fun a T => wS (k a T) P Y) (fun x T => Y x env T) := by cases r <;> rfl
theorem wS_seq {r : RS} {k : Env → Sto → RS} : wS (r.seq k) P Y = wS r (fun f e T => match f with | .nx => wS (k e T) P Y | f => P f e T) Y := by
  cases r with
  | ok f e T => cases f <;> rfl
  | exc x e T => rfl
  | bad => rfl
theorem wS_turn {r : RS} {k : Env → Sto → RS} : wS (r.turn k) P Y = wS r (fun f e T => match f with | .nx => wS (k e T) P Y | .ct => wS (k e T) P Y | .bk => P .nx e T | f => P f e T) Y := by
  cases r with
  | ok f e T => cases f <;> rfl
  | exc x e T => rfl
  | bad => rfl
theorem wS_onBS {b : Bool} {t f : RS} : wS (onBS (.v (.bl b)) t f) P Y = if b = true then wS t P Y else wS f P Y := by cases b <;> rfl
theorem wR_onB {b : Bool} {t f : R α} : wR (onB (.v (.bl b)) t f) Q X = if b = true then wR t Q X else wR f Q X := by cases b <;> rfl
theorem wS_ite {c : Prop} [Decidable c] {t f : RS} : wS (if c then t else f) P Y = if c then wS t P Y else wS f P Y := by split <;> rfl
theorem wR_ite {c : Prop} [Decidable c] {t f : R α} : wR (if c then t else f) Q X = if c then wR t Q X else wR f Q X := by split <;> rfl
theorem wS_tried {r : RS} {hs : List (Nat × HS)} : wS (r.tried hs) P Y = wS r P (fun x e T => wS (handle hs x e T) P Y) := by cases r <;> rfl
theorem wR_nox {r : R α} : wR r.nox Q X = wR r Q (fun _ _ => False) := by cases r <;> rfl
theorem wR_orBad {o : Option α} : wR (orBad o S) Q X = ∃ a, o = some a ∧ Q a S := by
  cases o with
  | none => exact propext ⟨fun h => h.elim, fun ⟨_, h, _⟩ => by cases h⟩
  | some a => exact propext ⟨fun h => ⟨a, rfl, h⟩, fun ⟨_, h, k⟩ => by cases h; exact k⟩
theorem wR_mul {i j : Int} {Q : Int → Sto → Prop} : wR (orBad (intOp .Mult i j) S) Q X = (mulOk i j = true ∧ Q (i * j) S) := by
  show wR (orBad (if mulOk i j then some (i * j) else none) S) Q X = _
  by_cases h : mulOk i j = true
  · rw [if_pos h]
    exact propext ⟨fun q => ⟨h, q⟩, fun q => q.2⟩
  · rw [if_neg h]
    exact propext ⟨fun q => q.elim, fun q => (h q.1).elim⟩
theorem wR_div {i j : Int} {Q : Int → Sto → Prop} : wR (orBad (intOp .FloorDiv i j) S) Q X = (divOk j = true ∧ Q (i.fdiv j) S) := by
  show wR (orBad (if divOk j then some (i.fdiv j) else none) S) Q X = _
  by_cases h : divOk j = true
  · rw [if_pos h]
    exact propext ⟨fun q => ⟨h, q⟩, fun q => q.2⟩
  · rw [if_neg h]
    exact propext ⟨fun q => q.elim, fun q => (h q.1).elim⟩
theorem wR_mod {i j : Int} {Q : Int → Sto → Prop} : wR (orBad (intOp .Mod i j) S) Q X = (j ≠ 0 ∧ Q (i.fmod j) S) := by
  show wR (orBad (if j = 0 then none else some (i.fmod j)) S) Q X = _
  by_cases h : j = 0
  · rw [if_pos h]
    exact propext ⟨fun q => q.elim, fun q => (q.1 h).elim⟩
  · rw [if_neg h]
    exact propext ⟨fun q => ⟨h, q⟩, fun q => q.2⟩
theorem wr_eq {r : R α} {a : α} (e : r = .ok a S) (q : Q a S) : wR r Q X := by rw [e]; exact q
theorem wr_exc {r : R α} {x : Exn} (e : r = .exc x S) (q : X x S) : wR r Q X := by rw [e]; exact q
theorem wr_1 {ι : Type} {r : R α} {f : ι → α} {g : ι → Sto} {H : ι → Prop} (e : ∃ i, r = .ok (f i) (g i) ∧ H i) (q : ∀ i, H i → Q (f i) (g i)) : wR r Q X := by
  obtain ⟨i, e, h⟩ := e
  rw [e]
  exact q i h
theorem wr_2 {ι κ : Type} {r : R α} {f : ι → κ → α} {g : ι → κ → Sto} {H : ι → κ → Prop} (e : ∃ i j, r = .ok (f i j) (g i j) ∧ H i j) (q : ∀ i j, H i j → Q (f i j) (g i j)) : wR r Q X := by
  obtain ⟨i, j, e, h⟩ := e
  rw [e]
  exact q i j h
theorem wr_3 {ι κ l : Type} {r : R α} {f : ι → κ → l → α} {g : ι → κ → l → Sto} {H : ι → κ → l → Prop} (e : ∃ i j m, r = .ok (f i j m) (g i j m) ∧ H i j m) (q : ∀ i j m, H i j m → Q (f i j m) (g i j m)) : wR r Q X := by
  obtain ⟨i, j, m, e, h⟩ := e
  rw [e]
  exact q i j m h
/-- from a wR back to the result -/
theorem wR_ex {r : R α} (h : wR r Q (fun _ _ => False)) : ∃ a T, r = .ok a T ∧ Q a T := by
  cases r with
  | ok a T => exact ⟨a, T, rfl, h⟩
  | exc x T => exact h.elim
  | bad => exact h.elim
theorem wR_res {r : R α} {a : α} (h : wR r (fun b T => b = a ∧ T = S) (fun _ _ => False)) : r = .ok a S := by
  obtain ⟨b, T, e, rfl, rfl⟩ := wR_ex h
  exact e
theorem wR_resX {r : R α} {x : Exn} (h : wR r (fun _ _ => False) (fun y T => y = x ∧ T = S)) : r = .exc x S := by
  cases r with
  | ok a T => exact h.elim
  | exc y T => obtain ⟨rfl, rfl⟩ := h; rfl
  | bad => exact h.elim
theorem wS_ex {r : RS} (h : wS r P (fun _ _ _ => False)) : ∃ f e T, r = .ok f e T ∧ P f e T := by
  cases r with
  | ok f e T => exact ⟨f, e, T, rfl, h⟩
  | exc x e T => exact h.elim
  | bad => exact h.elim
theorem wR_mono {r : R α} {Q' : α → Sto → Prop} {X' : Exn → Sto → Prop} (h : wR r Q' X') (q : ∀ a T, Q' a T → Q a T) (x : ∀ y T, X' y T → X y T) : wR r Q X := by
  cases r with
  | ok a T => exact q a T h
  | exc y T => exact x y T h
  | bad => exact h.elim
theorem wS_mono {r : RS} {P' : Fl → Env → Sto → Prop} {Y' : Exn → Env → Sto → Prop} (h : wS r P' Y') (q : ∀ f e T, P' f e T → P f e T) (x : ∀ y e T, Y' y e T → Y y e T) : wS r P Y := by
  cases r with
  | ok f e T => exact q f e T h
  | exc y e T => exact x y e T h
  | bad => exact h.elim
end
noncomputable def exS (G : Gm) (ss : List Stm) (env : Env) (S : Sto) : RS := execs G ss env S
section
variable {G : Gm} {env : Env} {S : Sto} {P : Fl → Env → Sto → Prop} {Y : Exn → Env → Sto → Prop}
theorem ex_seal {ss : List Stm} : execs G ss env S = exS G ss env S := rfl
theorem exS_c {s : Stm} {ss : List Stm} : exS G (s :: ss) env S = (exec G s env S).seq fun e T => exS G ss e T := rfl
theorem exS_n : exS G [] env S = .ok .nx env S := rfl
/-- the next statement -/
theorem wS_step {s : Stm} {ss : List Stm} : wS (exS G (s :: ss) env S) P Y = wS (exec G s env S) (fun f e T => match f with | .nx => wS (exS G ss e T) P Y | f => P f e T) Y := wS_seq
theorem wS_end : wS (exS G [] env S) P Y = P .nx env S := rfl
/-- a def's end -/
theorem wR_fin {r : RS} {Q : W → Sto → Prop} {X : Exn → Sto → Prop} : wR (r.fin S) Q X = wS r (fun f _ T => match f with | .ret w => wR (finish S T w) Q X | .nx => wR (finish S T (.v .non)) Q X | _ => False) (fun x _ T => wR (finishX S T x) Q X) := by
  cases r with
  | ok f e T => cases f <;> rfl
  | exc x e T => rfl
  | bad => rfl
open Classical in
/-- a for: I by the turn -/
theorem ws_for {src : List Src} {tg : Tg} {b : List Stm} {xs : List D} (I : Nat → Env → Sto → Prop) (h0 : I 0 env S) (hs : ∀ i env S, I i env S → ∀ s ∈ src, srcOk s S)
    (ht : ∀ i x env S, xs[i]? = some x → I i env S → ∃ env1, bindTg S tg x env = some env1 ∧ wS (execs G b env1 S) (fun f e T => match f with | .nx => I (i + 1) e T | .ct => I (i + 1) e T | .bk => P .nx e T | f => P f e T) Y)
    (he : ∀ env S, I xs.length env S → P .nx env S) : wS (frs G src tg b xs env S) P Y := by
  have go : ∀ (n i : Nat) (env : Env) (S : Sto), n = xs.length - i → i ≤ xs.length → I i env S → wS (frs G src tg b (xs.drop i) env S) P Y := by
    intro n
    induction n with
    | zero =>
      intro i env S hn hi h
      have e : i = xs.length := by omega
      subst e
      rw [List.drop_length, frs_nil (hs _ _ _ h)]
      exact he _ _ h
    | succ n ih =>
      intro i env S hn hi h
      have hlt : i < xs.length := by omega
      rw [List.drop_eq_getElem_cons hlt]
      obtain ⟨env1, e1, e2⟩ := ht i xs[i] env S (List.getElem?_eq_getElem hlt) h
      rw [frs_cons (hs _ _ _ h) e1, wS_turn]
      refine wS_mono e2 (fun f e T q => ?_) fun _ _ _ q => q
      cases f with
      | nx => exact ih (i + 1) e T (by omega) hlt q
      | ct => exact ih (i + 1) e T (by omega) hlt q
      | bk => exact q
      | ret w => exact q
  have := go xs.length 0 env S (by omega) (Nat.zero_le _) h0
  rwa [List.drop_zero] at this
/-- a while: I by a ghost, m grows less -/
theorem ws_whl {σ : Type} {c : E} {b : List Stm} (I : σ → Env → Sto → Prop) (m : σ → Nat) (s0 : σ) (h0 : I s0 env S)
    (ht : ∀ s env S, I s env S → wR (ev G c env S) (fun w T => ∃ t, w = .v (.bl t) ∧ if t = true then wS (execs G b env T) (fun f e U => match f with | .nx => ∃ s', m s' < m s ∧ I s' e U | .ct => ∃ s', m s' < m s ∧ I s' e U | .bk => P .nx e U | f => P f e U) Y else P .nx env T) (fun x T => Y x env T)) : wS (whl G c b env S) P Y := by
  have go : ∀ (n : Nat) (s : σ) (env : Env) (S : Sto), m s < n → I s env S → wS (whl G c b env S) P Y := by
    intro n
    induction n with
    | zero => intro s env S h; omega
    | succ n ih =>
      intro s env S hn h
      rw [whl_eq, wS_st]
      refine wR_mono (ht s env S h) (fun w T q => ?_) fun _ _ q => q
      obtain ⟨t, rfl, q⟩ := q
      cases t with
      | false => exact q
      | true =>
        show wS ((execs G b env T).turn _) P Y
        rw [wS_turn]
        refine wS_mono q (fun f e U z => ?_) fun _ _ _ z => z
        cases f with
        | nx => obtain ⟨s', h1, h2⟩ := z; exact ih s' e U (by omega) h2
        | ct => obtain ⟨s', h1, h2⟩ := z; exact ih s' e U (by omega) h2
        | bk => exact z
        | ret w => exact z
  exact go (m s0 + 1) s0 env S (Nat.lt_succ_self _) h0
open Classical in
/-- a comprehension: I by the items that stand -/
theorem wr_lc {e : E} {vs : List Nat} {tg : Tg} {src : List Src} {xs : List D} {Q : List D → Sto → Prop} {X : Exn → Sto → Prop} (I : Nat → List D → Sto → Prop) (h0 : I 0 [] S) (hs : ∀ i ds S, I i ds S → ∀ s ∈ src, srcOk s S)
    (ht : ∀ i x ds S, xs[i]? = some x → I i ds S → ∃ env1, bindTg S tg x (wipe env vs) = some env1 ∧ wR (ev G e env1 S) (fun w T => wR (alloc w T) (fun d U => I (i + 1) (ds ++ [d]) U) X) X)
    (he : ∀ ds S, I xs.length ds S → Q ds S) : wR (lcR G e vs tg env src xs S) Q X := by
  have go : ∀ (n i : Nat) (ds : List D) (S : Sto), n = xs.length - i → i ≤ xs.length → I i ds S → wR (lcR G e vs tg env src (xs.drop i) S) (fun rs T => Q (ds ++ rs) T) X := by
    intro n
    induction n with
    | zero =>
      intro i ds S hn hi h
      have e : i = xs.length := by omega
      subst e
      rw [List.drop_length, lcR_nil (hs _ _ _ h)]
      show Q (ds ++ []) S
      rw [List.append_nil]
      exact he _ _ h
    | succ n ih =>
      intro i ds S hn hi h
      have hlt : i < xs.length := by omega
      rw [List.drop_eq_getElem_cons hlt]
      obtain ⟨env1, e1, e2⟩ := ht i xs[i] ds S (List.getElem?_eq_getElem hlt) h
      rw [lcR_cons (hs _ _ _ h) e1]
      simp only [wR_bind]
      refine wR_mono e2 (fun w T q => ?_) fun _ _ q => q
      refine wR_mono q (fun d U q => ?_) fun _ _ q => q
      have := ih (i + 1) (ds ++ [d]) U (by omega) hlt q
      refine wR_mono this (fun rs V z => ?_) fun _ _ z => z
      show Q (ds ++ d :: rs) V
      rw [List.append_assoc] at z
      exact z
  have := go xs.length 0 [] S (by omega) (Nat.zero_le _) h0
  rw [List.drop_zero] at this
  exact wR_mono this (fun rs T z => z) fun _ _ z => z
end
end Py
namespace Py
open PySem
noncomputable def augS (G : Gm) (op : Operator) (i : Nat) (e : E) (env : Env) (S : Sto) (o : Option (Option D)) : RS := match o with
  | some (some d) => (ev G e env S).st env fun w S1 => augR op i env (some (some d)) w S1
  | _ => .bad
section
variable {G : Gm} {env : Env} {S : Sto} {P : Fl → Env → Sto → Prop} {Y : Exn → Env → Sto → Prop}
theorem ex_aug2 {i : Nat} {op : Operator} {e : E} : exec G (.aug i op e) env S = augS G op i e env S env[i]? := by
  cases h : env[i]? with
  | none =>
    show (match env[i]? with | some (some d) => _ | _ => RS.bad) = _
    rw [h]
    rfl
  | some o =>
    cases o with
    | none =>
      show (match env[i]? with | some (some d) => _ | _ => RS.bad) = _
      rw [h]
      rfl
    | some d => rw [ex_aug h]; rfl
theorem augS_some {i : Nat} {op : Operator} {e : E} {d : D} : augS G op i e env S (some (some d)) = (ev G e env S).st env fun w S1 => augR op i env (some (some d)) w S1 := rfl
theorem wS_augR {op : Operator} {i : Nat} {a b : Int} : wS (augR op i env (some (some (.int a))) (.v (.int b)) S) P Y = wR (orBad (intOp op a b) S) (fun z T => P .nx (env.set i (some (.int z))) T) (fun x T => Y x env T) := by
  show wS (match intOp op a b with | some z => RS.ok .nx (env.set i (some (.int z))) S | none => .bad) P Y = _
  cases intOp op a b <;> rfl
theorem wS_saugR {op : Operator} {ow kw : W} {a b : Int} : wS (saugR op env ow kw (.int a) (.v (.int b)) S) P Y = wR (orBad (intOp op a b) S) (fun z T => wS (setLR env ow kw (.int z) T) P Y) (fun x T => Y x env T) := by
  show wS (match intOp op a b with | some z => setLR env ow kw (.int z) S | none => .bad) P Y = _
  cases intOp op a b <;> rfl
theorem ws_setL {n : Nat} {xs : List D} {i : Int} {d : D} (h : S[n]? = some (.lst xs)) (h0 : 0 ≤ i) (h1 : i < xs.length) (q : P .nx env (S.set n (.lst (xs.set i.toNat d)))) : wS (setLR env (.v (.loc n)) (.v (.int i)) d S) P Y := by
  rw [setL_ok h h0 h1]
  exact q
noncomputable def callvS (G : Gm) (es : List E) (env : Env) (S : Sto) (o : Option (Option D)) : R W := match o with
  | some (some (.fn f)) => if G.has f then (evs G es env S).bind fun ds S1 => G.call f ds S1 else .bad
  | _ => .bad
theorem ev_callv2 {i : Nat} {es : List E} : ev G (.callv i es) env S = callvS G es env S env[i]? := by
  show (match env[i]? with | some (some (.fn f)) => if G.has f then (evs G es env S).bind fun ds S1 => G.call f ds S1 else .bad | _ => .bad) = _
  unfold callvS
  rfl
theorem callvS_fn {k : Nat} {es : List E} {f : Nat} (h : hs f = true) : callvS (Γ k) es env S (some (some (.fn f))) = (evs (Γ k) es env S).bind fun ds S1 => (Γ k).call f ds S1 := by
  have hh : (Γ k).has f = true := by cases k <;> exact h
  show (if (Γ k).has f = true then _ else _) = _
  rw [if_pos hh]
theorem fin_vd {d : D} (hu : und S.length d = true) : finish S S (.v d) = .ok (.v d) S := fin_v0 hu
theorem handle_hit' {c : Nat} {h : HS} {r : List (Nat × HS)} : handle ((c, h) :: r) ⟨c, []⟩ env S = hexec h env S := if_pos rfl
theorem ne_str {a : Str} (h : PyData.strOk a = true) : cmpW .NotEq (.v (.str a)) (.v (.str a)) S = .ok (.v (.bl false)) S := by
  simp [cmpW, cmpB, eqW_str h h]
theorem ne_strs {a b : Str} (h : PyData.strOk a = true) (h' : PyData.strOk b = true) : cmpW .NotEq (.v (.str a)) (.v (.str b)) S = .ok (.v (.bl (!(a == b)))) S := by
  simp [cmpW, cmpB, eqW_str h h']
theorem eq_strs {a b : Str} (h : PyData.strOk a = true) (h' : PyData.strOk b = true) : cmpW .Eq (.v (.str a)) (.v (.str b)) S = .ok (.v (.bl (a == b))) S := by
  simp [cmpW, cmpB, eqW_str h h']
theorem bindR_n {i : Nat} {a : D} : bindR (.name i) env a S = .ok .nx (env.set i (some a)) S := rfl
theorem bindR_2 {i j : Nat} {a b : D} : bindR (.tup [.name i, .name j]) env (.tup [a, b]) S = .ok .nx ((env.set i (some a)).set j (some b)) S := rfl
theorem bindR_3 {i j k : Nat} {a b c : D} : bindR (.tup [.name i, .name j, .name k]) env (.tup [a, b, c]) S = .ok .nx (((env.set i (some a)).set j (some b)).set k (some c)) S := rfl
theorem bindR_4 {i j k l : Nat} {a b c d : D} : bindR (.tup [.name i, .name j, .name k, .name l]) env (.tup [a, b, c, d]) S = .ok .nx ((((env.set i (some a)).set j (some b)).set k (some c)).set l (some d)) S := rfl
end
end Py

namespace Py
/-- a coefficient -/
def cf (p : List Int) (i : Nat) : Int := p[i]?.getD 0
abbrev lead (p : List Int) : Int := p.getLast?.getD 0
@[simp] theorem cf_nil {i : Nat} : cf [] i = 0 := rfl
@[simp] theorem cf_cons0 {a : Int} {p : List Int} : cf (a :: p) 0 = a := rfl
@[simp] theorem cf_consS {a : Int} {p : List Int} {i : Nat} : cf (a :: p) (i + 1) = cf p i := rfl
theorem cf_ge {p : List Int} {i : Nat} (h : p.length ≤ i) : cf p i = 0 := by
  unfold cf
  rw [List.getElem?_eq_none h]
  rfl
theorem cf_trim : ∀ (p : List Int) (i : Nat), cf (trim p) i = cf p i
  | [], _ => rfl
  | a :: p, i => by
    have ih := cf_trim p
    unfold trim
    cases h : trim p with
    | nil =>
      rw [h] at ih
      by_cases ha : a = 0
      · rw [if_pos ha]
        cases i with
        | zero => exact ha.symm
        | succ i => exact ih i
      · rw [if_neg ha]
        cases i with
        | zero => rfl
        | succ i => exact ih i
    | cons b r =>
      rw [h] at ih
      cases i with
      | zero => rfl
      | succ i => exact ih i
theorem cf_ext : ∀ {p q : List Int}, (∀ i, cf p i = cf q i) → trim p = trim q
  | [], [], _ => rfl
  | [], b :: q, h => by
    have h0 := h 0
    have : trim [] = trim q := cf_ext fun i => h (i + 1)
    exact (trim_cons_nil.mpr ⟨h0.symm, this.symm⟩).symm
  | a :: p, [], h => by
    have h0 := h 0
    have : trim p = trim [] := cf_ext fun i => h (i + 1)
    exact trim_cons_nil.mpr ⟨h0, this⟩
  | a :: p, b :: q, h => trim_cons_eq (cf_ext fun i => h (i + 1)) (h 0)
theorem tr_ext {p q : List Int} (hp : Tr p) (hq : Tr q) (h : ∀ i, cf p i = cf q i) : p = q := by
  rw [← hp, ← hq]
  exact cf_ext h
theorem lead_snoc {p : List Int} {a : Int} : lead (p ++ [a]) = a := by simp [lead]
theorem snoc_of {p : List Int} (h : p ≠ []) : p = p.dropLast ++ [lead p] := by
  have := List.dropLast_concat_getLast h
  rw [lead, List.getLast?_eq_getLast h]
  exact this.symm
theorem lead_cf {p : List Int} : lead p = cf p (p.length - 1) := by
  rw [lead, List.getLast?_eq_getElem?]
  rfl
theorem Tr.lead {p : List Int} (h : Tr p) (hn : p ≠ []) : lead p ≠ 0 := by
  intro z
  have e := snoc_of hn
  rw [z] at e
  have h1 : trim p = trim p.dropLast := by conv => lhs; rw [e, trim_snoc0]
  have h2 := trim_len p.dropLast
  rw [← h1, h, List.length_dropLast] at h2
  have := List.length_pos_iff.mpr hn
  omega
theorem tr_of_lead {p : List Int} (h : lead p ≠ 0) : Tr p := by
  by_cases hn : p = []
  · subst hn; rfl
  · rw [snoc_of hn]
    exact trim_snoc _ h
/-- the length by the coefficients -/
theorem Tr.len_le {p : List Int} (h : Tr p) {n : Nat} (hc : ∀ i, n ≤ i → cf p i = 0) : p.length ≤ n := by
  by_cases hn : p = []
  · subst hn; exact Nat.zero_le _
  · apply Classical.byContradiction
    intro hl
    have := h.lead hn
    rw [lead_cf] at this
    exact this (hc _ (by omega))
theorem Tr.len_ge {p : List Int} {n : Nat} (hc : cf p n ≠ 0) : n < p.length := by
  apply Classical.byContradiction
  intro hl
  exact hc (cf_ge (by omega))
theorem cf_set {p : List Int} {j i : Nat} {a : Int} (h : j < p.length) : cf (p.set j a) i = if j = i then a else cf p i := by
  unfold cf
  by_cases e : j = i
  · subst e
    rw [if_pos rfl, List.getElem?_set_self h]
    rfl
  · rw [if_neg e, List.getElem?_set_ne e]
theorem cf_addAt : ∀ (p : List Int) (j : Nat) (f : List Int) (i : Nat), j + p.length ≤ f.length → cf (addAt j p f) i = cf f i + if j ≤ i then cf p (i - j) else 0
  | [], j, f, i, _ => by simp [addAt]
  | a :: p, j, f, i, h => by
    simp only [List.length_cons] at h
    show cf (addAt (j + 1) p _) i = _
    rw [cf_addAt p (j + 1) _ i (by rw [List.length_set]; omega), cf_set (by omega)]
    by_cases e : j = i
    · subst e
      rw [if_pos rfl, if_neg (by omega), if_pos (Nat.le_refl _), Nat.sub_self]
      show cf f j + a + 0 = cf f j + a
      omega
    · rw [if_neg e]
      by_cases l : j ≤ i
      · rw [if_pos (by omega), if_pos l]
        obtain ⟨m, rfl⟩ : ∃ m, i = j + 1 + m := ⟨i - (j + 1), by omega⟩
        rw [show j + 1 + m - (j + 1) = m by omega, show j + 1 + m - j = m + 1 by omega, cf_consS]
      · rw [if_neg (by omega), if_neg l]
theorem cf_zeros {n i : Nat} : cf (List.replicate n 0) i = 0 := by
  unfold cf
  rw [List.getElem?_replicate]
  split <;> rfl
theorem cf_sum {p q : List Int} {i : Nat} : cf (psum p q) i = cf p i + cf q i := by
  unfold psum
  rw [cf_trim, cf_addAt _ _ _ _ (by rw [addAt_len, List.length_replicate]; omega), cf_addAt _ _ _ _ (by rw [List.length_replicate]; omega), cf_zeros]
  simp
theorem cf_map {f : Int → Int} (h : f 0 = 0) {p : List Int} {i : Nat} : cf (p.map f) i = f (cf p i) := by
  unfold cf
  rw [List.getElem?_map]
  cases p[i]? with
  | none => exact h.symm
  | some a => rfl
theorem cf_scale {c : Int} {p : List Int} {i : Nat} : cf (pscale c p) i = c * cf p i := by
  unfold pscale
  rw [cf_trim, cf_map (by simp)]
theorem cf_dif {p q : List Int} {i : Nat} : cf (pdif p q) i = cf p i - cf q i := by
  unfold pdif
  rw [cf_sum, cf_scale]
  omega
theorem pdif_tr {p q : List Int} : Tr (pdif p q) := psum_tr
theorem pdif_eq_nil {p q : List Int} (hp : Tr p) (hq : Tr q) : pdif p q = [] ↔ p = q := by
  constructor
  · intro h
    refine tr_ext hp hq fun i => ?_
    have := cf_dif (p := p) (q := q) (i := i)
    rw [h, cf_nil] at this
    omega
  · intro h
    subst h
    exact tr_ext pdif_tr rfl fun i => by rw [cf_dif, cf_nil]; omega
theorem cf_mulAt_ge : ∀ (p q : List Int) (j : Nat) (f : List Int) (N : Nat), j + p.length + q.length ≤ f.length + 1 → j + p.length + q.length ≤ N + 1 → cf (mulAt j p q f) N = cf f N
  | [], _, _, _, _, _, _ => rfl
  | a :: p, [], j, f, N, _, _ => by rw [mulAt_nil]
  | a :: p, b :: q, j, f, N, h, hN => by
    simp only [List.length_cons] at h hN
    show cf (mulAt (j + 1) p (b :: q) _) N = _
    rw [cf_mulAt_ge p (b :: q) (j + 1) _ N (by rw [addAt_len]; simp only [List.length_cons]; omega) (by simp only [List.length_cons]; omega), cf_addAt _ _ _ _ (by rw [List.length_map, List.length_cons]; omega)]
    by_cases e : j ≤ N
    · rw [if_pos e, cf_ge (p := (b :: q).map _) (by rw [List.length_map, List.length_cons]; omega)]
      omega
    · rw [if_neg e]
      omega
theorem addAt_snoc' : ∀ (l : List Int) (i : Nat) (b : Int) (f : List Int), addAt i (l ++ [b]) f = (addAt i l f).set (i + l.length) ((addAt i l f)[i + l.length]?.getD 0 + b)
  | [], i, b, f => by simp [addAt]
  | a :: l, i, b, f => by
    show addAt (i + 1) (l ++ [b]) _ = _
    rw [addAt_snoc' l (i + 1) b]
    show _ = (addAt (i + 1) l _).set _ _
    rw [List.length_cons, show i + 1 + l.length = i + (l.length + 1) by omega]
    rfl
theorem mulAt_snoc' : ∀ (p : List Int) (i : Nat) (a : Int) (q f : List Int), mulAt i (p ++ [a]) q f = addAt (i + p.length) (q.map (a * ·)) (mulAt i p q f)
  | [], i, a, q, f => by simp [mulAt]
  | b :: p, i, a, q, f => by
    show mulAt (i + 1) (p ++ [a]) q _ = _
    rw [mulAt_snoc' p (i + 1) a, List.length_cons, show i + 1 + p.length = i + (p.length + 1) by omega]
    rfl
/-- the top of a product -/
theorem pmul_top {p q : List Int} (hp : Tr p) (hq : Tr q) (np : p ≠ []) (nq : q ≠ []) : (pmul p q).length = p.length + q.length - 1 ∧ lead (pmul p q) = lead p * lead q ∧ pmul p q ≠ [] := by
  have lp := hp.lead np
  have lq := hq.lead nq
  have h1 := List.length_pos_iff.mpr np
  have h2 := List.length_pos_iff.mpr nq
  have key : cf (mulAt 0 p q (List.replicate (p.length + q.length - 1) 0)) (p.length + q.length - 2) = lead p * lead q := by
    conv => lhs; arg 1; arg 2; rw [snoc_of np]
    rw [mulAt_snoc', cf_addAt _ _ _ _ (by rw [mulAt_len, List.length_replicate, List.length_map, List.length_dropLast]; omega), cf_mulAt_ge _ _ _ _ _ (by rw [List.length_replicate, List.length_dropLast]; omega) (by rw [List.length_dropLast]; omega), cf_zeros, if_pos (by rw [List.length_dropLast]; omega), cf_map (by simp), List.length_dropLast, show p.length + q.length - 2 - (0 + (p.length - 1)) = q.length - 1 by omega, ← lead_cf]
    omega
  have e : trim (mulAt 0 p q (List.replicate (p.length + q.length - 1) 0)) = mulAt 0 p q (List.replicate (p.length + q.length - 1) 0) := by
    refine tr_of_lead ?_
    rw [lead_cf, mulAt_len, List.length_replicate, show p.length + q.length - 1 - 1 = p.length + q.length - 2 by omega, key]
    exact Int.mul_ne_zero lp lq
  have l : (pmul p q).length = p.length + q.length - 1 := by
    unfold pmul
    rw [e, mulAt_len, List.length_replicate]
  refine ⟨l, ?_, fun z => ?_⟩
  · rw [lead_cf, l, show p.length + q.length - 1 - 1 = p.length + q.length - 2 by omega, ← key]
    unfold pmul
    rw [e]
  · rw [z] at l
    simp at l
    omega
theorem pmul_nil_l {q : List Int} : pmul [] q = [] := tr_ext pmul_tr rfl fun i => by
  show cf (trim (mulAt 0 [] q _)) i = _
  rw [cf_trim, show mulAt 0 [] q (List.replicate (([] : List Int).length + q.length - 1) 0) = List.replicate (([] : List Int).length + q.length - 1) 0 from rfl, cf_zeros]
  rfl
theorem pmul_nil_r {p : List Int} : pmul p [] = [] := tr_ext pmul_tr rfl fun i => by
  show cf (trim (mulAt 0 p [] _)) i = _
  rw [cf_trim, mulAt_nil, cf_zeros]
  rfl
theorem pmul_eq_nil {p q : List Int} (hp : Tr p) (hq : Tr q) : pmul p q = [] ↔ p = [] ∨ q = [] := by
  constructor
  · intro h
    apply Classical.byContradiction
    intro hn
    exact (pmul_top hp hq (fun z => hn (.inl z)) fun z => hn (.inr z)).2.2 h
  · rintro (h | h)
    · rw [h, pmul_nil_l]
    · rw [h, pmul_nil_r]
theorem pmul_comm {p q : List Int} : pmul p q = pmul q p := pev_inj pmul_tr pmul_tr fun x => by rw [pmul_ev, pmul_ev, Int.mul_comm]
theorem pmul_assoc {p q r : List Int} : pmul (pmul p q) r = pmul p (pmul q r) := pev_inj pmul_tr pmul_tr fun x => by rw [pmul_ev, pmul_ev, pmul_ev, pmul_ev, Int.mul_assoc]
theorem pmul_one {p : List Int} (h : Tr p) : pmul p [1] = p := pev_inj pmul_tr h fun x => by rw [pmul_ev]; simp
/-- what a polynomial that is not 0 is multiplied with -/
theorem pmul_cancel {p q r : List Int} (hp : Tr p) (hq : Tr q) (hr : Tr r) (nr : r ≠ []) (h : pmul p r = pmul q r) : p = q := by
  rw [← pdif_eq_nil hp hq]
  have : pmul (pdif p q) r = [] := pev_inj pmul_tr rfl fun x => by
    have := congrArg (pev · x) h
    simp only [pmul_ev] at this
    rw [pmul_ev, pdif_ev, Int.sub_mul, this]
    simp
  exact ((pmul_eq_nil pdif_tr hr).mp this).resolve_right nr
def pshift (k : Nat) (p : List Int) : List Int := if p = [] then [] else List.replicate k 0 ++ p
theorem cf_append_zeros {k : Nat} {p : List Int} {i : Nat} : cf (List.replicate k 0 ++ p) i = if i < k then 0 else cf p (i - k) := by
  unfold cf
  by_cases h : i < k
  · rw [if_pos h, List.getElem?_append_left (by rw [List.length_replicate]; exact h), List.getElem?_replicate, if_pos h]
    rfl
  · rw [if_neg h, List.getElem?_append_right (by rw [List.length_replicate]; omega), List.length_replicate]
theorem cf_shift {k : Nat} {p : List Int} {i : Nat} : cf (pshift k p) i = if i < k then 0 else cf p (i - k) := by
  unfold pshift
  by_cases h : p = []
  · subst h
    simp
  · rw [if_neg h, cf_append_zeros]
theorem pev_zeros_app {k : Nat} {p : List Int} {x : Int} : pev (List.replicate k 0 ++ p) x = x ^ k * pev p x := by
  rw [pev_append, pev_zeros, List.length_replicate]
  omega
theorem pshift_ev {k : Nat} {p : List Int} {x : Int} : pev (pshift k p) x = x ^ k * pev p x := by
  unfold pshift
  by_cases h : p = []
  · subst h
    simp
  · rw [if_neg h, pev_zeros_app]
theorem pshift_len {k : Nat} {p : List Int} : (pshift k p).length ≤ k + p.length := by
  unfold pshift
  split
  · exact Nat.zero_le _
  · rw [List.length_append, List.length_replicate]
    exact Nat.le_refl _
theorem AB.shift {n k : Nat} {p : List Int} (h : AB n p) : AB n (pshift k p) := fun a ha => by
  unfold pshift at ha
  split at ha
  · cases ha
  · rcases List.mem_append.mp ha with ha | ha
    · rw [(List.mem_replicate.mp ha).2]
      exact Nat.two_pow_pos _
    · exact h a ha
/-- what the top of a row loses -/
def dn (q l : List Int) : Int := (lead l).fdiv (lead q)
def dstep (q l : List Int) : List Int := pdif l (pshift (l.length - q.length) (pscale (dn q l) q))
theorem dstep_tr {q l : List Int} : Tr (dstep q l) := pdif_tr
theorem dstep_ev {q l : List Int} {x : Int} : pev (dstep q l) x = pev l x - x ^ (l.length - q.length) * (dn q l * pev q x) := by
  unfold dstep
  rw [pdif_ev, pshift_ev, pscale_ev]
theorem dn_mul {q l : List Int} (h : lead q ∣ lead l) : dn q l * lead q = lead l := by
  unfold dn
  rw [Int.fdiv_eq_ediv_of_dvd h, Int.ediv_mul_cancel h]
theorem cf_dstep {q l : List Int} {i : Nat} : cf (dstep q l) i = cf l i - (if i < l.length - q.length then 0 else dn q l * cf q (i - (l.length - q.length))) := by
  unfold dstep
  rw [cf_dif, cf_shift, cf_scale]
theorem dstep_len {q l : List Int} (hq : q ≠ []) (hl : q.length ≤ l.length) (h : lead q ∣ lead l) : (dstep q l).length < l.length := by
  have h1 := List.length_pos_iff.mpr hq
  have : (dstep q l).length ≤ l.length - 1 := by
    refine dstep_tr.len_le fun i hi => ?_
    rw [cf_dstep, if_neg (by omega)]
    by_cases e : i = l.length - 1
    · subst e
      rw [show l.length - 1 - (l.length - q.length) = q.length - 1 by omega, ← lead_cf, ← lead_cf, dn_mul h]
      omega
    · rw [cf_ge (p := l) (by omega), cf_ge (p := q) (by omega)]
      simp
  omega
theorem fdiv_abs {a b : Int} (h : b ∣ a) : (a.fdiv b).natAbs ≤ a.natAbs := by
  rw [Int.fdiv_eq_ediv_of_dvd h]
  exact Int.natAbs_ediv_le_natAbs a b
theorem lead_bd {n : Nat} {p : List Int} (h : AB n p) : Bd n (lead p) := by
  by_cases hp : p = []
  · subst hp
    exact Nat.two_pow_pos _
  · refine h _ ?_
    rw [lead, List.getLast?_eq_getLast hp]
    exact List.getLast_mem hp
theorem dn_bd {n : Nat} {q l : List Int} (hl : AB n l) (h : lead q ∣ lead l) : Bd n (dn q l) := (lead_bd hl).le (fdiv_abs h)
theorem dstep_AB {n m : Nat} {q l : List Int} (hl : AB n l) (hq : AB m q) (h : lead q ∣ lead l) : AB (n + m + 3) (dstep q l) := pdif_AB (hl.mono (by omega)) ((pscale_AB (dn_bd hl h) hq).shift)
end Py
namespace Py
theorem pow_dvd' (a : Int) {m n : Nat} (h : m ≤ n) : a ^ m ∣ a ^ n := ⟨a ^ (n - m), by rw [← Int.pow_add]; congr 1; omega⟩
theorem natAbs_add_le (a b : Int) : (a + b).natAbs ≤ a.natAbs + b.natAbs := Int.natAbs_add_le a b
theorem cf_bd {n : Nat} {p : List Int} (h : AB n p) (i : Nat) : (cf p i).natAbs < 2 ^ n := by
  unfold cf
  cases e : p[i]? with
  | none => exact Nat.two_pow_pos _
  | some a => exact h a (List.mem_of_getElem? e)
theorem AB.of_cf {n : Nat} {p : List Int} (h : ∀ i, (cf p i).natAbs < 2 ^ n) : AB n p := fun a ha => by
  obtain ⟨i, hi, e⟩ := List.getElem_of_mem ha
  have := h i
  unfold cf at this
  rw [List.getElem?_eq_getElem hi, e] at this
  exact this
theorem cf_dvd_lead {c : Int} {p : List Int} (h : ∀ i, c ∣ cf p i) : c ∣ lead p := by rw [lead_cf]; exact h _
/-- what stands while p is divided by q -/
structure DivI (q p : List Int) (e : Int) (cnt n m : Nat) (l f : List Int) : Prop where
  tl : Tr l
  ll : l.length + 1 - q.length ≤ cnt
  fl : f.length = cnt
  fz : ∀ i, i + q.length ≤ l.length → cf f i = 0
  dv : ∀ i, lead q ^ (l.length + 1 - q.length) ∣ cf l i
  ev : ∀ x, e * pev p x = pev f x * pev q x + pev l x
  bd : ∀ i, (cf l i).natAbs < (lead q).natAbs ^ (l.length + 1 - q.length) * 2 ^ (n + (cnt - (l.length + 1 - q.length)) * (m + 1))
  fb : AB (n + cnt * (m + 1)) f
theorem DivI.lAB {q p : List Int} {e : Int} {cnt n m : Nat} {l f : List Int} (h : DivI q p e cnt n m l f) (aq : AB m q) : AB (n + cnt * (m + 1)) l := AB.of_cf fun i => by
  have h1 := h.bd i
  have h2 := h.ll
  generalize l.length + 1 - q.length = r at *
  refine Nat.lt_of_lt_of_le h1 ?_
  have h3 : (lead q).natAbs ≤ 2 ^ (m + 1) := Nat.le_of_lt (Nat.lt_of_lt_of_le (lead_bd aq) (Nat.pow_le_pow_right (by decide) (by omega)))
  have h4 : (lead q).natAbs ^ r ≤ (2 ^ (m + 1)) ^ r := Nat.pow_le_pow_left h3 r
  refine Nat.le_trans (Nat.mul_le_mul_right _ h4) ?_
  rw [← Nat.pow_mul, ← Nat.pow_add]
  refine Nat.pow_le_pow_right (by decide) ?_
  have h5 : cnt = r + (cnt - r) := by omega
  have h6 : cnt * (m + 1) = r * (m + 1) + (cnt - r) * (m + 1) := by conv => lhs; rw [h5, Nat.add_mul]
  have h7 : (m + 1) * r = r * (m + 1) := Nat.mul_comm ..
  omega
theorem DivI.step {q p : List Int} {e : Int} {cnt n m : Nat} {l f : List Int} (h : DivI q p e cnt n m l f) (hq : Tr q) (nq : q ≠ []) (aq : AB m q) (hl : q.length ≤ l.length) :
    lead q ∣ lead l ∧ l.length - q.length < f.length ∧ (dstep q l).length < l.length ∧ DivI q p e cnt n m (dstep q l) (f.set (l.length - q.length) (dn q l)) := by
  have hd : lead q ∣ lead l := by
    refine Int.dvd_trans ?_ (cf_dvd_lead h.dv)
    rw [show l.length + 1 - q.length = (l.length - q.length) + 1 by omega, Int.pow_succ]
    exact Int.dvd_mul_left _ _
  have hlen := dstep_len nq hl hd
  have hll := h.ll
  have hfl : l.length - q.length < f.length := by rw [h.fl]; omega
  have hle := hq.lead nq
  have hd2 : lead q ^ (l.length - q.length) ∣ dn q l := by
    have := cf_dvd_lead h.dv
    rw [← dn_mul hd, show l.length + 1 - q.length = (l.length - q.length) + 1 by omega, Int.pow_succ] at this
    exact Int.dvd_of_mul_dvd_mul_right hle this
  refine ⟨hd, hfl, hlen, dstep_tr, by omega, by rw [List.length_set]; exact h.fl, fun i hi => ?_, fun i => ?_, fun x => ?_, fun i => ?_, ?_⟩
  · rw [cf_set hfl, if_neg (by omega)]
    exact h.fz i (by omega)
  · have hp : lead q ^ ((dstep q l).length + 1 - q.length) ∣ lead q ^ (l.length - q.length) := pow_dvd' _ (by omega)
    rw [cf_dstep]
    have h1 : lead q ^ ((dstep q l).length + 1 - q.length) ∣ cf l i := Int.dvd_trans (pow_dvd' _ (by omega)) (h.dv i)
    split
    · exact Int.dvd_sub h1 (Int.dvd_zero _)
    · exact Int.dvd_sub h1 (Int.dvd_trans (Int.dvd_trans hp hd2) (Int.dvd_mul_right _ _))
  · have h0 := h.fz (l.length - q.length) (by omega)
    have hs := pev_set f (l.length - q.length) (dn q l) x hfl
    have e0 : f[l.length - q.length]?.getD 0 = 0 := h0
    rw [e0, Int.zero_add] at hs
    rw [h.ev x, hs, dstep_ev]
    grind
  · have hb := h.bd
    have L0 : 0 < (lead q).natAbs := by omega
    have hc : ((dn q l).natAbs) < (lead q).natAbs ^ (l.length - q.length) * 2 ^ (n + (cnt - (l.length + 1 - q.length)) * (m + 1)) := by
      have h1 := hb (l.length - 1)
      rw [← lead_cf, ← dn_mul hd, Int.natAbs_mul, show l.length + 1 - q.length = (l.length - q.length) + 1 by omega, Nat.pow_succ] at h1
      rw [show l.length + 1 - q.length = (l.length - q.length) + 1 by omega]
      refine Nat.lt_of_mul_lt_mul_right (a := (lead q).natAbs) ?_
      rw [Nat.mul_right_comm]
      exact h1
    have hi := hb i
    rw [show l.length + 1 - q.length = (l.length - q.length) + 1 by omega] at hi hc
    generalize hC : 2 ^ (n + (cnt - (l.length - q.length + 1)) * (m + 1)) = C at *
    generalize hr : l.length - q.length = r at *
    have C0 : 0 < C := by rw [← hC]; exact Nat.two_pow_pos _
    -- one coefficient
    have h2 : (cf (dstep q l) i).natAbs < (lead q).natAbs ^ r * C * 2 ^ (m + 1) := by
      have hq1 : (lead q).natAbs ≤ 2 ^ m := Nat.le_of_lt (lead_bd aq)
      have e1 : (lead q).natAbs ^ (r + 1) * C ≤ (lead q).natAbs ^ r * C * 2 ^ m := by
        rw [Nat.pow_succ, Nat.mul_right_comm]
        exact Nat.mul_le_mul_left _ hq1
      have e3 : (lead q).natAbs ^ r * C * 2 ^ (m + 1) = (lead q).natAbs ^ r * C * 2 ^ m + (lead q).natAbs ^ r * C * 2 ^ m := by rw [Nat.pow_succ, ← Nat.mul_assoc]; omega
      rw [cf_dstep, hr]
      split
      · rw [Int.sub_zero]
        omega
      · have e4 : (dn q l * cf q (i - r)).natAbs ≤ (lead q).natAbs ^ r * C * 2 ^ m := by
          rw [Int.natAbs_mul]
          exact Nat.mul_le_mul (Nat.le_of_lt hc) (Nat.le_of_lt (cf_bd aq _))
        have e5 : (cf l i - dn q l * cf q (i - r)).natAbs ≤ (cf l i).natAbs + (dn q l * cf q (i - r)).natAbs := by omega
        omega
    refine Nat.lt_of_lt_of_le h2 ?_
    -- the length may have dropped by more
    generalize hr' : (dstep q l).length + 1 - q.length = r' at *
    have hrr : r' ≤ r := by omega
    have e6 : (lead q).natAbs ^ r ≤ (lead q).natAbs ^ r' * 2 ^ ((r - r') * (m + 1)) := by
      rw [show (lead q).natAbs ^ r = (lead q).natAbs ^ r' * (lead q).natAbs ^ (r - r') by rw [← Nat.pow_add]; congr 1; omega]
      refine Nat.mul_le_mul_left _ ?_
      rw [show (r - r') * (m + 1) = (m + 1) * (r - r') from Nat.mul_comm .., Nat.pow_mul]
      exact Nat.pow_le_pow_left (Nat.le_of_lt (Nat.lt_of_lt_of_le (lead_bd aq) (Nat.pow_le_pow_right (by decide) (by omega)))) _
    have e7 : 2 ^ (n + (cnt - r') * (m + 1)) = 2 ^ ((r - r') * (m + 1)) * (C * 2 ^ (m + 1)) := by
      rw [← hC, ← Nat.pow_add, ← Nat.pow_add]
      congr 1
      have : cnt - r' = (r - r') + (cnt - (r + 1)) + 1 := by omega
      rw [this, Nat.succ_mul, Nat.add_mul]
      omega
    rw [e7, ← Nat.mul_assoc, Nat.mul_assoc _ C]
    exact Nat.mul_le_mul_right _ e6
  · have h1 := h.lAB aq
    intro a ha
    rcases List.mem_or_eq_of_mem_set ha with ha | ha
    · exact h.fb a ha
    · rw [ha]
      exact dn_bd h1 hd
theorem pscale_len_eq {c : Int} (hc : c ≠ 0) {p : List Int} (tp : Tr p) : (pscale c p).length = p.length := by
  have h1 := pscale_len (c := c) (p := p)
  by_cases hp : p = []
  · subst hp; rfl
  · have h2 := List.length_pos_iff.mpr hp
    have h3 : p.length - 1 < (pscale c p).length := Tr.len_ge (by rw [cf_scale, ← lead_cf]; exact Int.mul_ne_zero hc (tp.lead hp))
    omega
theorem DivI.init {q p : List Int} {n m : Nat} (tp : Tr p) (hp : AB n p) (nq : q ≠ []) (hq : Tr q) : DivI q p (((lead q).natAbs : Int) ^ (p.length + 1 - q.length)) (p.length + 1 - q.length) n m (pscale (((lead q).natAbs : Int) ^ (p.length + 1 - q.length)) p) (List.replicate (p.length + 1 - q.length) 0) := by
  have hl := pscale_len (c := ((lead q).natAbs : Int) ^ (p.length + 1 - q.length)) (p := p)
  have hle := hq.lead nq
  have hr : (pscale (((lead q).natAbs : Int) ^ (p.length + 1 - q.length)) p).length + 1 - q.length ≤ p.length + 1 - q.length := by omega
  have hpow : ∀ k : Nat, lead q ^ k ∣ ((lead q).natAbs : Int) ^ k := fun k => by
    have : (((lead q).natAbs : Int) ^ k).natAbs = (lead q ^ k).natAbs := by rw [Int.natAbs_pow, Int.natAbs_pow, Int.natAbs_natCast]
    exact Int.natAbs_dvd_natAbs.mp (by rw [this]; exact Nat.dvd_refl _)
  refine ⟨pscale_tr, hr, List.length_replicate .., fun i _ => cf_zeros, fun i => ?_, fun x => ?_, fun i => ?_, AB.zeros⟩
  · rw [cf_scale]
    exact Int.dvd_trans (Int.dvd_trans (pow_dvd' _ hr) (hpow _)) (Int.dvd_mul_right _ _)
  · rw [pev_zeros, pscale_ev]
    omega
  · have hb := cf_bd hp i
    rw [cf_scale, Int.natAbs_mul, Int.natAbs_pow, Int.natAbs_natCast]
    have h0 : ((lead q).natAbs : Int) ^ (p.length + 1 - q.length) ≠ 0 := Int.pow_ne_zero (by omega)
    rw [pscale_len_eq h0 tp, Nat.sub_self, Nat.zero_mul, Nat.add_zero]
    exact Nat.mul_lt_mul_of_pos_left hb (Nat.pow_pos (by omega))
end Py

namespace Py
open PySem
section
variable {S : Sto}
theorem raised_loop (k : Nat) {n0 : Int} : ∀ (j : Nat) (n f : Int) (b c : Nat), Bd b n → Bd c f → 2 * (j * b) + c + j < 1000000 →
    ∃ n', whl (Γ k) fd_raised_c1 fd_raised_l1 [some (.int n), some (.int j), some (.int f)] S = .ok .nx [some (.int n'), some (.int 0), some (.int (f * n ^ j))] S := by
  intro j
  induction j using Nat.strongRecOn with
  | ind j ih =>
    intro n f b c hn hf hb
    have hc : ev (Γ k) fd_raised_c1 [some (.int n), some (.int (j : Int)), some (.int f)] S = .ok (.v (.bl (decide (0 < (j : Int))))) S := by
      simp only [fd_raised_c1, ev_int, ev_bl, ev_non, ev_str, ev_var, ev_glob, ev_bin, ev_neg, ev_not, ev_cmp, ev_chain, ev_and, ev_or, ev_ife, ev_tup, ev_lst, ev_ix, ev_sl, ev_omit, ev_slr, ev_call, ev_b1, ev_b2, ev_isi, ev_meth, ev_lc, ev_lcif, ev_rng, ev_enum, ev_zip, ev_rev, evs_n, evs_c, alloc_v, alloc_f, setR_eq, ex_set, ex_tset, ex_sset, ex_saug, ex_ex, ex_ret, ex_retN, ex_ite, ex_whl, ex_for, ex_pass, ex_brk, ex_cnt, ex_raise, ex_try, exs_n, exs_c, tried_ok, tried_exc, rs_ret, rs_nx, rs_exc, R.bind_ok, R.bind_exc, R.bind_bad, R.st_ok, R.st_exc, RS.seq_nx, RS.seq_ret, RS.seq_bk, RS.seq_ct, RS.seq_exc, RS.turn_nx, RS.turn_ct, RS.turn_bk, RS.turn_ret, RS.turn_exc, R.nox_ok, orBad_some, lookV_some, lookD_some, onI_int, onLoc_loc, onB_true, onB_false, onB_dec, onBS_true, onBS_false, onBS_dec, bin_int, cmp_lt, cmp_le, cmp_gt, cmp_ge, cmp_eq, cmp_ne, cmp_isb, cmp_isnb, b1_int, b1_intb, b1_abs, b1_lent, b1_lenc, ix_t, ix_c, atR_def, at0, at1, at2, at3, at4, at5, add_of, sub_of, List.map_cons, List.map_nil, List.length_cons, List.length_nil, List.cons_append, List.nil_append, List.replicate_succ, List.replicate_zero, List.getElem?_cons_zero, List.getElem?_cons_succ, List.set_cons_zero, List.set_cons_succ, Nat.zero_add, Nat.reduceAdd, Nat.reduceSub, tupR_0, tupR_1, tupR_2, tupR_3, tupR_4, tupR_5, lstR_0, lstR_1, lstR_2, lstR_3, lstR_4, lstR_5, lstR_6, lstR_7, lstR_8, lstR_9, lstR_10, lstR_11, lstR_12, isi_int, isi_bl, isi_tup, isi_non, isi_str, fin_bl, fin_int, fin_non, fin_str, finX0, handle_hit, handle_nil, hx_bl, hx_str, hx_int, hx_non, hx_cnt, hx_pass, forR_it, forR_f, forR_t, forR_c, gmg, b1_repr, ne_repr, b2_max, b2_min, set_at0, set_at1, set_at2, set_at3, get_at0, get_at1, get_at2, get_at3, List.append_assoc, List.append_nil, List.length_append, List.length_set, Nat.add_zero]
    by_cases h : 0 < (j : Int)
    · have e2 : ((j : Int).fmod 2) = ((j % 2 : Nat) : Int) := by rw [Int.fmod_eq_emod_of_nonneg _ (by decide)]; rfl
      have e3 : ((j : Int).fdiv 2) = ((j / 2 : Nat) : Int) := by rw [Int.fdiv_eq_ediv_of_nonneg _ (by decide)]; rfl
      have hjb : b ≤ j * b := Nat.le_mul_of_pos_left _ (by omega)
      have d2 : ∀ x : Int, intOp .FloorDiv x 2 = some (x.fdiv 2) := fun x => div_of (by decide) (Bd.mono (n := 2) (bd_n (x := 2) (by decide)) (Nat.le_refl _)) (by decide)
      have m2 : ∀ x : Int, intOp .Mod x 2 = some (x.fmod 2) := fun x => mod_of (by decide)
      rw [decide_eq_true h] at hc
      by_cases ho : j % 2 = 1
      · have hx : execs (Γ k) fd_raised_l1 [some (.int n), some (.int (j : Int)), some (.int f)] S = .ok .nx [some (.int (n * n)), some (.int ((j / 2 : Nat) : Int)), some (.int (f * n))] S := by
          have t1 : (((j % 2 : Nat) : Int) = 1) = True := eq_true (by omega)
          simp only [fd_raised_l1, ev_int, ev_bl, ev_non, ev_str, ev_var, ev_glob, ev_bin, ev_neg, ev_not, ev_cmp, ev_chain, ev_and, ev_or, ev_ife, ev_tup, ev_lst, ev_ix, ev_sl, ev_omit, ev_slr, ev_call, ev_b1, ev_b2, ev_isi, ev_meth, ev_lc, ev_lcif, ev_rng, ev_enum, ev_zip, ev_rev, evs_n, evs_c, alloc_v, alloc_f, setR_eq, ex_set, ex_tset, ex_sset, ex_saug, ex_ex, ex_ret, ex_retN, ex_ite, ex_whl, ex_for, ex_pass, ex_brk, ex_cnt, ex_raise, ex_try, exs_n, exs_c, tried_ok, tried_exc, rs_ret, rs_nx, rs_exc, R.bind_ok, R.bind_exc, R.bind_bad, R.st_ok, R.st_exc, RS.seq_nx, RS.seq_ret, RS.seq_bk, RS.seq_ct, RS.seq_exc, RS.turn_nx, RS.turn_ct, RS.turn_bk, RS.turn_ret, RS.turn_exc, R.nox_ok, orBad_some, lookV_some, lookD_some, onI_int, onLoc_loc, onB_true, onB_false, onB_dec, onBS_true, onBS_false, onBS_dec, bin_int, cmp_lt, cmp_le, cmp_gt, cmp_ge, cmp_eq, cmp_ne, cmp_isb, cmp_isnb, b1_int, b1_intb, b1_abs, b1_lent, b1_lenc, ix_t, ix_c, atR_def, at0, at1, at2, at3, at4, at5, add_of, sub_of, List.map_cons, List.map_nil, List.length_cons, List.length_nil, List.cons_append, List.nil_append, List.replicate_succ, List.replicate_zero, List.getElem?_cons_zero, List.getElem?_cons_succ, List.set_cons_zero, List.set_cons_succ, Nat.zero_add, Nat.reduceAdd, Nat.reduceSub, tupR_0, tupR_1, tupR_2, tupR_3, tupR_4, tupR_5, lstR_0, lstR_1, lstR_2, lstR_3, lstR_4, lstR_5, lstR_6, lstR_7, lstR_8, lstR_9, lstR_10, lstR_11, lstR_12, isi_int, isi_bl, isi_tup, isi_non, isi_str, fin_bl, fin_int, fin_non, fin_str, finX0, handle_hit, handle_nil, hx_bl, hx_str, hx_int, hx_non, hx_cnt, hx_pass, forR_it, forR_f, forR_t, forR_c, gmg, b1_repr, ne_repr, b2_max, b2_min, set_at0, set_at1, set_at2, set_at3, get_at0, get_at1, get_at2, get_at3, List.append_assoc, List.append_nil, List.length_append, List.length_set, Nat.add_zero, m2, e2, t1, if_true, ex_aug2, augS_some, augR_ok (mul_of hf hn (by omega)), augR_ok (mul_of hn hn (by omega)), augR_ok (d2 _), e3]
        rw [whl_t hc hx]
        have h5 : (j / 2) * (b + b) = (j - 1) * b := by rw [← Nat.mul_two b, Nat.mul_comm b 2, ← Nat.mul_assoc]; congr 1; omega
        have h6 : (j - 1) * b + b = j * b := by rw [← Nat.succ_mul]; congr 1; omega
        obtain ⟨n', e⟩ := ih (j / 2) (by omega) (n * n) (f * n) (b + b) (c + b) (hn.mul hn) (hf.mul hn) (by omega)
        refine ⟨n', ?_⟩
        rw [e]
        congr 4
        have : n ^ j = n * (n * n) ^ (j / 2) := by
          conv => lhs; rw [show j = 1 + (j / 2 + j / 2) by omega, Int.pow_add, Int.pow_add]
          rw [Int.mul_pow, Int.pow_one] <;> rfl
        rw [this, Int.mul_assoc]
      · have hx : execs (Γ k) fd_raised_l1 [some (.int n), some (.int (j : Int)), some (.int f)] S = .ok .nx [some (.int (n * n)), some (.int ((j / 2 : Nat) : Int)), some (.int f)] S := by
          have t1 : (((j % 2 : Nat) : Int) = 1) = False := eq_false (by omega)
          simp only [fd_raised_l1, ev_int, ev_bl, ev_non, ev_str, ev_var, ev_glob, ev_bin, ev_neg, ev_not, ev_cmp, ev_chain, ev_and, ev_or, ev_ife, ev_tup, ev_lst, ev_ix, ev_sl, ev_omit, ev_slr, ev_call, ev_b1, ev_b2, ev_isi, ev_meth, ev_lc, ev_lcif, ev_rng, ev_enum, ev_zip, ev_rev, evs_n, evs_c, alloc_v, alloc_f, setR_eq, ex_set, ex_tset, ex_sset, ex_saug, ex_ex, ex_ret, ex_retN, ex_ite, ex_whl, ex_for, ex_pass, ex_brk, ex_cnt, ex_raise, ex_try, exs_n, exs_c, tried_ok, tried_exc, rs_ret, rs_nx, rs_exc, R.bind_ok, R.bind_exc, R.bind_bad, R.st_ok, R.st_exc, RS.seq_nx, RS.seq_ret, RS.seq_bk, RS.seq_ct, RS.seq_exc, RS.turn_nx, RS.turn_ct, RS.turn_bk, RS.turn_ret, RS.turn_exc, R.nox_ok, orBad_some, lookV_some, lookD_some, onI_int, onLoc_loc, onB_true, onB_false, onB_dec, onBS_true, onBS_false, onBS_dec, bin_int, cmp_lt, cmp_le, cmp_gt, cmp_ge, cmp_eq, cmp_ne, cmp_isb, cmp_isnb, b1_int, b1_intb, b1_abs, b1_lent, b1_lenc, ix_t, ix_c, atR_def, at0, at1, at2, at3, at4, at5, add_of, sub_of, List.map_cons, List.map_nil, List.length_cons, List.length_nil, List.cons_append, List.nil_append, List.replicate_succ, List.replicate_zero, List.getElem?_cons_zero, List.getElem?_cons_succ, List.set_cons_zero, List.set_cons_succ, Nat.zero_add, Nat.reduceAdd, Nat.reduceSub, tupR_0, tupR_1, tupR_2, tupR_3, tupR_4, tupR_5, lstR_0, lstR_1, lstR_2, lstR_3, lstR_4, lstR_5, lstR_6, lstR_7, lstR_8, lstR_9, lstR_10, lstR_11, lstR_12, isi_int, isi_bl, isi_tup, isi_non, isi_str, fin_bl, fin_int, fin_non, fin_str, finX0, handle_hit, handle_nil, hx_bl, hx_str, hx_int, hx_non, hx_cnt, hx_pass, forR_it, forR_f, forR_t, forR_c, gmg, b1_repr, ne_repr, b2_max, b2_min, set_at0, set_at1, set_at2, set_at3, get_at0, get_at1, get_at2, get_at3, List.append_assoc, List.append_nil, List.length_append, List.length_set, Nat.add_zero, m2, e2, t1, if_false, ex_aug2, augS_some, augR_ok (mul_of hn hn (by omega)), augR_ok (d2 _), e3]
        rw [whl_t hc hx]
        have h5 : (j / 2) * (b + b) = j * b := by rw [← Nat.mul_two b, Nat.mul_comm b 2, ← Nat.mul_assoc]; congr 1; omega
        obtain ⟨n', e⟩ := ih (j / 2) (by omega) (n * n) f (b + b) c (hn.mul hn) hf (by omega)
        refine ⟨n', ?_⟩
        rw [e]
        congr 4
        have : n ^ j = (n * n) ^ (j / 2) := by
          conv => lhs; rw [show j = j / 2 + j / 2 by omega, Int.pow_add]
          rw [Int.mul_pow]
        rw [this]
    · rw [decide_eq_false h] at hc
      have : j = 0 := by omega
      subst this
      exact ⟨n, by rw [whl_f hc, Int.pow_zero, Int.mul_one]; rfl⟩
theorem eq_tn (p : List Int) : cmpW .Eq (.v (pD p)) (.v (.tup [])) S = .ok (.v (.bl (decide (p = [])))) S := eq_tt p []
theorem ne_tn (p : List Int) : cmpW .NotEq (.v (pD p)) (.v (.tup [])) S = .ok (.v (.bl (decide (p ≠ [])))) S := ne_tt p []
theorem sp_raised (k : Nat) {n : Int} {j b : Nat} (hn : Bd b n) (hb : 2 * (j * b) + j + 1 < 1000000) : (Γ (k + 1)).call 47 [.int n, .int j] S = .ok (.v (.int (n ^ j))) S := by
  rw [call_n tab_raised rfl]
  obtain ⟨n', e⟩ := raised_loop (S := S) k (n0 := 0) j n 1 b 1 hn (by show (1 : Nat) < 2; decide) (by omega)
  rw [Int.one_mul] at e
  simp only [fd_raised, ev_int, ev_bl, ev_non, ev_str, ev_var, ev_glob, ev_bin, ev_neg, ev_not, ev_cmp, ev_chain, ev_and, ev_or, ev_ife, ev_tup, ev_lst, ev_ix, ev_sl, ev_omit, ev_slr, ev_call, ev_b1, ev_b2, ev_isi, ev_meth, ev_lc, ev_lcif, ev_rng, ev_enum, ev_zip, ev_rev, evs_n, evs_c, alloc_v, alloc_f, setR_eq, ex_set, ex_tset, ex_sset, ex_saug, ex_ex, ex_ret, ex_retN, ex_ite, ex_whl, ex_for, ex_pass, ex_brk, ex_cnt, ex_raise, ex_try, exs_n, exs_c, tried_ok, tried_exc, rs_ret, rs_nx, rs_exc, R.bind_ok, R.bind_exc, R.bind_bad, R.st_ok, R.st_exc, RS.seq_nx, RS.seq_ret, RS.seq_bk, RS.seq_ct, RS.seq_exc, RS.turn_nx, RS.turn_ct, RS.turn_bk, RS.turn_ret, RS.turn_exc, R.nox_ok, orBad_some, lookV_some, lookD_some, onI_int, onLoc_loc, onB_true, onB_false, onB_dec, onBS_true, onBS_false, onBS_dec, bin_int, cmp_lt, cmp_le, cmp_gt, cmp_ge, cmp_eq, cmp_ne, cmp_isb, cmp_isnb, b1_int, b1_intb, b1_abs, b1_lent, b1_lenc, ix_t, ix_c, atR_def, at0, at1, at2, at3, at4, at5, add_of, sub_of, List.map_cons, List.map_nil, List.length_cons, List.length_nil, List.cons_append, List.nil_append, List.replicate_succ, List.replicate_zero, List.getElem?_cons_zero, List.getElem?_cons_succ, List.set_cons_zero, List.set_cons_succ, Nat.zero_add, Nat.reduceAdd, Nat.reduceSub, tupR_0, tupR_1, tupR_2, tupR_3, tupR_4, tupR_5, lstR_0, lstR_1, lstR_2, lstR_3, lstR_4, lstR_5, lstR_6, lstR_7, lstR_8, lstR_9, lstR_10, lstR_11, lstR_12, isi_int, isi_bl, isi_tup, isi_non, isi_str, fin_bl, fin_int, fin_non, fin_str, finX0, handle_hit, handle_nil, hx_bl, hx_str, hx_int, hx_non, hx_cnt, hx_pass, forR_it, forR_f, forR_t, forR_c, gmg, b1_repr, ne_repr, b2_max, b2_min, set_at0, set_at1, set_at2, set_at3, get_at0, get_at1, get_at2, get_at3, List.append_assoc, List.append_nil, List.length_append, List.length_set, Nat.add_zero, e]
theorem rep0t {m : Nat} (h : m ≤ 1000000) : binW .Mult (.v (.tup [.int 0])) (.v (.int m)) S = .ok (.v (pD (List.replicate m (0 : Int)))) S := by
  have e : repL [D.int 0] m = (List.replicate m (0 : Int)).map D.int := by
    unfold repL
    rw [List.map_replicate, Int.toNat_natCast]
    clear h
    induction m with
    | zero => rfl
    | succ k ih => rw [List.replicate_succ, List.flatten_cons, ih]; rfl
  have hr : repOk 1 m = true := by
    unfold repOk
    rw [decide_eq_true (show (m : Int).natAbs < 2 ^ 62 by omega), decide_eq_true (show 1 * (m : Int).toNat ≤ lim by show 1 * (m : Int).toNat ≤ 1048576; omega)]
    rfl
  show (if repOk 1 m = true then R.ok (W.v (.tup (repL [D.int 0] m))) S else .bad) = _
  rw [if_pos hr, e]
theorem add_pD {p q : List Int} (h : p.length + q.length ≤ 1000000) : binW .Add (.v (pD p)) (.v (pD q)) S = .ok (.v (pD (p ++ q))) S := by
  show (if (p.map D.int).length + (q.map D.int).length ≤ lim then R.ok (W.v (.tup (p.map D.int ++ q.map D.int))) S else .bad) = _
  rw [if_pos (by rw [List.length_map, List.length_map]; show _ ≤ 1048576; omega), ← List.map_append]
theorem sp_shifted (k : Nat) {p : List Int} {m : Nat} (h : m + p.length ≤ 1000000) : (Γ (k + 1)).call 224 [pD p, .int m] S = .ok (.v (pD (pshift m p))) S := by
  rw [call_n tab_shifted rfl]
  have eqn : cmpW .Eq (.v (pD p)) (.v (.tup [])) S = .ok (.v (.bl (decide (p = [])))) S := eq_tt (S := S) p []
  unfold pshift
  by_cases hp : p = []
  · have h' : (p = []) = True := eq_true hp
    have f0 : finish S S (.v (.tup [])) = .ok (.v (pD [])) S := fin_v0 rfl
    simp only [fd_shifted, ev_int, ev_bl, ev_non, ev_str, ev_var, ev_glob, ev_bin, ev_neg, ev_not, ev_cmp, ev_chain, ev_and, ev_or, ev_ife, ev_tup, ev_lst, ev_ix, ev_sl, ev_omit, ev_slr, ev_call, ev_b1, ev_b2, ev_isi, ev_meth, ev_lc, ev_lcif, ev_rng, ev_enum, ev_zip, ev_rev, evs_n, evs_c, alloc_v, alloc_f, setR_eq, ex_set, ex_tset, ex_sset, ex_saug, ex_ex, ex_ret, ex_retN, ex_ite, ex_whl, ex_for, ex_pass, ex_brk, ex_cnt, ex_raise, ex_try, exs_n, exs_c, tried_ok, tried_exc, rs_ret, rs_nx, rs_exc, R.bind_ok, R.bind_exc, R.bind_bad, R.st_ok, R.st_exc, RS.seq_nx, RS.seq_ret, RS.seq_bk, RS.seq_ct, RS.seq_exc, RS.turn_nx, RS.turn_ct, RS.turn_bk, RS.turn_ret, RS.turn_exc, R.nox_ok, orBad_some, lookV_some, lookD_some, onI_int, onLoc_loc, onB_true, onB_false, onB_dec, onBS_true, onBS_false, onBS_dec, bin_int, cmp_lt, cmp_le, cmp_gt, cmp_ge, cmp_eq, cmp_ne, cmp_isb, cmp_isnb, b1_int, b1_intb, b1_abs, b1_lent, b1_lenc, ix_t, ix_c, atR_def, at0, at1, at2, at3, at4, at5, add_of, sub_of, List.map_cons, List.map_nil, List.length_cons, List.length_nil, List.cons_append, List.nil_append, List.replicate_succ, List.replicate_zero, List.getElem?_cons_zero, List.getElem?_cons_succ, List.set_cons_zero, List.set_cons_succ, Nat.zero_add, Nat.reduceAdd, Nat.reduceSub, tupR_0, tupR_1, tupR_2, tupR_3, tupR_4, tupR_5, lstR_0, lstR_1, lstR_2, lstR_3, lstR_4, lstR_5, lstR_6, lstR_7, lstR_8, lstR_9, lstR_10, lstR_11, lstR_12, isi_int, isi_bl, isi_tup, isi_non, isi_str, fin_bl, fin_int, fin_non, fin_str, finX0, handle_hit, handle_nil, hx_bl, hx_str, hx_int, hx_non, hx_cnt, hx_pass, forR_it, forR_f, forR_t, forR_c, gmg, b1_repr, ne_repr, b2_max, b2_min, set_at0, set_at1, set_at2, set_at3, get_at0, get_at1, get_at2, get_at3, List.append_assoc, List.append_nil, List.length_append, List.length_set, Nat.add_zero, eqn, h', if_true, f0]
  · have h' : (p = []) = False := eq_false hp
    simp only [fd_shifted, ev_int, ev_bl, ev_non, ev_str, ev_var, ev_glob, ev_bin, ev_neg, ev_not, ev_cmp, ev_chain, ev_and, ev_or, ev_ife, ev_tup, ev_lst, ev_ix, ev_sl, ev_omit, ev_slr, ev_call, ev_b1, ev_b2, ev_isi, ev_meth, ev_lc, ev_lcif, ev_rng, ev_enum, ev_zip, ev_rev, evs_n, evs_c, alloc_v, alloc_f, setR_eq, ex_set, ex_tset, ex_sset, ex_saug, ex_ex, ex_ret, ex_retN, ex_ite, ex_whl, ex_for, ex_pass, ex_brk, ex_cnt, ex_raise, ex_try, exs_n, exs_c, tried_ok, tried_exc, rs_ret, rs_nx, rs_exc, R.bind_ok, R.bind_exc, R.bind_bad, R.st_ok, R.st_exc, RS.seq_nx, RS.seq_ret, RS.seq_bk, RS.seq_ct, RS.seq_exc, RS.turn_nx, RS.turn_ct, RS.turn_bk, RS.turn_ret, RS.turn_exc, R.nox_ok, orBad_some, lookV_some, lookD_some, onI_int, onLoc_loc, onB_true, onB_false, onB_dec, onBS_true, onBS_false, onBS_dec, bin_int, cmp_lt, cmp_le, cmp_gt, cmp_ge, cmp_eq, cmp_ne, cmp_isb, cmp_isnb, b1_int, b1_intb, b1_abs, b1_lent, b1_lenc, ix_t, ix_c, atR_def, at0, at1, at2, at3, at4, at5, add_of, sub_of, List.map_cons, List.map_nil, List.length_cons, List.length_nil, List.cons_append, List.nil_append, List.replicate_succ, List.replicate_zero, List.getElem?_cons_zero, List.getElem?_cons_succ, List.set_cons_zero, List.set_cons_succ, Nat.zero_add, Nat.reduceAdd, Nat.reduceSub, tupR_0, tupR_1, tupR_2, tupR_3, tupR_4, tupR_5, lstR_0, lstR_1, lstR_2, lstR_3, lstR_4, lstR_5, lstR_6, lstR_7, lstR_8, lstR_9, lstR_10, lstR_11, lstR_12, isi_int, isi_bl, isi_tup, isi_non, isi_str, fin_bl, fin_int, fin_non, fin_str, finX0, handle_hit, handle_nil, hx_bl, hx_str, hx_int, hx_non, hx_cnt, hx_pass, forR_it, forR_f, forR_t, forR_c, gmg, b1_repr, ne_repr, b2_max, b2_min, set_at0, set_at1, set_at2, set_at3, get_at0, get_at1, get_at2, get_at3, List.append_assoc, List.append_nil, List.length_append, List.length_set, Nat.add_zero, eqn, h', if_false, rep0t (S := S) (m := m) (by omega), add_pD (S := S) (p := List.replicate m 0) (q := p) (by rw [List.length_replicate]; exact h), fin_p]
theorem sp_degree (k : Nat) (p : List Int) : (Γ (k + 1)).call 119 [pD p] S = .ok (.v (.int ((p.length : Int) - 1))) S := by
  rw [call_n tab_degree rfl]
  simp only [fd_degree, ev_int, ev_bl, ev_non, ev_str, ev_var, ev_glob, ev_bin, ev_neg, ev_not, ev_cmp, ev_chain, ev_and, ev_or, ev_ife, ev_tup, ev_lst, ev_ix, ev_sl, ev_omit, ev_slr, ev_call, ev_b1, ev_b2, ev_isi, ev_meth, ev_lc, ev_lcif, ev_rng, ev_enum, ev_zip, ev_rev, evs_n, evs_c, alloc_v, alloc_f, setR_eq, ex_set, ex_tset, ex_sset, ex_saug, ex_ex, ex_ret, ex_retN, ex_ite, ex_whl, ex_for, ex_pass, ex_brk, ex_cnt, ex_raise, ex_try, exs_n, exs_c, tried_ok, tried_exc, rs_ret, rs_nx, rs_exc, R.bind_ok, R.bind_exc, R.bind_bad, R.st_ok, R.st_exc, RS.seq_nx, RS.seq_ret, RS.seq_bk, RS.seq_ct, RS.seq_exc, RS.turn_nx, RS.turn_ct, RS.turn_bk, RS.turn_ret, RS.turn_exc, R.nox_ok, orBad_some, lookV_some, lookD_some, onI_int, onLoc_loc, onB_true, onB_false, onB_dec, onBS_true, onBS_false, onBS_dec, bin_int, cmp_lt, cmp_le, cmp_gt, cmp_ge, cmp_eq, cmp_ne, cmp_isb, cmp_isnb, b1_int, b1_intb, b1_abs, b1_lent, b1_lenc, ix_t, ix_c, atR_def, at0, at1, at2, at3, at4, at5, add_of, sub_of, List.map_cons, List.map_nil, List.length_cons, List.length_nil, List.cons_append, List.nil_append, List.replicate_succ, List.replicate_zero, List.getElem?_cons_zero, List.getElem?_cons_succ, List.set_cons_zero, List.set_cons_succ, Nat.zero_add, Nat.reduceAdd, Nat.reduceSub, tupR_0, tupR_1, tupR_2, tupR_3, tupR_4, tupR_5, lstR_0, lstR_1, lstR_2, lstR_3, lstR_4, lstR_5, lstR_6, lstR_7, lstR_8, lstR_9, lstR_10, lstR_11, lstR_12, isi_int, isi_bl, isi_tup, isi_non, isi_str, fin_bl, fin_int, fin_non, fin_str, finX0, handle_hit, handle_nil, hx_bl, hx_str, hx_int, hx_non, hx_cnt, hx_pass, forR_it, forR_f, forR_t, forR_c, gmg, b1_repr, ne_repr, b2_max, b2_min, set_at0, set_at1, set_at2, set_at3, get_at0, get_at1, get_at2, get_at3, List.append_assoc, List.append_nil, List.length_append, List.length_set, Nat.add_zero, List.length_map]
/-- a step's call: left less n x^place q -/
theorem sp_dstep (k : Nat) {l q : List Int} {n m : Nat} (al : AB n l) (aq : AB m q) (hd : lead q ∣ lead l) (hl : q.length ≤ l.length) (hb : n + m + 1 < 100000000) (hs : l.length ≤ 400000) :
    (Γ (k + 4)).call 121 [.int (dn q l), pD q] S = .ok (.v (pD (pscale (dn q l) q))) S ∧
    (Γ (k + 4)).call 224 [pD (pscale (dn q l) q), .int ((l.length - q.length : Nat) : Int)] S = .ok (.v (pD (pshift (l.length - q.length) (pscale (dn q l) q)))) S ∧
    (Γ (k + 4)).call 122 [pD l, pD (pshift (l.length - q.length) (pscale (dn q l) q))] S = .ok (.v (pD (dstep q l))) S := by
  have h1 := pscale_len (c := dn q l) (p := q)
  have h2 := pshift_len (k := l.length - q.length) (p := pscale (dn q l) q)
  exact ⟨sp_scaled (k + 2) (dn_bd al hd) aq (by omega) (by omega), sp_shifted (k + 3) (by omega), sp_difference (k + 1) (m := n + m) ((pscale_AB (dn_bd al hd) aq).shift) (by omega) (by omega)⟩
theorem last_ne {p : List Int} (h : p ≠ []) : atI (p.map D.int) (-1) = some (.int (lead p)) := last_at h
theorem sp_divided (k : Nat) {p q : List Int} {n m : Nat} (tp : Tr p) (tq : Tr q) (nq : q ≠ []) (ap : AB n p) (aq : AB m q) (hm : m < 9000) (hl : p.length ≤ 1000) (hb : n + (p.length + 2) * (m + 1) < 10000000) (hb2 : 2 * ((p.length + 1) * m) + p.length + 2 < 1000000) :
    ∃ s r, (Γ (k + 5)).call 225 [pD p, pD q] S = .ok (.v (.tup [.int (((lead q).natAbs : Int) ^ (p.length + 1 - q.length)), pD s, pD r])) S ∧ Tr s ∧ Tr r ∧ r.length < q.length ∧ (∀ x, ((lead q).natAbs : Int) ^ (p.length + 1 - q.length) * pev p x = pev s x * pev q x + pev r x) ∧ AB (n + (p.length + 1 - q.length) * (m + 1)) s ∧ AB (n + (p.length + 1 - q.length) * (m + 1)) r ∧ s.length ≤ p.length + 1 - q.length := by
  have ini := DivI.init (n := n) (m := m) (q := q) tp ap nq tq
  have h1 := List.length_pos_iff.mpr nq
  have hc1 : (p.length + 1 - q.length) * (m + 1) ≤ (p.length + 2) * (m + 1) := Nat.mul_le_mul_right _ (by omega)
  have hc2 : (p.length + 1 - q.length) * m ≤ (p.length + 1) * m := Nat.mul_le_mul_right _ (by omega)
  have hc3 : (p.length + 1 - q.length) * m + (p.length + 1 - q.length) = (p.length + 1 - q.length) * (m + 1) := (Nat.mul_succ ..).symm
  have hc4 : (p.length + 2) * (m + 1) = (p.length + 1) * (m + 1) + (m + 1) := Nat.succ_mul ..
  have hlq := tq.lead nq
  generalize hcnt : p.length + 1 - q.length = cnt at *
  have hca : cnt ≤ 1000 := by omega
  have eqn : cmpW .Eq (.v (pD q)) (.v (.tup [])) S = .ok (.v (.bl (decide (q = [])))) S := eq_tt (S := S) q []
  have nq' : (q = []) = False := eq_false nq
  have hmax : (if (p.length : Int) - 1 - ((q.length : Int) - 1) + 1 > 0 then (p.length : Int) - 1 - ((q.length : Int) - 1) + 1 else 0) = (cnt : Int) := by split <;> omega
  have eB : Bd (cnt * m + 1) (((lead q).natAbs : Int) ^ cnt) := Bd.pow (x := ((lead q).natAbs : Int)) (m := m) (by have := lead_bd aq; unfold Bd at this ⊢; rw [Int.natAbs_natCast]; exact this) cnt
  have e1 := sp_raised (S := S) (k + 3) (n := ((lead q).natAbs : Int)) (j := cnt) (b := m) (by have := lead_bd aq; unfold Bd at this ⊢; rw [Int.natAbs_natCast]; exact this) (by omega)
  have e2 := sp_scaled (S := S) (k + 2) eB ap (by omega) (by omega)
  have hr := rep0N (S := S) (x := cnt) (by omega)
  refine Exists.imp (fun s h => Exists.imp (fun r h => ⟨wR_res h.1, h.2⟩) h) (?_ : ∃ s r, wR ((Γ (k + 5)).call 225 [pD p, pD q] S) (fun b T => b = (.v (.tup [.int (((lead q).natAbs : Int) ^ cnt), pD s, pD r])) ∧ T = S) (fun _ _ => False) ∧ _)
  have loop : ∃ s r o6 o7, whl (Γ (k + 4)) fd_divided_c1 fd_divided_l1 [some (pD p), some (pD q), some (.int cnt), some (.int (((lead q).natAbs : Int) ^ cnt)), some (pD (pscale (((lead q).natAbs : Int) ^ cnt) p)), some (.loc S.length), none, none] (S ++ [.lst ((List.replicate cnt (0 : Int)).map .int)]) = .ok .nx [some (pD p), some (pD q), some (.int cnt), some (.int (((lead q).natAbs : Int) ^ cnt)), some (pD r), some (.loc S.length), o6, o7] (S ++ [.lst (s.map .int)]) ∧ DivI q p (((lead q).natAbs : Int) ^ cnt) cnt n m r s ∧ r.length < q.length := by
    have w := ws_whl (G := Γ (k + 4)) (c := fd_divided_c1) (b := fd_divided_l1) (env := [some (pD p), some (pD q), some (.int cnt), some (.int (((lead q).natAbs : Int) ^ cnt)), some (pD (pscale (((lead q).natAbs : Int) ^ cnt) p)), some (.loc S.length), none, none]) (S := S ++ [.lst ((List.replicate cnt (0 : Int)).map .int)])
      (P := fun fl env T => fl = .nx ∧ ∃ s r o6 o7, env = [some (pD p), some (pD q), some (.int cnt), some (.int (((lead q).natAbs : Int) ^ cnt)), some (pD r), some (.loc S.length), o6, o7] ∧ T = S ++ [.lst (s.map .int)] ∧ DivI q p (((lead q).natAbs : Int) ^ cnt) cnt n m r s ∧ r.length < q.length) (Y := fun _ _ _ => False)
      (fun (g : List Int × List Int) env T => (∃ o6 o7, env = [some (pD p), some (pD q), some (.int cnt), some (.int (((lead q).natAbs : Int) ^ cnt)), some (pD g.1), some (.loc S.length), o6, o7]) ∧ T = S ++ [.lst (g.2.map .int)] ∧ DivI q p (((lead q).natAbs : Int) ^ cnt) cnt n m g.1 g.2) (fun g => g.1.length) (pscale (((lead q).natAbs : Int) ^ cnt) p, List.replicate cnt 0) ⟨⟨_, _, rfl⟩, rfl, ini⟩ ?_
    · obtain ⟨f, env, T, e, rfl, s, r, o6, o7, rfl, rfl, h⟩ := wS_ex w
      exact ⟨s, r, o6, o7, e, h⟩
    · rintro ⟨l, f⟩ env T ⟨⟨o6, o7, rfl⟩, rfl, hI⟩
      dsimp only at hI ⊢
      simp only [fd_divided_c1, ev_int, ev_bl, ev_non, ev_str, ev_var, ev_glob, ev_bin, ev_neg, ev_not, ev_cmp, ev_chain, ev_and, ev_or, ev_ife, ev_tup, ev_lst, ev_ix, ev_sl, ev_omit, ev_slr, ev_call, ev_b1, ev_b2, ev_isi, ev_meth, ev_lc, ev_lcif, ev_rng, ev_enum, ev_zip, ev_rev, evs_n, evs_c, alloc_v, alloc_f, setR_eq, ex_set, ex_tset, ex_sset, ex_saug, ex_ex, ex_ret, ex_retN, ex_ite, ex_whl, ex_for, ex_pass, ex_brk, ex_cnt, ex_raise, ex_try, exs_n, exs_c, tried_ok, tried_exc, rs_ret, rs_nx, rs_exc, R.bind_ok, R.bind_exc, R.bind_bad, R.st_ok, R.st_exc, RS.seq_nx, RS.seq_ret, RS.seq_bk, RS.seq_ct, RS.seq_exc, RS.turn_nx, RS.turn_ct, RS.turn_bk, RS.turn_ret, RS.turn_exc, R.nox_ok, orBad_some, lookV_some, lookD_some, onI_int, onLoc_loc, onB_true, onB_false, onB_dec, onBS_true, onBS_false, onBS_dec, bin_int, cmp_lt, cmp_le, cmp_gt, cmp_ge, cmp_eq, cmp_ne, cmp_isb, cmp_isnb, b1_int, b1_intb, b1_abs, b1_lent, b1_lenc, ix_t, ix_c, atR_def, at0, at1, at2, at3, at4, at5, add_of, sub_of, List.map_cons, List.map_nil, List.length_cons, List.length_nil, List.cons_append, List.nil_append, List.replicate_succ, List.replicate_zero, List.getElem?_cons_zero, List.getElem?_cons_succ, List.set_cons_zero, List.set_cons_succ, Nat.zero_add, Nat.reduceAdd, Nat.reduceSub, tupR_0, tupR_1, tupR_2, tupR_3, tupR_4, tupR_5, lstR_0, lstR_1, lstR_2, lstR_3, lstR_4, lstR_5, lstR_6, lstR_7, lstR_8, lstR_9, lstR_10, lstR_11, lstR_12, isi_int, isi_bl, isi_tup, isi_non, isi_str, fin_bl, fin_int, fin_non, fin_str, finX0, handle_hit, handle_nil, hx_bl, hx_str, hx_int, hx_non, hx_cnt, hx_pass, forR_it, forR_f, forR_t, forR_c, gmg, b1_repr, ne_repr, b2_max, b2_min, set_at0, set_at1, set_at2, set_at3, get_at0, get_at1, get_at2, get_at3, List.append_assoc, List.append_nil, List.length_append, List.length_set, Nat.add_zero, wR_ok, wR_exc, wR_bind, wS_ok, wS_exc, wS_st, wS_seq, wS_turn, wS_onBS, wR_onB, wS_ite, wR_ite, wS_tried, wR_nox, wR_mul, wR_div, wR_mod, ex_aug2, augS_some, wS_augR, wS_saugR, wR_fin, ev_callv2, callvS_fn, bindR_n, bindR_2, bindR_3, bindR_4, List.length_map]
      refine ⟨_, rfl, ?_⟩
      by_cases hle : (q.length : Int) ≤ (l.length : Int)
      · have st := hI.step tq nq aq (by omega)
        have hlAB := hI.lAB aq
        have nl : l ≠ [] := fun z => by rw [z] at hle; simp at hle; exact nq hle
        have hpl : l.length ≤ 1000 := by have := hI.ll; have := hI.fl; omega
        obtain ⟨c1, c2, c3⟩ := sp_dstep (S := S ++ [.lst ((f.set (l.length - q.length) (dn q l)).map .int)]) k hlAB aq st.1 (by omega) (by omega) (by omega)
        have d1 : intOp .FloorDiv (lead l) (lead q) = some (dn q l) := div_of hlq (lead_bd aq) hm
        have epl : (l.length : Int) - (q.length : Int) = ((l.length - q.length : Nat) : Int) := by omega
        rw [if_pos (by rw [decide_eq_true hle])]
        have se : setLR [some (pD p), some (pD q), some (.int cnt), some (.int (((lead q).natAbs : Int) ^ cnt)), some (pD l), some (.loc S.length), some (.int (dn q l)), some (.int ((l.length - q.length : Nat) : Int))] (.v (.loc S.length)) (.v (.int ((l.length - q.length : Nat) : Int))) (.int (dn q l)) (S ++ [.lst (f.map .int)]) = .ok .nx [some (pD p), some (pD q), some (.int cnt), some (.int (((lead q).natAbs : Int) ^ cnt)), some (pD l), some (.loc S.length), some (.int (dn q l)), some (.int ((l.length - q.length : Nat) : Int))] (S ++ [.lst ((f.set (l.length - q.length) (dn q l)).map .int)]) := by
          rw [set_ints get_at0 st.2.1, set_at0]
        simp only [fd_divided_l1, ev_int, ev_bl, ev_non, ev_str, ev_var, ev_glob, ev_bin, ev_neg, ev_not, ev_cmp, ev_chain, ev_and, ev_or, ev_ife, ev_tup, ev_lst, ev_ix, ev_sl, ev_omit, ev_slr, ev_call, ev_b1, ev_b2, ev_isi, ev_meth, ev_lc, ev_lcif, ev_rng, ev_enum, ev_zip, ev_rev, evs_n, evs_c, alloc_v, alloc_f, setR_eq, ex_set, ex_tset, ex_sset, ex_saug, ex_ex, ex_ret, ex_retN, ex_ite, ex_whl, ex_for, ex_pass, ex_brk, ex_cnt, ex_raise, ex_try, exs_n, exs_c, tried_ok, tried_exc, rs_ret, rs_nx, rs_exc, R.bind_ok, R.bind_exc, R.bind_bad, R.st_ok, R.st_exc, RS.seq_nx, RS.seq_ret, RS.seq_bk, RS.seq_ct, RS.seq_exc, RS.turn_nx, RS.turn_ct, RS.turn_bk, RS.turn_ret, RS.turn_exc, R.nox_ok, orBad_some, lookV_some, lookD_some, onI_int, onLoc_loc, onB_true, onB_false, onB_dec, onBS_true, onBS_false, onBS_dec, bin_int, cmp_lt, cmp_le, cmp_gt, cmp_ge, cmp_eq, cmp_ne, cmp_isb, cmp_isnb, b1_int, b1_intb, b1_abs, b1_lent, b1_lenc, ix_t, ix_c, atR_def, at0, at1, at2, at3, at4, at5, add_of, sub_of, List.map_cons, List.map_nil, List.length_cons, List.length_nil, List.cons_append, List.nil_append, List.replicate_succ, List.replicate_zero, List.getElem?_cons_zero, List.getElem?_cons_succ, List.set_cons_zero, List.set_cons_succ, Nat.zero_add, Nat.reduceAdd, Nat.reduceSub, tupR_0, tupR_1, tupR_2, tupR_3, tupR_4, tupR_5, lstR_0, lstR_1, lstR_2, lstR_3, lstR_4, lstR_5, lstR_6, lstR_7, lstR_8, lstR_9, lstR_10, lstR_11, lstR_12, isi_int, isi_bl, isi_tup, isi_non, isi_str, fin_bl, fin_int, fin_non, fin_str, finX0, handle_hit, handle_nil, hx_bl, hx_str, hx_int, hx_non, hx_cnt, hx_pass, forR_it, forR_f, forR_t, forR_c, gmg, b1_repr, ne_repr, b2_max, b2_min, set_at0, set_at1, set_at2, set_at3, get_at0, get_at1, get_at2, get_at3, List.append_assoc, List.append_nil, List.length_append, List.length_set, Nat.add_zero, wR_ok, wR_exc, wR_bind, wS_ok, wS_exc, wS_st, wS_seq, wS_turn, wS_onBS, wR_onB, wS_ite, wR_ite, wS_tried, wR_nox, wR_mul, wR_div, wR_mod, ex_aug2, augS_some, wS_augR, wS_saugR, wR_fin, ev_callv2, callvS_fn, bindR_n, bindR_2, bindR_3, bindR_4, last_ne nl, last_ne nq, d1, List.length_map, epl, se, c1, c2, c3]
        exact ⟨(dstep q l, f.set (l.length - q.length) (dn q l)), st.2.2.1, ⟨_, _, rfl⟩, rfl, st.2.2.2⟩
      · rw [if_neg (by rw [decide_eq_false hle]; decide)]
        exact ⟨trivial, f, l, o6, o7, rfl, rfl, hI, by omega⟩
  obtain ⟨s, r, o6, o7, el, hI, hr2⟩ := loop
  refine ⟨trim s, r, ?_, trim_idem s, hI.tl, hr2, fun x => by rw [pev_trim]; exact hI.ev x, hI.fb.trim, hI.lAB aq, by have := trim_len s; have := hI.fl; omega⟩
  rw [call_n tab_divided rfl]
  have e5 := sp_trimmed_l (S := S ++ [.lst (s.map .int)]) (k + 3) (n := S.length) get_at0
  have f1 : ∀ a : Int, finish S (S ++ [.lst (s.map .int)]) (.v (.tup [.int a, pD (trim s), pD r])) = .ok (.v (.tup [.int a, pD (trim s), pD r])) S := fun a => fin_v Kept.refl (by
    show (true && (unds _ _ && (unds _ _ && true))) = true
    rw [flat_ints, flat_ints]
    rfl)
  have hdp := sp_degree (S := S) (k + 3) p
  have hdq := sp_degree (S := S) (k + 3) q
  simp only [fd_divided, ev_int, ev_bl, ev_non, ev_str, ev_var, ev_glob, ev_bin, ev_neg, ev_not, ev_cmp, ev_chain, ev_and, ev_or, ev_ife, ev_tup, ev_lst, ev_ix, ev_sl, ev_omit, ev_slr, ev_call, ev_b1, ev_b2, ev_isi, ev_meth, ev_lc, ev_lcif, ev_rng, ev_enum, ev_zip, ev_rev, evs_n, evs_c, alloc_v, alloc_f, setR_eq, ex_set, ex_tset, ex_sset, ex_saug, ex_ex, ex_ret, ex_retN, ex_ite, ex_whl, ex_for, ex_pass, ex_brk, ex_cnt, ex_raise, ex_try, exs_n, exs_c, tried_ok, tried_exc, rs_ret, rs_nx, rs_exc, R.bind_ok, R.bind_exc, R.bind_bad, R.st_ok, R.st_exc, RS.seq_nx, RS.seq_ret, RS.seq_bk, RS.seq_ct, RS.seq_exc, RS.turn_nx, RS.turn_ct, RS.turn_bk, RS.turn_ret, RS.turn_exc, R.nox_ok, orBad_some, lookV_some, lookD_some, onI_int, onLoc_loc, onB_true, onB_false, onB_dec, onBS_true, onBS_false, onBS_dec, bin_int, cmp_lt, cmp_le, cmp_gt, cmp_ge, cmp_eq, cmp_ne, cmp_isb, cmp_isnb, b1_int, b1_intb, b1_abs, b1_lent, b1_lenc, ix_t, ix_c, atR_def, at0, at1, at2, at3, at4, at5, add_of, sub_of, List.map_cons, List.map_nil, List.length_cons, List.length_nil, List.cons_append, List.nil_append, List.replicate_succ, List.replicate_zero, List.getElem?_cons_zero, List.getElem?_cons_succ, List.set_cons_zero, List.set_cons_succ, Nat.zero_add, Nat.reduceAdd, Nat.reduceSub, tupR_0, tupR_1, tupR_2, tupR_3, tupR_4, tupR_5, lstR_0, lstR_1, lstR_2, lstR_3, lstR_4, lstR_5, lstR_6, lstR_7, lstR_8, lstR_9, lstR_10, lstR_11, lstR_12, isi_int, isi_bl, isi_tup, isi_non, isi_str, fin_bl, fin_int, fin_non, fin_str, finX0, handle_hit, handle_nil, hx_bl, hx_str, hx_int, hx_non, hx_cnt, hx_pass, forR_it, forR_f, forR_t, forR_c, gmg, b1_repr, ne_repr, b2_max, b2_min, set_at0, set_at1, set_at2, set_at3, get_at0, get_at1, get_at2, get_at3, List.append_assoc, List.append_nil, List.length_append, List.length_set, Nat.add_zero, wR_ok, wR_exc, wR_bind, wS_ok, wS_exc, wS_st, wS_seq, wS_turn, wS_onBS, wR_onB, wS_ite, wR_ite, wS_tried, wR_nox, wR_mul, wR_div, wR_mod, ex_aug2, augS_some, wS_augR, wS_saugR, wR_fin, ev_callv2, callvS_fn, bindR_n, bindR_2, bindR_3, bindR_4, eqn, nq', if_false, hdp, hdq, b2_max, hmax, last_ne nq, e1, e2, hr, el, e5, f1, true_and]
/-- what stands while a quotient without a remainder is looked for -/
structure ExI (q p : List Int) (cnt n m : Nat) (l f : List Int) : Prop where
  tl : Tr l
  ll : l.length ≤ p.length
  fl : f.length = cnt
  fz : ∀ i, i + q.length ≤ l.length → cf f i = 0
  ev : ∀ x, pev p x = pev f x * pev q x + pev l x
  bd : AB (n + (p.length - l.length) * (m + 3)) l
theorem ExI.init {q p : List Int} {n m : Nat} (tp : Tr p) (ap : AB n p) : ExI q p (p.length + 1 - q.length) n m p (List.replicate (p.length + 1 - q.length) 0) :=
  ⟨tp, Nat.le_refl _, List.length_replicate .., fun i _ => cf_zeros, fun x => by rw [pev_zeros]; omega, ap.mono (by omega)⟩
theorem ExI.step {q p : List Int} {n m : Nat} {l f : List Int} (h : ExI q p (p.length + 1 - q.length) n m l f) (nq : q ≠ []) (aq : AB m q) (hl : q.length ≤ l.length) (hd : lead q ∣ lead l) :
    l.length - q.length < f.length ∧ (dstep q l).length < l.length ∧ ExI q p (p.length + 1 - q.length) n m (dstep q l) (f.set (l.length - q.length) (dn q l)) := by
  have hlen := dstep_len nq hl hd
  have h1 := List.length_pos_iff.mpr nq
  have hll := h.ll
  have hfl : l.length - q.length < f.length := by rw [h.fl]; omega
  refine ⟨hfl, hlen, dstep_tr, by omega, by rw [List.length_set]; exact h.fl, fun i hi => ?_, fun x => ?_, ?_⟩
  · rw [cf_set hfl, if_neg (by omega)]
    exact h.fz i (by omega)
  · have h0 := h.fz (l.length - q.length) (by omega)
    have hs := pev_set f (l.length - q.length) (dn q l) x hfl
    have e0 : f[l.length - q.length]?.getD 0 = 0 := h0
    rw [e0, Int.zero_add] at hs
    rw [h.ev x, hs, dstep_ev]
    grind
  · refine (dstep_AB h.bd aq hd).mono ?_
    have e : (p.length - (dstep q l).length) = (p.length - l.length) + 1 + (l.length - 1 - (dstep q l).length) := by omega
    rw [e, Nat.add_mul, Nat.succ_mul]
    omega
theorem ExI.yes {q p s : List Int} {cnt n m : Nat} {l f : List Int} (h : ExI q p cnt n m l f) (hs : ∀ x, pev p x = pev s x * pev q x) : l = pmul (pdif s f) q := pev_inj h.tl pmul_tr fun x => by
  rw [pmul_ev, pdif_ev]
  have := h.ev x
  rw [hs x] at this
  rw [Int.sub_mul]
  omega
theorem ExI.dvd {q p s : List Int} {cnt n m : Nat} {l f : List Int} (h : ExI q p cnt n m l f) (tq : Tr q) (nq : q ≠ []) (hs : ∀ x, pev p x = pev s x * pev q x) : lead q ∣ lead l := by
  have e := h.yes hs
  by_cases hl : pdif s f = []
  · rw [e, hl, pmul_nil_l]
    exact Int.dvd_zero _
  · rw [e, (pmul_top pdif_tr tq hl nq).2.1]
    exact Int.dvd_mul_left _ _
theorem ExI.nil {q p s : List Int} {cnt n m : Nat} {l f : List Int} (h : ExI q p cnt n m l f) (tq : Tr q) (nq : q ≠ []) (hs : ∀ x, pev p x = pev s x * pev q x) (hl : l.length < q.length) : l = [] := by
  have e := h.yes hs
  have h1 := List.length_pos_iff.mpr nq
  by_cases hz : pdif s f = []
  · rw [e, hz, pmul_nil_l]
  · have := (pmul_top pdif_tr tq hz nq).1
    have h2 := List.length_pos_iff.mpr hz
    rw [← e] at this
    omega
theorem ExI.eq {q p : List Int} {cnt n m : Nat} {f : List Int} (h : ExI q p cnt n m [] f) (tp : Tr p) : pmul (trim f) q = p := pev_inj pmul_tr tp fun x => by
  rw [pmul_ev, pev_trim, h.ev x]
  simp
theorem fmod_dvd {a b : Int} : (a.fmod b = 0) = (b ∣ a) := propext ⟨Int.dvd_of_fmod_eq_zero, Int.fmod_eq_zero_of_dvd⟩
section
variable {p q : List Int} {n m : Nat} (tp : Tr p) (tq : Tr q) (nq : q ≠ []) (ap : AB n p) (aq : AB m q) (hm : m < 9000) (hl : p.length ≤ 1000) (hb : n + (p.length + 2) * (m + 3) < 10000000)
include tp tq nq ap aq hm hl hb
theorem ex_loop (k : Nat) {env : Env} (he : env = [some (pD p), some (pD q), some (pD p), some (.loc S.length), none, none]) : wS (whl (Γ (k + 4)) fd_exactly_c1 fd_exactly_l1 env (S ++ [.lst ((List.replicate (p.length + 1 - q.length) (0 : Int)).map .int)]))
    (fun fl env T => fl = .nx ∧ ∃ l f o4 o5, env = [some (pD p), some (pD q), some (pD l), some (.loc S.length), o4, o5] ∧ T = S ++ [.lst (f.map .int)] ∧ ExI q p (p.length + 1 - q.length) n m l f ∧ l.length < q.length)
    (fun x env T => x = ⟨8, []⟩ ∧ ∃ l f, T = S ++ [.lst (f.map .int)] ∧ ExI q p (p.length + 1 - q.length) n m l f ∧ ¬ lead q ∣ lead l) := by
  subst he
  have hlq := tq.lead nq
  have h1 := List.length_pos_iff.mpr nq
  have hc4 : (p.length + 2) * (m + 3) = p.length * (m + 3) + (2 * (m + 3)) := Nat.add_mul ..
  refine ws_whl (fun (g : List Int × List Int) env T => (∃ o4 o5, env = [some (pD p), some (pD q), some (pD g.1), some (.loc S.length), o4, o5]) ∧ T = S ++ [.lst (g.2.map .int)] ∧ ExI q p (p.length + 1 - q.length) n m g.1 g.2) (fun g => g.1.length) (p, List.replicate (p.length + 1 - q.length) 0) ⟨⟨_, _, rfl⟩, rfl, ExI.init tp ap⟩ ?_
  rintro ⟨l, f⟩ env T ⟨⟨o4, o5, rfl⟩, rfl, hI⟩
  dsimp only at hI ⊢
  simp only [fd_exactly_c1, ev_int, ev_bl, ev_non, ev_str, ev_var, ev_glob, ev_bin, ev_neg, ev_not, ev_cmp, ev_chain, ev_and, ev_or, ev_ife, ev_tup, ev_lst, ev_ix, ev_sl, ev_omit, ev_slr, ev_call, ev_b1, ev_b2, ev_isi, ev_meth, ev_lc, ev_lcif, ev_rng, ev_enum, ev_zip, ev_rev, evs_n, evs_c, alloc_v, alloc_f, setR_eq, ex_set, ex_tset, ex_sset, ex_saug, ex_ex, ex_ret, ex_retN, ex_ite, ex_whl, ex_for, ex_pass, ex_brk, ex_cnt, ex_raise, ex_try, exs_n, exs_c, tried_ok, tried_exc, rs_ret, rs_nx, rs_exc, R.bind_ok, R.bind_exc, R.bind_bad, R.st_ok, R.st_exc, RS.seq_nx, RS.seq_ret, RS.seq_bk, RS.seq_ct, RS.seq_exc, RS.turn_nx, RS.turn_ct, RS.turn_bk, RS.turn_ret, RS.turn_exc, R.nox_ok, orBad_some, lookV_some, lookD_some, onI_int, onLoc_loc, onB_true, onB_false, onB_dec, onBS_true, onBS_false, onBS_dec, bin_int, cmp_lt, cmp_le, cmp_gt, cmp_ge, cmp_eq, cmp_ne, cmp_isb, cmp_isnb, b1_int, b1_intb, b1_abs, b1_lent, b1_lenc, ix_t, ix_c, atR_def, at0, at1, at2, at3, at4, at5, add_of, sub_of, List.map_cons, List.map_nil, List.length_cons, List.length_nil, List.cons_append, List.nil_append, List.replicate_succ, List.replicate_zero, List.getElem?_cons_zero, List.getElem?_cons_succ, List.set_cons_zero, List.set_cons_succ, Nat.zero_add, Nat.reduceAdd, Nat.reduceSub, tupR_0, tupR_1, tupR_2, tupR_3, tupR_4, tupR_5, lstR_0, lstR_1, lstR_2, lstR_3, lstR_4, lstR_5, lstR_6, lstR_7, lstR_8, lstR_9, lstR_10, lstR_11, lstR_12, isi_int, isi_bl, isi_tup, isi_non, isi_str, fin_bl, fin_int, fin_non, fin_str, finX0, handle_hit, handle_nil, hx_bl, hx_str, hx_int, hx_non, hx_cnt, hx_pass, forR_it, forR_f, forR_t, forR_c, gmg, b1_repr, ne_repr, b2_max, b2_min, set_at0, set_at1, set_at2, set_at3, get_at0, get_at1, get_at2, get_at3, List.append_assoc, List.append_nil, List.length_append, List.length_set, Nat.add_zero, wR_ok, wR_exc, wR_bind, wS_ok, wS_exc, wS_st, wS_seq, wS_turn, wS_onBS, wR_onB, wS_ite, wR_ite, wS_tried, wR_nox, wR_mul, wR_div, wR_mod, ex_aug2, augS_some, wS_augR, wS_saugR, wR_fin, ev_callv2, callvS_fn, bindR_n, bindR_2, bindR_3, bindR_4, List.length_map]
  refine ⟨_, rfl, ?_⟩
  by_cases hle : (q.length : Int) ≤ (l.length : Int)
  · have nl : l ≠ [] := fun z => by rw [z] at hle; simp at hle; exact nq hle
    have hll := hI.ll
    have hm3 : (p.length - l.length) * (m + 3) ≤ p.length * (m + 3) := Nat.mul_le_mul_right _ (by omega)
    have md : intOp .Mod (lead l) (lead q) = some ((lead l).fmod (lead q)) := mod_of hlq
    rw [if_pos (by rw [decide_eq_true hle])]
    by_cases hd : lead q ∣ lead l
    · have st := hI.step nq aq (by omega) hd
      obtain ⟨c1, c2, c3⟩ := sp_dstep (S := S ++ [.lst ((f.set (l.length - q.length) (dn q l)).map .int)]) k hI.bd aq hd (by omega) (by omega) (by omega)
      have d1 : intOp .FloorDiv (lead l) (lead q) = some (dn q l) := div_of hlq (lead_bd aq) hm
      have epl : (l.length : Int) - (q.length : Int) = ((l.length - q.length : Nat) : Int) := by omega
      have se : setLR [some (pD p), some (pD q), some (pD l), some (.loc S.length), some (.int (dn q l)), some (.int ((l.length - q.length : Nat) : Int))] (.v (.loc S.length)) (.v (.int ((l.length - q.length : Nat) : Int))) (.int (dn q l)) (S ++ [.lst (f.map .int)]) = .ok .nx [some (pD p), some (pD q), some (pD l), some (.loc S.length), some (.int (dn q l)), some (.int ((l.length - q.length : Nat) : Int))] (S ++ [.lst ((f.set (l.length - q.length) (dn q l)).map .int)]) := by
        rw [set_ints get_at0 st.1, set_at0]
      have hz : (lead l).fmod (lead q) = 0 := Int.fmod_eq_zero_of_dvd hd
      simp only [fd_exactly_l1, ev_int, ev_bl, ev_non, ev_str, ev_var, ev_glob, ev_bin, ev_neg, ev_not, ev_cmp, ev_chain, ev_and, ev_or, ev_ife, ev_tup, ev_lst, ev_ix, ev_sl, ev_omit, ev_slr, ev_call, ev_b1, ev_b2, ev_isi, ev_meth, ev_lc, ev_lcif, ev_rng, ev_enum, ev_zip, ev_rev, evs_n, evs_c, alloc_v, alloc_f, setR_eq, ex_set, ex_tset, ex_sset, ex_saug, ex_ex, ex_ret, ex_retN, ex_ite, ex_whl, ex_for, ex_pass, ex_brk, ex_cnt, ex_raise, ex_try, exs_n, exs_c, tried_ok, tried_exc, rs_ret, rs_nx, rs_exc, R.bind_ok, R.bind_exc, R.bind_bad, R.st_ok, R.st_exc, RS.seq_nx, RS.seq_ret, RS.seq_bk, RS.seq_ct, RS.seq_exc, RS.turn_nx, RS.turn_ct, RS.turn_bk, RS.turn_ret, RS.turn_exc, R.nox_ok, orBad_some, lookV_some, lookD_some, onI_int, onLoc_loc, onB_true, onB_false, onB_dec, onBS_true, onBS_false, onBS_dec, bin_int, cmp_lt, cmp_le, cmp_gt, cmp_ge, cmp_eq, cmp_ne, cmp_isb, cmp_isnb, b1_int, b1_intb, b1_abs, b1_lent, b1_lenc, ix_t, ix_c, atR_def, at0, at1, at2, at3, at4, at5, add_of, sub_of, List.map_cons, List.map_nil, List.length_cons, List.length_nil, List.cons_append, List.nil_append, List.replicate_succ, List.replicate_zero, List.getElem?_cons_zero, List.getElem?_cons_succ, List.set_cons_zero, List.set_cons_succ, Nat.zero_add, Nat.reduceAdd, Nat.reduceSub, tupR_0, tupR_1, tupR_2, tupR_3, tupR_4, tupR_5, lstR_0, lstR_1, lstR_2, lstR_3, lstR_4, lstR_5, lstR_6, lstR_7, lstR_8, lstR_9, lstR_10, lstR_11, lstR_12, isi_int, isi_bl, isi_tup, isi_non, isi_str, fin_bl, fin_int, fin_non, fin_str, finX0, handle_hit, handle_nil, hx_bl, hx_str, hx_int, hx_non, hx_cnt, hx_pass, forR_it, forR_f, forR_t, forR_c, gmg, b1_repr, ne_repr, b2_max, b2_min, set_at0, set_at1, set_at2, set_at3, get_at0, get_at1, get_at2, get_at3, List.append_assoc, List.append_nil, List.length_append, List.length_set, Nat.add_zero, wR_ok, wR_exc, wR_bind, wS_ok, wS_exc, wS_st, wS_seq, wS_turn, wS_onBS, wR_onB, wS_ite, wR_ite, wS_tried, wR_nox, wR_mul, wR_div, wR_mod, ex_aug2, augS_some, wS_augR, wS_saugR, wR_fin, ev_callv2, callvS_fn, bindR_n, bindR_2, bindR_3, bindR_4, last_ne nl, last_ne nq, md, hz, ne_eq, not_true_eq_false, if_false, d1, List.length_map, epl, se, c1, c2, c3]
      exact ⟨(dstep q l, f.set (l.length - q.length) (dn q l)), st.2.1, ⟨_, _, rfl⟩, rfl, st.2.2⟩
    · have hz : ¬ (lead l).fmod (lead q) = 0 := fun z => hd (Int.dvd_of_fmod_eq_zero z)
      simp only [fd_exactly_l1, ev_int, ev_bl, ev_non, ev_str, ev_var, ev_glob, ev_bin, ev_neg, ev_not, ev_cmp, ev_chain, ev_and, ev_or, ev_ife, ev_tup, ev_lst, ev_ix, ev_sl, ev_omit, ev_slr, ev_call, ev_b1, ev_b2, ev_isi, ev_meth, ev_lc, ev_lcif, ev_rng, ev_enum, ev_zip, ev_rev, evs_n, evs_c, alloc_v, alloc_f, setR_eq, ex_set, ex_tset, ex_sset, ex_saug, ex_ex, ex_ret, ex_retN, ex_ite, ex_whl, ex_for, ex_pass, ex_brk, ex_cnt, ex_raise, ex_try, exs_n, exs_c, tried_ok, tried_exc, rs_ret, rs_nx, rs_exc, R.bind_ok, R.bind_exc, R.bind_bad, R.st_ok, R.st_exc, RS.seq_nx, RS.seq_ret, RS.seq_bk, RS.seq_ct, RS.seq_exc, RS.turn_nx, RS.turn_ct, RS.turn_bk, RS.turn_ret, RS.turn_exc, R.nox_ok, orBad_some, lookV_some, lookD_some, onI_int, onLoc_loc, onB_true, onB_false, onB_dec, onBS_true, onBS_false, onBS_dec, bin_int, cmp_lt, cmp_le, cmp_gt, cmp_ge, cmp_eq, cmp_ne, cmp_isb, cmp_isnb, b1_int, b1_intb, b1_abs, b1_lent, b1_lenc, ix_t, ix_c, atR_def, at0, at1, at2, at3, at4, at5, add_of, sub_of, List.map_cons, List.map_nil, List.length_cons, List.length_nil, List.cons_append, List.nil_append, List.replicate_succ, List.replicate_zero, List.getElem?_cons_zero, List.getElem?_cons_succ, List.set_cons_zero, List.set_cons_succ, Nat.zero_add, Nat.reduceAdd, Nat.reduceSub, tupR_0, tupR_1, tupR_2, tupR_3, tupR_4, tupR_5, lstR_0, lstR_1, lstR_2, lstR_3, lstR_4, lstR_5, lstR_6, lstR_7, lstR_8, lstR_9, lstR_10, lstR_11, lstR_12, isi_int, isi_bl, isi_tup, isi_non, isi_str, fin_bl, fin_int, fin_non, fin_str, finX0, handle_hit, handle_nil, hx_bl, hx_str, hx_int, hx_non, hx_cnt, hx_pass, forR_it, forR_f, forR_t, forR_c, gmg, b1_repr, ne_repr, b2_max, b2_min, set_at0, set_at1, set_at2, set_at3, get_at0, get_at1, get_at2, get_at3, List.append_assoc, List.append_nil, List.length_append, List.length_set, Nat.add_zero, wR_ok, wR_exc, wR_bind, wS_ok, wS_exc, wS_st, wS_seq, wS_turn, wS_onBS, wR_onB, wS_ite, wR_ite, wS_tried, wR_nox, wR_mul, wR_div, wR_mod, ex_aug2, augS_some, wS_augR, wS_saugR, wR_fin, ev_callv2, callvS_fn, bindR_n, bindR_2, bindR_3, bindR_4, last_ne nl, last_ne nq, md, hz, ne_eq, not_false_eq_true, if_true]
      exact ⟨trivial, l, f, rfl, hI, hd⟩
  · rw [if_neg (by rw [decide_eq_false hle]; decide)]
    exact ⟨trivial, l, f, o4, o5, rfl, rfl, hI, by omega⟩
theorem sp_exactly (k : Nat) : ((∃ s, Tr s ∧ pmul s q = p) ∧ ∀ s, Tr s → pmul s q = p → (Γ (k + 5)).call 226 [pD p, pD q] S = .ok (.v (pD s)) S) ∨ ((¬ ∃ s, Tr s ∧ pmul s q = p) ∧ (Γ (k + 5)).call 226 [pD p, pD q] S = .exc ⟨8, []⟩ S) := by
  have h1 := List.length_pos_iff.mpr nq
  have eqn : cmpW .Eq (.v (pD q)) (.v (.tup [])) S = .ok (.v (.bl (decide (q = [])))) S := eq_tt (S := S) q []
  have nq' : (q = []) = False := eq_false nq
  have hmax : (if (p.length : Int) - (q.length : Int) + 1 > 0 then (p.length : Int) - (q.length : Int) + 1 else 0) = ((p.length + 1 - q.length : Nat) : Int) := by split <;> omega
  have hr := rep0N (S := S) (x := p.length + 1 - q.length) (by omega)
  have lp := ex_loop (S := S) tp tq nq ap aq hm hl hb k rfl
  by_cases hs : ∃ s, Tr s ∧ pmul s q = p
  · refine .inl ⟨hs, fun s ts es => wR_res ?_⟩
    have hx : ∀ x, pev p x = pev s x * pev q x := fun x => by rw [← es, pmul_ev]
    rw [call_n tab_exactly rfl]
    simp only [fd_exactly, ev_int, ev_bl, ev_non, ev_str, ev_var, ev_glob, ev_bin, ev_neg, ev_not, ev_cmp, ev_chain, ev_and, ev_or, ev_ife, ev_tup, ev_lst, ev_ix, ev_sl, ev_omit, ev_slr, ev_call, ev_b1, ev_b2, ev_isi, ev_meth, ev_lc, ev_lcif, ev_rng, ev_enum, ev_zip, ev_rev, evs_n, evs_c, alloc_v, alloc_f, setR_eq, ex_set, ex_tset, ex_sset, ex_saug, ex_ex, ex_ret, ex_retN, ex_ite, ex_whl, ex_for, ex_pass, ex_brk, ex_cnt, ex_raise, ex_try, exs_n, exs_c, tried_ok, tried_exc, rs_ret, rs_nx, rs_exc, R.bind_ok, R.bind_exc, R.bind_bad, R.st_ok, R.st_exc, RS.seq_nx, RS.seq_ret, RS.seq_bk, RS.seq_ct, RS.seq_exc, RS.turn_nx, RS.turn_ct, RS.turn_bk, RS.turn_ret, RS.turn_exc, R.nox_ok, orBad_some, lookV_some, lookD_some, onI_int, onLoc_loc, onB_true, onB_false, onB_dec, onBS_true, onBS_false, onBS_dec, bin_int, cmp_lt, cmp_le, cmp_gt, cmp_ge, cmp_eq, cmp_ne, cmp_isb, cmp_isnb, b1_int, b1_intb, b1_abs, b1_lent, b1_lenc, ix_t, ix_c, atR_def, at0, at1, at2, at3, at4, at5, add_of, sub_of, List.map_cons, List.map_nil, List.length_cons, List.length_nil, List.cons_append, List.nil_append, List.replicate_succ, List.replicate_zero, List.getElem?_cons_zero, List.getElem?_cons_succ, List.set_cons_zero, List.set_cons_succ, Nat.zero_add, Nat.reduceAdd, Nat.reduceSub, tupR_0, tupR_1, tupR_2, tupR_3, tupR_4, tupR_5, lstR_0, lstR_1, lstR_2, lstR_3, lstR_4, lstR_5, lstR_6, lstR_7, lstR_8, lstR_9, lstR_10, lstR_11, lstR_12, isi_int, isi_bl, isi_tup, isi_non, isi_str, fin_bl, fin_int, fin_non, fin_str, finX0, handle_hit, handle_nil, hx_bl, hx_str, hx_int, hx_non, hx_cnt, hx_pass, forR_it, forR_f, forR_t, forR_c, gmg, b1_repr, ne_repr, b2_max, b2_min, set_at0, set_at1, set_at2, set_at3, get_at0, get_at1, get_at2, get_at3, List.append_assoc, List.append_nil, List.length_append, List.length_set, Nat.add_zero, wR_ok, wR_exc, wR_bind, wS_ok, wS_exc, wS_st, wS_seq, wS_turn, wS_onBS, wR_onB, wS_ite, wR_ite, wS_tried, wR_nox, wR_mul, wR_div, wR_mod, ex_aug2, augS_some, wS_augR, wS_saugR, wR_fin, ev_callv2, callvS_fn, bindR_n, bindR_2, bindR_3, bindR_4, eqn, nq', if_false, List.length_map, b2_max, hmax, hr]
    refine wS_mono lp (fun fl env T h => ?_) fun x env T h => ?_
    · obtain ⟨rfl, l, f, o4, o5, rfl, rfl, hI, hlt⟩ := h
      have hn := hI.nil tq nq hx hlt
      subst hn
      have e5 := sp_trimmed_l (S := S ++ [.lst (f.map .int)]) (k + 3) (n := S.length) get_at0
      have hf : trim f = s := pmul_cancel (trim_idem f) ts tq nq (by rw [hI.eq tp, es])
      have eqn2 : ∀ T, cmpW .NotEq (.v (pD [])) (.v (.tup [])) T = .ok (.v (.bl false)) T := fun T => ne_tn (S := T) []
      simp only [ev_int, ev_bl, ev_non, ev_str, ev_var, ev_glob, ev_bin, ev_neg, ev_not, ev_cmp, ev_chain, ev_and, ev_or, ev_ife, ev_tup, ev_lst, ev_ix, ev_sl, ev_omit, ev_slr, ev_call, ev_b1, ev_b2, ev_isi, ev_meth, ev_lc, ev_lcif, ev_rng, ev_enum, ev_zip, ev_rev, evs_n, evs_c, alloc_v, alloc_f, setR_eq, ex_set, ex_tset, ex_sset, ex_saug, ex_ex, ex_ret, ex_retN, ex_ite, ex_whl, ex_for, ex_pass, ex_brk, ex_cnt, ex_raise, ex_try, exs_n, exs_c, tried_ok, tried_exc, rs_ret, rs_nx, rs_exc, R.bind_ok, R.bind_exc, R.bind_bad, R.st_ok, R.st_exc, RS.seq_nx, RS.seq_ret, RS.seq_bk, RS.seq_ct, RS.seq_exc, RS.turn_nx, RS.turn_ct, RS.turn_bk, RS.turn_ret, RS.turn_exc, R.nox_ok, orBad_some, lookV_some, lookD_some, onI_int, onLoc_loc, onB_true, onB_false, onB_dec, onBS_true, onBS_false, onBS_dec, bin_int, cmp_lt, cmp_le, cmp_gt, cmp_ge, cmp_eq, cmp_ne, cmp_isb, cmp_isnb, b1_int, b1_intb, b1_abs, b1_lent, b1_lenc, ix_t, ix_c, atR_def, at0, at1, at2, at3, at4, at5, add_of, sub_of, List.map_cons, List.map_nil, List.length_cons, List.length_nil, List.cons_append, List.nil_append, List.replicate_succ, List.replicate_zero, List.getElem?_cons_zero, List.getElem?_cons_succ, List.set_cons_zero, List.set_cons_succ, Nat.zero_add, Nat.reduceAdd, Nat.reduceSub, tupR_0, tupR_1, tupR_2, tupR_3, tupR_4, tupR_5, lstR_0, lstR_1, lstR_2, lstR_3, lstR_4, lstR_5, lstR_6, lstR_7, lstR_8, lstR_9, lstR_10, lstR_11, lstR_12, isi_int, isi_bl, isi_tup, isi_non, isi_str, fin_bl, fin_int, fin_non, fin_str, finX0, handle_hit, handle_nil, hx_bl, hx_str, hx_int, hx_non, hx_cnt, hx_pass, forR_it, forR_f, forR_t, forR_c, gmg, b1_repr, ne_repr, b2_max, b2_min, set_at0, set_at1, set_at2, set_at3, get_at0, get_at1, get_at2, get_at3, List.append_assoc, List.append_nil, List.length_append, List.length_set, Nat.add_zero, wR_ok, wR_exc, wR_bind, wS_ok, wS_exc, wS_st, wS_seq, wS_turn, wS_onBS, wR_onB, wS_ite, wR_ite, wS_tried, wR_nox, wR_mul, wR_div, wR_mod, ex_aug2, augS_some, wS_augR, wS_saugR, wR_fin, ev_callv2, callvS_fn, bindR_n, bindR_2, bindR_3, bindR_4, eqn2, if_false, e5, fin_pG, hf, Bool.false_eq_true, true_and, and_self]
    · obtain ⟨rfl, l, f, rfl, hI, hd⟩ := h
      exact (hd (hI.dvd tq nq hx)).elim
  · refine .inr ⟨hs, wR_resX ?_⟩
    rw [call_n tab_exactly rfl]
    simp only [fd_exactly, ev_int, ev_bl, ev_non, ev_str, ev_var, ev_glob, ev_bin, ev_neg, ev_not, ev_cmp, ev_chain, ev_and, ev_or, ev_ife, ev_tup, ev_lst, ev_ix, ev_sl, ev_omit, ev_slr, ev_call, ev_b1, ev_b2, ev_isi, ev_meth, ev_lc, ev_lcif, ev_rng, ev_enum, ev_zip, ev_rev, evs_n, evs_c, alloc_v, alloc_f, setR_eq, ex_set, ex_tset, ex_sset, ex_saug, ex_ex, ex_ret, ex_retN, ex_ite, ex_whl, ex_for, ex_pass, ex_brk, ex_cnt, ex_raise, ex_try, exs_n, exs_c, tried_ok, tried_exc, rs_ret, rs_nx, rs_exc, R.bind_ok, R.bind_exc, R.bind_bad, R.st_ok, R.st_exc, RS.seq_nx, RS.seq_ret, RS.seq_bk, RS.seq_ct, RS.seq_exc, RS.turn_nx, RS.turn_ct, RS.turn_bk, RS.turn_ret, RS.turn_exc, R.nox_ok, orBad_some, lookV_some, lookD_some, onI_int, onLoc_loc, onB_true, onB_false, onB_dec, onBS_true, onBS_false, onBS_dec, bin_int, cmp_lt, cmp_le, cmp_gt, cmp_ge, cmp_eq, cmp_ne, cmp_isb, cmp_isnb, b1_int, b1_intb, b1_abs, b1_lent, b1_lenc, ix_t, ix_c, atR_def, at0, at1, at2, at3, at4, at5, add_of, sub_of, List.map_cons, List.map_nil, List.length_cons, List.length_nil, List.cons_append, List.nil_append, List.replicate_succ, List.replicate_zero, List.getElem?_cons_zero, List.getElem?_cons_succ, List.set_cons_zero, List.set_cons_succ, Nat.zero_add, Nat.reduceAdd, Nat.reduceSub, tupR_0, tupR_1, tupR_2, tupR_3, tupR_4, tupR_5, lstR_0, lstR_1, lstR_2, lstR_3, lstR_4, lstR_5, lstR_6, lstR_7, lstR_8, lstR_9, lstR_10, lstR_11, lstR_12, isi_int, isi_bl, isi_tup, isi_non, isi_str, fin_bl, fin_int, fin_non, fin_str, finX0, handle_hit, handle_nil, hx_bl, hx_str, hx_int, hx_non, hx_cnt, hx_pass, forR_it, forR_f, forR_t, forR_c, gmg, b1_repr, ne_repr, b2_max, b2_min, set_at0, set_at1, set_at2, set_at3, get_at0, get_at1, get_at2, get_at3, List.append_assoc, List.append_nil, List.length_append, List.length_set, Nat.add_zero, wR_ok, wR_exc, wR_bind, wS_ok, wS_exc, wS_st, wS_seq, wS_turn, wS_onBS, wR_onB, wS_ite, wR_ite, wS_tried, wR_nox, wR_mul, wR_div, wR_mod, ex_aug2, augS_some, wS_augR, wS_saugR, wR_fin, ev_callv2, callvS_fn, bindR_n, bindR_2, bindR_3, bindR_4, eqn, nq', if_false, List.length_map, b2_max, hmax, hr]
    refine wS_mono lp (fun fl env T h => ?_) fun x env T h => ?_
    · obtain ⟨rfl, l, f, o4, o5, rfl, rfl, hI, hlt⟩ := h
      have hn : ¬ l = [] := fun z => by
        subst z
        exact hs ⟨trim f, trim_idem f, hI.eq tp⟩
      have eqn2 : ∀ T, cmpW .NotEq (.v (pD l)) (.v (.tup [])) T = .ok (.v (.bl true)) T := fun T => by
        rw [ne_tn, decide_eq_true hn]
      have f1 : finishX S (S ++ [.lst (f.map .int)]) ⟨8, []⟩ = .exc ⟨8, []⟩ S := finX Kept.refl
      simp only [ev_int, ev_bl, ev_non, ev_str, ev_var, ev_glob, ev_bin, ev_neg, ev_not, ev_cmp, ev_chain, ev_and, ev_or, ev_ife, ev_tup, ev_lst, ev_ix, ev_sl, ev_omit, ev_slr, ev_call, ev_b1, ev_b2, ev_isi, ev_meth, ev_lc, ev_lcif, ev_rng, ev_enum, ev_zip, ev_rev, evs_n, evs_c, alloc_v, alloc_f, setR_eq, ex_set, ex_tset, ex_sset, ex_saug, ex_ex, ex_ret, ex_retN, ex_ite, ex_whl, ex_for, ex_pass, ex_brk, ex_cnt, ex_raise, ex_try, exs_n, exs_c, tried_ok, tried_exc, rs_ret, rs_nx, rs_exc, R.bind_ok, R.bind_exc, R.bind_bad, R.st_ok, R.st_exc, RS.seq_nx, RS.seq_ret, RS.seq_bk, RS.seq_ct, RS.seq_exc, RS.turn_nx, RS.turn_ct, RS.turn_bk, RS.turn_ret, RS.turn_exc, R.nox_ok, orBad_some, lookV_some, lookD_some, onI_int, onLoc_loc, onB_true, onB_false, onB_dec, onBS_true, onBS_false, onBS_dec, bin_int, cmp_lt, cmp_le, cmp_gt, cmp_ge, cmp_eq, cmp_ne, cmp_isb, cmp_isnb, b1_int, b1_intb, b1_abs, b1_lent, b1_lenc, ix_t, ix_c, atR_def, at0, at1, at2, at3, at4, at5, add_of, sub_of, List.map_cons, List.map_nil, List.length_cons, List.length_nil, List.cons_append, List.nil_append, List.replicate_succ, List.replicate_zero, List.getElem?_cons_zero, List.getElem?_cons_succ, List.set_cons_zero, List.set_cons_succ, Nat.zero_add, Nat.reduceAdd, Nat.reduceSub, tupR_0, tupR_1, tupR_2, tupR_3, tupR_4, tupR_5, lstR_0, lstR_1, lstR_2, lstR_3, lstR_4, lstR_5, lstR_6, lstR_7, lstR_8, lstR_9, lstR_10, lstR_11, lstR_12, isi_int, isi_bl, isi_tup, isi_non, isi_str, fin_bl, fin_int, fin_non, fin_str, finX0, handle_hit, handle_nil, hx_bl, hx_str, hx_int, hx_non, hx_cnt, hx_pass, forR_it, forR_f, forR_t, forR_c, gmg, b1_repr, ne_repr, b2_max, b2_min, set_at0, set_at1, set_at2, set_at3, get_at0, get_at1, get_at2, get_at3, List.append_assoc, List.append_nil, List.length_append, List.length_set, Nat.add_zero, wR_ok, wR_exc, wR_bind, wS_ok, wS_exc, wS_st, wS_seq, wS_turn, wS_onBS, wR_onB, wS_ite, wR_ite, wS_tried, wR_nox, wR_mul, wR_div, wR_mod, ex_aug2, augS_some, wS_augR, wS_saugR, wR_fin, ev_callv2, callvS_fn, bindR_n, bindR_2, bindR_3, bindR_4, eqn2, if_true, f1, true_and, and_self]
    · obtain ⟨rfl, l, f, rfl, hI, hd⟩ := h
      have f1 : finishX S (S ++ [.lst (f.map .int)]) ⟨8, []⟩ = .exc ⟨8, []⟩ S := finX Kept.refl
      simp only [ev_int, ev_bl, ev_non, ev_str, ev_var, ev_glob, ev_bin, ev_neg, ev_not, ev_cmp, ev_chain, ev_and, ev_or, ev_ife, ev_tup, ev_lst, ev_ix, ev_sl, ev_omit, ev_slr, ev_call, ev_b1, ev_b2, ev_isi, ev_meth, ev_lc, ev_lcif, ev_rng, ev_enum, ev_zip, ev_rev, evs_n, evs_c, alloc_v, alloc_f, setR_eq, ex_set, ex_tset, ex_sset, ex_saug, ex_ex, ex_ret, ex_retN, ex_ite, ex_whl, ex_for, ex_pass, ex_brk, ex_cnt, ex_raise, ex_try, exs_n, exs_c, tried_ok, tried_exc, rs_ret, rs_nx, rs_exc, R.bind_ok, R.bind_exc, R.bind_bad, R.st_ok, R.st_exc, RS.seq_nx, RS.seq_ret, RS.seq_bk, RS.seq_ct, RS.seq_exc, RS.turn_nx, RS.turn_ct, RS.turn_bk, RS.turn_ret, RS.turn_exc, R.nox_ok, orBad_some, lookV_some, lookD_some, onI_int, onLoc_loc, onB_true, onB_false, onB_dec, onBS_true, onBS_false, onBS_dec, bin_int, cmp_lt, cmp_le, cmp_gt, cmp_ge, cmp_eq, cmp_ne, cmp_isb, cmp_isnb, b1_int, b1_intb, b1_abs, b1_lent, b1_lenc, ix_t, ix_c, atR_def, at0, at1, at2, at3, at4, at5, add_of, sub_of, List.map_cons, List.map_nil, List.length_cons, List.length_nil, List.cons_append, List.nil_append, List.replicate_succ, List.replicate_zero, List.getElem?_cons_zero, List.getElem?_cons_succ, List.set_cons_zero, List.set_cons_succ, Nat.zero_add, Nat.reduceAdd, Nat.reduceSub, tupR_0, tupR_1, tupR_2, tupR_3, tupR_4, tupR_5, lstR_0, lstR_1, lstR_2, lstR_3, lstR_4, lstR_5, lstR_6, lstR_7, lstR_8, lstR_9, lstR_10, lstR_11, lstR_12, isi_int, isi_bl, isi_tup, isi_non, isi_str, fin_bl, fin_int, fin_non, fin_str, finX0, handle_hit, handle_nil, hx_bl, hx_str, hx_int, hx_non, hx_cnt, hx_pass, forR_it, forR_f, forR_t, forR_c, gmg, b1_repr, ne_repr, b2_max, b2_min, set_at0, set_at1, set_at2, set_at3, get_at0, get_at1, get_at2, get_at3, List.append_assoc, List.append_nil, List.length_append, List.length_set, Nat.add_zero, wR_ok, wR_exc, wR_bind, wS_ok, wS_exc, wS_st, wS_seq, wS_turn, wS_onBS, wR_onB, wS_ite, wR_ite, wS_tried, wR_nox, wR_mul, wR_div, wR_mod, ex_aug2, augS_some, wS_augR, wS_saugR, wR_fin, ev_callv2, callvS_fn, bindR_n, bindR_2, bindR_3, bindR_4, f1, true_and, and_self]
end
end
end Py

namespace Py
open PySem
/-- the bag at n, in a store that is else as it was -/
structure BagTo (n N : Nat) (g : Bag) (T T' : Sto) : Prop where
  ok : BagOk N g
  at_ : T'[n]? = some g.o
  len : T'.length = T.length
  oth : ∀ m, m ≠ n → T'[m]? = T[m]?
section
variable {T : Sto} {n N : Nat} {g : Bag} {Q : W → Sto → Prop} {X : Exn → Sto → Prop}
theorem bagTo {g' : Bag} {M : Nat} (hT : T[n]? = some g.o) (ok : BagOk M g') : BagTo n M g' T (T.set n g'.o) :=
  ⟨ok, get_set (List.getElem?_eq_some_iff.mp hT).1, List.length_set .., fun m hm => List.getElem?_set_ne (Ne.symm hm)⟩
theorem wr_draw {k : Nat} (ok : BagOk N g) (hT : T[n]? = some g.o) {many : Int} (hN : N < 2 ^ 60) (h1 : 1 ≤ many) (hB : Bd 8000 many) (q : ∀ r g' T', 0 ≤ r → r < many → BagTo n (N + 1) g' T T' → Q (.v (.int r)) T') : wR ((Γ (k + 1)).call 31 [.loc n, .int many] T) Q X := by
  obtain ⟨r, g', e, h0, h2, h3⟩ := sp_draw k ok hN hT h1 hB
  rw [e]
  exact q r g' _ h0 h2 (bagTo hT h3)
theorem wr_oneI {k : Nat} (ok : BagOk N g) (hN : N < 2 ^ 60) (hT : T[n]? = some g.o) {m : Nat} {is : List Int} (hm : T[m]? = some (.lst (is.map D.int))) (hnm : m ≠ n) (h1 : 1 ≤ is.length) (h2 : is.length < 2 ^ 60) (q : ∀ x g' T', x ∈ is → BagTo n (N + 1) g' T T' → Q (.v (.int x)) T') : wR ((Γ (k + 2)).call 32 [.loc n, .loc m] T) Q X := by
  obtain ⟨r, g', e, h0, h3⟩ := sp_oneI k ok hN hT hm hnm h1 h2
  rw [e]
  exact q r g' _ h0 (bagTo hT h3)
theorem get_app {G : Sto} {o : O} (hT : T[n]? = some o) : (T ++ G)[n]? = some o := by
  rw [List.getElem?_append_left (List.getElem?_eq_some_iff.mp hT).1]
  exact hT
theorem wr_oneN {k : Nat} (ok : BagOk N g) (hN : N < 2 ^ 60) (hT : T[n]? = some g.o) (is : List Int) {xs : List D} (hx : xs = is.map D.int) (h1 : 1 ≤ is.length) (h2 : is.length < 2 ^ 60) (q : ∀ x g' T', x ∈ is → BagTo n (N + 1) g' (T ++ [.lst xs]) T' → Q (.v (.int x)) T') : wR ((Γ (k + 2)).call 32 [.loc n, .loc T.length] (T ++ [.lst xs])) Q X := by
  subst hx
  have hn : n < T.length := (List.getElem?_eq_some_iff.mp hT).1
  exact wr_oneI ok hN (get_app hT) get_at0 (by omega) h1 h2 q
theorem wr_lpoly {k : Nat} (ok : BagOk N g) (hT : T[n]? = some g.o) {most : Nat} {size : Int} (hmost : most ≤ 100) (hs0 : 1 ≤ size) (hs : Bd 200 size) (hN : N + most + 10 < 2 ^ 60) (q : ∀ p g' T', Tr p → p.length ≤ most + 1 → AB 203 p → BagTo n (N + most + 2) g' T T' → Q (.v (pD p)) T') : wR ((Γ (k + 2)).call 197 [.loc n, .int most, .int size] T) Q X := by
  obtain ⟨p, g', e, h0, h1, h2, h3⟩ := sp_lpoly k ok hT hmost hs0 hs hN
  rw [e]
  exact q p g' _ h0 h1 h2 (bagTo hT h3)
theorem wr_frac {k : Nat} (ok : BagOk N g) (hT : T[n]? = some g.o) (hN : N + 10 < 2 ^ 60) (q : ∀ x y g' T', 0 < y → Bd 5 x → Bd 5 y → BagTo n (N + 2) g' T T' → Q (.v (fr x y)) T') : wR ((Γ (k + 2)).call 198 [.loc n] T) Q X := by
  obtain ⟨x, y, g', e, h0, h1, h2, h3⟩ := sp_frac k ok hT hN
  rw [e]
  exact q x y g' _ h0 h1 h2 (bagTo hT h3)
end
end Py

namespace Py
open PySem
section
variable {T S : Sto} {n : Nat}
theorem sp_bag_11 (k : Nat) {ns : List Int} (hb : ∀ z ∈ ns, z.natAbs < 2 ^ cellBits) {c : Nat} (hc : c < 1000) :
    ∃ g, (Γ (k + 1)).call 227 [.cl (ns.map D.int), .int c] T = .ok (.f [.int g.a, .int g.b, .int g.c, .int g.d]) T ∧ BagOk 0 g := by
  rw [call_n tab_law_bag_11 rfl]
  have m1 : intOp .Mult 48611 (c : Int) = some (48611 * (c : Int)) := mul_of (bd_n (x := 48611) (n := 16) (by decide)) (bd_n (x := c) (n := 10) (by omega)) (by decide)
  have hk : Bd 64 (1097 + 48611 * (c : Int)) := by unfold Bd; omega
  have fin : ∀ z : Int, Bd cellBits z → ∃ g : Bag, (R.ok (W.f [.int 0, .int (1097 + 48611 * c), .int 0, .int z]) T : R W) = .ok (.f [.int g.a, .int g.b, .int g.c, .int g.d]) T ∧ BagOk 0 g := fun z hz =>
    ⟨⟨0, 1097 + 48611 * c, 0, z⟩, rfl, ⟨by show (0 : Nat) < 2 ^ _; exact Nat.two_pow_pos _, hk, Int.le_refl _, Int.le_refl _, hz⟩⟩
  have hl : ((List.map D.int ns).length : Int) = (ns.length : Int) := by rw [List.length_map]
  have f2 : ∀ z : Int, finish T T (.f [.int 0, .int (1097 + 48611 * c), .int 0, .int z]) = .ok (.f [.int 0, .int (1097 + 48611 * c), .int 0, .int z]) T := fun z => fin_f0 rfl
  by_cases h : (c : Int) < ns.length
  · have hc' : c < ns.length := by omega
    have e : atI (ns.map D.int) (c : Int) = some (.int ns[c]) := by
      rw [atI_nn (by omega), Int.toNat_natCast, List.getElem?_map, List.getElem?_eq_getElem hc']
      rfl
    simp only [fd_law_bag_11, ev_int, ev_bl, ev_non, ev_str, ev_var, ev_glob, ev_bin, ev_neg, ev_not, ev_cmp, ev_chain, ev_and, ev_or, ev_ife, ev_tup, ev_lst, ev_ix, ev_sl, ev_omit, ev_slr, ev_call, ev_b1, ev_b2, ev_isi, ev_meth, ev_lc, ev_lcif, ev_rng, ev_enum, ev_zip, ev_rev, evs_n, evs_c, alloc_v, alloc_f, setR_eq, ex_set, ex_tset, ex_sset, ex_saug, ex_ex, ex_ret, ex_retN, ex_ite, ex_whl, ex_for, ex_pass, ex_brk, ex_cnt, ex_raise, ex_try, exs_n, exs_c, tried_ok, tried_exc, rs_ret, rs_nx, rs_exc, R.bind_ok, R.bind_exc, R.bind_bad, R.st_ok, R.st_exc, RS.seq_nx, RS.seq_ret, RS.seq_bk, RS.seq_ct, RS.seq_exc, RS.turn_nx, RS.turn_ct, RS.turn_bk, RS.turn_ret, RS.turn_exc, R.nox_ok, orBad_some, lookV_some, lookD_some, onI_int, onLoc_loc, onB_true, onB_false, onB_dec, onBS_true, onBS_false, onBS_dec, bin_int, cmp_lt, cmp_le, cmp_gt, cmp_ge, cmp_eq, cmp_ne, cmp_isb, cmp_isnb, b1_int, b1_intb, b1_abs, b1_lent, b1_lenc, ix_t, ix_c, atR_def, at0, at1, at2, at3, at4, at5, add_of, sub_of, List.map_cons, List.map_nil, List.length_cons, List.length_nil, List.cons_append, List.nil_append, List.replicate_succ, List.replicate_zero, List.getElem?_cons_zero, List.getElem?_cons_succ, List.set_cons_zero, List.set_cons_succ, Nat.zero_add, Nat.reduceAdd, Nat.reduceSub, tupR_0, tupR_1, tupR_2, tupR_3, tupR_4, tupR_5, lstR_0, lstR_1, lstR_2, lstR_3, lstR_4, lstR_5, lstR_6, lstR_7, lstR_8, lstR_9, lstR_10, lstR_11, lstR_12, isi_int, isi_bl, isi_tup, isi_non, isi_str, fin_bl, fin_int, fin_non, fin_str, finX0, handle_hit, handle_nil, hx_bl, hx_str, hx_int, hx_non, hx_cnt, hx_pass, forR_it, forR_f, forR_t, forR_c, gmg, b1_repr, ne_repr, b2_max, b2_min, set_at0, set_at1, set_at2, set_at3, get_at0, get_at1, get_at2, get_at3, List.append_assoc, List.append_nil, List.length_append, List.length_set, Nat.add_zero, hl, h, if_true, e, m1, f2]
    exact fin _ (hb _ (List.getElem_mem hc'))
  · simp only [fd_law_bag_11, ev_int, ev_bl, ev_non, ev_str, ev_var, ev_glob, ev_bin, ev_neg, ev_not, ev_cmp, ev_chain, ev_and, ev_or, ev_ife, ev_tup, ev_lst, ev_ix, ev_sl, ev_omit, ev_slr, ev_call, ev_b1, ev_b2, ev_isi, ev_meth, ev_lc, ev_lcif, ev_rng, ev_enum, ev_zip, ev_rev, evs_n, evs_c, alloc_v, alloc_f, setR_eq, ex_set, ex_tset, ex_sset, ex_saug, ex_ex, ex_ret, ex_retN, ex_ite, ex_whl, ex_for, ex_pass, ex_brk, ex_cnt, ex_raise, ex_try, exs_n, exs_c, tried_ok, tried_exc, rs_ret, rs_nx, rs_exc, R.bind_ok, R.bind_exc, R.bind_bad, R.st_ok, R.st_exc, RS.seq_nx, RS.seq_ret, RS.seq_bk, RS.seq_ct, RS.seq_exc, RS.turn_nx, RS.turn_ct, RS.turn_bk, RS.turn_ret, RS.turn_exc, R.nox_ok, orBad_some, lookV_some, lookD_some, onI_int, onLoc_loc, onB_true, onB_false, onB_dec, onBS_true, onBS_false, onBS_dec, bin_int, cmp_lt, cmp_le, cmp_gt, cmp_ge, cmp_eq, cmp_ne, cmp_isb, cmp_isnb, b1_int, b1_intb, b1_abs, b1_lent, b1_lenc, ix_t, ix_c, atR_def, at0, at1, at2, at3, at4, at5, add_of, sub_of, List.map_cons, List.map_nil, List.length_cons, List.length_nil, List.cons_append, List.nil_append, List.replicate_succ, List.replicate_zero, List.getElem?_cons_zero, List.getElem?_cons_succ, List.set_cons_zero, List.set_cons_succ, Nat.zero_add, Nat.reduceAdd, Nat.reduceSub, tupR_0, tupR_1, tupR_2, tupR_3, tupR_4, tupR_5, lstR_0, lstR_1, lstR_2, lstR_3, lstR_4, lstR_5, lstR_6, lstR_7, lstR_8, lstR_9, lstR_10, lstR_11, lstR_12, isi_int, isi_bl, isi_tup, isi_non, isi_str, fin_bl, fin_int, fin_non, fin_str, finX0, handle_hit, handle_nil, hx_bl, hx_str, hx_int, hx_non, hx_cnt, hx_pass, forR_it, forR_f, forR_t, forR_c, gmg, b1_repr, ne_repr, b2_max, b2_min, set_at0, set_at1, set_at2, set_at3, get_at0, get_at1, get_at2, get_at3, List.append_assoc, List.append_nil, List.length_append, List.length_set, Nat.add_zero, hl, h, if_false, m1, f2]
    exact fin 0 (by show (0 : Nat) < 2 ^ _; exact Nat.two_pow_pos _)

end
section
variable {S : Sto}
theorem lstep_eq {q l : List Int} : psum l (pscale (-dn q l) (List.replicate (l.length - q.length) 0 ++ q)) = dstep q l := pev_inj psum_tr dstep_tr fun x => by
  rw [psum_ev, pscale_ev, pev_zeros_app, dstep_ev]
  grind
theorem AB.zapp {n k : Nat} {q : List Int} (h : AB n q) : AB n (List.replicate k 0 ++ q) := fun a ha => by
  rcases List.mem_append.mp ha with ha | ha
  · rw [(List.mem_replicate.mp ha).2]
    exact Nat.two_pow_pos _
  · exact h a ha
section
variable {p q : List Int} {n m : Nat} (tp : Tr p) (tq : Tr q) (nq : q ≠ []) (ap : AB n p) (aq : AB m q) (hm : m < 9000) (hl : p.length ≤ 1000) (hb : n + (p.length + 2) * (m + 3) < 10000000)
include tp tq nq ap aq hm hl hb
theorem wh_loop (k : Nat) {env : Env} (he : env = [some (pD p), some (pD q), some (.loc S.length), some (pD p), none]) : wS (whl (Γ (k + 4)) fd_law_whole_c1 fd_law_whole_l1 env (S ++ [.lst ((List.replicate (p.length + 1 - q.length) (0 : Int)).map .int)]))
    (fun fl env T => ∃ l f o4, T = S ++ [.lst (f.map .int)] ∧ ExI q p (p.length + 1 - q.length) n m l f ∧ ((fl = .nx ∧ env = [some (pD p), some (pD q), some (.loc S.length), some (pD l), o4] ∧ l.length < q.length) ∨ (fl = .ret (.v .non) ∧ ¬ lead q ∣ lead l)))
    (fun _ _ _ => False) := by
  subst he
  have hlq := tq.lead nq
  have h1 := List.length_pos_iff.mpr nq
  have hc4 : (p.length + 2) * (m + 3) = p.length * (m + 3) + (2 * (m + 3)) := Nat.add_mul ..
  refine ws_whl (fun (g : List Int × List Int) env T => (∃ o4, env = [some (pD p), some (pD q), some (.loc S.length), some (pD g.1), o4]) ∧ T = S ++ [.lst (g.2.map .int)] ∧ ExI q p (p.length + 1 - q.length) n m g.1 g.2) (fun g => g.1.length) (p, List.replicate (p.length + 1 - q.length) 0) ⟨⟨_, rfl⟩, rfl, ExI.init tp ap⟩ ?_
  rintro ⟨l, f⟩ env T ⟨⟨o4, rfl⟩, rfl, hI⟩
  dsimp only at hI ⊢
  simp only [fd_law_whole_c1, ev_int, ev_bl, ev_non, ev_str, ev_var, ev_glob, ev_bin, ev_neg, ev_not, ev_cmp, ev_chain, ev_and, ev_or, ev_ife, ev_tup, ev_lst, ev_ix, ev_sl, ev_omit, ev_slr, ev_call, ev_b1, ev_b2, ev_isi, ev_meth, ev_lc, ev_lcif, ev_rng, ev_enum, ev_zip, ev_rev, evs_n, evs_c, alloc_v, alloc_f, setR_eq, ex_set, ex_tset, ex_sset, ex_saug, ex_ex, ex_ret, ex_retN, ex_ite, ex_whl, ex_for, ex_pass, ex_brk, ex_cnt, ex_raise, ex_try, exs_n, exs_c, tried_ok, tried_exc, rs_ret, rs_nx, rs_exc, R.bind_ok, R.bind_exc, R.bind_bad, R.st_ok, R.st_exc, RS.seq_nx, RS.seq_ret, RS.seq_bk, RS.seq_ct, RS.seq_exc, RS.turn_nx, RS.turn_ct, RS.turn_bk, RS.turn_ret, RS.turn_exc, R.nox_ok, orBad_some, lookV_some, lookD_some, onI_int, onLoc_loc, onB_true, onB_false, onB_dec, onBS_true, onBS_false, onBS_dec, bin_int, cmp_lt, cmp_le, cmp_gt, cmp_ge, cmp_eq, cmp_ne, cmp_isb, cmp_isnb, b1_int, b1_intb, b1_abs, b1_lent, b1_lenc, ix_t, ix_c, atR_def, at0, at1, at2, at3, at4, at5, add_of, sub_of, List.map_cons, List.map_nil, List.length_cons, List.length_nil, List.cons_append, List.nil_append, List.replicate_succ, List.replicate_zero, List.getElem?_cons_zero, List.getElem?_cons_succ, List.set_cons_zero, List.set_cons_succ, Nat.zero_add, Nat.reduceAdd, Nat.reduceSub, tupR_0, tupR_1, tupR_2, tupR_3, tupR_4, tupR_5, lstR_0, lstR_1, lstR_2, lstR_3, lstR_4, lstR_5, lstR_6, lstR_7, lstR_8, lstR_9, lstR_10, lstR_11, lstR_12, isi_int, isi_bl, isi_tup, isi_non, isi_str, fin_bl, fin_int, fin_non, fin_str, finX0, handle_hit, handle_nil, hx_bl, hx_str, hx_int, hx_non, hx_cnt, hx_pass, forR_it, forR_f, forR_t, forR_c, gmg, b1_repr, ne_repr, b2_max, b2_min, set_at0, set_at1, set_at2, set_at3, get_at0, get_at1, get_at2, get_at3, List.append_assoc, List.append_nil, List.length_append, List.length_set, Nat.add_zero, wR_ok, wR_exc, wR_bind, wS_ok, wS_exc, wS_st, wS_seq, wS_turn, wS_onBS, wR_onB, wS_ite, wR_ite, wS_tried, wR_nox, wR_mul, wR_div, wR_mod, ex_aug2, augS_some, wS_augR, wS_saugR, wR_fin, ev_callv2, callvS_fn, bindR_n, bindR_2, bindR_3, bindR_4, List.length_map]
  refine ⟨_, rfl, ?_⟩
  by_cases hle : (q.length : Int) ≤ (l.length : Int)
  · have nl : l ≠ [] := fun z => by rw [z] at hle; simp at hle; exact nq hle
    have hll := hI.ll
    have hm3 : (p.length - l.length) * (m + 3) ≤ p.length * (m + 3) := Nat.mul_le_mul_right _ (by omega)
    have md : intOp .Mod (lead l) (lead q) = some ((lead l).fmod (lead q)) := mod_of hlq
    rw [if_pos (by rw [decide_eq_true hle])]
    by_cases hd : lead q ∣ lead l
    · have st := hI.step nq aq (by omega) hd
      have hsl := pscale_len (c := -dn q l) (p := List.replicate (l.length - q.length) 0 ++ q)
      rw [List.length_append, List.length_replicate] at hsl
      have c1 := sp_lscale (S := S ++ [.lst ((f.set (l.length - q.length) (dn q l)).map .int)]) (k + 2) (dn_bd hI.bd hd).neg (aq.zapp (k := l.length - q.length)) (by omega) (by rw [List.length_append, List.length_replicate]; omega)
      have c2 := sp_ladd (S := S ++ [.lst ((f.set (l.length - q.length) (dn q l)).map .int)]) (k + 2) (p := l) (q := pscale (-dn q l) (List.replicate (l.length - q.length) 0 ++ q)) (by omega)
      rw [lstep_eq] at c2
      have d1 : intOp .FloorDiv (lead l) (lead q) = some (dn q l) := div_of hlq (lead_bd aq) hm
      have epl : (l.length : Int) - (q.length : Int) = ((l.length - q.length : Nat) : Int) := by omega
      have se : setLR [some (pD p), some (pD q), some (.loc S.length), some (pD l), some (.int (dn q l))] (.v (.loc S.length)) (.v (.int ((l.length - q.length : Nat) : Int))) (.int (dn q l)) (S ++ [.lst (f.map .int)]) = .ok .nx [some (pD p), some (pD q), some (.loc S.length), some (pD l), some (.int (dn q l))] (S ++ [.lst ((f.set (l.length - q.length) (dn q l)).map .int)]) := by
        rw [set_ints get_at0 st.1, set_at0]
      have hz : (lead l).fmod (lead q) = 0 := Int.fmod_eq_zero_of_dvd hd
      have a1 := fun T : Sto => add_pD (S := T) (p := List.replicate (l.length - q.length) 0) (q := q) (by rw [List.length_replicate]; omega)
      have a2 := fun T : Sto => rep0t (S := T) (m := l.length - q.length) (by omega)
      simp only [fd_law_whole_l1, ev_int, ev_bl, ev_non, ev_str, ev_var, ev_glob, ev_bin, ev_neg, ev_not, ev_cmp, ev_chain, ev_and, ev_or, ev_ife, ev_tup, ev_lst, ev_ix, ev_sl, ev_omit, ev_slr, ev_call, ev_b1, ev_b2, ev_isi, ev_meth, ev_lc, ev_lcif, ev_rng, ev_enum, ev_zip, ev_rev, evs_n, evs_c, alloc_v, alloc_f, setR_eq, ex_set, ex_tset, ex_sset, ex_saug, ex_ex, ex_ret, ex_retN, ex_ite, ex_whl, ex_for, ex_pass, ex_brk, ex_cnt, ex_raise, ex_try, exs_n, exs_c, tried_ok, tried_exc, rs_ret, rs_nx, rs_exc, R.bind_ok, R.bind_exc, R.bind_bad, R.st_ok, R.st_exc, RS.seq_nx, RS.seq_ret, RS.seq_bk, RS.seq_ct, RS.seq_exc, RS.turn_nx, RS.turn_ct, RS.turn_bk, RS.turn_ret, RS.turn_exc, R.nox_ok, orBad_some, lookV_some, lookD_some, onI_int, onLoc_loc, onB_true, onB_false, onB_dec, onBS_true, onBS_false, onBS_dec, bin_int, cmp_lt, cmp_le, cmp_gt, cmp_ge, cmp_eq, cmp_ne, cmp_isb, cmp_isnb, b1_int, b1_intb, b1_abs, b1_lent, b1_lenc, ix_t, ix_c, atR_def, at0, at1, at2, at3, at4, at5, add_of, sub_of, List.map_cons, List.map_nil, List.length_cons, List.length_nil, List.cons_append, List.nil_append, List.replicate_succ, List.replicate_zero, List.getElem?_cons_zero, List.getElem?_cons_succ, List.set_cons_zero, List.set_cons_succ, Nat.zero_add, Nat.reduceAdd, Nat.reduceSub, tupR_0, tupR_1, tupR_2, tupR_3, tupR_4, tupR_5, lstR_0, lstR_1, lstR_2, lstR_3, lstR_4, lstR_5, lstR_6, lstR_7, lstR_8, lstR_9, lstR_10, lstR_11, lstR_12, isi_int, isi_bl, isi_tup, isi_non, isi_str, fin_bl, fin_int, fin_non, fin_str, finX0, handle_hit, handle_nil, hx_bl, hx_str, hx_int, hx_non, hx_cnt, hx_pass, forR_it, forR_f, forR_t, forR_c, gmg, b1_repr, ne_repr, b2_max, b2_min, set_at0, set_at1, set_at2, set_at3, get_at0, get_at1, get_at2, get_at3, List.append_assoc, List.append_nil, List.length_append, List.length_set, Nat.add_zero, wR_ok, wR_exc, wR_bind, wS_ok, wS_exc, wS_st, wS_seq, wS_turn, wS_onBS, wR_onB, wS_ite, wR_ite, wS_tried, wR_nox, wR_mul, wR_div, wR_mod, ex_aug2, augS_some, wS_augR, wS_saugR, wR_fin, ev_callv2, callvS_fn, bindR_n, bindR_2, bindR_3, bindR_4, last_ne nl, last_ne nq, md, hz, ne_eq, not_true_eq_false, if_false, d1, List.length_map, epl, se, a1, a2, c1, c2]
      exact ⟨(dstep q l, f.set (l.length - q.length) (dn q l)), st.2.1, ⟨_, rfl⟩, rfl, st.2.2⟩
    · have hz : ¬ (lead l).fmod (lead q) = 0 := fun z => hd (Int.dvd_of_fmod_eq_zero z)
      simp only [fd_law_whole_l1, ev_int, ev_bl, ev_non, ev_str, ev_var, ev_glob, ev_bin, ev_neg, ev_not, ev_cmp, ev_chain, ev_and, ev_or, ev_ife, ev_tup, ev_lst, ev_ix, ev_sl, ev_omit, ev_slr, ev_call, ev_b1, ev_b2, ev_isi, ev_meth, ev_lc, ev_lcif, ev_rng, ev_enum, ev_zip, ev_rev, evs_n, evs_c, alloc_v, alloc_f, setR_eq, ex_set, ex_tset, ex_sset, ex_saug, ex_ex, ex_ret, ex_retN, ex_ite, ex_whl, ex_for, ex_pass, ex_brk, ex_cnt, ex_raise, ex_try, exs_n, exs_c, tried_ok, tried_exc, rs_ret, rs_nx, rs_exc, R.bind_ok, R.bind_exc, R.bind_bad, R.st_ok, R.st_exc, RS.seq_nx, RS.seq_ret, RS.seq_bk, RS.seq_ct, RS.seq_exc, RS.turn_nx, RS.turn_ct, RS.turn_bk, RS.turn_ret, RS.turn_exc, R.nox_ok, orBad_some, lookV_some, lookD_some, onI_int, onLoc_loc, onB_true, onB_false, onB_dec, onBS_true, onBS_false, onBS_dec, bin_int, cmp_lt, cmp_le, cmp_gt, cmp_ge, cmp_eq, cmp_ne, cmp_isb, cmp_isnb, b1_int, b1_intb, b1_abs, b1_lent, b1_lenc, ix_t, ix_c, atR_def, at0, at1, at2, at3, at4, at5, add_of, sub_of, List.map_cons, List.map_nil, List.length_cons, List.length_nil, List.cons_append, List.nil_append, List.replicate_succ, List.replicate_zero, List.getElem?_cons_zero, List.getElem?_cons_succ, List.set_cons_zero, List.set_cons_succ, Nat.zero_add, Nat.reduceAdd, Nat.reduceSub, tupR_0, tupR_1, tupR_2, tupR_3, tupR_4, tupR_5, lstR_0, lstR_1, lstR_2, lstR_3, lstR_4, lstR_5, lstR_6, lstR_7, lstR_8, lstR_9, lstR_10, lstR_11, lstR_12, isi_int, isi_bl, isi_tup, isi_non, isi_str, fin_bl, fin_int, fin_non, fin_str, finX0, handle_hit, handle_nil, hx_bl, hx_str, hx_int, hx_non, hx_cnt, hx_pass, forR_it, forR_f, forR_t, forR_c, gmg, b1_repr, ne_repr, b2_max, b2_min, set_at0, set_at1, set_at2, set_at3, get_at0, get_at1, get_at2, get_at3, List.append_assoc, List.append_nil, List.length_append, List.length_set, Nat.add_zero, wR_ok, wR_exc, wR_bind, wS_ok, wS_exc, wS_st, wS_seq, wS_turn, wS_onBS, wR_onB, wS_ite, wR_ite, wS_tried, wR_nox, wR_mul, wR_div, wR_mod, ex_aug2, augS_some, wS_augR, wS_saugR, wR_fin, ev_callv2, callvS_fn, bindR_n, bindR_2, bindR_3, bindR_4, last_ne nl, last_ne nq, md, hz, ne_eq, not_false_eq_true, if_true]
      exact ⟨l, f, none, rfl, hI, .inr ⟨trivial, hd⟩⟩
  · rw [if_neg (by rw [decide_eq_false hle]; decide)]
    exact ⟨l, f, o4, rfl, hI, .inl ⟨trivial, rfl, by omega⟩⟩
theorem sp_whole (k : Nat) : (∀ s, Tr s → pmul s q = p → (Γ (k + 5)).call 229 [pD p, pD q] S = .ok (.v (pD s)) S) ∧ ((¬ ∃ s, Tr s ∧ pmul s q = p) → (Γ (k + 5)).call 229 [pD p, pD q] S = .ok (.v .non) S) := by
  have h1 := List.length_pos_iff.mpr nq
  have hmax : (if (p.length : Int) - (q.length : Int) + 1 > 0 then (p.length : Int) - (q.length : Int) + 1 else 0) = ((p.length + 1 - q.length : Nat) : Int) := by split <;> omega
  have hr := rep0N (S := S) (x := p.length + 1 - q.length) (by omega)
  have lp := wh_loop (S := S) tp tq nq ap aq hm hl hb k rfl
  have e5 := fun f : List Int => sp_ltrim_l (S := S ++ [.lst (f.map .int)]) (l := f) (k + 3) (n := S.length) get_at0
  have f1 : ∀ f : List Int, finish S (S ++ [.lst (f.map .int)]) (.v .non) = .ok (.v .non) S := fun f => fin_v Kept.refl rfl
  constructor
  · refine fun s ts es => wR_res ?_
    have hx : ∀ x, pev p x = pev s x * pev q x := fun x => by rw [← es, pmul_ev]
    rw [call_n tab_law_whole rfl]
    simp only [fd_law_whole, ev_int, ev_bl, ev_non, ev_str, ev_var, ev_glob, ev_bin, ev_neg, ev_not, ev_cmp, ev_chain, ev_and, ev_or, ev_ife, ev_tup, ev_lst, ev_ix, ev_sl, ev_omit, ev_slr, ev_call, ev_b1, ev_b2, ev_isi, ev_meth, ev_lc, ev_lcif, ev_rng, ev_enum, ev_zip, ev_rev, evs_n, evs_c, alloc_v, alloc_f, setR_eq, ex_set, ex_tset, ex_sset, ex_saug, ex_ex, ex_ret, ex_retN, ex_ite, ex_whl, ex_for, ex_pass, ex_brk, ex_cnt, ex_raise, ex_try, exs_n, exs_c, tried_ok, tried_exc, rs_ret, rs_nx, rs_exc, R.bind_ok, R.bind_exc, R.bind_bad, R.st_ok, R.st_exc, RS.seq_nx, RS.seq_ret, RS.seq_bk, RS.seq_ct, RS.seq_exc, RS.turn_nx, RS.turn_ct, RS.turn_bk, RS.turn_ret, RS.turn_exc, R.nox_ok, orBad_some, lookV_some, lookD_some, onI_int, onLoc_loc, onB_true, onB_false, onB_dec, onBS_true, onBS_false, onBS_dec, bin_int, cmp_lt, cmp_le, cmp_gt, cmp_ge, cmp_eq, cmp_ne, cmp_isb, cmp_isnb, b1_int, b1_intb, b1_abs, b1_lent, b1_lenc, ix_t, ix_c, atR_def, at0, at1, at2, at3, at4, at5, add_of, sub_of, List.map_cons, List.map_nil, List.length_cons, List.length_nil, List.cons_append, List.nil_append, List.replicate_succ, List.replicate_zero, List.getElem?_cons_zero, List.getElem?_cons_succ, List.set_cons_zero, List.set_cons_succ, Nat.zero_add, Nat.reduceAdd, Nat.reduceSub, tupR_0, tupR_1, tupR_2, tupR_3, tupR_4, tupR_5, lstR_0, lstR_1, lstR_2, lstR_3, lstR_4, lstR_5, lstR_6, lstR_7, lstR_8, lstR_9, lstR_10, lstR_11, lstR_12, isi_int, isi_bl, isi_tup, isi_non, isi_str, fin_bl, fin_int, fin_non, fin_str, finX0, handle_hit, handle_nil, hx_bl, hx_str, hx_int, hx_non, hx_cnt, hx_pass, forR_it, forR_f, forR_t, forR_c, gmg, b1_repr, ne_repr, b2_max, b2_min, set_at0, set_at1, set_at2, set_at3, get_at0, get_at1, get_at2, get_at3, List.append_assoc, List.append_nil, List.length_append, List.length_set, Nat.add_zero, wR_ok, wR_exc, wR_bind, wS_ok, wS_exc, wS_st, wS_seq, wS_turn, wS_onBS, wR_onB, wS_ite, wR_ite, wS_tried, wR_nox, wR_mul, wR_div, wR_mod, ex_aug2, augS_some, wS_augR, wS_saugR, wR_fin, ev_callv2, callvS_fn, bindR_n, bindR_2, bindR_3, bindR_4, List.length_map, b2_max, hmax, hr]
    refine wS_mono lp (fun fl env T h => ?_) fun x env T h => h.elim
    obtain ⟨l, f, o4, rfl, hI, ⟨rfl, rfl, hlt⟩ | ⟨rfl, hd⟩⟩ := h
    · have hn := hI.nil tq nq hx hlt
      subst hn
      have hf : trim f = s := pmul_cancel (trim_idem f) ts tq nq (by rw [hI.eq tp, es])
      have eqn2 : ∀ T, cmpW .Eq (.v (pD [])) (.v (.tup [])) T = .ok (.v (.bl true)) T := fun T => eq_tn (S := T) []
      simp only [ev_int, ev_bl, ev_non, ev_str, ev_var, ev_glob, ev_bin, ev_neg, ev_not, ev_cmp, ev_chain, ev_and, ev_or, ev_ife, ev_tup, ev_lst, ev_ix, ev_sl, ev_omit, ev_slr, ev_call, ev_b1, ev_b2, ev_isi, ev_meth, ev_lc, ev_lcif, ev_rng, ev_enum, ev_zip, ev_rev, evs_n, evs_c, alloc_v, alloc_f, setR_eq, ex_set, ex_tset, ex_sset, ex_saug, ex_ex, ex_ret, ex_retN, ex_ite, ex_whl, ex_for, ex_pass, ex_brk, ex_cnt, ex_raise, ex_try, exs_n, exs_c, tried_ok, tried_exc, rs_ret, rs_nx, rs_exc, R.bind_ok, R.bind_exc, R.bind_bad, R.st_ok, R.st_exc, RS.seq_nx, RS.seq_ret, RS.seq_bk, RS.seq_ct, RS.seq_exc, RS.turn_nx, RS.turn_ct, RS.turn_bk, RS.turn_ret, RS.turn_exc, R.nox_ok, orBad_some, lookV_some, lookD_some, onI_int, onLoc_loc, onB_true, onB_false, onB_dec, onBS_true, onBS_false, onBS_dec, bin_int, cmp_lt, cmp_le, cmp_gt, cmp_ge, cmp_eq, cmp_ne, cmp_isb, cmp_isnb, b1_int, b1_intb, b1_abs, b1_lent, b1_lenc, ix_t, ix_c, atR_def, at0, at1, at2, at3, at4, at5, add_of, sub_of, List.map_cons, List.map_nil, List.length_cons, List.length_nil, List.cons_append, List.nil_append, List.replicate_succ, List.replicate_zero, List.getElem?_cons_zero, List.getElem?_cons_succ, List.set_cons_zero, List.set_cons_succ, Nat.zero_add, Nat.reduceAdd, Nat.reduceSub, tupR_0, tupR_1, tupR_2, tupR_3, tupR_4, tupR_5, lstR_0, lstR_1, lstR_2, lstR_3, lstR_4, lstR_5, lstR_6, lstR_7, lstR_8, lstR_9, lstR_10, lstR_11, lstR_12, isi_int, isi_bl, isi_tup, isi_non, isi_str, fin_bl, fin_int, fin_non, fin_str, finX0, handle_hit, handle_nil, hx_bl, hx_str, hx_int, hx_non, hx_cnt, hx_pass, forR_it, forR_f, forR_t, forR_c, gmg, b1_repr, ne_repr, b2_max, b2_min, set_at0, set_at1, set_at2, set_at3, get_at0, get_at1, get_at2, get_at3, List.append_assoc, List.append_nil, List.length_append, List.length_set, Nat.add_zero, wR_ok, wR_exc, wR_bind, wS_ok, wS_exc, wS_st, wS_seq, wS_turn, wS_onBS, wR_onB, wS_ite, wR_ite, wS_tried, wR_nox, wR_mul, wR_div, wR_mod, ex_aug2, augS_some, wS_augR, wS_saugR, wR_fin, ev_callv2, callvS_fn, bindR_n, bindR_2, bindR_3, bindR_4, eqn2, if_true, e5, fin_pG, hf, true_and, and_self]
    · exact (hd (hI.dvd tq nq hx)).elim
  · refine fun hs => wR_res ?_
    rw [call_n tab_law_whole rfl]
    simp only [fd_law_whole, ev_int, ev_bl, ev_non, ev_str, ev_var, ev_glob, ev_bin, ev_neg, ev_not, ev_cmp, ev_chain, ev_and, ev_or, ev_ife, ev_tup, ev_lst, ev_ix, ev_sl, ev_omit, ev_slr, ev_call, ev_b1, ev_b2, ev_isi, ev_meth, ev_lc, ev_lcif, ev_rng, ev_enum, ev_zip, ev_rev, evs_n, evs_c, alloc_v, alloc_f, setR_eq, ex_set, ex_tset, ex_sset, ex_saug, ex_ex, ex_ret, ex_retN, ex_ite, ex_whl, ex_for, ex_pass, ex_brk, ex_cnt, ex_raise, ex_try, exs_n, exs_c, tried_ok, tried_exc, rs_ret, rs_nx, rs_exc, R.bind_ok, R.bind_exc, R.bind_bad, R.st_ok, R.st_exc, RS.seq_nx, RS.seq_ret, RS.seq_bk, RS.seq_ct, RS.seq_exc, RS.turn_nx, RS.turn_ct, RS.turn_bk, RS.turn_ret, RS.turn_exc, R.nox_ok, orBad_some, lookV_some, lookD_some, onI_int, onLoc_loc, onB_true, onB_false, onB_dec, onBS_true, onBS_false, onBS_dec, bin_int, cmp_lt, cmp_le, cmp_gt, cmp_ge, cmp_eq, cmp_ne, cmp_isb, cmp_isnb, b1_int, b1_intb, b1_abs, b1_lent, b1_lenc, ix_t, ix_c, atR_def, at0, at1, at2, at3, at4, at5, add_of, sub_of, List.map_cons, List.map_nil, List.length_cons, List.length_nil, List.cons_append, List.nil_append, List.replicate_succ, List.replicate_zero, List.getElem?_cons_zero, List.getElem?_cons_succ, List.set_cons_zero, List.set_cons_succ, Nat.zero_add, Nat.reduceAdd, Nat.reduceSub, tupR_0, tupR_1, tupR_2, tupR_3, tupR_4, tupR_5, lstR_0, lstR_1, lstR_2, lstR_3, lstR_4, lstR_5, lstR_6, lstR_7, lstR_8, lstR_9, lstR_10, lstR_11, lstR_12, isi_int, isi_bl, isi_tup, isi_non, isi_str, fin_bl, fin_int, fin_non, fin_str, finX0, handle_hit, handle_nil, hx_bl, hx_str, hx_int, hx_non, hx_cnt, hx_pass, forR_it, forR_f, forR_t, forR_c, gmg, b1_repr, ne_repr, b2_max, b2_min, set_at0, set_at1, set_at2, set_at3, get_at0, get_at1, get_at2, get_at3, List.append_assoc, List.append_nil, List.length_append, List.length_set, Nat.add_zero, wR_ok, wR_exc, wR_bind, wS_ok, wS_exc, wS_st, wS_seq, wS_turn, wS_onBS, wR_onB, wS_ite, wR_ite, wS_tried, wR_nox, wR_mul, wR_div, wR_mod, ex_aug2, augS_some, wS_augR, wS_saugR, wR_fin, ev_callv2, callvS_fn, bindR_n, bindR_2, bindR_3, bindR_4, List.length_map, b2_max, hmax, hr]
    refine wS_mono lp (fun fl env T h => ?_) fun x env T h => h.elim
    obtain ⟨l, f, o4, rfl, hI, ⟨rfl, rfl, hlt⟩ | ⟨rfl, hd⟩⟩ := h
    · have hn : ¬ l = [] := fun z => by
        subst z
        exact hs ⟨trim f, trim_idem f, hI.eq tp⟩
      have eqn2 : ∀ T, cmpW .Eq (.v (pD l)) (.v (.tup [])) T = .ok (.v (.bl false)) T := fun T => by
        rw [eq_tn, decide_eq_false hn]
      simp only [ev_int, ev_bl, ev_non, ev_str, ev_var, ev_glob, ev_bin, ev_neg, ev_not, ev_cmp, ev_chain, ev_and, ev_or, ev_ife, ev_tup, ev_lst, ev_ix, ev_sl, ev_omit, ev_slr, ev_call, ev_b1, ev_b2, ev_isi, ev_meth, ev_lc, ev_lcif, ev_rng, ev_enum, ev_zip, ev_rev, evs_n, evs_c, alloc_v, alloc_f, setR_eq, ex_set, ex_tset, ex_sset, ex_saug, ex_ex, ex_ret, ex_retN, ex_ite, ex_whl, ex_for, ex_pass, ex_brk, ex_cnt, ex_raise, ex_try, exs_n, exs_c, tried_ok, tried_exc, rs_ret, rs_nx, rs_exc, R.bind_ok, R.bind_exc, R.bind_bad, R.st_ok, R.st_exc, RS.seq_nx, RS.seq_ret, RS.seq_bk, RS.seq_ct, RS.seq_exc, RS.turn_nx, RS.turn_ct, RS.turn_bk, RS.turn_ret, RS.turn_exc, R.nox_ok, orBad_some, lookV_some, lookD_some, onI_int, onLoc_loc, onB_true, onB_false, onB_dec, onBS_true, onBS_false, onBS_dec, bin_int, cmp_lt, cmp_le, cmp_gt, cmp_ge, cmp_eq, cmp_ne, cmp_isb, cmp_isnb, b1_int, b1_intb, b1_abs, b1_lent, b1_lenc, ix_t, ix_c, atR_def, at0, at1, at2, at3, at4, at5, add_of, sub_of, List.map_cons, List.map_nil, List.length_cons, List.length_nil, List.cons_append, List.nil_append, List.replicate_succ, List.replicate_zero, List.getElem?_cons_zero, List.getElem?_cons_succ, List.set_cons_zero, List.set_cons_succ, Nat.zero_add, Nat.reduceAdd, Nat.reduceSub, tupR_0, tupR_1, tupR_2, tupR_3, tupR_4, tupR_5, lstR_0, lstR_1, lstR_2, lstR_3, lstR_4, lstR_5, lstR_6, lstR_7, lstR_8, lstR_9, lstR_10, lstR_11, lstR_12, isi_int, isi_bl, isi_tup, isi_non, isi_str, fin_bl, fin_int, fin_non, fin_str, finX0, handle_hit, handle_nil, hx_bl, hx_str, hx_int, hx_non, hx_cnt, hx_pass, forR_it, forR_f, forR_t, forR_c, gmg, b1_repr, ne_repr, b2_max, b2_min, set_at0, set_at1, set_at2, set_at3, get_at0, get_at1, get_at2, get_at3, List.append_assoc, List.append_nil, List.length_append, List.length_set, Nat.add_zero, wR_ok, wR_exc, wR_bind, wS_ok, wS_exc, wS_st, wS_seq, wS_turn, wS_onBS, wR_onB, wS_ite, wR_ite, wS_tried, wR_nox, wR_mul, wR_div, wR_mod, ex_aug2, augS_some, wS_augR, wS_saugR, wR_fin, ev_callv2, callvS_fn, bindR_n, bindR_2, bindR_3, bindR_4, eqn2, if_false, f1, Bool.false_eq_true, true_and, and_self]
    · simp only [ev_int, ev_bl, ev_non, ev_str, ev_var, ev_glob, ev_bin, ev_neg, ev_not, ev_cmp, ev_chain, ev_and, ev_or, ev_ife, ev_tup, ev_lst, ev_ix, ev_sl, ev_omit, ev_slr, ev_call, ev_b1, ev_b2, ev_isi, ev_meth, ev_lc, ev_lcif, ev_rng, ev_enum, ev_zip, ev_rev, evs_n, evs_c, alloc_v, alloc_f, setR_eq, ex_set, ex_tset, ex_sset, ex_saug, ex_ex, ex_ret, ex_retN, ex_ite, ex_whl, ex_for, ex_pass, ex_brk, ex_cnt, ex_raise, ex_try, exs_n, exs_c, tried_ok, tried_exc, rs_ret, rs_nx, rs_exc, R.bind_ok, R.bind_exc, R.bind_bad, R.st_ok, R.st_exc, RS.seq_nx, RS.seq_ret, RS.seq_bk, RS.seq_ct, RS.seq_exc, RS.turn_nx, RS.turn_ct, RS.turn_bk, RS.turn_ret, RS.turn_exc, R.nox_ok, orBad_some, lookV_some, lookD_some, onI_int, onLoc_loc, onB_true, onB_false, onB_dec, onBS_true, onBS_false, onBS_dec, bin_int, cmp_lt, cmp_le, cmp_gt, cmp_ge, cmp_eq, cmp_ne, cmp_isb, cmp_isnb, b1_int, b1_intb, b1_abs, b1_lent, b1_lenc, ix_t, ix_c, atR_def, at0, at1, at2, at3, at4, at5, add_of, sub_of, List.map_cons, List.map_nil, List.length_cons, List.length_nil, List.cons_append, List.nil_append, List.replicate_succ, List.replicate_zero, List.getElem?_cons_zero, List.getElem?_cons_succ, List.set_cons_zero, List.set_cons_succ, Nat.zero_add, Nat.reduceAdd, Nat.reduceSub, tupR_0, tupR_1, tupR_2, tupR_3, tupR_4, tupR_5, lstR_0, lstR_1, lstR_2, lstR_3, lstR_4, lstR_5, lstR_6, lstR_7, lstR_8, lstR_9, lstR_10, lstR_11, lstR_12, isi_int, isi_bl, isi_tup, isi_non, isi_str, fin_bl, fin_int, fin_non, fin_str, finX0, handle_hit, handle_nil, hx_bl, hx_str, hx_int, hx_non, hx_cnt, hx_pass, forR_it, forR_f, forR_t, forR_c, gmg, b1_repr, ne_repr, b2_max, b2_min, set_at0, set_at1, set_at2, set_at3, get_at0, get_at1, get_at2, get_at3, List.append_assoc, List.append_nil, List.length_append, List.length_set, Nat.add_zero, wR_ok, wR_exc, wR_bind, wS_ok, wS_exc, wS_st, wS_seq, wS_turn, wS_onBS, wR_onB, wS_ite, wR_ite, wS_tried, wR_nox, wR_mul, wR_div, wR_mod, ex_aug2, augS_some, wS_augR, wS_saugR, wR_fin, ev_callv2, callvS_fn, bindR_n, bindR_2, bindR_3, bindR_4, f1, true_and, and_self]
end
theorem told7_ok (k : Nat) {f : Nat} (hf : hs f = true) {a b d : D} (h : (Γ k).call f [a, b] S = .ok (.v d) S) (hd : und S.length d = true) : (Γ (k + 1)).call 228 [.fn f, a, b] S = .ok (.v d) S := by
  refine wR_res ?_
  rw [call_n tab_law_told_7 rfl]
  simp only [fd_law_told_7, ev_int, ev_bl, ev_non, ev_str, ev_var, ev_glob, ev_bin, ev_neg, ev_not, ev_cmp, ev_chain, ev_and, ev_or, ev_ife, ev_tup, ev_lst, ev_ix, ev_sl, ev_omit, ev_slr, ev_call, ev_b1, ev_b2, ev_isi, ev_meth, ev_lc, ev_lcif, ev_rng, ev_enum, ev_zip, ev_rev, evs_n, evs_c, alloc_v, alloc_f, setR_eq, ex_set, ex_tset, ex_sset, ex_saug, ex_ex, ex_ret, ex_retN, ex_ite, ex_whl, ex_for, ex_pass, ex_brk, ex_cnt, ex_raise, ex_try, exs_n, exs_c, tried_ok, tried_exc, rs_ret, rs_nx, rs_exc, R.bind_ok, R.bind_exc, R.bind_bad, R.st_ok, R.st_exc, RS.seq_nx, RS.seq_ret, RS.seq_bk, RS.seq_ct, RS.seq_exc, RS.turn_nx, RS.turn_ct, RS.turn_bk, RS.turn_ret, RS.turn_exc, R.nox_ok, orBad_some, lookV_some, lookD_some, onI_int, onLoc_loc, onB_true, onB_false, onB_dec, onBS_true, onBS_false, onBS_dec, bin_int, cmp_lt, cmp_le, cmp_gt, cmp_ge, cmp_eq, cmp_ne, cmp_isb, cmp_isnb, b1_int, b1_intb, b1_abs, b1_lent, b1_lenc, ix_t, ix_c, atR_def, at0, at1, at2, at3, at4, at5, add_of, sub_of, List.map_cons, List.map_nil, List.length_cons, List.length_nil, List.cons_append, List.nil_append, List.replicate_succ, List.replicate_zero, List.getElem?_cons_zero, List.getElem?_cons_succ, List.set_cons_zero, List.set_cons_succ, Nat.zero_add, Nat.reduceAdd, Nat.reduceSub, tupR_0, tupR_1, tupR_2, tupR_3, tupR_4, tupR_5, lstR_0, lstR_1, lstR_2, lstR_3, lstR_4, lstR_5, lstR_6, lstR_7, lstR_8, lstR_9, lstR_10, lstR_11, lstR_12, isi_int, isi_bl, isi_tup, isi_non, isi_str, fin_bl, fin_int, fin_non, fin_str, finX0, handle_hit, handle_nil, hx_bl, hx_str, hx_int, hx_non, hx_cnt, hx_pass, forR_it, forR_f, forR_t, forR_c, gmg, b1_repr, ne_repr, b2_max, b2_min, set_at0, set_at1, set_at2, set_at3, get_at0, get_at1, get_at2, get_at3, List.append_assoc, List.append_nil, List.length_append, List.length_set, Nat.add_zero, wR_ok, wR_exc, wR_bind, wS_ok, wS_exc, wS_st, wS_seq, wS_turn, wS_onBS, wR_onB, wS_ite, wR_ite, wS_tried, wR_nox, wR_mul, wR_div, wR_mod, ex_aug2, augS_some, wS_augR, wS_saugR, wR_fin, ev_callv2, callvS_fn, bindR_n, bindR_2, bindR_3, bindR_4, hf, h, fin_vd hd, true_and, and_self]
theorem told7_9 (k : Nat) {f : Nat} (hf : hs f = true) {a b : D} (h : (Γ k).call f [a, b] S = .exc ⟨9, []⟩ S) : (Γ (k + 1)).call 228 [.fn f, a, b] S = .ok (.v (.str "zero")) S := by
  refine wR_res ?_
  rw [call_n tab_law_told_7 rfl]
  simp only [fd_law_told_7, ev_int, ev_bl, ev_non, ev_str, ev_var, ev_glob, ev_bin, ev_neg, ev_not, ev_cmp, ev_chain, ev_and, ev_or, ev_ife, ev_tup, ev_lst, ev_ix, ev_sl, ev_omit, ev_slr, ev_call, ev_b1, ev_b2, ev_isi, ev_meth, ev_lc, ev_lcif, ev_rng, ev_enum, ev_zip, ev_rev, evs_n, evs_c, alloc_v, alloc_f, setR_eq, ex_set, ex_tset, ex_sset, ex_saug, ex_ex, ex_ret, ex_retN, ex_ite, ex_whl, ex_for, ex_pass, ex_brk, ex_cnt, ex_raise, ex_try, exs_n, exs_c, tried_ok, tried_exc, rs_ret, rs_nx, rs_exc, R.bind_ok, R.bind_exc, R.bind_bad, R.st_ok, R.st_exc, RS.seq_nx, RS.seq_ret, RS.seq_bk, RS.seq_ct, RS.seq_exc, RS.turn_nx, RS.turn_ct, RS.turn_bk, RS.turn_ret, RS.turn_exc, R.nox_ok, orBad_some, lookV_some, lookD_some, onI_int, onLoc_loc, onB_true, onB_false, onB_dec, onBS_true, onBS_false, onBS_dec, bin_int, cmp_lt, cmp_le, cmp_gt, cmp_ge, cmp_eq, cmp_ne, cmp_isb, cmp_isnb, b1_int, b1_intb, b1_abs, b1_lent, b1_lenc, ix_t, ix_c, atR_def, at0, at1, at2, at3, at4, at5, add_of, sub_of, List.map_cons, List.map_nil, List.length_cons, List.length_nil, List.cons_append, List.nil_append, List.replicate_succ, List.replicate_zero, List.getElem?_cons_zero, List.getElem?_cons_succ, List.set_cons_zero, List.set_cons_succ, Nat.zero_add, Nat.reduceAdd, Nat.reduceSub, tupR_0, tupR_1, tupR_2, tupR_3, tupR_4, tupR_5, lstR_0, lstR_1, lstR_2, lstR_3, lstR_4, lstR_5, lstR_6, lstR_7, lstR_8, lstR_9, lstR_10, lstR_11, lstR_12, isi_int, isi_bl, isi_tup, isi_non, isi_str, fin_bl, fin_int, fin_non, fin_str, finX0, handle_hit, handle_nil, hx_bl, hx_str, hx_int, hx_non, hx_cnt, hx_pass, forR_it, forR_f, forR_t, forR_c, gmg, b1_repr, ne_repr, b2_max, b2_min, set_at0, set_at1, set_at2, set_at3, get_at0, get_at1, get_at2, get_at3, List.append_assoc, List.append_nil, List.length_append, List.length_set, Nat.add_zero, wR_ok, wR_exc, wR_bind, wS_ok, wS_exc, wS_st, wS_seq, wS_turn, wS_onBS, wR_onB, wS_ite, wR_ite, wS_tried, wR_nox, wR_mul, wR_div, wR_mod, ex_aug2, augS_some, wS_augR, wS_saugR, wR_fin, ev_callv2, callvS_fn, bindR_n, bindR_2, bindR_3, bindR_4, hf, h, true_and, and_self]
theorem told7_8 (k : Nat) {f : Nat} (hf : hs f = true) {a b : D} (h : (Γ k).call f [a, b] S = .exc ⟨8, []⟩ S) : (Γ (k + 1)).call 228 [.fn f, a, b] S = .ok (.v (.str "none")) S := by
  refine wR_res ?_
  rw [call_n tab_law_told_7 rfl]
  have h98 : ¬ 9 = 8 := by decide
  simp only [fd_law_told_7, ev_int, ev_bl, ev_non, ev_str, ev_var, ev_glob, ev_bin, ev_neg, ev_not, ev_cmp, ev_chain, ev_and, ev_or, ev_ife, ev_tup, ev_lst, ev_ix, ev_sl, ev_omit, ev_slr, ev_call, ev_b1, ev_b2, ev_isi, ev_meth, ev_lc, ev_lcif, ev_rng, ev_enum, ev_zip, ev_rev, evs_n, evs_c, alloc_v, alloc_f, setR_eq, ex_set, ex_tset, ex_sset, ex_saug, ex_ex, ex_ret, ex_retN, ex_ite, ex_whl, ex_for, ex_pass, ex_brk, ex_cnt, ex_raise, ex_try, exs_n, exs_c, tried_ok, tried_exc, rs_ret, rs_nx, rs_exc, R.bind_ok, R.bind_exc, R.bind_bad, R.st_ok, R.st_exc, RS.seq_nx, RS.seq_ret, RS.seq_bk, RS.seq_ct, RS.seq_exc, RS.turn_nx, RS.turn_ct, RS.turn_bk, RS.turn_ret, RS.turn_exc, R.nox_ok, orBad_some, lookV_some, lookD_some, onI_int, onLoc_loc, onB_true, onB_false, onB_dec, onBS_true, onBS_false, onBS_dec, bin_int, cmp_lt, cmp_le, cmp_gt, cmp_ge, cmp_eq, cmp_ne, cmp_isb, cmp_isnb, b1_int, b1_intb, b1_abs, b1_lent, b1_lenc, ix_t, ix_c, atR_def, at0, at1, at2, at3, at4, at5, add_of, sub_of, List.map_cons, List.map_nil, List.length_cons, List.length_nil, List.cons_append, List.nil_append, List.replicate_succ, List.replicate_zero, List.getElem?_cons_zero, List.getElem?_cons_succ, List.set_cons_zero, List.set_cons_succ, Nat.zero_add, Nat.reduceAdd, Nat.reduceSub, tupR_0, tupR_1, tupR_2, tupR_3, tupR_4, tupR_5, lstR_0, lstR_1, lstR_2, lstR_3, lstR_4, lstR_5, lstR_6, lstR_7, lstR_8, lstR_9, lstR_10, lstR_11, lstR_12, isi_int, isi_bl, isi_tup, isi_non, isi_str, fin_bl, fin_int, fin_non, fin_str, finX0, handle_hit, handle_nil, hx_bl, hx_str, hx_int, hx_non, hx_cnt, hx_pass, forR_it, forR_f, forR_t, forR_c, gmg, b1_repr, ne_repr, b2_max, b2_min, set_at0, set_at1, set_at2, set_at3, get_at0, get_at1, get_at2, get_at3, List.append_assoc, List.append_nil, List.length_append, List.length_set, Nat.add_zero, wR_ok, wR_exc, wR_bind, wS_ok, wS_exc, wS_st, wS_seq, wS_turn, wS_onBS, wR_onB, wS_ite, wR_ite, wS_tried, wR_nox, wR_mul, wR_div, wR_mod, ex_aug2, augS_some, wS_augR, wS_saugR, wR_fin, ev_callv2, callvS_fn, bindR_n, bindR_2, bindR_3, bindR_4, hf, h, handle_miss (c := 9) (x := 8) h98, true_and, and_self]
theorem divided0 (k : Nat) {p : List Int} : (Γ (k + 1)).call 225 [pD p, .tup []] S = .exc ⟨9, []⟩ S := by
  refine wR_resX ?_
  rw [call_n tab_divided rfl]
  have e := eq_tn (S := S) []
  have e : cmpW .Eq (.v (.tup [])) (.v (.tup [])) S = .ok (.v (.bl true)) S := e
  simp only [fd_divided, ev_int, ev_bl, ev_non, ev_str, ev_var, ev_glob, ev_bin, ev_neg, ev_not, ev_cmp, ev_chain, ev_and, ev_or, ev_ife, ev_tup, ev_lst, ev_ix, ev_sl, ev_omit, ev_slr, ev_call, ev_b1, ev_b2, ev_isi, ev_meth, ev_lc, ev_lcif, ev_rng, ev_enum, ev_zip, ev_rev, evs_n, evs_c, alloc_v, alloc_f, setR_eq, ex_set, ex_tset, ex_sset, ex_saug, ex_ex, ex_ret, ex_retN, ex_ite, ex_whl, ex_for, ex_pass, ex_brk, ex_cnt, ex_raise, ex_try, exs_n, exs_c, tried_ok, tried_exc, rs_ret, rs_nx, rs_exc, R.bind_ok, R.bind_exc, R.bind_bad, R.st_ok, R.st_exc, RS.seq_nx, RS.seq_ret, RS.seq_bk, RS.seq_ct, RS.seq_exc, RS.turn_nx, RS.turn_ct, RS.turn_bk, RS.turn_ret, RS.turn_exc, R.nox_ok, orBad_some, lookV_some, lookD_some, onI_int, onLoc_loc, onB_true, onB_false, onB_dec, onBS_true, onBS_false, onBS_dec, bin_int, cmp_lt, cmp_le, cmp_gt, cmp_ge, cmp_eq, cmp_ne, cmp_isb, cmp_isnb, b1_int, b1_intb, b1_abs, b1_lent, b1_lenc, ix_t, ix_c, atR_def, at0, at1, at2, at3, at4, at5, add_of, sub_of, List.map_cons, List.map_nil, List.length_cons, List.length_nil, List.cons_append, List.nil_append, List.replicate_succ, List.replicate_zero, List.getElem?_cons_zero, List.getElem?_cons_succ, List.set_cons_zero, List.set_cons_succ, Nat.zero_add, Nat.reduceAdd, Nat.reduceSub, tupR_0, tupR_1, tupR_2, tupR_3, tupR_4, tupR_5, lstR_0, lstR_1, lstR_2, lstR_3, lstR_4, lstR_5, lstR_6, lstR_7, lstR_8, lstR_9, lstR_10, lstR_11, lstR_12, isi_int, isi_bl, isi_tup, isi_non, isi_str, fin_bl, fin_int, fin_non, fin_str, finX0, handle_hit, handle_nil, hx_bl, hx_str, hx_int, hx_non, hx_cnt, hx_pass, forR_it, forR_f, forR_t, forR_c, gmg, b1_repr, ne_repr, b2_max, b2_min, set_at0, set_at1, set_at2, set_at3, get_at0, get_at1, get_at2, get_at3, List.append_assoc, List.append_nil, List.length_append, List.length_set, Nat.add_zero, wR_ok, wR_exc, wR_bind, wS_ok, wS_exc, wS_st, wS_seq, wS_turn, wS_onBS, wR_onB, wS_ite, wR_ite, wS_tried, wR_nox, wR_mul, wR_div, wR_mod, ex_aug2, augS_some, wS_augR, wS_saugR, wR_fin, ev_callv2, callvS_fn, bindR_n, bindR_2, bindR_3, bindR_4, e, if_true, true_and, and_self]
theorem exactly0 (k : Nat) {p : List Int} : (Γ (k + 1)).call 226 [pD p, .tup []] S = .exc ⟨9, []⟩ S := by
  refine wR_resX ?_
  rw [call_n tab_exactly rfl]
  have e := eq_tn (S := S) []
  have e : cmpW .Eq (.v (.tup [])) (.v (.tup [])) S = .ok (.v (.bl true)) S := e
  simp only [fd_exactly, ev_int, ev_bl, ev_non, ev_str, ev_var, ev_glob, ev_bin, ev_neg, ev_not, ev_cmp, ev_chain, ev_and, ev_or, ev_ife, ev_tup, ev_lst, ev_ix, ev_sl, ev_omit, ev_slr, ev_call, ev_b1, ev_b2, ev_isi, ev_meth, ev_lc, ev_lcif, ev_rng, ev_enum, ev_zip, ev_rev, evs_n, evs_c, alloc_v, alloc_f, setR_eq, ex_set, ex_tset, ex_sset, ex_saug, ex_ex, ex_ret, ex_retN, ex_ite, ex_whl, ex_for, ex_pass, ex_brk, ex_cnt, ex_raise, ex_try, exs_n, exs_c, tried_ok, tried_exc, rs_ret, rs_nx, rs_exc, R.bind_ok, R.bind_exc, R.bind_bad, R.st_ok, R.st_exc, RS.seq_nx, RS.seq_ret, RS.seq_bk, RS.seq_ct, RS.seq_exc, RS.turn_nx, RS.turn_ct, RS.turn_bk, RS.turn_ret, RS.turn_exc, R.nox_ok, orBad_some, lookV_some, lookD_some, onI_int, onLoc_loc, onB_true, onB_false, onB_dec, onBS_true, onBS_false, onBS_dec, bin_int, cmp_lt, cmp_le, cmp_gt, cmp_ge, cmp_eq, cmp_ne, cmp_isb, cmp_isnb, b1_int, b1_intb, b1_abs, b1_lent, b1_lenc, ix_t, ix_c, atR_def, at0, at1, at2, at3, at4, at5, add_of, sub_of, List.map_cons, List.map_nil, List.length_cons, List.length_nil, List.cons_append, List.nil_append, List.replicate_succ, List.replicate_zero, List.getElem?_cons_zero, List.getElem?_cons_succ, List.set_cons_zero, List.set_cons_succ, Nat.zero_add, Nat.reduceAdd, Nat.reduceSub, tupR_0, tupR_1, tupR_2, tupR_3, tupR_4, tupR_5, lstR_0, lstR_1, lstR_2, lstR_3, lstR_4, lstR_5, lstR_6, lstR_7, lstR_8, lstR_9, lstR_10, lstR_11, lstR_12, isi_int, isi_bl, isi_tup, isi_non, isi_str, fin_bl, fin_int, fin_non, fin_str, finX0, handle_hit, handle_nil, hx_bl, hx_str, hx_int, hx_non, hx_cnt, hx_pass, forR_it, forR_f, forR_t, forR_c, gmg, b1_repr, ne_repr, b2_max, b2_min, set_at0, set_at1, set_at2, set_at3, get_at0, get_at1, get_at2, get_at3, List.append_assoc, List.append_nil, List.length_append, List.length_set, Nat.add_zero, wR_ok, wR_exc, wR_bind, wS_ok, wS_exc, wS_st, wS_seq, wS_turn, wS_onBS, wR_onB, wS_ite, wR_ite, wS_tried, wR_nox, wR_mul, wR_div, wR_mod, ex_aug2, augS_some, wS_augR, wS_saugR, wR_fin, ev_callv2, callvS_fn, bindR_n, bindR_2, bindR_3, bindR_4, e, if_true, true_and, and_self]
theorem due_loop (k : Nat) {q : List Int} {m : Nat} (nq : q ≠ []) (aq : AB m q) {v0 v1 v2 v3 v4 v6 v7 v8 v11 v12 v13 : Option D} : ∀ (xs : List D) (i : Nat) (o : Option D), i * m + 1 + m + xs.length * m < 1000000 →
    ∃ o', frs (Γ k) [] (.name 10) fd_law_12_l2 xs [v0, v1, v2, v3, v4, some (pD q), v6, v7, v8, some (.int (((lead q).natAbs : Int) ^ i)), o, v11, v12, v13] S = .ok .nx [v0, v1, v2, v3, v4, some (pD q), v6, v7, v8, some (.int (((lead q).natAbs : Int) ^ (i + xs.length))), o', v11, v12, v13] S
  | [], i, o, _ => ⟨o, frs_nil noSrc⟩
  | x :: xs, i, o, h => by
    have e1 : (xs.length + 1) * m = xs.length * m + m := Nat.succ_mul ..
    have e2 : (i + 1) * m = i * m + m := Nat.succ_mul ..
    simp only [List.length_cons] at h
    have bl : Bd m ((lead q).natAbs : Int) := by have := lead_bd aq; unfold Bd at this ⊢; rw [Int.natAbs_natCast]; exact this
    have m1 := mul_of (Bd.pow bl i) bl (by omega)
    have hx : execs (Γ k) fd_law_12_l2 [v0, v1, v2, v3, v4, some (pD q), v6, v7, v8, some (.int (((lead q).natAbs : Int) ^ i)), some x, v11, v12, v13] S = .ok .nx [v0, v1, v2, v3, v4, some (pD q), v6, v7, v8, some (.int (((lead q).natAbs : Int) ^ (i + 1))), some x, v11, v12, v13] S := by
      simp only [fd_law_12_l2, ev_int, ev_bl, ev_non, ev_str, ev_var, ev_glob, ev_bin, ev_neg, ev_not, ev_cmp, ev_chain, ev_and, ev_or, ev_ife, ev_tup, ev_lst, ev_ix, ev_sl, ev_omit, ev_slr, ev_call, ev_b1, ev_b2, ev_isi, ev_meth, ev_lc, ev_lcif, ev_rng, ev_enum, ev_zip, ev_rev, evs_n, evs_c, alloc_v, alloc_f, setR_eq, ex_set, ex_tset, ex_sset, ex_saug, ex_ex, ex_ret, ex_retN, ex_ite, ex_whl, ex_for, ex_pass, ex_brk, ex_cnt, ex_raise, ex_try, exs_n, exs_c, tried_ok, tried_exc, rs_ret, rs_nx, rs_exc, R.bind_ok, R.bind_exc, R.bind_bad, R.st_ok, R.st_exc, RS.seq_nx, RS.seq_ret, RS.seq_bk, RS.seq_ct, RS.seq_exc, RS.turn_nx, RS.turn_ct, RS.turn_bk, RS.turn_ret, RS.turn_exc, R.nox_ok, orBad_some, lookV_some, lookD_some, onI_int, onLoc_loc, onB_true, onB_false, onB_dec, onBS_true, onBS_false, onBS_dec, bin_int, cmp_lt, cmp_le, cmp_gt, cmp_ge, cmp_eq, cmp_ne, cmp_isb, cmp_isnb, b1_int, b1_intb, b1_abs, b1_lent, b1_lenc, ix_t, ix_c, atR_def, at0, at1, at2, at3, at4, at5, add_of, sub_of, List.map_cons, List.map_nil, List.length_cons, List.length_nil, List.cons_append, List.nil_append, List.replicate_succ, List.replicate_zero, List.getElem?_cons_zero, List.getElem?_cons_succ, List.set_cons_zero, List.set_cons_succ, Nat.zero_add, Nat.reduceAdd, Nat.reduceSub, tupR_0, tupR_1, tupR_2, tupR_3, tupR_4, tupR_5, lstR_0, lstR_1, lstR_2, lstR_3, lstR_4, lstR_5, lstR_6, lstR_7, lstR_8, lstR_9, lstR_10, lstR_11, lstR_12, isi_int, isi_bl, isi_tup, isi_non, isi_str, fin_bl, fin_int, fin_non, fin_str, finX0, handle_hit, handle_nil, hx_bl, hx_str, hx_int, hx_non, hx_cnt, hx_pass, forR_it, forR_f, forR_t, forR_c, gmg, b1_repr, ne_repr, b2_max, b2_min, set_at0, set_at1, set_at2, set_at3, get_at0, get_at1, get_at2, get_at3, List.append_assoc, List.append_nil, List.length_append, List.length_set, Nat.add_zero, last_ne nq, m1]
      rw [Int.pow_succ]
    obtain ⟨o', e⟩ := due_loop k nq aq xs (i + 1) (some x) (by omega)
    exact ⟨o', by rw [frs_nx noSrc rfl hx, e, List.length_cons, show i + 1 + xs.length = i + (xs.length + 1) by omega]⟩
end
end Py

namespace Py
open PySem
section
variable {S : Sto} {v2 v3 v4 v5 v6 v7 v8 v9 v10 v11 v12 v13 : Option D}
theorem k11_body (k : Nat) {ns : List Int} (hb : ∀ z ∈ ns, z.natAbs < 2 ^ cellBits) {c : Nat} (hc : c < 1000) :
    wS (execs (Γ (k + 6)) fd_law_12_l1 [some (.cl (ns.map D.int)), some (.int c), v2, v3, v4, v5, v6, v7, v8, v9, v10, v11, v12, v13] S) (fun fl e T => (fl = .nx ∨ fl = .ct) ∧ ∃ w1 w2 w3 w4 w5 w6 w7 w8 w9 w10 w11 w12 w13, e = [some (.cl (ns.map D.int)), w1, w2, w3, w4, w5, w6, w7, w8, w9, w10, w11, w12, w13]) (fun _ _ _ => False) := by
  have p6 : intOp .Pow 10 6 = some (10 ^ 6) := rfl
  have p12 : intOp .Pow 10 12 = some (10 ^ 12) := rfl
  have h0 : hs 225 = true := rfl
  have h1 : hs 226 = true := rfl
  rw [ex_seal, fd_law_12_l1, wS_step]
  simp only [ev_int, ev_bl, ev_non, ev_str, ev_var, ev_glob, ev_bin, ev_neg, ev_not, ev_cmp, ev_chain, ev_and, ev_or, ev_ife, ev_tup, ev_lst, ev_ix, ev_sl, ev_omit, ev_slr, ev_call, ev_b1, ev_b2, ev_isi, ev_meth, ev_lc, ev_lcif, ev_rng, ev_enum, ev_zip, ev_rev, evs_n, evs_c, alloc_v, alloc_f, setR_eq, ex_set, ex_tset, ex_sset, ex_saug, ex_ex, ex_ret, ex_retN, ex_ite, ex_whl, ex_for, ex_pass, ex_brk, ex_cnt, ex_raise, ex_try, exs_n, exs_c, tried_ok, tried_exc, rs_ret, rs_nx, rs_exc, R.bind_ok, R.bind_exc, R.bind_bad, R.st_ok, R.st_exc, RS.seq_nx, RS.seq_ret, RS.seq_bk, RS.seq_ct, RS.seq_exc, RS.turn_nx, RS.turn_ct, RS.turn_bk, RS.turn_ret, RS.turn_exc, R.nox_ok, orBad_some, lookV_some, lookD_some, onI_int, onLoc_loc, onB_true, onB_false, onB_dec, onBS_true, onBS_false, onBS_dec, bin_int, cmp_lt, cmp_le, cmp_gt, cmp_ge, cmp_eq, cmp_ne, cmp_isb, cmp_isnb, b1_int, b1_intb, b1_abs, b1_lent, b1_lenc, ix_t, ix_c, atR_def, at0, at1, at2, at3, at4, at5, add_of, sub_of, List.map_cons, List.map_nil, List.length_cons, List.length_nil, List.cons_append, List.nil_append, List.replicate_succ, List.replicate_zero, List.getElem?_cons_zero, List.getElem?_cons_succ, List.set_cons_zero, List.set_cons_succ, Nat.zero_add, Nat.reduceAdd, Nat.reduceSub, tupR_0, tupR_1, tupR_2, tupR_3, tupR_4, tupR_5, lstR_0, lstR_1, lstR_2, lstR_3, lstR_4, lstR_5, lstR_6, lstR_7, lstR_8, lstR_9, lstR_10, lstR_11, lstR_12, isi_int, isi_bl, isi_tup, isi_non, isi_str, fin_bl, fin_int, fin_non, fin_str, finX0, handle_hit, handle_nil, hx_bl, hx_str, hx_int, hx_non, hx_cnt, hx_pass, forR_it, forR_f, forR_t, forR_c, gmg, b1_repr, ne_repr, b2_max, b2_min, set_at0, set_at1, set_at2, set_at3, get_at0, get_at1, get_at2, get_at3, List.append_assoc, List.append_nil, List.length_append, List.length_set, Nat.add_zero, wR_ok, wR_exc, wR_bind, wS_ok, wS_exc, wS_st, wS_seq, wS_turn, wS_onBS, wR_onB, wS_ite, wR_ite, wS_tried, wR_nox, wR_mul, wR_div, wR_mod, ex_aug2, augS_some, wS_augR, wS_saugR, wR_fin, ev_callv2, callvS_fn, bindR_n, bindR_2, bindR_3, bindR_4]
  refine wr_1 (sp_bag_11 (k + 5) hb hc) fun g0 ok0 => ?_
  simp only [ev_int, ev_bl, ev_non, ev_str, ev_var, ev_glob, ev_bin, ev_neg, ev_not, ev_cmp, ev_chain, ev_and, ev_or, ev_ife, ev_tup, ev_lst, ev_ix, ev_sl, ev_omit, ev_slr, ev_call, ev_b1, ev_b2, ev_isi, ev_meth, ev_lc, ev_lcif, ev_rng, ev_enum, ev_zip, ev_rev, evs_n, evs_c, alloc_v, alloc_f, setR_eq, ex_set, ex_tset, ex_sset, ex_saug, ex_ex, ex_ret, ex_retN, ex_ite, ex_whl, ex_for, ex_pass, ex_brk, ex_cnt, ex_raise, ex_try, exs_n, exs_c, tried_ok, tried_exc, rs_ret, rs_nx, rs_exc, R.bind_ok, R.bind_exc, R.bind_bad, R.st_ok, R.st_exc, RS.seq_nx, RS.seq_ret, RS.seq_bk, RS.seq_ct, RS.seq_exc, RS.turn_nx, RS.turn_ct, RS.turn_bk, RS.turn_ret, RS.turn_exc, R.nox_ok, orBad_some, lookV_some, lookD_some, onI_int, onLoc_loc, onB_true, onB_false, onB_dec, onBS_true, onBS_false, onBS_dec, bin_int, cmp_lt, cmp_le, cmp_gt, cmp_ge, cmp_eq, cmp_ne, cmp_isb, cmp_isnb, b1_int, b1_intb, b1_abs, b1_lent, b1_lenc, ix_t, ix_c, atR_def, at0, at1, at2, at3, at4, at5, add_of, sub_of, List.map_cons, List.map_nil, List.length_cons, List.length_nil, List.cons_append, List.nil_append, List.replicate_succ, List.replicate_zero, List.getElem?_cons_zero, List.getElem?_cons_succ, List.set_cons_zero, List.set_cons_succ, Nat.zero_add, Nat.reduceAdd, Nat.reduceSub, tupR_0, tupR_1, tupR_2, tupR_3, tupR_4, tupR_5, lstR_0, lstR_1, lstR_2, lstR_3, lstR_4, lstR_5, lstR_6, lstR_7, lstR_8, lstR_9, lstR_10, lstR_11, lstR_12, isi_int, isi_bl, isi_tup, isi_non, isi_str, fin_bl, fin_int, fin_non, fin_str, finX0, handle_hit, handle_nil, hx_bl, hx_str, hx_int, hx_non, hx_cnt, hx_pass, forR_it, forR_f, forR_t, forR_c, gmg, b1_repr, ne_repr, b2_max, b2_min, set_at0, set_at1, set_at2, set_at3, get_at0, get_at1, get_at2, get_at3, List.append_assoc, List.append_nil, List.length_append, List.length_set, Nat.add_zero, wR_ok, wR_exc, wR_bind, wS_ok, wS_exc, wS_st, wS_seq, wS_turn, wS_onBS, wR_onB, wS_ite, wR_ite, wS_tried, wR_nox, wR_mul, wR_div, wR_mod, ex_aug2, augS_some, wS_augR, wS_saugR, wR_fin, ev_callv2, callvS_fn, bindR_n, bindR_2, bindR_3, bindR_4]
  generalize hC : D.cl (ns.map D.int) = C
  have hT0 : (S ++ [.lst [.int g0.a, .int g0.b, .int g0.c, .int g0.d]])[S.length]? = some g0.o := get_at0
  generalize S ++ [O.lst [.int g0.a, .int g0.b, .int g0.c, .int g0.d]] = T0 at hT0
  generalize S.length = n at hT0
  rw [wS_step]
  simp only [ev_int, ev_bl, ev_non, ev_str, ev_var, ev_glob, ev_bin, ev_neg, ev_not, ev_cmp, ev_chain, ev_and, ev_or, ev_ife, ev_tup, ev_lst, ev_ix, ev_sl, ev_omit, ev_slr, ev_call, ev_b1, ev_b2, ev_isi, ev_meth, ev_lc, ev_lcif, ev_rng, ev_enum, ev_zip, ev_rev, evs_n, evs_c, alloc_v, alloc_f, setR_eq, ex_set, ex_tset, ex_sset, ex_saug, ex_ex, ex_ret, ex_retN, ex_ite, ex_whl, ex_for, ex_pass, ex_brk, ex_cnt, ex_raise, ex_try, exs_n, exs_c, tried_ok, tried_exc, rs_ret, rs_nx, rs_exc, R.bind_ok, R.bind_exc, R.bind_bad, R.st_ok, R.st_exc, RS.seq_nx, RS.seq_ret, RS.seq_bk, RS.seq_ct, RS.seq_exc, RS.turn_nx, RS.turn_ct, RS.turn_bk, RS.turn_ret, RS.turn_exc, R.nox_ok, orBad_some, lookV_some, lookD_some, onI_int, onLoc_loc, onB_true, onB_false, onB_dec, onBS_true, onBS_false, onBS_dec, bin_int, cmp_lt, cmp_le, cmp_gt, cmp_ge, cmp_eq, cmp_ne, cmp_isb, cmp_isnb, b1_int, b1_intb, b1_abs, b1_lent, b1_lenc, ix_t, ix_c, atR_def, at0, at1, at2, at3, at4, at5, add_of, sub_of, List.map_cons, List.map_nil, List.length_cons, List.length_nil, List.cons_append, List.nil_append, List.replicate_succ, List.replicate_zero, List.getElem?_cons_zero, List.getElem?_cons_succ, List.set_cons_zero, List.set_cons_succ, Nat.zero_add, Nat.reduceAdd, Nat.reduceSub, tupR_0, tupR_1, tupR_2, tupR_3, tupR_4, tupR_5, lstR_0, lstR_1, lstR_2, lstR_3, lstR_4, lstR_5, lstR_6, lstR_7, lstR_8, lstR_9, lstR_10, lstR_11, lstR_12, isi_int, isi_bl, isi_tup, isi_non, isi_str, fin_bl, fin_int, fin_non, fin_str, finX0, handle_hit, handle_nil, hx_bl, hx_str, hx_int, hx_non, hx_cnt, hx_pass, forR_it, forR_f, forR_t, forR_c, gmg, b1_repr, ne_repr, b2_max, b2_min, set_at0, set_at1, set_at2, set_at3, get_at0, get_at1, get_at2, get_at3, List.append_assoc, List.append_nil, List.length_append, List.length_set, Nat.add_zero, wR_ok, wR_exc, wR_bind, wS_ok, wS_exc, wS_st, wS_seq, wS_turn, wS_onBS, wR_onB, wS_ite, wR_ite, wS_tried, wR_nox, wR_mul, wR_div, wR_mod, ex_aug2, augS_some, wS_augR, wS_saugR, wR_fin, ev_callv2, callvS_fn, bindR_n, bindR_2, bindR_3, bindR_4, p6, p12]
  refine wr_oneN ok0 (by decide) hT0 [2, 9, 10 ^ 6, 10 ^ 12] rfl (by decide) (by decide) fun size g1 T1 hsz B1 => ?_
  have hs0 : 1 ≤ size ∧ Bd 200 size := by
    simp only [List.mem_cons, List.not_mem_nil, or_false] at hsz
    unfold Bd
    rcases hsz with h | h | h | h <;> (rw [h]; decide)
  simp only [ev_int, ev_bl, ev_non, ev_str, ev_var, ev_glob, ev_bin, ev_neg, ev_not, ev_cmp, ev_chain, ev_and, ev_or, ev_ife, ev_tup, ev_lst, ev_ix, ev_sl, ev_omit, ev_slr, ev_call, ev_b1, ev_b2, ev_isi, ev_meth, ev_lc, ev_lcif, ev_rng, ev_enum, ev_zip, ev_rev, evs_n, evs_c, alloc_v, alloc_f, setR_eq, ex_set, ex_tset, ex_sset, ex_saug, ex_ex, ex_ret, ex_retN, ex_ite, ex_whl, ex_for, ex_pass, ex_brk, ex_cnt, ex_raise, ex_try, exs_n, exs_c, tried_ok, tried_exc, rs_ret, rs_nx, rs_exc, R.bind_ok, R.bind_exc, R.bind_bad, R.st_ok, R.st_exc, RS.seq_nx, RS.seq_ret, RS.seq_bk, RS.seq_ct, RS.seq_exc, RS.turn_nx, RS.turn_ct, RS.turn_bk, RS.turn_ret, RS.turn_exc, R.nox_ok, orBad_some, lookV_some, lookD_some, onI_int, onLoc_loc, onB_true, onB_false, onB_dec, onBS_true, onBS_false, onBS_dec, bin_int, cmp_lt, cmp_le, cmp_gt, cmp_ge, cmp_eq, cmp_ne, cmp_isb, cmp_isnb, b1_int, b1_intb, b1_abs, b1_lent, b1_lenc, ix_t, ix_c, atR_def, at0, at1, at2, at3, at4, at5, add_of, sub_of, List.map_cons, List.map_nil, List.length_cons, List.length_nil, List.cons_append, List.nil_append, List.replicate_succ, List.replicate_zero, List.getElem?_cons_zero, List.getElem?_cons_succ, List.set_cons_zero, List.set_cons_succ, Nat.zero_add, Nat.reduceAdd, Nat.reduceSub, tupR_0, tupR_1, tupR_2, tupR_3, tupR_4, tupR_5, lstR_0, lstR_1, lstR_2, lstR_3, lstR_4, lstR_5, lstR_6, lstR_7, lstR_8, lstR_9, lstR_10, lstR_11, lstR_12, isi_int, isi_bl, isi_tup, isi_non, isi_str, fin_bl, fin_int, fin_non, fin_str, finX0, handle_hit, handle_nil, hx_bl, hx_str, hx_int, hx_non, hx_cnt, hx_pass, forR_it, forR_f, forR_t, forR_c, gmg, b1_repr, ne_repr, b2_max, b2_min, set_at0, set_at1, set_at2, set_at3, get_at0, get_at1, get_at2, get_at3, List.append_assoc, List.append_nil, List.length_append, List.length_set, Nat.add_zero, wR_ok, wR_exc, wR_bind, wS_ok, wS_exc, wS_st, wS_seq, wS_turn, wS_onBS, wR_onB, wS_ite, wR_ite, wS_tried, wR_nox, wR_mul, wR_div, wR_mod, ex_aug2, augS_some, wS_augR, wS_saugR, wR_fin, ev_callv2, callvS_fn, bindR_n, bindR_2, bindR_3, bindR_4]
  rw [wS_step]
  simp only [ev_int, ev_bl, ev_non, ev_str, ev_var, ev_glob, ev_bin, ev_neg, ev_not, ev_cmp, ev_chain, ev_and, ev_or, ev_ife, ev_tup, ev_lst, ev_ix, ev_sl, ev_omit, ev_slr, ev_call, ev_b1, ev_b2, ev_isi, ev_meth, ev_lc, ev_lcif, ev_rng, ev_enum, ev_zip, ev_rev, evs_n, evs_c, alloc_v, alloc_f, setR_eq, ex_set, ex_tset, ex_sset, ex_saug, ex_ex, ex_ret, ex_retN, ex_ite, ex_whl, ex_for, ex_pass, ex_brk, ex_cnt, ex_raise, ex_try, exs_n, exs_c, tried_ok, tried_exc, rs_ret, rs_nx, rs_exc, R.bind_ok, R.bind_exc, R.bind_bad, R.st_ok, R.st_exc, RS.seq_nx, RS.seq_ret, RS.seq_bk, RS.seq_ct, RS.seq_exc, RS.turn_nx, RS.turn_ct, RS.turn_bk, RS.turn_ret, RS.turn_exc, R.nox_ok, orBad_some, lookV_some, lookD_some, onI_int, onLoc_loc, onB_true, onB_false, onB_dec, onBS_true, onBS_false, onBS_dec, bin_int, cmp_lt, cmp_le, cmp_gt, cmp_ge, cmp_eq, cmp_ne, cmp_isb, cmp_isnb, b1_int, b1_intb, b1_abs, b1_lent, b1_lenc, ix_t, ix_c, atR_def, at0, at1, at2, at3, at4, at5, add_of, sub_of, List.map_cons, List.map_nil, List.length_cons, List.length_nil, List.cons_append, List.nil_append, List.replicate_succ, List.replicate_zero, List.getElem?_cons_zero, List.getElem?_cons_succ, List.set_cons_zero, List.set_cons_succ, Nat.zero_add, Nat.reduceAdd, Nat.reduceSub, tupR_0, tupR_1, tupR_2, tupR_3, tupR_4, tupR_5, lstR_0, lstR_1, lstR_2, lstR_3, lstR_4, lstR_5, lstR_6, lstR_7, lstR_8, lstR_9, lstR_10, lstR_11, lstR_12, isi_int, isi_bl, isi_tup, isi_non, isi_str, fin_bl, fin_int, fin_non, fin_str, finX0, handle_hit, handle_nil, hx_bl, hx_str, hx_int, hx_non, hx_cnt, hx_pass, forR_it, forR_f, forR_t, forR_c, gmg, b1_repr, ne_repr, b2_max, b2_min, set_at0, set_at1, set_at2, set_at3, get_at0, get_at1, get_at2, get_at3, List.append_assoc, List.append_nil, List.length_append, List.length_set, Nat.add_zero, wR_ok, wR_exc, wR_bind, wS_ok, wS_exc, wS_st, wS_seq, wS_turn, wS_onBS, wR_onB, wS_ite, wR_ite, wS_tried, wR_nox, wR_mul, wR_div, wR_mod, ex_aug2, augS_some, wS_augR, wS_saugR, wR_fin, ev_callv2, callvS_fn, bindR_n, bindR_2, bindR_3, bindR_4]
  refine wr_lpoly (most := 8) B1.ok B1.at_ (by decide) hs0.1 hs0.2 (by decide) fun p g2 T2 tp lp ap B2 => ?_
  simp only [ev_int, ev_bl, ev_non, ev_str, ev_var, ev_glob, ev_bin, ev_neg, ev_not, ev_cmp, ev_chain, ev_and, ev_or, ev_ife, ev_tup, ev_lst, ev_ix, ev_sl, ev_omit, ev_slr, ev_call, ev_b1, ev_b2, ev_isi, ev_meth, ev_lc, ev_lcif, ev_rng, ev_enum, ev_zip, ev_rev, evs_n, evs_c, alloc_v, alloc_f, setR_eq, ex_set, ex_tset, ex_sset, ex_saug, ex_ex, ex_ret, ex_retN, ex_ite, ex_whl, ex_for, ex_pass, ex_brk, ex_cnt, ex_raise, ex_try, exs_n, exs_c, tried_ok, tried_exc, rs_ret, rs_nx, rs_exc, R.bind_ok, R.bind_exc, R.bind_bad, R.st_ok, R.st_exc, RS.seq_nx, RS.seq_ret, RS.seq_bk, RS.seq_ct, RS.seq_exc, RS.turn_nx, RS.turn_ct, RS.turn_bk, RS.turn_ret, RS.turn_exc, R.nox_ok, orBad_some, lookV_some, lookD_some, onI_int, onLoc_loc, onB_true, onB_false, onB_dec, onBS_true, onBS_false, onBS_dec, bin_int, cmp_lt, cmp_le, cmp_gt, cmp_ge, cmp_eq, cmp_ne, cmp_isb, cmp_isnb, b1_int, b1_intb, b1_abs, b1_lent, b1_lenc, ix_t, ix_c, atR_def, at0, at1, at2, at3, at4, at5, add_of, sub_of, List.map_cons, List.map_nil, List.length_cons, List.length_nil, List.cons_append, List.nil_append, List.replicate_succ, List.replicate_zero, List.getElem?_cons_zero, List.getElem?_cons_succ, List.set_cons_zero, List.set_cons_succ, Nat.zero_add, Nat.reduceAdd, Nat.reduceSub, tupR_0, tupR_1, tupR_2, tupR_3, tupR_4, tupR_5, lstR_0, lstR_1, lstR_2, lstR_3, lstR_4, lstR_5, lstR_6, lstR_7, lstR_8, lstR_9, lstR_10, lstR_11, lstR_12, isi_int, isi_bl, isi_tup, isi_non, isi_str, fin_bl, fin_int, fin_non, fin_str, finX0, handle_hit, handle_nil, hx_bl, hx_str, hx_int, hx_non, hx_cnt, hx_pass, forR_it, forR_f, forR_t, forR_c, gmg, b1_repr, ne_repr, b2_max, b2_min, set_at0, set_at1, set_at2, set_at3, get_at0, get_at1, get_at2, get_at3, List.append_assoc, List.append_nil, List.length_append, List.length_set, Nat.add_zero, wR_ok, wR_exc, wR_bind, wS_ok, wS_exc, wS_st, wS_seq, wS_turn, wS_onBS, wR_onB, wS_ite, wR_ite, wS_tried, wR_nox, wR_mul, wR_div, wR_mod, ex_aug2, augS_some, wS_augR, wS_saugR, wR_fin, ev_callv2, callvS_fn, bindR_n, bindR_2, bindR_3, bindR_4]
  rw [wS_step]
  simp only [ev_int, ev_bl, ev_non, ev_str, ev_var, ev_glob, ev_bin, ev_neg, ev_not, ev_cmp, ev_chain, ev_and, ev_or, ev_ife, ev_tup, ev_lst, ev_ix, ev_sl, ev_omit, ev_slr, ev_call, ev_b1, ev_b2, ev_isi, ev_meth, ev_lc, ev_lcif, ev_rng, ev_enum, ev_zip, ev_rev, evs_n, evs_c, alloc_v, alloc_f, setR_eq, ex_set, ex_tset, ex_sset, ex_saug, ex_ex, ex_ret, ex_retN, ex_ite, ex_whl, ex_for, ex_pass, ex_brk, ex_cnt, ex_raise, ex_try, exs_n, exs_c, tried_ok, tried_exc, rs_ret, rs_nx, rs_exc, R.bind_ok, R.bind_exc, R.bind_bad, R.st_ok, R.st_exc, RS.seq_nx, RS.seq_ret, RS.seq_bk, RS.seq_ct, RS.seq_exc, RS.turn_nx, RS.turn_ct, RS.turn_bk, RS.turn_ret, RS.turn_exc, R.nox_ok, orBad_some, lookV_some, lookD_some, onI_int, onLoc_loc, onB_true, onB_false, onB_dec, onBS_true, onBS_false, onBS_dec, bin_int, cmp_lt, cmp_le, cmp_gt, cmp_ge, cmp_eq, cmp_ne, cmp_isb, cmp_isnb, b1_int, b1_intb, b1_abs, b1_lent, b1_lenc, ix_t, ix_c, atR_def, at0, at1, at2, at3, at4, at5, add_of, sub_of, List.map_cons, List.map_nil, List.length_cons, List.length_nil, List.cons_append, List.nil_append, List.replicate_succ, List.replicate_zero, List.getElem?_cons_zero, List.getElem?_cons_succ, List.set_cons_zero, List.set_cons_succ, Nat.zero_add, Nat.reduceAdd, Nat.reduceSub, tupR_0, tupR_1, tupR_2, tupR_3, tupR_4, tupR_5, lstR_0, lstR_1, lstR_2, lstR_3, lstR_4, lstR_5, lstR_6, lstR_7, lstR_8, lstR_9, lstR_10, lstR_11, lstR_12, isi_int, isi_bl, isi_tup, isi_non, isi_str, fin_bl, fin_int, fin_non, fin_str, finX0, handle_hit, handle_nil, hx_bl, hx_str, hx_int, hx_non, hx_cnt, hx_pass, forR_it, forR_f, forR_t, forR_c, gmg, b1_repr, ne_repr, b2_max, b2_min, set_at0, set_at1, set_at2, set_at3, get_at0, get_at1, get_at2, get_at3, List.append_assoc, List.append_nil, List.length_append, List.length_set, Nat.add_zero, wR_ok, wR_exc, wR_bind, wS_ok, wS_exc, wS_st, wS_seq, wS_turn, wS_onBS, wR_onB, wS_ite, wR_ite, wS_tried, wR_nox, wR_mul, wR_div, wR_mod, ex_aug2, augS_some, wS_augR, wS_saugR, wR_fin, ev_callv2, callvS_fn, bindR_n, bindR_2, bindR_3, bindR_4]
  refine wr_lpoly (most := 5) B2.ok B2.at_ (by decide) hs0.1 hs0.2 (by decide) fun q g3 T3 tq lq aq B3 => ?_
  simp only [ev_int, ev_bl, ev_non, ev_str, ev_var, ev_glob, ev_bin, ev_neg, ev_not, ev_cmp, ev_chain, ev_and, ev_or, ev_ife, ev_tup, ev_lst, ev_ix, ev_sl, ev_omit, ev_slr, ev_call, ev_b1, ev_b2, ev_isi, ev_meth, ev_lc, ev_lcif, ev_rng, ev_enum, ev_zip, ev_rev, evs_n, evs_c, alloc_v, alloc_f, setR_eq, ex_set, ex_tset, ex_sset, ex_saug, ex_ex, ex_ret, ex_retN, ex_ite, ex_whl, ex_for, ex_pass, ex_brk, ex_cnt, ex_raise, ex_try, exs_n, exs_c, tried_ok, tried_exc, rs_ret, rs_nx, rs_exc, R.bind_ok, R.bind_exc, R.bind_bad, R.st_ok, R.st_exc, RS.seq_nx, RS.seq_ret, RS.seq_bk, RS.seq_ct, RS.seq_exc, RS.turn_nx, RS.turn_ct, RS.turn_bk, RS.turn_ret, RS.turn_exc, R.nox_ok, orBad_some, lookV_some, lookD_some, onI_int, onLoc_loc, onB_true, onB_false, onB_dec, onBS_true, onBS_false, onBS_dec, bin_int, cmp_lt, cmp_le, cmp_gt, cmp_ge, cmp_eq, cmp_ne, cmp_isb, cmp_isnb, b1_int, b1_intb, b1_abs, b1_lent, b1_lenc, ix_t, ix_c, atR_def, at0, at1, at2, at3, at4, at5, add_of, sub_of, List.map_cons, List.map_nil, List.length_cons, List.length_nil, List.cons_append, List.nil_append, List.replicate_succ, List.replicate_zero, List.getElem?_cons_zero, List.getElem?_cons_succ, List.set_cons_zero, List.set_cons_succ, Nat.zero_add, Nat.reduceAdd, Nat.reduceSub, tupR_0, tupR_1, tupR_2, tupR_3, tupR_4, tupR_5, lstR_0, lstR_1, lstR_2, lstR_3, lstR_4, lstR_5, lstR_6, lstR_7, lstR_8, lstR_9, lstR_10, lstR_11, lstR_12, isi_int, isi_bl, isi_tup, isi_non, isi_str, fin_bl, fin_int, fin_non, fin_str, finX0, handle_hit, handle_nil, hx_bl, hx_str, hx_int, hx_non, hx_cnt, hx_pass, forR_it, forR_f, forR_t, forR_c, gmg, b1_repr, ne_repr, b2_max, b2_min, set_at0, set_at1, set_at2, set_at3, get_at0, get_at1, get_at2, get_at3, List.append_assoc, List.append_nil, List.length_append, List.length_set, Nat.add_zero, wR_ok, wR_exc, wR_bind, wS_ok, wS_exc, wS_st, wS_seq, wS_turn, wS_onBS, wR_onB, wS_ite, wR_ite, wS_tried, wR_nox, wR_mul, wR_div, wR_mod, ex_aug2, augS_some, wS_augR, wS_saugR, wR_fin, ev_callv2, callvS_fn, bindR_n, bindR_2, bindR_3, bindR_4]
  rw [wS_step]
  refine wS_mono (P' := fun fl e T => fl = .nx ∧ ∃ p', Tr p' ∧ p'.length ≤ 14 ∧ AB 415 p' ∧ e = [some C, some (.int c), some (.loc n), some (.int size), some (pD p'), some (pD q), v6, v7, v8, v9, v10, v11, v12, v13]) (Y' := fun _ _ _ => False) ?_ ?_ fun _ _ _ h => h
  · simp only [ev_int, ev_bl, ev_non, ev_str, ev_var, ev_glob, ev_bin, ev_neg, ev_not, ev_cmp, ev_chain, ev_and, ev_or, ev_ife, ev_tup, ev_lst, ev_ix, ev_sl, ev_omit, ev_slr, ev_call, ev_b1, ev_b2, ev_isi, ev_meth, ev_lc, ev_lcif, ev_rng, ev_enum, ev_zip, ev_rev, evs_n, evs_c, alloc_v, alloc_f, setR_eq, ex_set, ex_tset, ex_sset, ex_saug, ex_ex, ex_ret, ex_retN, ex_ite, ex_whl, ex_for, ex_pass, ex_brk, ex_cnt, ex_raise, ex_try, exs_n, exs_c, tried_ok, tried_exc, rs_ret, rs_nx, rs_exc, R.bind_ok, R.bind_exc, R.bind_bad, R.st_ok, R.st_exc, RS.seq_nx, RS.seq_ret, RS.seq_bk, RS.seq_ct, RS.seq_exc, RS.turn_nx, RS.turn_ct, RS.turn_bk, RS.turn_ret, RS.turn_exc, R.nox_ok, orBad_some, lookV_some, lookD_some, onI_int, onLoc_loc, onB_true, onB_false, onB_dec, onBS_true, onBS_false, onBS_dec, bin_int, cmp_lt, cmp_le, cmp_gt, cmp_ge, cmp_eq, cmp_ne, cmp_isb, cmp_isnb, b1_int, b1_intb, b1_abs, b1_lent, b1_lenc, ix_t, ix_c, atR_def, at0, at1, at2, at3, at4, at5, add_of, sub_of, List.map_cons, List.map_nil, List.length_cons, List.length_nil, List.cons_append, List.nil_append, List.replicate_succ, List.replicate_zero, List.getElem?_cons_zero, List.getElem?_cons_succ, List.set_cons_zero, List.set_cons_succ, Nat.zero_add, Nat.reduceAdd, Nat.reduceSub, tupR_0, tupR_1, tupR_2, tupR_3, tupR_4, tupR_5, lstR_0, lstR_1, lstR_2, lstR_3, lstR_4, lstR_5, lstR_6, lstR_7, lstR_8, lstR_9, lstR_10, lstR_11, lstR_12, isi_int, isi_bl, isi_tup, isi_non, isi_str, fin_bl, fin_int, fin_non, fin_str, finX0, handle_hit, handle_nil, hx_bl, hx_str, hx_int, hx_non, hx_cnt, hx_pass, forR_it, forR_f, forR_t, forR_c, gmg, b1_repr, ne_repr, b2_max, b2_min, set_at0, set_at1, set_at2, set_at3, get_at0, get_at1, get_at2, get_at3, List.append_assoc, List.append_nil, List.length_append, List.length_set, Nat.add_zero, wR_ok, wR_exc, wR_bind, wS_ok, wS_exc, wS_st, wS_seq, wS_turn, wS_onBS, wR_onB, wS_ite, wR_ite, wS_tried, wR_nox, wR_mul, wR_div, wR_mod, ex_aug2, augS_some, wS_augR, wS_saugR, wR_fin, ev_callv2, callvS_fn, bindR_n, bindR_2, bindR_3, bindR_4]
    refine wr_draw B3.ok B3.at_ (by decide) (by decide) (Bd.mono (n := 10) (bd_n (x := 3) (by decide)) (by decide)) fun r g4 T4 r0 r1 B4 => ?_
    simp only [ev_int, ev_bl, ev_non, ev_str, ev_var, ev_glob, ev_bin, ev_neg, ev_not, ev_cmp, ev_chain, ev_and, ev_or, ev_ife, ev_tup, ev_lst, ev_ix, ev_sl, ev_omit, ev_slr, ev_call, ev_b1, ev_b2, ev_isi, ev_meth, ev_lc, ev_lcif, ev_rng, ev_enum, ev_zip, ev_rev, evs_n, evs_c, alloc_v, alloc_f, setR_eq, ex_set, ex_tset, ex_sset, ex_saug, ex_ex, ex_ret, ex_retN, ex_ite, ex_whl, ex_for, ex_pass, ex_brk, ex_cnt, ex_raise, ex_try, exs_n, exs_c, tried_ok, tried_exc, rs_ret, rs_nx, rs_exc, R.bind_ok, R.bind_exc, R.bind_bad, R.st_ok, R.st_exc, RS.seq_nx, RS.seq_ret, RS.seq_bk, RS.seq_ct, RS.seq_exc, RS.turn_nx, RS.turn_ct, RS.turn_bk, RS.turn_ret, RS.turn_exc, R.nox_ok, orBad_some, lookV_some, lookD_some, onI_int, onLoc_loc, onB_true, onB_false, onB_dec, onBS_true, onBS_false, onBS_dec, bin_int, cmp_lt, cmp_le, cmp_gt, cmp_ge, cmp_eq, cmp_ne, cmp_isb, cmp_isnb, b1_int, b1_intb, b1_abs, b1_lent, b1_lenc, ix_t, ix_c, atR_def, at0, at1, at2, at3, at4, at5, add_of, sub_of, List.map_cons, List.map_nil, List.length_cons, List.length_nil, List.cons_append, List.nil_append, List.replicate_succ, List.replicate_zero, List.getElem?_cons_zero, List.getElem?_cons_succ, List.set_cons_zero, List.set_cons_succ, Nat.zero_add, Nat.reduceAdd, Nat.reduceSub, tupR_0, tupR_1, tupR_2, tupR_3, tupR_4, tupR_5, lstR_0, lstR_1, lstR_2, lstR_3, lstR_4, lstR_5, lstR_6, lstR_7, lstR_8, lstR_9, lstR_10, lstR_11, lstR_12, isi_int, isi_bl, isi_tup, isi_non, isi_str, fin_bl, fin_int, fin_non, fin_str, finX0, handle_hit, handle_nil, hx_bl, hx_str, hx_int, hx_non, hx_cnt, hx_pass, forR_it, forR_f, forR_t, forR_c, gmg, b1_repr, ne_repr, b2_max, b2_min, set_at0, set_at1, set_at2, set_at3, get_at0, get_at1, get_at2, get_at3, List.append_assoc, List.append_nil, List.length_append, List.length_set, Nat.add_zero, wR_ok, wR_exc, wR_bind, wS_ok, wS_exc, wS_st, wS_seq, wS_turn, wS_onBS, wR_onB, wS_ite, wR_ite, wS_tried, wR_nox, wR_mul, wR_div, wR_mod, ex_aug2, augS_some, wS_augR, wS_saugR, wR_fin, ev_callv2, callvS_fn, bindR_n, bindR_2, bindR_3, bindR_4]
    have e6 := sp_lmul (S := T4) (k + 4) ap aq (by decide) (by omega)
    have hpl := pmul_len (p := p) (q := q)
    have hpa := pmul_AB ap aq
    split
    · simp only [ev_int, ev_bl, ev_non, ev_str, ev_var, ev_glob, ev_bin, ev_neg, ev_not, ev_cmp, ev_chain, ev_and, ev_or, ev_ife, ev_tup, ev_lst, ev_ix, ev_sl, ev_omit, ev_slr, ev_call, ev_b1, ev_b2, ev_isi, ev_meth, ev_lc, ev_lcif, ev_rng, ev_enum, ev_zip, ev_rev, evs_n, evs_c, alloc_v, alloc_f, setR_eq, ex_set, ex_tset, ex_sset, ex_saug, ex_ex, ex_ret, ex_retN, ex_ite, ex_whl, ex_for, ex_pass, ex_brk, ex_cnt, ex_raise, ex_try, exs_n, exs_c, tried_ok, tried_exc, rs_ret, rs_nx, rs_exc, R.bind_ok, R.bind_exc, R.bind_bad, R.st_ok, R.st_exc, RS.seq_nx, RS.seq_ret, RS.seq_bk, RS.seq_ct, RS.seq_exc, RS.turn_nx, RS.turn_ct, RS.turn_bk, RS.turn_ret, RS.turn_exc, R.nox_ok, orBad_some, lookV_some, lookD_some, onI_int, onLoc_loc, onB_true, onB_false, onB_dec, onBS_true, onBS_false, onBS_dec, bin_int, cmp_lt, cmp_le, cmp_gt, cmp_ge, cmp_eq, cmp_ne, cmp_isb, cmp_isnb, b1_int, b1_intb, b1_abs, b1_lent, b1_lenc, ix_t, ix_c, atR_def, at0, at1, at2, at3, at4, at5, add_of, sub_of, List.map_cons, List.map_nil, List.length_cons, List.length_nil, List.cons_append, List.nil_append, List.replicate_succ, List.replicate_zero, List.getElem?_cons_zero, List.getElem?_cons_succ, List.set_cons_zero, List.set_cons_succ, Nat.zero_add, Nat.reduceAdd, Nat.reduceSub, tupR_0, tupR_1, tupR_2, tupR_3, tupR_4, tupR_5, lstR_0, lstR_1, lstR_2, lstR_3, lstR_4, lstR_5, lstR_6, lstR_7, lstR_8, lstR_9, lstR_10, lstR_11, lstR_12, isi_int, isi_bl, isi_tup, isi_non, isi_str, fin_bl, fin_int, fin_non, fin_str, finX0, handle_hit, handle_nil, hx_bl, hx_str, hx_int, hx_non, hx_cnt, hx_pass, forR_it, forR_f, forR_t, forR_c, gmg, b1_repr, ne_repr, b2_max, b2_min, set_at0, set_at1, set_at2, set_at3, get_at0, get_at1, get_at2, get_at3, List.append_assoc, List.append_nil, List.length_append, List.length_set, Nat.add_zero, wR_ok, wR_exc, wR_bind, wS_ok, wS_exc, wS_st, wS_seq, wS_turn, wS_onBS, wR_onB, wS_ite, wR_ite, wS_tried, wR_nox, wR_mul, wR_div, wR_mod, ex_aug2, augS_some, wS_augR, wS_saugR, wR_fin, ev_callv2, callvS_fn, bindR_n, bindR_2, bindR_3, bindR_4, e6]
      exact ⟨trivial, pmul p q, pmul_tr, by omega, hpa.mono (by omega), rfl⟩
    · exact ⟨trivial, p, tp, by omega, ap.mono (by omega), rfl⟩
  clear B3 B2 B1
  rintro fl e T4 ⟨rfl, p, tp, lp, ap, rfl⟩
  dsimp only
  rw [wS_step]
  simp only [ev_int, ev_bl, ev_non, ev_str, ev_var, ev_glob, ev_bin, ev_neg, ev_not, ev_cmp, ev_chain, ev_and, ev_or, ev_ife, ev_tup, ev_lst, ev_ix, ev_sl, ev_omit, ev_slr, ev_call, ev_b1, ev_b2, ev_isi, ev_meth, ev_lc, ev_lcif, ev_rng, ev_enum, ev_zip, ev_rev, evs_n, evs_c, alloc_v, alloc_f, setR_eq, ex_set, ex_tset, ex_sset, ex_saug, ex_ex, ex_ret, ex_retN, ex_ite, ex_whl, ex_for, ex_pass, ex_brk, ex_cnt, ex_raise, ex_try, exs_n, exs_c, tried_ok, tried_exc, rs_ret, rs_nx, rs_exc, R.bind_ok, R.bind_exc, R.bind_bad, R.st_ok, R.st_exc, RS.seq_nx, RS.seq_ret, RS.seq_bk, RS.seq_ct, RS.seq_exc, RS.turn_nx, RS.turn_ct, RS.turn_bk, RS.turn_ret, RS.turn_exc, R.nox_ok, orBad_some, lookV_some, lookD_some, onI_int, onLoc_loc, onB_true, onB_false, onB_dec, onBS_true, onBS_false, onBS_dec, bin_int, cmp_lt, cmp_le, cmp_gt, cmp_ge, cmp_eq, cmp_ne, cmp_isb, cmp_isnb, b1_int, b1_intb, b1_abs, b1_lent, b1_lenc, ix_t, ix_c, atR_def, at0, at1, at2, at3, at4, at5, add_of, sub_of, List.map_cons, List.map_nil, List.length_cons, List.length_nil, List.cons_append, List.nil_append, List.replicate_succ, List.replicate_zero, List.getElem?_cons_zero, List.getElem?_cons_succ, List.set_cons_zero, List.set_cons_succ, Nat.zero_add, Nat.reduceAdd, Nat.reduceSub, tupR_0, tupR_1, tupR_2, tupR_3, tupR_4, tupR_5, lstR_0, lstR_1, lstR_2, lstR_3, lstR_4, lstR_5, lstR_6, lstR_7, lstR_8, lstR_9, lstR_10, lstR_11, lstR_12, isi_int, isi_bl, isi_tup, isi_non, isi_str, fin_bl, fin_int, fin_non, fin_str, finX0, handle_hit, handle_nil, hx_bl, hx_str, hx_int, hx_non, hx_cnt, hx_pass, forR_it, forR_f, forR_t, forR_c, gmg, b1_repr, ne_repr, b2_max, b2_min, set_at0, set_at1, set_at2, set_at3, get_at0, get_at1, get_at2, get_at3, List.append_assoc, List.append_nil, List.length_append, List.length_set, Nat.add_zero, wR_ok, wR_exc, wR_bind, wS_ok, wS_exc, wS_st, wS_seq, wS_turn, wS_onBS, wR_onB, wS_ite, wR_ite, wS_tried, wR_nox, wR_mul, wR_div, wR_mod, ex_aug2, augS_some, wS_augR, wS_saugR, wR_fin, ev_callv2, callvS_fn, bindR_n, bindR_2, bindR_3, bindR_4, eq_tn]
  have sz : PyData.strOk "zero" = true := by decide +kernel
  have sn : PyData.strOk "none" = true := by decide +kernel
  by_cases hq : q = []
  · subst hq
    have a1 : (Γ (k + 6)).call 228 [.fn 225, pD p, pD []] T4 = .ok (.v (.str "zero")) T4 := told7_9 (S := T4) (k + 5) h0 (divided0 (S := T4) (k + 4) (p := p))
    have a2 : (Γ (k + 6)).call 228 [.fn 226, pD p, pD []] T4 = .ok (.v (.str "zero")) T4 := told7_9 (S := T4) (k + 5) h1 (exactly0 (S := T4) (k + 4) (p := p))
    simp only [ev_int, ev_bl, ev_non, ev_str, ev_var, ev_glob, ev_bin, ev_neg, ev_not, ev_cmp, ev_chain, ev_and, ev_or, ev_ife, ev_tup, ev_lst, ev_ix, ev_sl, ev_omit, ev_slr, ev_call, ev_b1, ev_b2, ev_isi, ev_meth, ev_lc, ev_lcif, ev_rng, ev_enum, ev_zip, ev_rev, evs_n, evs_c, alloc_v, alloc_f, setR_eq, ex_set, ex_tset, ex_sset, ex_saug, ex_ex, ex_ret, ex_retN, ex_ite, ex_whl, ex_for, ex_pass, ex_brk, ex_cnt, ex_raise, ex_try, exs_n, exs_c, tried_ok, tried_exc, rs_ret, rs_nx, rs_exc, R.bind_ok, R.bind_exc, R.bind_bad, R.st_ok, R.st_exc, RS.seq_nx, RS.seq_ret, RS.seq_bk, RS.seq_ct, RS.seq_exc, RS.turn_nx, RS.turn_ct, RS.turn_bk, RS.turn_ret, RS.turn_exc, R.nox_ok, orBad_some, lookV_some, lookD_some, onI_int, onLoc_loc, onB_true, onB_false, onB_dec, onBS_true, onBS_false, onBS_dec, bin_int, cmp_lt, cmp_le, cmp_gt, cmp_ge, cmp_eq, cmp_ne, cmp_isb, cmp_isnb, b1_int, b1_intb, b1_abs, b1_lent, b1_lenc, ix_t, ix_c, atR_def, at0, at1, at2, at3, at4, at5, add_of, sub_of, List.map_cons, List.map_nil, List.length_cons, List.length_nil, List.cons_append, List.nil_append, List.replicate_succ, List.replicate_zero, List.getElem?_cons_zero, List.getElem?_cons_succ, List.set_cons_zero, List.set_cons_succ, Nat.zero_add, Nat.reduceAdd, Nat.reduceSub, tupR_0, tupR_1, tupR_2, tupR_3, tupR_4, tupR_5, lstR_0, lstR_1, lstR_2, lstR_3, lstR_4, lstR_5, lstR_6, lstR_7, lstR_8, lstR_9, lstR_10, lstR_11, lstR_12, isi_int, isi_bl, isi_tup, isi_non, isi_str, fin_bl, fin_int, fin_non, fin_str, finX0, handle_hit, handle_nil, hx_bl, hx_str, hx_int, hx_non, hx_cnt, hx_pass, forR_it, forR_f, forR_t, forR_c, gmg, b1_repr, ne_repr, b2_max, b2_min, set_at0, set_at1, set_at2, set_at3, get_at0, get_at1, get_at2, get_at3, List.append_assoc, List.append_nil, List.length_append, List.length_set, Nat.add_zero, wR_ok, wR_exc, wR_bind, wS_ok, wS_exc, wS_st, wS_seq, wS_turn, wS_onBS, wR_onB, wS_ite, wR_ite, wS_tried, wR_nox, wR_mul, wR_div, wR_mod, ex_aug2, augS_some, wS_augR, wS_saugR, wR_fin, ev_callv2, callvS_fn, bindR_n, bindR_2, bindR_3, bindR_4, if_true, gl_divided, gl_exactly, a1, a2, ne_str sz, if_false, Bool.false_eq_true]
    exact ⟨.inr trivial, _, _, _, _, _, _, _, _, _, _, _, _, _, rfl⟩
  simp only [if_neg hq]
  rw [wS_step]
  simp only [ev_int, ev_bl, ev_non, ev_str, ev_var, ev_glob, ev_bin, ev_neg, ev_not, ev_cmp, ev_chain, ev_and, ev_or, ev_ife, ev_tup, ev_lst, ev_ix, ev_sl, ev_omit, ev_slr, ev_call, ev_b1, ev_b2, ev_isi, ev_meth, ev_lc, ev_lcif, ev_rng, ev_enum, ev_zip, ev_rev, evs_n, evs_c, alloc_v, alloc_f, setR_eq, ex_set, ex_tset, ex_sset, ex_saug, ex_ex, ex_ret, ex_retN, ex_ite, ex_whl, ex_for, ex_pass, ex_brk, ex_cnt, ex_raise, ex_try, exs_n, exs_c, tried_ok, tried_exc, rs_ret, rs_nx, rs_exc, R.bind_ok, R.bind_exc, R.bind_bad, R.st_ok, R.st_exc, RS.seq_nx, RS.seq_ret, RS.seq_bk, RS.seq_ct, RS.seq_exc, RS.turn_nx, RS.turn_ct, RS.turn_bk, RS.turn_ret, RS.turn_exc, R.nox_ok, orBad_some, lookV_some, lookD_some, onI_int, onLoc_loc, onB_true, onB_false, onB_dec, onBS_true, onBS_false, onBS_dec, bin_int, cmp_lt, cmp_le, cmp_gt, cmp_ge, cmp_eq, cmp_ne, cmp_isb, cmp_isnb, b1_int, b1_intb, b1_abs, b1_lent, b1_lenc, ix_t, ix_c, atR_def, at0, at1, at2, at3, at4, at5, add_of, sub_of, List.map_cons, List.map_nil, List.length_cons, List.length_nil, List.cons_append, List.nil_append, List.replicate_succ, List.replicate_zero, List.getElem?_cons_zero, List.getElem?_cons_succ, List.set_cons_zero, List.set_cons_succ, Nat.zero_add, Nat.reduceAdd, Nat.reduceSub, tupR_0, tupR_1, tupR_2, tupR_3, tupR_4, tupR_5, lstR_0, lstR_1, lstR_2, lstR_3, lstR_4, lstR_5, lstR_6, lstR_7, lstR_8, lstR_9, lstR_10, lstR_11, lstR_12, isi_int, isi_bl, isi_tup, isi_non, isi_str, fin_bl, fin_int, fin_non, fin_str, finX0, handle_hit, handle_nil, hx_bl, hx_str, hx_int, hx_non, hx_cnt, hx_pass, forR_it, forR_f, forR_t, forR_c, gmg, b1_repr, ne_repr, b2_max, b2_min, set_at0, set_at1, set_at2, set_at3, get_at0, get_at1, get_at2, get_at3, List.append_assoc, List.append_nil, List.length_append, List.length_set, Nat.add_zero, wR_ok, wR_exc, wR_bind, wS_ok, wS_exc, wS_st, wS_seq, wS_turn, wS_onBS, wR_onB, wS_ite, wR_ite, wS_tried, wR_nox, wR_mul, wR_div, wR_mod, ex_aug2, augS_some, wS_augR, wS_saugR, wR_fin, ev_callv2, callvS_fn, bindR_n, bindR_2, bindR_3, bindR_4]
  refine wr_2 (sp_divided (k + 1) tp tq hq ap aq (by decide) (by omega) (by omega) (by omega)) fun s r h => ?_
  obtain ⟨ts, tr, lr, ev, as, ar, ls⟩ := h
  simp only [ev_int, ev_bl, ev_non, ev_str, ev_var, ev_glob, ev_bin, ev_neg, ev_not, ev_cmp, ev_chain, ev_and, ev_or, ev_ife, ev_tup, ev_lst, ev_ix, ev_sl, ev_omit, ev_slr, ev_call, ev_b1, ev_b2, ev_isi, ev_meth, ev_lc, ev_lcif, ev_rng, ev_enum, ev_zip, ev_rev, evs_n, evs_c, alloc_v, alloc_f, setR_eq, ex_set, ex_tset, ex_sset, ex_saug, ex_ex, ex_ret, ex_retN, ex_ite, ex_whl, ex_for, ex_pass, ex_brk, ex_cnt, ex_raise, ex_try, exs_n, exs_c, tried_ok, tried_exc, rs_ret, rs_nx, rs_exc, R.bind_ok, R.bind_exc, R.bind_bad, R.st_ok, R.st_exc, RS.seq_nx, RS.seq_ret, RS.seq_bk, RS.seq_ct, RS.seq_exc, RS.turn_nx, RS.turn_ct, RS.turn_bk, RS.turn_ret, RS.turn_exc, R.nox_ok, orBad_some, lookV_some, lookD_some, onI_int, onLoc_loc, onB_true, onB_false, onB_dec, onBS_true, onBS_false, onBS_dec, bin_int, cmp_lt, cmp_le, cmp_gt, cmp_ge, cmp_eq, cmp_ne, cmp_isb, cmp_isnb, b1_int, b1_intb, b1_abs, b1_lent, b1_lenc, ix_t, ix_c, atR_def, at0, at1, at2, at3, at4, at5, add_of, sub_of, List.map_cons, List.map_nil, List.length_cons, List.length_nil, List.cons_append, List.nil_append, List.replicate_succ, List.replicate_zero, List.getElem?_cons_zero, List.getElem?_cons_succ, List.set_cons_zero, List.set_cons_succ, Nat.zero_add, Nat.reduceAdd, Nat.reduceSub, tupR_0, tupR_1, tupR_2, tupR_3, tupR_4, tupR_5, lstR_0, lstR_1, lstR_2, lstR_3, lstR_4, lstR_5, lstR_6, lstR_7, lstR_8, lstR_9, lstR_10, lstR_11, lstR_12, isi_int, isi_bl, isi_tup, isi_non, isi_str, fin_bl, fin_int, fin_non, fin_str, finX0, handle_hit, handle_nil, hx_bl, hx_str, hx_int, hx_non, hx_cnt, hx_pass, forR_it, forR_f, forR_t, forR_c, gmg, b1_repr, ne_repr, b2_max, b2_min, set_at0, set_at1, set_at2, set_at3, get_at0, get_at1, get_at2, get_at3, List.append_assoc, List.append_nil, List.length_append, List.length_set, Nat.add_zero, wR_ok, wR_exc, wR_bind, wS_ok, wS_exc, wS_st, wS_seq, wS_turn, wS_onBS, wR_onB, wS_ite, wR_ite, wS_tried, wR_nox, wR_mul, wR_div, wR_mod, ex_aug2, augS_some, wS_augR, wS_saugR, wR_fin, ev_callv2, callvS_fn, bindR_n, bindR_2, bindR_3, bindR_4]
  rw [wS_step]
  simp only [ev_int, ev_bl, ev_non, ev_str, ev_var, ev_glob, ev_bin, ev_neg, ev_not, ev_cmp, ev_chain, ev_and, ev_or, ev_ife, ev_tup, ev_lst, ev_ix, ev_sl, ev_omit, ev_slr, ev_call, ev_b1, ev_b2, ev_isi, ev_meth, ev_lc, ev_lcif, ev_rng, ev_enum, ev_zip, ev_rev, evs_n, evs_c, alloc_v, alloc_f, setR_eq, ex_set, ex_tset, ex_sset, ex_saug, ex_ex, ex_ret, ex_retN, ex_ite, ex_whl, ex_for, ex_pass, ex_brk, ex_cnt, ex_raise, ex_try, exs_n, exs_c, tried_ok, tried_exc, rs_ret, rs_nx, rs_exc, R.bind_ok, R.bind_exc, R.bind_bad, R.st_ok, R.st_exc, RS.seq_nx, RS.seq_ret, RS.seq_bk, RS.seq_ct, RS.seq_exc, RS.turn_nx, RS.turn_ct, RS.turn_bk, RS.turn_ret, RS.turn_exc, R.nox_ok, orBad_some, lookV_some, lookD_some, onI_int, onLoc_loc, onB_true, onB_false, onB_dec, onBS_true, onBS_false, onBS_dec, bin_int, cmp_lt, cmp_le, cmp_gt, cmp_ge, cmp_eq, cmp_ne, cmp_isb, cmp_isnb, b1_int, b1_intb, b1_abs, b1_lent, b1_lenc, ix_t, ix_c, atR_def, at0, at1, at2, at3, at4, at5, add_of, sub_of, List.map_cons, List.map_nil, List.length_cons, List.length_nil, List.cons_append, List.nil_append, List.replicate_succ, List.replicate_zero, List.getElem?_cons_zero, List.getElem?_cons_succ, List.set_cons_zero, List.set_cons_succ, Nat.zero_add, Nat.reduceAdd, Nat.reduceSub, tupR_0, tupR_1, tupR_2, tupR_3, tupR_4, tupR_5, lstR_0, lstR_1, lstR_2, lstR_3, lstR_4, lstR_5, lstR_6, lstR_7, lstR_8, lstR_9, lstR_10, lstR_11, lstR_12, isi_int, isi_bl, isi_tup, isi_non, isi_str, fin_bl, fin_int, fin_non, fin_str, finX0, handle_hit, handle_nil, hx_bl, hx_str, hx_int, hx_non, hx_cnt, hx_pass, forR_it, forR_f, forR_t, forR_c, gmg, b1_repr, ne_repr, b2_max, b2_min, set_at0, set_at1, set_at2, set_at3, get_at0, get_at1, get_at2, get_at3, List.append_assoc, List.append_nil, List.length_append, List.length_set, Nat.add_zero, wR_ok, wR_exc, wR_bind, wS_ok, wS_exc, wS_st, wS_seq, wS_turn, wS_onBS, wR_onB, wS_ite, wR_ite, wS_tried, wR_nox, wR_mul, wR_div, wR_mod, ex_aug2, augS_some, wS_augR, wS_saugR, wR_fin, ev_callv2, callvS_fn, bindR_n, bindR_2, bindR_3, bindR_4]
  rw [wS_step]
  have hmax : (if (p.length : Int) - (q.length : Int) + 1 > 0 then (p.length : Int) - (q.length : Int) + 1 else 0) = ((p.length + 1 - q.length : Nat) : Int) := by split <;> omega
  have hr : rngW [.int ((p.length + 1 - q.length : Nat) : Int)] = some (rangeD 0 ((p.length + 1 - q.length : Nat) : Int)) := rng_1 (by unfold small; exact decide_eq_true (by omega))
  have hrl : (rangeD 0 ((p.length + 1 - q.length : Nat) : Int)).length = p.length + 1 - q.length := by rw [range_len]; omega
  obtain ⟨o', el⟩ := due_loop (S := T4) (k + 6) hq aq (v0 := some C) (v1 := some (.int c)) (v2 := some (.loc n)) (v3 := some (.int size)) (v4 := some (pD p)) (v6 := some (.int (((lead q).natAbs : Int) ^ (p.length + 1 - q.length)))) (v7 := some (pD s)) (v8 := some (pD r)) (v11 := v11) (v12 := v12) (v13 := v13) (rangeD 0 ((p.length + 1 - q.length : Nat) : Int)) 0 v10 (by omega)
  rw [hrl, Nat.zero_add, Int.pow_zero] at el
  simp only [ev_int, ev_bl, ev_non, ev_str, ev_var, ev_glob, ev_bin, ev_neg, ev_not, ev_cmp, ev_chain, ev_and, ev_or, ev_ife, ev_tup, ev_lst, ev_ix, ev_sl, ev_omit, ev_slr, ev_call, ev_b1, ev_b2, ev_isi, ev_meth, ev_lc, ev_lcif, ev_rng, ev_enum, ev_zip, ev_rev, evs_n, evs_c, alloc_v, alloc_f, setR_eq, ex_set, ex_tset, ex_sset, ex_saug, ex_ex, ex_ret, ex_retN, ex_ite, ex_whl, ex_for, ex_pass, ex_brk, ex_cnt, ex_raise, ex_try, exs_n, exs_c, tried_ok, tried_exc, rs_ret, rs_nx, rs_exc, R.bind_ok, R.bind_exc, R.bind_bad, R.st_ok, R.st_exc, RS.seq_nx, RS.seq_ret, RS.seq_bk, RS.seq_ct, RS.seq_exc, RS.turn_nx, RS.turn_ct, RS.turn_bk, RS.turn_ret, RS.turn_exc, R.nox_ok, orBad_some, lookV_some, lookD_some, onI_int, onLoc_loc, onB_true, onB_false, onB_dec, onBS_true, onBS_false, onBS_dec, bin_int, cmp_lt, cmp_le, cmp_gt, cmp_ge, cmp_eq, cmp_ne, cmp_isb, cmp_isnb, b1_int, b1_intb, b1_abs, b1_lent, b1_lenc, ix_t, ix_c, atR_def, at0, at1, at2, at3, at4, at5, add_of, sub_of, List.map_cons, List.map_nil, List.length_cons, List.length_nil, List.cons_append, List.nil_append, List.replicate_succ, List.replicate_zero, List.getElem?_cons_zero, List.getElem?_cons_succ, List.set_cons_zero, List.set_cons_succ, Nat.zero_add, Nat.reduceAdd, Nat.reduceSub, tupR_0, tupR_1, tupR_2, tupR_3, tupR_4, tupR_5, lstR_0, lstR_1, lstR_2, lstR_3, lstR_4, lstR_5, lstR_6, lstR_7, lstR_8, lstR_9, lstR_10, lstR_11, lstR_12, isi_int, isi_bl, isi_tup, isi_non, isi_str, fin_bl, fin_int, fin_non, fin_str, finX0, handle_hit, handle_nil, hx_bl, hx_str, hx_int, hx_non, hx_cnt, hx_pass, forR_it, forR_f, forR_t, forR_c, gmg, b1_repr, ne_repr, b2_max, b2_min, set_at0, set_at1, set_at2, set_at3, get_at0, get_at1, get_at2, get_at3, List.append_assoc, List.append_nil, List.length_append, List.length_set, Nat.add_zero, wR_ok, wR_exc, wR_bind, wS_ok, wS_exc, wS_st, wS_seq, wS_turn, wS_onBS, wR_onB, wS_ite, wR_ite, wS_tried, wR_nox, wR_mul, wR_div, wR_mod, ex_aug2, augS_some, wS_augR, wS_saugR, wR_fin, ev_callv2, callvS_fn, bindR_n, bindR_2, bindR_3, bindR_4, List.length_map, b2_max, hmax, hr, el]
  rw [wS_step]
  have hcm : (p.length + 1 - q.length) * 204 ≤ 15 * 204 := Nat.mul_le_mul_right _ (by omega)
  have hcm3 : (p.length + 1 - q.length) * 203 ≤ 15 * 203 := Nat.mul_le_mul_right _ (by omega)
  have bl : Bd 203 ((lead q).natAbs : Int) := by have := lead_bd aq; unfold Bd at this ⊢; rw [Int.natAbs_natCast]; exact this
  have eB := Bd.pow bl (p.length + 1 - q.length)
  have c1 := sp_lscale (S := T4) (k + 4) eB ap (by omega) (by omega)
  have c2 := sp_lmul (S := T4) (k + 4) as aq (by omega) (by omega)
  have hsq := pmul_len (p := s) (q := q)
  have c3 := sp_ladd (S := T4) (k + 4) (p := pmul s q) (q := r) (by omega)
  have eqv : psum (pmul s q) r = pscale (((lead q).natAbs : Int) ^ (p.length + 1 - q.length)) p := pev_inj psum_tr pscale_tr fun x => by
    rw [psum_ev, pmul_ev, pscale_ev, ev]
  rw [eqv] at c3
  have hpl := pscale_len (c := ((lead q).natAbs : Int) ^ (p.length + 1 - q.length)) (p := p)
  have c4 := sp_same_p (S := T4) (k + 4) (p := pscale (((lead q).natAbs : Int) ^ (p.length + 1 - q.length)) p) (by omega)
  have lrq : ¬ ((q.length : Int) ≤ (r.length : Int)) := by omega
  simp only [ev_int, ev_bl, ev_non, ev_str, ev_var, ev_glob, ev_bin, ev_neg, ev_not, ev_cmp, ev_chain, ev_and, ev_or, ev_ife, ev_tup, ev_lst, ev_ix, ev_sl, ev_omit, ev_slr, ev_call, ev_b1, ev_b2, ev_isi, ev_meth, ev_lc, ev_lcif, ev_rng, ev_enum, ev_zip, ev_rev, evs_n, evs_c, alloc_v, alloc_f, setR_eq, ex_set, ex_tset, ex_sset, ex_saug, ex_ex, ex_ret, ex_retN, ex_ite, ex_whl, ex_for, ex_pass, ex_brk, ex_cnt, ex_raise, ex_try, exs_n, exs_c, tried_ok, tried_exc, rs_ret, rs_nx, rs_exc, R.bind_ok, R.bind_exc, R.bind_bad, R.st_ok, R.st_exc, RS.seq_nx, RS.seq_ret, RS.seq_bk, RS.seq_ct, RS.seq_exc, RS.turn_nx, RS.turn_ct, RS.turn_bk, RS.turn_ret, RS.turn_exc, R.nox_ok, orBad_some, lookV_some, lookD_some, onI_int, onLoc_loc, onB_true, onB_false, onB_dec, onBS_true, onBS_false, onBS_dec, bin_int, cmp_lt, cmp_le, cmp_gt, cmp_ge, cmp_eq, cmp_ne, cmp_isb, cmp_isnb, b1_int, b1_intb, b1_abs, b1_lent, b1_lenc, ix_t, ix_c, atR_def, at0, at1, at2, at3, at4, at5, add_of, sub_of, List.map_cons, List.map_nil, List.length_cons, List.length_nil, List.cons_append, List.nil_append, List.replicate_succ, List.replicate_zero, List.getElem?_cons_zero, List.getElem?_cons_succ, List.set_cons_zero, List.set_cons_succ, Nat.zero_add, Nat.reduceAdd, Nat.reduceSub, tupR_0, tupR_1, tupR_2, tupR_3, tupR_4, tupR_5, lstR_0, lstR_1, lstR_2, lstR_3, lstR_4, lstR_5, lstR_6, lstR_7, lstR_8, lstR_9, lstR_10, lstR_11, lstR_12, isi_int, isi_bl, isi_tup, isi_non, isi_str, fin_bl, fin_int, fin_non, fin_str, finX0, handle_hit, handle_nil, hx_bl, hx_str, hx_int, hx_non, hx_cnt, hx_pass, forR_it, forR_f, forR_t, forR_c, gmg, b1_repr, ne_repr, b2_max, b2_min, set_at0, set_at1, set_at2, set_at3, get_at0, get_at1, get_at2, get_at3, List.append_assoc, List.append_nil, List.length_append, List.length_set, Nat.add_zero, wR_ok, wR_exc, wR_bind, wS_ok, wS_exc, wS_st, wS_seq, wS_turn, wS_onBS, wR_onB, wS_ite, wR_ite, wS_tried, wR_nox, wR_mul, wR_div, wR_mod, ex_aug2, augS_some, wS_augR, wS_saugR, wR_fin, ev_callv2, callvS_fn, bindR_n, bindR_2, bindR_3, bindR_4, List.length_map, c1, c2, c3, c4, ne_eq, not_true_eq_false, if_false, if_true, lrq]
  rw [wS_step]
  have t1 := sp_ltrim_t (S := T4) (k + 5) s
  have t2 := sp_ltrim_t (S := T4) (k + 5) r
  rw [show trim s = s from ts] at t1
  rw [show trim r = r from tr] at t2
  simp only [ev_int, ev_bl, ev_non, ev_str, ev_var, ev_glob, ev_bin, ev_neg, ev_not, ev_cmp, ev_chain, ev_and, ev_or, ev_ife, ev_tup, ev_lst, ev_ix, ev_sl, ev_omit, ev_slr, ev_call, ev_b1, ev_b2, ev_isi, ev_meth, ev_lc, ev_lcif, ev_rng, ev_enum, ev_zip, ev_rev, evs_n, evs_c, alloc_v, alloc_f, setR_eq, ex_set, ex_tset, ex_sset, ex_saug, ex_ex, ex_ret, ex_retN, ex_ite, ex_whl, ex_for, ex_pass, ex_brk, ex_cnt, ex_raise, ex_try, exs_n, exs_c, tried_ok, tried_exc, rs_ret, rs_nx, rs_exc, R.bind_ok, R.bind_exc, R.bind_bad, R.st_ok, R.st_exc, RS.seq_nx, RS.seq_ret, RS.seq_bk, RS.seq_ct, RS.seq_exc, RS.turn_nx, RS.turn_ct, RS.turn_bk, RS.turn_ret, RS.turn_exc, R.nox_ok, orBad_some, lookV_some, lookD_some, onI_int, onLoc_loc, onB_true, onB_false, onB_dec, onBS_true, onBS_false, onBS_dec, bin_int, cmp_lt, cmp_le, cmp_gt, cmp_ge, cmp_eq, cmp_ne, cmp_isb, cmp_isnb, b1_int, b1_intb, b1_abs, b1_lent, b1_lenc, ix_t, ix_c, atR_def, at0, at1, at2, at3, at4, at5, add_of, sub_of, List.map_cons, List.map_nil, List.length_cons, List.length_nil, List.cons_append, List.nil_append, List.replicate_succ, List.replicate_zero, List.getElem?_cons_zero, List.getElem?_cons_succ, List.set_cons_zero, List.set_cons_succ, Nat.zero_add, Nat.reduceAdd, Nat.reduceSub, tupR_0, tupR_1, tupR_2, tupR_3, tupR_4, tupR_5, lstR_0, lstR_1, lstR_2, lstR_3, lstR_4, lstR_5, lstR_6, lstR_7, lstR_8, lstR_9, lstR_10, lstR_11, lstR_12, isi_int, isi_bl, isi_tup, isi_non, isi_str, fin_bl, fin_int, fin_non, fin_str, finX0, handle_hit, handle_nil, hx_bl, hx_str, hx_int, hx_non, hx_cnt, hx_pass, forR_it, forR_f, forR_t, forR_c, gmg, b1_repr, ne_repr, b2_max, b2_min, set_at0, set_at1, set_at2, set_at3, get_at0, get_at1, get_at2, get_at3, List.append_assoc, List.append_nil, List.length_append, List.length_set, Nat.add_zero, wR_ok, wR_exc, wR_bind, wS_ok, wS_exc, wS_st, wS_seq, wS_turn, wS_onBS, wR_onB, wS_ite, wR_ite, wS_tried, wR_nox, wR_mul, wR_div, wR_mod, ex_aug2, augS_some, wS_augR, wS_saugR, wR_fin, ev_callv2, callvS_fn, bindR_n, bindR_2, bindR_3, bindR_4, t1, t2, ne_tt, ne_eq, not_true_eq_false, if_false]
  rw [wS_step]
  have key : ∃ w t : D, (Γ (k + 6)).call 229 [pD p, pD q] T4 = .ok (.v w) T4 ∧ (Γ (k + 6)).call 228 [.fn 226, pD p, pD q] T4 = .ok (.v t) T4 ∧ ((w = .non ∧ t = .str "none") ∨ ∃ s, w = pD s ∧ t = pD s) := by
    obtain ⟨wy, wn⟩ := sp_whole (S := T4) tp tq hq ap aq (by decide) (by omega) (by omega) (k + 1)
    rcases sp_exactly (S := T4) tp tq hq ap aq (by decide) (by omega) (by omega) k with ⟨⟨s', ts', es'⟩, hy⟩ | ⟨hn, he⟩
    · exact ⟨pD s', pD s', wy s' ts' es', told7_ok (k + 5) h1 (hy s' ts' es') (flat_ints _ _), .inr ⟨s', rfl, rfl⟩⟩
    · exact ⟨.non, .str "none", wn hn, told7_8 (k + 5) h1 he, .inl ⟨rfl, rfl⟩⟩
  obtain ⟨w, t, e1, e2, hwt⟩ := key
  simp only [ev_int, ev_bl, ev_non, ev_str, ev_var, ev_glob, ev_bin, ev_neg, ev_not, ev_cmp, ev_chain, ev_and, ev_or, ev_ife, ev_tup, ev_lst, ev_ix, ev_sl, ev_omit, ev_slr, ev_call, ev_b1, ev_b2, ev_isi, ev_meth, ev_lc, ev_lcif, ev_rng, ev_enum, ev_zip, ev_rev, evs_n, evs_c, alloc_v, alloc_f, setR_eq, ex_set, ex_tset, ex_sset, ex_saug, ex_ex, ex_ret, ex_retN, ex_ite, ex_whl, ex_for, ex_pass, ex_brk, ex_cnt, ex_raise, ex_try, exs_n, exs_c, tried_ok, tried_exc, rs_ret, rs_nx, rs_exc, R.bind_ok, R.bind_exc, R.bind_bad, R.st_ok, R.st_exc, RS.seq_nx, RS.seq_ret, RS.seq_bk, RS.seq_ct, RS.seq_exc, RS.turn_nx, RS.turn_ct, RS.turn_bk, RS.turn_ret, RS.turn_exc, R.nox_ok, orBad_some, lookV_some, lookD_some, onI_int, onLoc_loc, onB_true, onB_false, onB_dec, onBS_true, onBS_false, onBS_dec, bin_int, cmp_lt, cmp_le, cmp_gt, cmp_ge, cmp_eq, cmp_ne, cmp_isb, cmp_isnb, b1_int, b1_intb, b1_abs, b1_lent, b1_lenc, ix_t, ix_c, atR_def, at0, at1, at2, at3, at4, at5, add_of, sub_of, List.map_cons, List.map_nil, List.length_cons, List.length_nil, List.cons_append, List.nil_append, List.replicate_succ, List.replicate_zero, List.getElem?_cons_zero, List.getElem?_cons_succ, List.set_cons_zero, List.set_cons_succ, Nat.zero_add, Nat.reduceAdd, Nat.reduceSub, tupR_0, tupR_1, tupR_2, tupR_3, tupR_4, tupR_5, lstR_0, lstR_1, lstR_2, lstR_3, lstR_4, lstR_5, lstR_6, lstR_7, lstR_8, lstR_9, lstR_10, lstR_11, lstR_12, isi_int, isi_bl, isi_tup, isi_non, isi_str, fin_bl, fin_int, fin_non, fin_str, finX0, handle_hit, handle_nil, hx_bl, hx_str, hx_int, hx_non, hx_cnt, hx_pass, forR_it, forR_f, forR_t, forR_c, gmg, b1_repr, ne_repr, b2_max, b2_min, set_at0, set_at1, set_at2, set_at3, get_at0, get_at1, get_at2, get_at3, List.append_assoc, List.append_nil, List.length_append, List.length_set, Nat.add_zero, wR_ok, wR_exc, wR_bind, wS_ok, wS_exc, wS_st, wS_seq, wS_turn, wS_onBS, wR_onB, wS_ite, wR_ite, wS_tried, wR_nox, wR_mul, wR_div, wR_mod, ex_aug2, augS_some, wS_augR, wS_saugR, wR_fin, ev_callv2, callvS_fn, bindR_n, bindR_2, bindR_3, bindR_4, e1]
  rw [wS_step]
  simp only [ev_int, ev_bl, ev_non, ev_str, ev_var, ev_glob, ev_bin, ev_neg, ev_not, ev_cmp, ev_chain, ev_and, ev_or, ev_ife, ev_tup, ev_lst, ev_ix, ev_sl, ev_omit, ev_slr, ev_call, ev_b1, ev_b2, ev_isi, ev_meth, ev_lc, ev_lcif, ev_rng, ev_enum, ev_zip, ev_rev, evs_n, evs_c, alloc_v, alloc_f, setR_eq, ex_set, ex_tset, ex_sset, ex_saug, ex_ex, ex_ret, ex_retN, ex_ite, ex_whl, ex_for, ex_pass, ex_brk, ex_cnt, ex_raise, ex_try, exs_n, exs_c, tried_ok, tried_exc, rs_ret, rs_nx, rs_exc, R.bind_ok, R.bind_exc, R.bind_bad, R.st_ok, R.st_exc, RS.seq_nx, RS.seq_ret, RS.seq_bk, RS.seq_ct, RS.seq_exc, RS.turn_nx, RS.turn_ct, RS.turn_bk, RS.turn_ret, RS.turn_exc, R.nox_ok, orBad_some, lookV_some, lookD_some, onI_int, onLoc_loc, onB_true, onB_false, onB_dec, onBS_true, onBS_false, onBS_dec, bin_int, cmp_lt, cmp_le, cmp_gt, cmp_ge, cmp_eq, cmp_ne, cmp_isb, cmp_isnb, b1_int, b1_intb, b1_abs, b1_lent, b1_lenc, ix_t, ix_c, atR_def, at0, at1, at2, at3, at4, at5, add_of, sub_of, List.map_cons, List.map_nil, List.length_cons, List.length_nil, List.cons_append, List.nil_append, List.replicate_succ, List.replicate_zero, List.getElem?_cons_zero, List.getElem?_cons_succ, List.set_cons_zero, List.set_cons_succ, Nat.zero_add, Nat.reduceAdd, Nat.reduceSub, tupR_0, tupR_1, tupR_2, tupR_3, tupR_4, tupR_5, lstR_0, lstR_1, lstR_2, lstR_3, lstR_4, lstR_5, lstR_6, lstR_7, lstR_8, lstR_9, lstR_10, lstR_11, lstR_12, isi_int, isi_bl, isi_tup, isi_non, isi_str, fin_bl, fin_int, fin_non, fin_str, finX0, handle_hit, handle_nil, hx_bl, hx_str, hx_int, hx_non, hx_cnt, hx_pass, forR_it, forR_f, forR_t, forR_c, gmg, b1_repr, ne_repr, b2_max, b2_min, set_at0, set_at1, set_at2, set_at3, get_at0, get_at1, get_at2, get_at3, List.append_assoc, List.append_nil, List.length_append, List.length_set, Nat.add_zero, wR_ok, wR_exc, wR_bind, wS_ok, wS_exc, wS_st, wS_seq, wS_turn, wS_onBS, wR_onB, wS_ite, wR_ite, wS_tried, wR_nox, wR_mul, wR_div, wR_mod, ex_aug2, augS_some, wS_augR, wS_saugR, wR_fin, ev_callv2, callvS_fn, bindR_n, bindR_2, bindR_3, bindR_4, gl_exactly, e2]
  rw [wS_step]
  refine wS_mono (P' := fun fl e T => fl = .nx ∧ T = T4 ∧ e = [some C, some (.int c), some (.loc n), some (.int size), some (pD p), some (pD q), some (.int (((lead q).natAbs : Int) ^ (p.length + 1 - q.length))), some (pD s), some (pD r), some (.int (((lead q).natAbs : Int) ^ (p.length + 1 - q.length))), o', some w, some t, v13]) (Y' := fun _ _ _ => False) ?_ ?_ fun _ _ _ h => h
  · have i1 : cmpW .Is (.v .non) (.v .non) T4 = .ok (.v (.bl true)) T4 := rfl
    have i2 : ∀ s, cmpW .Is (.v (pD s)) (.v .non) T4 = .ok (.v (.bl false)) T4 := fun _ => rfl
    rcases hwt with ⟨rfl, rfl⟩ | ⟨s', rfl, rfl⟩
    · simp only [ev_int, ev_bl, ev_non, ev_str, ev_var, ev_glob, ev_bin, ev_neg, ev_not, ev_cmp, ev_chain, ev_and, ev_or, ev_ife, ev_tup, ev_lst, ev_ix, ev_sl, ev_omit, ev_slr, ev_call, ev_b1, ev_b2, ev_isi, ev_meth, ev_lc, ev_lcif, ev_rng, ev_enum, ev_zip, ev_rev, evs_n, evs_c, alloc_v, alloc_f, setR_eq, ex_set, ex_tset, ex_sset, ex_saug, ex_ex, ex_ret, ex_retN, ex_ite, ex_whl, ex_for, ex_pass, ex_brk, ex_cnt, ex_raise, ex_try, exs_n, exs_c, tried_ok, tried_exc, rs_ret, rs_nx, rs_exc, R.bind_ok, R.bind_exc, R.bind_bad, R.st_ok, R.st_exc, RS.seq_nx, RS.seq_ret, RS.seq_bk, RS.seq_ct, RS.seq_exc, RS.turn_nx, RS.turn_ct, RS.turn_bk, RS.turn_ret, RS.turn_exc, R.nox_ok, orBad_some, lookV_some, lookD_some, onI_int, onLoc_loc, onB_true, onB_false, onB_dec, onBS_true, onBS_false, onBS_dec, bin_int, cmp_lt, cmp_le, cmp_gt, cmp_ge, cmp_eq, cmp_ne, cmp_isb, cmp_isnb, b1_int, b1_intb, b1_abs, b1_lent, b1_lenc, ix_t, ix_c, atR_def, at0, at1, at2, at3, at4, at5, add_of, sub_of, List.map_cons, List.map_nil, List.length_cons, List.length_nil, List.cons_append, List.nil_append, List.replicate_succ, List.replicate_zero, List.getElem?_cons_zero, List.getElem?_cons_succ, List.set_cons_zero, List.set_cons_succ, Nat.zero_add, Nat.reduceAdd, Nat.reduceSub, tupR_0, tupR_1, tupR_2, tupR_3, tupR_4, tupR_5, lstR_0, lstR_1, lstR_2, lstR_3, lstR_4, lstR_5, lstR_6, lstR_7, lstR_8, lstR_9, lstR_10, lstR_11, lstR_12, isi_int, isi_bl, isi_tup, isi_non, isi_str, fin_bl, fin_int, fin_non, fin_str, finX0, handle_hit, handle_nil, hx_bl, hx_str, hx_int, hx_non, hx_cnt, hx_pass, forR_it, forR_f, forR_t, forR_c, gmg, b1_repr, ne_repr, b2_max, b2_min, set_at0, set_at1, set_at2, set_at3, get_at0, get_at1, get_at2, get_at3, List.append_assoc, List.append_nil, List.length_append, List.length_set, Nat.add_zero, wR_ok, wR_exc, wR_bind, wS_ok, wS_exc, wS_st, wS_seq, wS_turn, wS_onBS, wR_onB, wS_ite, wR_ite, wS_tried, wR_nox, wR_mul, wR_div, wR_mod, ex_aug2, augS_some, wS_augR, wS_saugR, wR_fin, ev_callv2, callvS_fn, bindR_n, bindR_2, bindR_3, bindR_4, i1, if_true, ne_str sn, if_false, Bool.false_eq_true, and_self]
    · simp only [ev_int, ev_bl, ev_non, ev_str, ev_var, ev_glob, ev_bin, ev_neg, ev_not, ev_cmp, ev_chain, ev_and, ev_or, ev_ife, ev_tup, ev_lst, ev_ix, ev_sl, ev_omit, ev_slr, ev_call, ev_b1, ev_b2, ev_isi, ev_meth, ev_lc, ev_lcif, ev_rng, ev_enum, ev_zip, ev_rev, evs_n, evs_c, alloc_v, alloc_f, setR_eq, ex_set, ex_tset, ex_sset, ex_saug, ex_ex, ex_ret, ex_retN, ex_ite, ex_whl, ex_for, ex_pass, ex_brk, ex_cnt, ex_raise, ex_try, exs_n, exs_c, tried_ok, tried_exc, rs_ret, rs_nx, rs_exc, R.bind_ok, R.bind_exc, R.bind_bad, R.st_ok, R.st_exc, RS.seq_nx, RS.seq_ret, RS.seq_bk, RS.seq_ct, RS.seq_exc, RS.turn_nx, RS.turn_ct, RS.turn_bk, RS.turn_ret, RS.turn_exc, R.nox_ok, orBad_some, lookV_some, lookD_some, onI_int, onLoc_loc, onB_true, onB_false, onB_dec, onBS_true, onBS_false, onBS_dec, bin_int, cmp_lt, cmp_le, cmp_gt, cmp_ge, cmp_eq, cmp_ne, cmp_isb, cmp_isnb, b1_int, b1_intb, b1_abs, b1_lent, b1_lenc, ix_t, ix_c, atR_def, at0, at1, at2, at3, at4, at5, add_of, sub_of, List.map_cons, List.map_nil, List.length_cons, List.length_nil, List.cons_append, List.nil_append, List.replicate_succ, List.replicate_zero, List.getElem?_cons_zero, List.getElem?_cons_succ, List.set_cons_zero, List.set_cons_succ, Nat.zero_add, Nat.reduceAdd, Nat.reduceSub, tupR_0, tupR_1, tupR_2, tupR_3, tupR_4, tupR_5, lstR_0, lstR_1, lstR_2, lstR_3, lstR_4, lstR_5, lstR_6, lstR_7, lstR_8, lstR_9, lstR_10, lstR_11, lstR_12, isi_int, isi_bl, isi_tup, isi_non, isi_str, fin_bl, fin_int, fin_non, fin_str, finX0, handle_hit, handle_nil, hx_bl, hx_str, hx_int, hx_non, hx_cnt, hx_pass, forR_it, forR_f, forR_t, forR_c, gmg, b1_repr, ne_repr, b2_max, b2_min, set_at0, set_at1, set_at2, set_at3, get_at0, get_at1, get_at2, get_at3, List.append_assoc, List.append_nil, List.length_append, List.length_set, Nat.add_zero, wR_ok, wR_exc, wR_bind, wS_ok, wS_exc, wS_st, wS_seq, wS_turn, wS_onBS, wR_onB, wS_ite, wR_ite, wS_tried, wR_nox, wR_mul, wR_div, wR_mod, ex_aug2, augS_some, wS_augR, wS_saugR, wR_fin, ev_callv2, callvS_fn, bindR_n, bindR_2, bindR_3, bindR_4, i2, if_true, ne_tt, ne_eq, not_true_eq_false, decide_false, if_false, Bool.false_eq_true, and_self]
  rintro fl e T ⟨rfl, rfl, rfl⟩
  dsimp only
  rw [wS_step]
  have c5 := sp_lmul (S := T) (k + 4) ap aq (by decide) (by omega)
  have hpl2 := pmul_len (p := p) (q := q)
  have hpa2 := pmul_AB ap aq
  simp only [ev_int, ev_bl, ev_non, ev_str, ev_var, ev_glob, ev_bin, ev_neg, ev_not, ev_cmp, ev_chain, ev_and, ev_or, ev_ife, ev_tup, ev_lst, ev_ix, ev_sl, ev_omit, ev_slr, ev_call, ev_b1, ev_b2, ev_isi, ev_meth, ev_lc, ev_lcif, ev_rng, ev_enum, ev_zip, ev_rev, evs_n, evs_c, alloc_v, alloc_f, setR_eq, ex_set, ex_tset, ex_sset, ex_saug, ex_ex, ex_ret, ex_retN, ex_ite, ex_whl, ex_for, ex_pass, ex_brk, ex_cnt, ex_raise, ex_try, exs_n, exs_c, tried_ok, tried_exc, rs_ret, rs_nx, rs_exc, R.bind_ok, R.bind_exc, R.bind_bad, R.st_ok, R.st_exc, RS.seq_nx, RS.seq_ret, RS.seq_bk, RS.seq_ct, RS.seq_exc, RS.turn_nx, RS.turn_ct, RS.turn_bk, RS.turn_ret, RS.turn_exc, R.nox_ok, orBad_some, lookV_some, lookD_some, onI_int, onLoc_loc, onB_true, onB_false, onB_dec, onBS_true, onBS_false, onBS_dec, bin_int, cmp_lt, cmp_le, cmp_gt, cmp_ge, cmp_eq, cmp_ne, cmp_isb, cmp_isnb, b1_int, b1_intb, b1_abs, b1_lent, b1_lenc, ix_t, ix_c, atR_def, at0, at1, at2, at3, at4, at5, add_of, sub_of, List.map_cons, List.map_nil, List.length_cons, List.length_nil, List.cons_append, List.nil_append, List.replicate_succ, List.replicate_zero, List.getElem?_cons_zero, List.getElem?_cons_succ, List.set_cons_zero, List.set_cons_succ, Nat.zero_add, Nat.reduceAdd, Nat.reduceSub, tupR_0, tupR_1, tupR_2, tupR_3, tupR_4, tupR_5, lstR_0, lstR_1, lstR_2, lstR_3, lstR_4, lstR_5, lstR_6, lstR_7, lstR_8, lstR_9, lstR_10, lstR_11, lstR_12, isi_int, isi_bl, isi_tup, isi_non, isi_str, fin_bl, fin_int, fin_non, fin_str, finX0, handle_hit, handle_nil, hx_bl, hx_str, hx_int, hx_non, hx_cnt, hx_pass, forR_it, forR_f, forR_t, forR_c, gmg, b1_repr, ne_repr, b2_max, b2_min, set_at0, set_at1, set_at2, set_at3, get_at0, get_at1, get_at2, get_at3, List.append_assoc, List.append_nil, List.length_append, List.length_set, Nat.add_zero, wR_ok, wR_exc, wR_bind, wS_ok, wS_exc, wS_st, wS_seq, wS_turn, wS_onBS, wR_onB, wS_ite, wR_ite, wS_tried, wR_nox, wR_mul, wR_div, wR_mod, ex_aug2, augS_some, wS_augR, wS_saugR, wR_fin, ev_callv2, callvS_fn, bindR_n, bindR_2, bindR_3, bindR_4, c5]
  rw [wS_step]
  have c6 : (Γ (k + 6)).call 226 [pD (pmul p q), pD q] T = .ok (.v (pD p)) T := by
    rcases sp_exactly (S := T) pmul_tr tq hq (hpa2.mono (m := 700) (by omega)) aq (by decide) (by omega) (by omega) (k + 1) with ⟨_, hy⟩ | ⟨hn, _⟩
    · exact hy p tp rfl
    · exact (hn ⟨p, tp, rfl⟩).elim
  have c7 := sp_same_p (S := T) (k + 4) (p := p) (by omega)
  simp only [ev_int, ev_bl, ev_non, ev_str, ev_var, ev_glob, ev_bin, ev_neg, ev_not, ev_cmp, ev_chain, ev_and, ev_or, ev_ife, ev_tup, ev_lst, ev_ix, ev_sl, ev_omit, ev_slr, ev_call, ev_b1, ev_b2, ev_isi, ev_meth, ev_lc, ev_lcif, ev_rng, ev_enum, ev_zip, ev_rev, evs_n, evs_c, alloc_v, alloc_f, setR_eq, ex_set, ex_tset, ex_sset, ex_saug, ex_ex, ex_ret, ex_retN, ex_ite, ex_whl, ex_for, ex_pass, ex_brk, ex_cnt, ex_raise, ex_try, exs_n, exs_c, tried_ok, tried_exc, rs_ret, rs_nx, rs_exc, R.bind_ok, R.bind_exc, R.bind_bad, R.st_ok, R.st_exc, RS.seq_nx, RS.seq_ret, RS.seq_bk, RS.seq_ct, RS.seq_exc, RS.turn_nx, RS.turn_ct, RS.turn_bk, RS.turn_ret, RS.turn_exc, R.nox_ok, orBad_some, lookV_some, lookD_some, onI_int, onLoc_loc, onB_true, onB_false, onB_dec, onBS_true, onBS_false, onBS_dec, bin_int, cmp_lt, cmp_le, cmp_gt, cmp_ge, cmp_eq, cmp_ne, cmp_isb, cmp_isnb, b1_int, b1_intb, b1_abs, b1_lent, b1_lenc, ix_t, ix_c, atR_def, at0, at1, at2, at3, at4, at5, add_of, sub_of, List.map_cons, List.map_nil, List.length_cons, List.length_nil, List.cons_append, List.nil_append, List.replicate_succ, List.replicate_zero, List.getElem?_cons_zero, List.getElem?_cons_succ, List.set_cons_zero, List.set_cons_succ, Nat.zero_add, Nat.reduceAdd, Nat.reduceSub, tupR_0, tupR_1, tupR_2, tupR_3, tupR_4, tupR_5, lstR_0, lstR_1, lstR_2, lstR_3, lstR_4, lstR_5, lstR_6, lstR_7, lstR_8, lstR_9, lstR_10, lstR_11, lstR_12, isi_int, isi_bl, isi_tup, isi_non, isi_str, fin_bl, fin_int, fin_non, fin_str, finX0, handle_hit, handle_nil, hx_bl, hx_str, hx_int, hx_non, hx_cnt, hx_pass, forR_it, forR_f, forR_t, forR_c, gmg, b1_repr, ne_repr, b2_max, b2_min, set_at0, set_at1, set_at2, set_at3, get_at0, get_at1, get_at2, get_at3, List.append_assoc, List.append_nil, List.length_append, List.length_set, Nat.add_zero, wR_ok, wR_exc, wR_bind, wS_ok, wS_exc, wS_st, wS_seq, wS_turn, wS_onBS, wR_onB, wS_ite, wR_ite, wS_tried, wR_nox, wR_mul, wR_div, wR_mod, ex_aug2, augS_some, wS_augR, wS_saugR, wR_fin, ev_callv2, callvS_fn, bindR_n, bindR_2, bindR_3, bindR_4, c6, c7, if_false, Bool.false_eq_true]
  rw [wS_end]
  exact ⟨.inl rfl, _, _, _, _, _, _, _, _, _, _, _, _, _, rfl⟩
theorem law_ok (ns : List Int) (hl : ns.length ≤ 63) (hb : ∀ z ∈ ns, z.natAbs < 2 ^ cellBits) : (Γ 230).call 230 [.cl (ns.map D.int)] [] = .ok (.v (.bl true)) [] := by
  refine wR_res ?_
  rw [call_n tab_law_12 rfl]
  have hlen : ((List.map D.int ns).length : Int) = (ns.length : Int) := by rw [List.length_map]
  have hm : ∃ M : Int, (if (if (ns.length : Int) < 10 then (ns.length : Int) else 10) > 1 then (if (ns.length : Int) < 10 then (ns.length : Int) else 10) else 1) = M ∧ 0 ≤ M ∧ M ≤ 20 := ⟨_, rfl, by split <;> omega, by split <;> split <;> omega⟩
  obtain ⟨M, hM, h0, h20⟩ := hm
  have hr : rngW [.int M] = some (rangeD 0 M) := rng_1 (by unfold small; exact decide_eq_true (by omega))
  simp only [fd_law_12, ev_int, ev_bl, ev_non, ev_str, ev_var, ev_glob, ev_bin, ev_neg, ev_not, ev_cmp, ev_chain, ev_and, ev_or, ev_ife, ev_tup, ev_lst, ev_ix, ev_sl, ev_omit, ev_slr, ev_call, ev_b1, ev_b2, ev_isi, ev_meth, ev_lc, ev_lcif, ev_rng, ev_enum, ev_zip, ev_rev, evs_n, evs_c, alloc_v, alloc_f, setR_eq, ex_set, ex_tset, ex_sset, ex_saug, ex_ex, ex_ret, ex_retN, ex_ite, ex_whl, ex_for, ex_pass, ex_brk, ex_cnt, ex_raise, ex_try, exs_n, exs_c, tried_ok, tried_exc, rs_ret, rs_nx, rs_exc, R.bind_ok, R.bind_exc, R.bind_bad, R.st_ok, R.st_exc, RS.seq_nx, RS.seq_ret, RS.seq_bk, RS.seq_ct, RS.seq_exc, RS.turn_nx, RS.turn_ct, RS.turn_bk, RS.turn_ret, RS.turn_exc, R.nox_ok, orBad_some, lookV_some, lookD_some, onI_int, onLoc_loc, onB_true, onB_false, onB_dec, onBS_true, onBS_false, onBS_dec, bin_int, cmp_lt, cmp_le, cmp_gt, cmp_ge, cmp_eq, cmp_ne, cmp_isb, cmp_isnb, b1_int, b1_intb, b1_abs, b1_lent, b1_lenc, ix_t, ix_c, atR_def, at0, at1, at2, at3, at4, at5, add_of, sub_of, List.map_cons, List.map_nil, List.length_cons, List.length_nil, List.cons_append, List.nil_append, List.replicate_succ, List.replicate_zero, List.getElem?_cons_zero, List.getElem?_cons_succ, List.set_cons_zero, List.set_cons_succ, Nat.zero_add, Nat.reduceAdd, Nat.reduceSub, tupR_0, tupR_1, tupR_2, tupR_3, tupR_4, tupR_5, lstR_0, lstR_1, lstR_2, lstR_3, lstR_4, lstR_5, lstR_6, lstR_7, lstR_8, lstR_9, lstR_10, lstR_11, lstR_12, isi_int, isi_bl, isi_tup, isi_non, isi_str, fin_bl, fin_int, fin_non, fin_str, finX0, handle_hit, handle_nil, hx_bl, hx_str, hx_int, hx_non, hx_cnt, hx_pass, forR_it, forR_f, forR_t, forR_c, gmg, b1_repr, ne_repr, b2_max, b2_min, set_at0, set_at1, set_at2, set_at3, get_at0, get_at1, get_at2, get_at3, List.append_assoc, List.append_nil, List.length_append, List.length_set, Nat.add_zero, wR_ok, wR_exc, wR_bind, wS_ok, wS_exc, wS_st, wS_seq, wS_turn, wS_onBS, wR_onB, wS_ite, wR_ite, wS_tried, wR_nox, wR_mul, wR_div, wR_mod, ex_aug2, augS_some, wS_augR, wS_saugR, wR_fin, ev_callv2, callvS_fn, bindR_n, bindR_2, bindR_3, bindR_4, hlen, b2_max, b2_min, hM, hr]
  refine ws_for (fun _ env S => ∃ w1 w2 w3 w4 w5 w6 w7 w8 w9 w10 w11 w12 w13, env = [some (.cl (ns.map D.int)), w1, w2, w3, w4, w5, w6, w7, w8, w9, w10, w11, w12, w13]) ⟨_, _, _, _, _, _, _, _, _, _, _, _, _, rfl⟩ (fun _ _ _ _ => noSrc) (fun i x env S hx hI => ?_) fun env S hI => ?_
  · obtain ⟨w1, w2, w3, w4, w5, w6, w7, w8, w9, w10, w11, w12, w13, rfl⟩ := hI
    obtain ⟨rfl, hi⟩ := range_get hx
    refine ⟨_, rfl, ?_⟩
    rw [Int.zero_add]
    refine wS_mono (k11_body 223 hb (c := i) (by omega)) (fun fl e T h => ?_) fun _ _ _ h => h.elim
    obtain ⟨rfl | rfl, h⟩ := h <;> exact h
  · obtain ⟨w1, w2, w3, w4, w5, w6, w7, w8, w9, w10, w11, w12, w13, rfl⟩ := hI
    have f : finish [] S (.v (.bl true)) = .ok (.v (.bl true)) [] := fin_v (S := []) (S' := []) (G := S) Kept.refl rfl
    have a1 : (Γ 229).call 228 [.fn 225, .tup [], .tup []] S = .ok (.v (.str "zero")) S := told7_9 228 rfl (divided0 (S := S) 227 (p := []))
    have a2 : (Γ 229).call 228 [.fn 226, .tup [], .tup [.int 3]] S = .ok (.v (.tup [])) S := by
      rcases sp_exactly (S := S) (p := []) (q := [3]) (n := 1) (m := 2) rfl rfl (by decide) (fun _ h => by cases h) (fun a h => by rw [List.mem_singleton.mp h]; show 3 < 4; decide) (by decide) (by decide) (by decide) 223 with ⟨_, hy⟩ | ⟨hn, _⟩
      · exact told7_ok 228 rfl (hy [] rfl rfl) rfl
      · exact (hn ⟨[], rfl, rfl⟩).elim
    have sz : PyData.strOk "zero" = true := by decide +kernel
    have z1 : ("zero" : Str) == "zero" := by decide +kernel
    have eqn : cmpW .Eq (.v (.tup [])) (.v (.tup [])) S = .ok (.v (.bl true)) S := eq_tn (S := S) []
    simp only [ev_int, ev_bl, ev_non, ev_str, ev_var, ev_glob, ev_bin, ev_neg, ev_not, ev_cmp, ev_chain, ev_and, ev_or, ev_ife, ev_tup, ev_lst, ev_ix, ev_sl, ev_omit, ev_slr, ev_call, ev_b1, ev_b2, ev_isi, ev_meth, ev_lc, ev_lcif, ev_rng, ev_enum, ev_zip, ev_rev, evs_n, evs_c, alloc_v, alloc_f, setR_eq, ex_set, ex_tset, ex_sset, ex_saug, ex_ex, ex_ret, ex_retN, ex_ite, ex_whl, ex_for, ex_pass, ex_brk, ex_cnt, ex_raise, ex_try, exs_n, exs_c, tried_ok, tried_exc, rs_ret, rs_nx, rs_exc, R.bind_ok, R.bind_exc, R.bind_bad, R.st_ok, R.st_exc, RS.seq_nx, RS.seq_ret, RS.seq_bk, RS.seq_ct, RS.seq_exc, RS.turn_nx, RS.turn_ct, RS.turn_bk, RS.turn_ret, RS.turn_exc, R.nox_ok, orBad_some, lookV_some, lookD_some, onI_int, onLoc_loc, onB_true, onB_false, onB_dec, onBS_true, onBS_false, onBS_dec, bin_int, cmp_lt, cmp_le, cmp_gt, cmp_ge, cmp_eq, cmp_ne, cmp_isb, cmp_isnb, b1_int, b1_intb, b1_abs, b1_lent, b1_lenc, ix_t, ix_c, atR_def, at0, at1, at2, at3, at4, at5, add_of, sub_of, List.map_cons, List.map_nil, List.length_cons, List.length_nil, List.cons_append, List.nil_append, List.replicate_succ, List.replicate_zero, List.getElem?_cons_zero, List.getElem?_cons_succ, List.set_cons_zero, List.set_cons_succ, Nat.zero_add, Nat.reduceAdd, Nat.reduceSub, tupR_0, tupR_1, tupR_2, tupR_3, tupR_4, tupR_5, lstR_0, lstR_1, lstR_2, lstR_3, lstR_4, lstR_5, lstR_6, lstR_7, lstR_8, lstR_9, lstR_10, lstR_11, lstR_12, isi_int, isi_bl, isi_tup, isi_non, isi_str, fin_bl, fin_int, fin_non, fin_str, finX0, handle_hit, handle_nil, hx_bl, hx_str, hx_int, hx_non, hx_cnt, hx_pass, forR_it, forR_f, forR_t, forR_c, gmg, b1_repr, ne_repr, b2_max, b2_min, set_at0, set_at1, set_at2, set_at3, get_at0, get_at1, get_at2, get_at3, List.append_assoc, List.append_nil, List.length_append, List.length_set, Nat.add_zero, wR_ok, wR_exc, wR_bind, wS_ok, wS_exc, wS_st, wS_seq, wS_turn, wS_onBS, wR_onB, wS_ite, wR_ite, wS_tried, wR_nox, wR_mul, wR_div, wR_mod, ex_aug2, augS_some, wS_augR, wS_saugR, wR_fin, ev_callv2, callvS_fn, bindR_n, bindR_2, bindR_3, bindR_4, gl_divided, gl_exactly, a1, eq_strs sz sz, z1, if_true, a2, eqn, f, and_self]
end
end Py

namespace Py
namespace T
open PySem PySem.Spec PyProof.Rows L2
def top (i : Nat) : Stmt := PySem.Challenge.pw_realplane_k11_divisions.main.body.getD i (.Pass ⟨0, 0, 0, 0⟩)
def d_raised : He.DefD := ⟨("raised", none), "raised", "raised", defArgs (top 5), defBody (top 5), defScope (top 5), [], []⟩
def d_trimmed : He.DefD := ⟨("trimmed", none), "trimmed", "trimmed", defArgs (top 7), defBody (top 7), defScope (top 7), [], []⟩
def d_degree : He.DefD := ⟨("degree", none), "degree", "degree", defArgs (top 8), defBody (top 8), defScope (top 8), [], []⟩
def d_sum_of : He.DefD := ⟨("sum_of", none), "sum_of", "sum_of", defArgs (top 9), defBody (top 9), defScope (top 9), [], []⟩
def d_scaled : He.DefD := ⟨("scaled", none), "scaled", "scaled", defArgs (top 10), defBody (top 10), defScope (top 10), [], []⟩
def d_difference : He.DefD := ⟨("difference", none), "difference", "difference", defArgs (top 11), defBody (top 11), defScope (top 11), [], []⟩
def d_shifted : He.DefD := ⟨("shifted", none), "shifted", "shifted", defArgs (top 12), defBody (top 12), defScope (top 12), [], []⟩
def d_divided : He.DefD := ⟨("divided", none), "divided", "divided", defArgs (top 13), defBody (top 13), defScope (top 13), [], []⟩
def d_exactly : He.DefD := ⟨("exactly", none), "exactly", "exactly", defArgs (top 14), defBody (top 14), defScope (top 14), [], []⟩
def d_law_bag_11 : He.DefD := ⟨("_law_bag", none), "_law_bag", "_law_bag", defArgs (top 16), defBody (top 16), defScope (top 16), [], []⟩
def d_law_draw : He.DefD := ⟨("_law_draw", none), "_law_draw", "_law_draw", defArgs (top 17), defBody (top 17), defScope (top 17), [], []⟩
def d_law_one : He.DefD := ⟨("_law_one", none), "_law_one", "_law_one", defArgs (top 18), defBody (top 18), defScope (top 18), [], []⟩
def d_law_trim_2 : He.DefD := ⟨("_law_trim", none), "_law_trim", "_law_trim", defArgs (top 19), defBody (top 19), defScope (top 19), [], []⟩
def d_law_add_2 : He.DefD := ⟨("_law_add", none), "_law_add", "_law_add", defArgs (top 20), defBody (top 20), defScope (top 20), [], []⟩
def d_law_scale_2 : He.DefD := ⟨("_law_scale", none), "_law_scale", "_law_scale", defArgs (top 21), defBody (top 21), defScope (top 21), [], []⟩
def d_law_mul_2 : He.DefD := ⟨("_law_mul", none), "_law_mul", "_law_mul", defArgs (top 22), defBody (top 22), defScope (top 22), [], []⟩
def d_law_poly_2 : He.DefD := ⟨("_law_poly", none), "_law_poly", "_law_poly", defArgs (top 28), defBody (top 28), defScope (top 28), [], []⟩
def d_law_same : He.DefD := ⟨("_law_same", none), "_law_same", "_law_same", defArgs (top 30), defBody (top 30), defScope (top 30), [], []⟩
def d_law_told_7 : He.DefD := ⟨("_law_told", none), "_law_told", "_law_told", defArgs (top 31), defBody (top 31), defScope (top 31), [], []⟩
def d_law_whole : He.DefD := ⟨("_law_whole", none), "_law_whole", "_law_whole", defArgs (top 32), defBody (top 32), defScope (top 32), [], []⟩
def d_law_12 : He.DefD := ⟨("law", none), "law", "law", defArgs (top 33), defBody (top 33), defScope (top 33), [], []⟩
def fn : List He.DefD := ([d_raised, d_trimmed, d_degree, d_sum_of, d_scaled, d_difference, d_shifted, d_divided, d_exactly, d_law_bag_11, d_law_draw, d_law_one] : List He.DefD) ++ ([d_law_trim_2, d_law_add_2, d_law_scale_2, d_law_mul_2, d_law_poly_2, d_law_same, d_law_told_7, d_law_whole, d_law_12] : List He.DefD)
def fa : List He.Fa := ([.glo "raised", .glo "trimmed", .glo "degree", .glo "sum_of", .glo "scaled", .glo "difference", .glo "shifted", .glo "divided", .glo "exactly", .glo "_law_bag", .glo "_law_draw", .glo "_law_one"] : List He.Fa) ++ ([.glo "_law_trim", .glo "_law_add", .glo "_law_scale", .glo "_law_mul", .glo "_law_poly", .glo "_law_same", .glo "_law_told", .glo "_law_whole", .glo "law", .free "len", .free "abs", .free "int"] : List He.Fa) ++ ([.free "tuple", .free "list", .free "all", .free "any", .free "sum", .free "max", .free "min", .free "repr", .free "isinstance", .free "range", .free "enumerate", .free "zip"] : List He.Fa) ++ ([.free "reversed", .free "bool", .free "str", .exc "ByZero", .exc "NoSuch", .glo "ByZero", .glo "NoSuch", .exm "ByZero" "ByZero" true, .exm "ByZero" "NoSuch" false, .exm "NoSuch" "ByZero" false, .exm "NoSuch" "NoSuch" true] : List He.Fa)
abbrev R : PySem.W.OpenRow := PySem.W.OpenLaw.row PySem.Challenge.rw_realplane_k11_divisions
abbrev hk : PySem.W.Hook := He.hookD 4 fa fn
def ob (s : PySem.W.SharedT) : He.AlD := He.obsDG 4 fa fn (HandSHeadRun.getT s)
theorem ob_eq (s : PySem.W.SharedT) : ob s = hk.obs s.abs := He.obsDG_eq (HandSHeadRun.getT_eq s)
def names : List PySem.Str := (["RealError", "NoSuch", "ByZero", "raised", "trimmed", "degree", "sum_of", "scaled", "difference", "shifted", "divided", "exactly"] : List PySem.Str) ++ (["_law_bag", "_law_draw", "_law_one", "_law_trim", "_law_add", "_law_scale", "_law_mul", "_law_gcd", "_law_content", "_law_primitive", "_law_at", "_law_sign"] : List PySem.Str) ++ (["_law_poly", "_law_frac", "_law_same", "_law_told", "_law_whole"] : List PySem.Str)
set_option maxHeartbeats 0 in
theorem run (w : World) : HandSHeadRun.RunEq R (PySem.W.view R.prog [33]) hk ob 20000 names w := by
  intro os
  kernel_rfl
def nmL : List (Nat × Str) := ([(47, "raised"), (118, "trimmed"), (119, "degree"), (120, "sum_of"), (121, "scaled"), (122, "difference"), (224, "shifted"), (225, "divided"), (226, "exactly"), (227, "_law_bag"), (31, "_law_draw"), (32, "_law_one")] : List (Nat × Str)) ++ ([(196, "_law_trim"), (216, "_law_add"), (217, "_law_scale"), (218, "_law_mul"), (197, "_law_poly"), (84, "_law_same"), (228, "_law_told"), (229, "_law_whole"), (230, "law")] : List (Nat × Str))
def gnL : List (Nat × Str) := ([(225, "divided"), (226, "exactly")] : List (Nat × Str))
def enL : List (Nat × Str) := ([(9, "ByZero"), (8, "NoSuch")] : List (Nat × Str))
def nms : Nms := ⟨fun i => nmL.lookup i, fun i => gnL.lookup i⟩
def en : Nat → Option Str := fun i => enL.lookup i
abbrev gd (K : PySem.W.Frag) : Gd := gdOf K nmL enL
theorem mt_raised : mtSs nms en fd_raised.names d_raised.scope fd_raised.body d_raised.body = true := by decide +kernel
theorem sc_raised : FnScope fd_raised.names ["n", "k"] d_raised.scope := ⟨rfl, rfl, rfl, by decide +kernel, rfl, by decide +kernel, by decide +kernel⟩
theorem ok_raised {K : PySem.W.Frag} {mg : Str → Option Value} (h : ∃ fd, FunD K "raised" "raised" d_raised.params d_raised.body d_raised.scope [] [] (He.ga K "raised") fd) (e : mg "raised" = some (.ref (He.ga K "raised"))) : DefOk K mg (gd K) nms en 47 "raised" fd_raised := by
  obtain ⟨fd, F⟩ := h
  exact ⟨⟨_, _, _, fd, ["n", "k"], F, sc_raised, rfl, mt_raised, F.bindsN fun _ _ _ _ _ _ us hl => match us, hl with | [_, _], _ => rfl⟩, e⟩
theorem mt_trimmed : mtSs nms en fd_trimmed.names d_trimmed.scope fd_trimmed.body d_trimmed.body = true := by decide +kernel
theorem sc_trimmed : FnScope fd_trimmed.names ["coefficients"] d_trimmed.scope := ⟨rfl, rfl, rfl, by decide +kernel, rfl, by decide +kernel, by decide +kernel⟩
theorem ok_trimmed {K : PySem.W.Frag} {mg : Str → Option Value} (h : ∃ fd, FunD K "trimmed" "trimmed" d_trimmed.params d_trimmed.body d_trimmed.scope [] [] (He.ga K "trimmed") fd) (e : mg "trimmed" = some (.ref (He.ga K "trimmed"))) : DefOk K mg (gd K) nms en 118 "trimmed" fd_trimmed := by
  obtain ⟨fd, F⟩ := h
  exact ⟨⟨_, _, _, fd, ["coefficients"], F, sc_trimmed, rfl, mt_trimmed, F.bindsN fun _ _ _ _ _ _ us hl => match us, hl with | [_], _ => rfl⟩, e⟩
theorem mt_degree : mtSs nms en fd_degree.names d_degree.scope fd_degree.body d_degree.body = true := by decide +kernel
theorem sc_degree : FnScope fd_degree.names ["p"] d_degree.scope := ⟨rfl, rfl, rfl, by decide +kernel, rfl, by decide +kernel, by decide +kernel⟩
theorem ok_degree {K : PySem.W.Frag} {mg : Str → Option Value} (h : ∃ fd, FunD K "degree" "degree" d_degree.params d_degree.body d_degree.scope [] [] (He.ga K "degree") fd) (e : mg "degree" = some (.ref (He.ga K "degree"))) : DefOk K mg (gd K) nms en 119 "degree" fd_degree := by
  obtain ⟨fd, F⟩ := h
  exact ⟨⟨_, _, _, fd, ["p"], F, sc_degree, rfl, mt_degree, F.bindsN fun _ _ _ _ _ _ us hl => match us, hl with | [_], _ => rfl⟩, e⟩
theorem mt_sum_of : mtSs nms en fd_sum_of.names d_sum_of.scope fd_sum_of.body d_sum_of.body = true := by decide +kernel
theorem sc_sum_of : FnScope fd_sum_of.names ["p", "q"] d_sum_of.scope := ⟨rfl, rfl, rfl, by decide +kernel, rfl, by decide +kernel, by decide +kernel⟩
theorem ok_sum_of {K : PySem.W.Frag} {mg : Str → Option Value} (h : ∃ fd, FunD K "sum_of" "sum_of" d_sum_of.params d_sum_of.body d_sum_of.scope [] [] (He.ga K "sum_of") fd) (e : mg "sum_of" = some (.ref (He.ga K "sum_of"))) : DefOk K mg (gd K) nms en 120 "sum_of" fd_sum_of := by
  obtain ⟨fd, F⟩ := h
  exact ⟨⟨_, _, _, fd, ["p", "q"], F, sc_sum_of, rfl, mt_sum_of, F.bindsN fun _ _ _ _ _ _ us hl => match us, hl with | [_, _], _ => rfl⟩, e⟩
theorem mt_scaled : mtSs nms en fd_scaled.names d_scaled.scope fd_scaled.body d_scaled.body = true := by decide +kernel
theorem sc_scaled : FnScope fd_scaled.names ["n", "p"] d_scaled.scope := ⟨rfl, rfl, rfl, by decide +kernel, rfl, by decide +kernel, by decide +kernel⟩
theorem ok_scaled {K : PySem.W.Frag} {mg : Str → Option Value} (h : ∃ fd, FunD K "scaled" "scaled" d_scaled.params d_scaled.body d_scaled.scope [] [] (He.ga K "scaled") fd) (e : mg "scaled" = some (.ref (He.ga K "scaled"))) : DefOk K mg (gd K) nms en 121 "scaled" fd_scaled := by
  obtain ⟨fd, F⟩ := h
  exact ⟨⟨_, _, _, fd, ["n", "p"], F, sc_scaled, rfl, mt_scaled, F.bindsN fun _ _ _ _ _ _ us hl => match us, hl with | [_, _], _ => rfl⟩, e⟩
theorem mt_difference : mtSs nms en fd_difference.names d_difference.scope fd_difference.body d_difference.body = true := by decide +kernel
theorem sc_difference : FnScope fd_difference.names ["p", "q"] d_difference.scope := ⟨rfl, rfl, rfl, by decide +kernel, rfl, by decide +kernel, by decide +kernel⟩
theorem ok_difference {K : PySem.W.Frag} {mg : Str → Option Value} (h : ∃ fd, FunD K "difference" "difference" d_difference.params d_difference.body d_difference.scope [] [] (He.ga K "difference") fd) (e : mg "difference" = some (.ref (He.ga K "difference"))) : DefOk K mg (gd K) nms en 122 "difference" fd_difference := by
  obtain ⟨fd, F⟩ := h
  exact ⟨⟨_, _, _, fd, ["p", "q"], F, sc_difference, rfl, mt_difference, F.bindsN fun _ _ _ _ _ _ us hl => match us, hl with | [_, _], _ => rfl⟩, e⟩
theorem mt_shifted : mtSs nms en fd_shifted.names d_shifted.scope fd_shifted.body d_shifted.body = true := by decide +kernel
theorem sc_shifted : FnScope fd_shifted.names ["p", "n"] d_shifted.scope := ⟨rfl, rfl, rfl, by decide +kernel, rfl, by decide +kernel, by decide +kernel⟩
theorem ok_shifted {K : PySem.W.Frag} {mg : Str → Option Value} (h : ∃ fd, FunD K "shifted" "shifted" d_shifted.params d_shifted.body d_shifted.scope [] [] (He.ga K "shifted") fd) (e : mg "shifted" = some (.ref (He.ga K "shifted"))) : DefOk K mg (gd K) nms en 224 "shifted" fd_shifted := by
  obtain ⟨fd, F⟩ := h
  exact ⟨⟨_, _, _, fd, ["p", "n"], F, sc_shifted, rfl, mt_shifted, F.bindsN fun _ _ _ _ _ _ us hl => match us, hl with | [_, _], _ => rfl⟩, e⟩
theorem mt_divided : mtSs nms en fd_divided.names d_divided.scope fd_divided.body d_divided.body = true := by decide +kernel
theorem sc_divided : FnScope fd_divided.names ["p", "q"] d_divided.scope := ⟨rfl, rfl, rfl, by decide +kernel, rfl, by decide +kernel, by decide +kernel⟩
theorem ok_divided {K : PySem.W.Frag} {mg : Str → Option Value} (h : ∃ fd, FunD K "divided" "divided" d_divided.params d_divided.body d_divided.scope [] [] (He.ga K "divided") fd) (e : mg "divided" = some (.ref (He.ga K "divided"))) : DefOk K mg (gd K) nms en 225 "divided" fd_divided := by
  obtain ⟨fd, F⟩ := h
  exact ⟨⟨_, _, _, fd, ["p", "q"], F, sc_divided, rfl, mt_divided, F.bindsN fun _ _ _ _ _ _ us hl => match us, hl with | [_, _], _ => rfl⟩, e⟩
theorem mt_exactly : mtSs nms en fd_exactly.names d_exactly.scope fd_exactly.body d_exactly.body = true := by decide +kernel
theorem sc_exactly : FnScope fd_exactly.names ["p", "q"] d_exactly.scope := ⟨rfl, rfl, rfl, by decide +kernel, rfl, by decide +kernel, by decide +kernel⟩
theorem ok_exactly {K : PySem.W.Frag} {mg : Str → Option Value} (h : ∃ fd, FunD K "exactly" "exactly" d_exactly.params d_exactly.body d_exactly.scope [] [] (He.ga K "exactly") fd) (e : mg "exactly" = some (.ref (He.ga K "exactly"))) : DefOk K mg (gd K) nms en 226 "exactly" fd_exactly := by
  obtain ⟨fd, F⟩ := h
  exact ⟨⟨_, _, _, fd, ["p", "q"], F, sc_exactly, rfl, mt_exactly, F.bindsN fun _ _ _ _ _ _ us hl => match us, hl with | [_, _], _ => rfl⟩, e⟩
theorem mt_law_bag_11 : mtSs nms en fd_law_bag_11.names d_law_bag_11.scope fd_law_bag_11.body d_law_bag_11.body = true := by decide +kernel
theorem sc_law_bag_11 : FnScope fd_law_bag_11.names ["script", "k"] d_law_bag_11.scope := ⟨rfl, rfl, rfl, by decide +kernel, rfl, by decide +kernel, by decide +kernel⟩
theorem ok_law_bag_11 {K : PySem.W.Frag} {mg : Str → Option Value} (h : ∃ fd, FunD K "_law_bag" "_law_bag" d_law_bag_11.params d_law_bag_11.body d_law_bag_11.scope [] [] (He.ga K "_law_bag") fd) (e : mg "_law_bag" = some (.ref (He.ga K "_law_bag"))) : DefOk K mg (gd K) nms en 227 "_law_bag" fd_law_bag_11 := by
  obtain ⟨fd, F⟩ := h
  exact ⟨⟨_, _, _, fd, ["script", "k"], F, sc_law_bag_11, rfl, mt_law_bag_11, F.bindsN fun _ _ _ _ _ _ us hl => match us, hl with | [_, _], _ => rfl⟩, e⟩
theorem mt_law_draw : mtSs nms en fd_law_draw.names d_law_draw.scope fd_law_draw.body d_law_draw.body = true := by decide +kernel
theorem sc_law_draw : FnScope fd_law_draw.names ["bag", "many"] d_law_draw.scope := ⟨rfl, rfl, rfl, by decide +kernel, rfl, by decide +kernel, by decide +kernel⟩
theorem ok_law_draw {K : PySem.W.Frag} {mg : Str → Option Value} (h : ∃ fd, FunD K "_law_draw" "_law_draw" d_law_draw.params d_law_draw.body d_law_draw.scope [] [] (He.ga K "_law_draw") fd) (e : mg "_law_draw" = some (.ref (He.ga K "_law_draw"))) : DefOk K mg (gd K) nms en 31 "_law_draw" fd_law_draw := by
  obtain ⟨fd, F⟩ := h
  exact ⟨⟨_, _, _, fd, ["bag", "many"], F, sc_law_draw, rfl, mt_law_draw, F.bindsN fun _ _ _ _ _ _ us hl => match us, hl with | [_, _], _ => rfl⟩, e⟩
theorem mt_law_one : mtSs nms en fd_law_one.names d_law_one.scope fd_law_one.body d_law_one.body = true := by decide +kernel
theorem sc_law_one : FnScope fd_law_one.names ["bag", "row"] d_law_one.scope := ⟨rfl, rfl, rfl, by decide +kernel, rfl, by decide +kernel, by decide +kernel⟩
theorem ok_law_one {K : PySem.W.Frag} {mg : Str → Option Value} (h : ∃ fd, FunD K "_law_one" "_law_one" d_law_one.params d_law_one.body d_law_one.scope [] [] (He.ga K "_law_one") fd) (e : mg "_law_one" = some (.ref (He.ga K "_law_one"))) : DefOk K mg (gd K) nms en 32 "_law_one" fd_law_one := by
  obtain ⟨fd, F⟩ := h
  exact ⟨⟨_, _, _, fd, ["bag", "row"], F, sc_law_one, rfl, mt_law_one, F.bindsN fun _ _ _ _ _ _ us hl => match us, hl with | [_, _], _ => rfl⟩, e⟩
theorem mt_law_trim_2 : mtSs nms en fd_law_trim_2.names d_law_trim_2.scope fd_law_trim_2.body d_law_trim_2.body = true := by decide +kernel
theorem sc_law_trim_2 : FnScope fd_law_trim_2.names ["row"] d_law_trim_2.scope := ⟨rfl, rfl, rfl, by decide +kernel, rfl, by decide +kernel, by decide +kernel⟩
theorem ok_law_trim_2 {K : PySem.W.Frag} {mg : Str → Option Value} (h : ∃ fd, FunD K "_law_trim" "_law_trim" d_law_trim_2.params d_law_trim_2.body d_law_trim_2.scope [] [] (He.ga K "_law_trim") fd) (e : mg "_law_trim" = some (.ref (He.ga K "_law_trim"))) : DefOk K mg (gd K) nms en 196 "_law_trim" fd_law_trim_2 := by
  obtain ⟨fd, F⟩ := h
  exact ⟨⟨_, _, _, fd, ["row"], F, sc_law_trim_2, rfl, mt_law_trim_2, F.bindsN fun _ _ _ _ _ _ us hl => match us, hl with | [_], _ => rfl⟩, e⟩
theorem mt_law_add_2 : mtSs nms en fd_law_add_2.names d_law_add_2.scope fd_law_add_2.body d_law_add_2.body = true := by decide +kernel
theorem sc_law_add_2 : FnScope fd_law_add_2.names ["p", "q"] d_law_add_2.scope := ⟨rfl, rfl, rfl, by decide +kernel, rfl, by decide +kernel, by decide +kernel⟩
theorem ok_law_add_2 {K : PySem.W.Frag} {mg : Str → Option Value} (h : ∃ fd, FunD K "_law_add" "_law_add" d_law_add_2.params d_law_add_2.body d_law_add_2.scope [] [] (He.ga K "_law_add") fd) (e : mg "_law_add" = some (.ref (He.ga K "_law_add"))) : DefOk K mg (gd K) nms en 216 "_law_add" fd_law_add_2 := by
  obtain ⟨fd, F⟩ := h
  exact ⟨⟨_, _, _, fd, ["p", "q"], F, sc_law_add_2, rfl, mt_law_add_2, F.bindsN fun _ _ _ _ _ _ us hl => match us, hl with | [_, _], _ => rfl⟩, e⟩
theorem mt_law_scale_2 : mtSs nms en fd_law_scale_2.names d_law_scale_2.scope fd_law_scale_2.body d_law_scale_2.body = true := by decide +kernel
theorem sc_law_scale_2 : FnScope fd_law_scale_2.names ["n", "p"] d_law_scale_2.scope := ⟨rfl, rfl, rfl, by decide +kernel, rfl, by decide +kernel, by decide +kernel⟩
theorem ok_law_scale_2 {K : PySem.W.Frag} {mg : Str → Option Value} (h : ∃ fd, FunD K "_law_scale" "_law_scale" d_law_scale_2.params d_law_scale_2.body d_law_scale_2.scope [] [] (He.ga K "_law_scale") fd) (e : mg "_law_scale" = some (.ref (He.ga K "_law_scale"))) : DefOk K mg (gd K) nms en 217 "_law_scale" fd_law_scale_2 := by
  obtain ⟨fd, F⟩ := h
  exact ⟨⟨_, _, _, fd, ["n", "p"], F, sc_law_scale_2, rfl, mt_law_scale_2, F.bindsN fun _ _ _ _ _ _ us hl => match us, hl with | [_, _], _ => rfl⟩, e⟩
theorem mt_law_mul_2 : mtSs nms en fd_law_mul_2.names d_law_mul_2.scope fd_law_mul_2.body d_law_mul_2.body = true := by decide +kernel
theorem sc_law_mul_2 : FnScope fd_law_mul_2.names ["p", "q"] d_law_mul_2.scope := ⟨rfl, rfl, rfl, by decide +kernel, rfl, by decide +kernel, by decide +kernel⟩
theorem ok_law_mul_2 {K : PySem.W.Frag} {mg : Str → Option Value} (h : ∃ fd, FunD K "_law_mul" "_law_mul" d_law_mul_2.params d_law_mul_2.body d_law_mul_2.scope [] [] (He.ga K "_law_mul") fd) (e : mg "_law_mul" = some (.ref (He.ga K "_law_mul"))) : DefOk K mg (gd K) nms en 218 "_law_mul" fd_law_mul_2 := by
  obtain ⟨fd, F⟩ := h
  exact ⟨⟨_, _, _, fd, ["p", "q"], F, sc_law_mul_2, rfl, mt_law_mul_2, F.bindsN fun _ _ _ _ _ _ us hl => match us, hl with | [_, _], _ => rfl⟩, e⟩
theorem mt_law_poly_2 : mtSs nms en fd_law_poly_2.names d_law_poly_2.scope fd_law_poly_2.body d_law_poly_2.body = true := by decide +kernel
theorem sc_law_poly_2 : FnScope fd_law_poly_2.names ["bag", "most", "size"] d_law_poly_2.scope := ⟨rfl, rfl, rfl, by decide +kernel, rfl, by decide +kernel, by decide +kernel⟩
theorem ok_law_poly_2 {K : PySem.W.Frag} {mg : Str → Option Value} (h : ∃ fd, FunD K "_law_poly" "_law_poly" d_law_poly_2.params d_law_poly_2.body d_law_poly_2.scope [] [] (He.ga K "_law_poly") fd) (e : mg "_law_poly" = some (.ref (He.ga K "_law_poly"))) : DefOk K mg (gd K) nms en 197 "_law_poly" fd_law_poly_2 := by
  obtain ⟨fd, F⟩ := h
  exact ⟨⟨_, _, _, fd, ["bag", "most", "size"], F, sc_law_poly_2, rfl, mt_law_poly_2, F.bindsN fun _ _ _ _ _ _ us hl => match us, hl with | [_, _, _], _ => rfl⟩, e⟩
theorem mt_law_same : mtSs nms en fd_law_same.names d_law_same.scope fd_law_same.body d_law_same.body = true := by decide +kernel
theorem sc_law_same : FnScope fd_law_same.names ["one", "other"] d_law_same.scope := ⟨rfl, rfl, rfl, by decide +kernel, rfl, by decide +kernel, by decide +kernel⟩
theorem ok_law_same {K : PySem.W.Frag} {mg : Str → Option Value} (h : ∃ fd, FunD K "_law_same" "_law_same" d_law_same.params d_law_same.body d_law_same.scope [] [] (He.ga K "_law_same") fd) (e : mg "_law_same" = some (.ref (He.ga K "_law_same"))) : DefOk K mg (gd K) nms en 84 "_law_same" fd_law_same := by
  obtain ⟨fd, F⟩ := h
  exact ⟨⟨_, _, _, fd, ["one", "other"], F, sc_law_same, rfl, mt_law_same, F.bindsN fun _ _ _ _ _ _ us hl => match us, hl with | [_, _], _ => rfl⟩, e⟩
theorem mt_law_told_7 : mtSs nms en fd_law_told_7.names d_law_told_7.scope fd_law_told_7.body d_law_told_7.body = true := by decide +kernel
theorem sc_law_told_7 : FnScope fd_law_told_7.names ["call", "p", "q"] d_law_told_7.scope := ⟨rfl, rfl, rfl, by decide +kernel, rfl, by decide +kernel, by decide +kernel⟩
theorem ok_law_told_7 {K : PySem.W.Frag} {mg : Str → Option Value} (h : ∃ fd, FunD K "_law_told" "_law_told" d_law_told_7.params d_law_told_7.body d_law_told_7.scope [] [] (He.ga K "_law_told") fd) (e : mg "_law_told" = some (.ref (He.ga K "_law_told"))) : DefOk K mg (gd K) nms en 228 "_law_told" fd_law_told_7 := by
  obtain ⟨fd, F⟩ := h
  exact ⟨⟨_, _, _, fd, ["call", "p", "q"], F, sc_law_told_7, rfl, mt_law_told_7, F.bindsN fun _ _ _ _ _ _ us hl => match us, hl with | [_, _, _], _ => rfl⟩, e⟩
theorem mt_law_whole : mtSs nms en fd_law_whole.names d_law_whole.scope fd_law_whole.body d_law_whole.body = true := by decide +kernel
theorem sc_law_whole : FnScope fd_law_whole.names ["p", "q"] d_law_whole.scope := ⟨rfl, rfl, rfl, by decide +kernel, rfl, by decide +kernel, by decide +kernel⟩
theorem ok_law_whole {K : PySem.W.Frag} {mg : Str → Option Value} (h : ∃ fd, FunD K "_law_whole" "_law_whole" d_law_whole.params d_law_whole.body d_law_whole.scope [] [] (He.ga K "_law_whole") fd) (e : mg "_law_whole" = some (.ref (He.ga K "_law_whole"))) : DefOk K mg (gd K) nms en 229 "_law_whole" fd_law_whole := by
  obtain ⟨fd, F⟩ := h
  exact ⟨⟨_, _, _, fd, ["p", "q"], F, sc_law_whole, rfl, mt_law_whole, F.bindsN fun _ _ _ _ _ _ us hl => match us, hl with | [_, _], _ => rfl⟩, e⟩
theorem mt_law_12 : mtSs nms en fd_law_12.names d_law_12.scope fd_law_12.body d_law_12.body = true := by decide +kernel
theorem sc_law_12 : FnScope fd_law_12.names ["script"] d_law_12.scope := ⟨rfl, rfl, rfl, by decide +kernel, rfl, by decide +kernel, by decide +kernel⟩
theorem ok_law_12 {K : PySem.W.Frag} {mg : Str → Option Value} (h : ∃ fd, FunD K "law" "law" d_law_12.params d_law_12.body d_law_12.scope [] [] (He.ga K "law") fd) (e : mg "law" = some (.ref (He.ga K "law"))) : DefOk K mg (gd K) nms en 230 "law" fd_law_12 := by
  obtain ⟨fd, F⟩ := h
  exact ⟨⟨_, _, _, fd, ["script"], F, sc_law_12, rfl, mt_law_12, F.bindsN fun _ _ _ _ _ _ us hl => match us, hl with | [_], _ => rfl⟩, e⟩
theorem hsOk : ∀ f, hs f = true → ∃ n, nms.fn f = some n := fun f hf => by
  have all : ∀ i ∈ hsL, (nms.fn i).isSome = true := by decide +kernel
  exact Option.isSome_iff_exists.mp (all f (List.contains_iff_mem.mp hf))
theorem tabOk {K : PySem.W.Frag} {h : Heap} {mg : Str → Option Value} (X : K.In h) (N : h.Ns mainGlobals mg) (c : He.SaysD fa fn K) : Tab K mg (gd K) tab gl hs nms en := by
  refine ⟨rfl, fun f n hf => ?_, fun f hf => ?_, fun i x d hx hd => ?_, fun x hx => ?_, fun y n hc => ?_, fun a b n ha hb => ?_⟩
  · have all : Alls (fun q : Nat × Str => ∃ fd, tab q.1 = some fd ∧ DefOk K mg (gd K) nms en q.1 q.2 fd) nmL :=
      ⟨⟨_, tab_raised, ok_raised (c.def_ 0 (d := d_raised) rfl) (He.glo_ok X N (c.fact 0 (f := .glo "raised") rfl))⟩, ⟨_, tab_trimmed, ok_trimmed (c.def_ 1 (d := d_trimmed) rfl) (He.glo_ok X N (c.fact 1 (f := .glo "trimmed") rfl))⟩, ⟨_, tab_degree, ok_degree (c.def_ 2 (d := d_degree) rfl) (He.glo_ok X N (c.fact 2 (f := .glo "degree") rfl))⟩, ⟨_, tab_sum_of, ok_sum_of (c.def_ 3 (d := d_sum_of) rfl) (He.glo_ok X N (c.fact 3 (f := .glo "sum_of") rfl))⟩, ⟨_, tab_scaled, ok_scaled (c.def_ 4 (d := d_scaled) rfl) (He.glo_ok X N (c.fact 4 (f := .glo "scaled") rfl))⟩, ⟨_, tab_difference, ok_difference (c.def_ 5 (d := d_difference) rfl) (He.glo_ok X N (c.fact 5 (f := .glo "difference") rfl))⟩, ⟨_, tab_shifted, ok_shifted (c.def_ 6 (d := d_shifted) rfl) (He.glo_ok X N (c.fact 6 (f := .glo "shifted") rfl))⟩, ⟨_, tab_divided, ok_divided (c.def_ 7 (d := d_divided) rfl) (He.glo_ok X N (c.fact 7 (f := .glo "divided") rfl))⟩, ⟨_, tab_exactly, ok_exactly (c.def_ 8 (d := d_exactly) rfl) (He.glo_ok X N (c.fact 8 (f := .glo "exactly") rfl))⟩, ⟨_, tab_law_bag_11, ok_law_bag_11 (c.def_ 9 (d := d_law_bag_11) rfl) (He.glo_ok X N (c.fact 9 (f := .glo "_law_bag") rfl))⟩, ⟨_, tab_law_draw, ok_law_draw (c.def_ 10 (d := d_law_draw) rfl) (He.glo_ok X N (c.fact 10 (f := .glo "_law_draw") rfl))⟩, ⟨_, tab_law_one, ok_law_one (c.def_ 11 (d := d_law_one) rfl) (He.glo_ok X N (c.fact 11 (f := .glo "_law_one") rfl))⟩, ⟨_, tab_law_trim_2, ok_law_trim_2 (c.def_ 12 (d := d_law_trim_2) rfl) (He.glo_ok X N (c.fact 12 (f := .glo "_law_trim") rfl))⟩, ⟨_, tab_law_add_2, ok_law_add_2 (c.def_ 13 (d := d_law_add_2) rfl) (He.glo_ok X N (c.fact 13 (f := .glo "_law_add") rfl))⟩, ⟨_, tab_law_scale_2, ok_law_scale_2 (c.def_ 14 (d := d_law_scale_2) rfl) (He.glo_ok X N (c.fact 14 (f := .glo "_law_scale") rfl))⟩, ⟨_, tab_law_mul_2, ok_law_mul_2 (c.def_ 15 (d := d_law_mul_2) rfl) (He.glo_ok X N (c.fact 15 (f := .glo "_law_mul") rfl))⟩, ⟨_, tab_law_poly_2, ok_law_poly_2 (c.def_ 16 (d := d_law_poly_2) rfl) (He.glo_ok X N (c.fact 16 (f := .glo "_law_poly") rfl))⟩, ⟨_, tab_law_same, ok_law_same (c.def_ 17 (d := d_law_same) rfl) (He.glo_ok X N (c.fact 17 (f := .glo "_law_same") rfl))⟩, ⟨_, tab_law_told_7, ok_law_told_7 (c.def_ 18 (d := d_law_told_7) rfl) (He.glo_ok X N (c.fact 18 (f := .glo "_law_told") rfl))⟩, ⟨_, tab_law_whole, ok_law_whole (c.def_ 19 (d := d_law_whole) rfl) (He.glo_ok X N (c.fact 19 (f := .glo "_law_whole") rfl))⟩, ⟨_, tab_law_12, ok_law_12 (c.def_ 20 (d := d_law_12) rfl) (He.glo_ok X N (c.fact 20 (f := .glo "law") rfl))⟩, trivial⟩
    exact all.mem (lookup_in hf)
  · exact hsOk f hf
  · have all : Alls (fun q : Nat × Str => ∀ d, gl q.1 = some d → ∃ u v, mg q.2 = some u ∧ RelV v u ∧ ∀ H μ, Rep (gd K) H μ d v) gnL :=
      ⟨(fun d e => by cases (show some (D.fn 225) = some d from e); exact ⟨_, .ref (He.ga K "divided"), He.glo_ok X N (c.fact 7 (f := .glo "divided") rfl), rfl, fun _ _ => rfl⟩), (fun d e => by cases (show some (D.fn 226) = some d from e); exact ⟨_, .ref (He.ga K "exactly"), He.glo_ok X N (c.fact 8 (f := .glo "exactly") rfl), rfl, fun _ _ => rfl⟩), trivial⟩
    exact all.mem (lookup_in hx) d hd
  · have all : Alls (fun x : Str => mg x = none) bltNames :=
      ⟨He.free_ok X N (c.fact 21 (f := .free "len") rfl), He.free_ok X N (c.fact 22 (f := .free "abs") rfl), He.free_ok X N (c.fact 23 (f := .free "int") rfl), He.free_ok X N (c.fact 24 (f := .free "tuple") rfl), He.free_ok X N (c.fact 25 (f := .free "list") rfl), He.free_ok X N (c.fact 26 (f := .free "all") rfl), He.free_ok X N (c.fact 27 (f := .free "any") rfl), He.free_ok X N (c.fact 28 (f := .free "sum") rfl), He.free_ok X N (c.fact 29 (f := .free "max") rfl), He.free_ok X N (c.fact 30 (f := .free "min") rfl), He.free_ok X N (c.fact 31 (f := .free "repr") rfl), He.free_ok X N (c.fact 32 (f := .free "isinstance") rfl), He.free_ok X N (c.fact 33 (f := .free "range") rfl), He.free_ok X N (c.fact 34 (f := .free "enumerate") rfl), He.free_ok X N (c.fact 35 (f := .free "zip") rfl), He.free_ok X N (c.fact 36 (f := .free "reversed") rfl), He.free_ok X N (c.fact 37 (f := .free "bool") rfl), He.free_ok X N (c.fact 38 (f := .free "str") rfl), trivial⟩
    exact all.mem hx
  · have all : Alls (fun q : Nat × Str => ExcK K mg (gd K) q.1 q.2) enL :=
      ⟨(by obtain ⟨c1, c2, c3, c4⟩ := He.exc_ok (c.fact 39 (f := .exc "ByZero") rfl); exact ⟨⟨_, _, _, _, PySem.F.excBase_ValueError, c1⟩, He.glo_ok X N (c.fact 41 (f := .glo "ByZero") rfl), c2, c3, c4, rfl⟩), (by obtain ⟨c1, c2, c3, c4⟩ := He.exc_ok (c.fact 40 (f := .exc "NoSuch") rfl); exact ⟨⟨_, _, _, _, PySem.F.excBase_ValueError, c1⟩, He.glo_ok X N (c.fact 42 (f := .glo "NoSuch") rfl), c2, c3, c4, rfl⟩), trivial⟩
    exact all.mem (lookup_in hc)
  · have all : Alls (fun q : Nat × Str => Alls (fun r : Nat × Str => PySem.W.exmOne K (.ref ((gd K).at_ q.1)) (.ref ((gd K).at_ r.1)) = some (decide (r.1 = q.1))) enL) enL :=
      ⟨⟨He.exm_ok (c.fact 43 (f := .exm "ByZero" "ByZero" true) rfl), He.exm_ok (c.fact 44 (f := .exm "ByZero" "NoSuch" false) rfl), trivial⟩, ⟨He.exm_ok (c.fact 45 (f := .exm "NoSuch" "ByZero" false) rfl), He.exm_ok (c.fact 46 (f := .exm "NoSuch" "NoSuch" true) rfl), trivial⟩, trivial⟩
    exact exm_of all a b n ha hb
end T
end Py
open PySem PySem.W PySem.Calls PyProof.Rows
theorem PySem.Challenge.cw_realplane_k11_divisions_holds : PySem.Challenge.rw_realplane_k11_divisions.Holds := by
  w_on; o_law
  refine HandSHeadRun.head_any (r := OpenLaw.row PySem.Challenge.rw_realplane_k11_divisions) (q := view (OpenLaw.row PySem.Challenge.rw_realplane_k11_divisions).prog [33]) (H := Py.T.hk) (ob := Py.T.ob) (M := 20000) (loose := Py.T.names) (d := HandSHeadRun.topDef (OpenLaw.row PySem.Challenge.rw_realplane_k11_divisions).prog 33) (kwd := []) Py.T.ob_eq
    (by kernel_rfl) (fun s => by kernel_rfl) Py.T.run (by kernel_rfl) (by kernel_rfl) (by kernel_rfl) (by rfl) (by first | assumption | decide +kernel) (by decide +kernel) ⟨rfl, rfl, rfl, rfl, rfl, by decide +kernel⟩ ?hw ?hc
  case hw => w_witness2
  case hc =>
    refine Py.walk_tab (l := PySem.Challenge.rw_realplane_k11_divisions) (n := 63) (k := 230) (x := "script") rfl (by decide) (by kernel_rfl) ⟨rfl, by decide, by decide⟩ ?F
    intro w mg fa h Y G hmg0
    obtain ⟨K, KX, c⟩ := Y
    have hmg : mg ("law" : PySem.Str) = some (.ref fa) := by
      have e : (HandSHeadRun.topDef (OpenLaw.row PySem.Challenge.rw_realplane_k11_divisions).prog 33).name = ("law" : PySem.Str) := by kernel_rfl
      rw [← e]
      exact hmg0
    obtain ⟨fd, F⟩ := c.def_ 20 (d := Py.T.d_law_12) rfl
    have e := hmg.symm.trans (He.glo_ok KX G (c.fact 20 (f := .glo "law") rfl))
    cases e
    have T := Py.T.tabOk KX G c
    refine ⟨K, fd, Py.spC (Py.T.gd K) (Py.Γ 230) 230, KX, fun s v => L2.FunD.bindsA (ps := ["script"]) F (fun _ _ _ _ _ _ us hl => match us, hl with | [_], _ => rfl) s [v] rfl, fun H a ns hl hb hO hS => Py.spec_law T Py.law_ok hl hb hO hS, fun base _ _ => ?_⟩
    exact Py.tab_step T Py.tab_law_12 F Py.T.sc_law_12 rfl Py.T.mt_law_12 (Py.tab_ok T 229)

