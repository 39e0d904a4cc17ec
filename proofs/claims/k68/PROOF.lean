import PyProof.Rows.All
import HandS.ForMost
import HandS.Wide
import HandS.Style
import HandS.TupAny
import HandS.TupMul
import HandS.IsInst
import HandS.Gcd
import HandS.SortInts
import KE.KTupSum
import HandS.SortRule
import HandS.Flow
import PySem.Challenge.RW_toldheights_k68_weighed_divisors_balance
set_option Elab.async false
set_option linter.all false
set_option maxRecDepth 100000
set_option maxHeartbeats 4000000
namespace Itp
open PySem

/-! ### values -/
inductive Val where
  | non | bl (b : Bool) | int (i : Int) | str (x : Str) | tup (xs : List Val) | lst (xs : List Val) | tok
  deriving Inhabited

def Val.isLst : Val → Bool | .lst _ => true | _ => false

mutual
def Val.toD : Val → PyData
  | .non => .none | .bl b => .bool b | .int i => .int i | .str x => .str x | .tup xs => .tuple (Val.toDs xs) | .lst xs => .list (Val.toDs xs) | .tok => .none
def Val.toDs : List Val → List PyData
  | [] => []
  | x :: xs => Val.toD x :: Val.toDs xs
end
mutual
def Val.noTok : Val → Bool
  | .tok => false | .tup xs => Val.noToks xs | .lst xs => Val.noToks xs | _ => true
def Val.noToks : List Val → Bool
  | [] => true
  | x :: xs => Val.noTok x && Val.noToks xs
end
mutual
def Val.noLst : Val → Bool
  | .lst _ => false | .tup xs => Val.noLsts xs | _ => true
def Val.noLsts : List Val → Bool
  | [] => true
  | x :: xs => Val.noLst x && Val.noLsts xs
end

/-! ### the own text -/
inductive BOp where | add | sub | mul | fdiv | mod | pow | band deriving DecidableEq
inductive COp where | eq | ne | lt | le | gt | ge | is | isnot | isin | notin deriving DecidableEq
inductive Ty where | int | bool | str | tuple | list deriving DecidableEq
inductive Bi where | len | sum | sorted | tuple | list | int | abs | min2 | max2 | isin (t : Ty) | isqrt | gcd deriving DecidableEq
inductive Tg where | name (i : Nat) | tup (is : List Nat) deriving DecidableEq

mutual
inductive CE where
  | var (i : Nat) | int (z : Int) | bl (b : Bool) | non | str (x : Str)
  | bin (op : BOp) (a b : CE) | neg (a : CE) | not (a : CE)
  | cmp (op : COp) (a b : CE) | chain (op op' : COp) (a b c : CE)
  | bool (isAnd : Bool) (es : CEs) | ife (c a b : CE)
  | tup (es : CEs) | lst (es : CEs)
  | call (f : Nat) (es : CEs) | callk (f : Nat) (es ks : CEs) (perm : List Nat)
  | bi (b : Bi) (es : CEs)
  | ix (a b : CE) | sl (a : CE) (lo hi : CEo) | rev (a : CE)
  | lc (elt : CE) (tg : Tg) (it : CI) (cond : CEo) (own : List Nat)
  | lc2 (elt : CE) (tg : Tg) (it : CI) (tg2 : Tg) (it2 : CI) (cond : CEo) (own : List Nat)
inductive CEs where | nil | cons (e : CE) (es : CEs)
inductive CEo where | none | some (e : CE)
inductive CI where
  | seq (e : CE) | rng1 (a : CE) | rng2 (a b : CE) | rng3 (a b : CE) (c : Int) | enum (a : CE)
end

mutual
inductive CS where
  | asg (i : Nat) (e : CE) | asgT (is : List Nat) (e : CE) | asgP (is : List Nat) (es : CEs)
  | aug (i : Nat) (op : BOp) (e : CE)
  | app (i : Nat) (e : CE) | ext (i : Nat) (e : CE) | popS (i : Nat) | appPop (i j : Nat) (e : CE) | asgPop (i j : Nat) | seti (i : Nat) (k e : CE)
  | ife (c : CE) (a b : CSs) | whl (c : CE) (b : CSs) | «for» (tg : Tg) (it : CI) (b : CSs)
  | ret (e : CE) | retN | brk | cnt | pass | nev
inductive CSs where | nil | cons (s : CS) (ss : CSs)
end

/-! ### what is computed -/
abbrev Env := List (Option Val)
inductive Kd where | pure | fresh | any deriving DecidableEq
structure FS (S : Type) where
  run : List Val → S → Option (Val × S)
  kind : Kd

def bnd {S α β : Type} (m : Option (α × S)) (k : α → S → Option β) : Option β :=
  match m with
  | none => none
  | some (a, s) => k a s
theorem bnd_some {S α β : Type} {m : Option (α × S)} {k : α → S → Option β} {r : β} (h : bnd m k = some r) : ∃ a s, m = some (a, s) ∧ k a s = some r := by
  cases m with
  | none => cases h
  | some p => exact ⟨p.1, p.2, rfl, h⟩
@[simp] theorem bnd_eq {S α β : Type} {a : α} {s : S} {k : α → S → Option β} : bnd (some (a, s)) k = k a s := rfl
@[simp] theorem bnd_none {S α β : Type} {k : α → S → Option β} : bnd (none : Option (α × S)) k = none := rfl

def mulOk (i j : Int) : Bool := (i.natAbs < 2 ^ 64) || (j.natAbs < 2 ^ 64) || (i.natAbs.log2 + j.natAbs.log2 < 1000000)
def divOk (j : Int) : Bool := (j != 0) && ((j.natAbs < 1073741824) || (j.natAbs.log2 < 9000))

def lenOk (n : Nat) : Bool := decide (n ≤ 16777216)

def bopI (op : BOp) (i j : Int) : Option Val :=
  match op with
  | .add => some (.int (i + j))
  | .sub => some (.int (i - j))
  | .mul => if mulOk i j then some (.int (i * j)) else none
  | .fdiv => if divOk j then some (.int (i.fdiv j)) else none
  | .mod => if j != 0 then some (.int (i.fmod j)) else none
  | .pow => if (decide (0 ≤ j) && decide (j ≤ 1000000) && decide (i.natAbs < 2 ^ 64)) then some (.int (i ^ j.toNat)) else none
  | .band => some (.int (Builtin.bitAnd i j))
def bop (op : BOp) (a b : Val) : Option Val :=
  match a, b with
  | .int i, .int j => bopI op i j
  | .tup xs, .tup ys => match op with
    | .add => if lenOk (xs.length + ys.length) then some (.tup (xs ++ ys)) else none
    | _ => none
  | .lst xs, .lst ys => match op with
    | .add => if lenOk (xs.length + ys.length) then some (.lst (xs ++ ys)) else none
    | _ => none
  | .lst xs, .int k => match op with
    | .mul => if (decide (k < 2 ^ 62) && decide (-(2 ^ 62) ≤ k) && lenOk (xs.length * k.toNat)) then some (.lst (List.replicate k.toNat xs).flatten) else none
    | _ => none
  | _, _ => none

def asInts : List Val → Option (List Int)
  | [] => some []
  | .int i :: r => (asInts r).map (i :: ·)
  | _ :: _ => none

def shapedV (a : Val) : Bool := Val.noTok a && SeqAt.shaped a.toD
def eqV (a b : Val) : Option Bool :=
  match a, b with
  | .int i, .int j => some (i == j)
  | a, b => if shapedV a && shapedV b then some (PyData.eqv a.toD b.toD) else none
def flatVal : Val → Bool
  | .int _ => true | _ => false
def inInts (i : Int) (xs : List Int) : Bool := xs.any fun j => j == i
def ordI (op : COp) (i j : Int) : Option Bool :=
  match op with
  | .lt => some (decide (i < j)) | .le => some (decide (i ≤ j)) | .gt => some (decide (j < i)) | .ge => some (decide (j ≤ i)) | _ => none
def cop (op : COp) (a b : Val) : Option Bool :=
  match op with
  | .eq => eqV a b
  | .ne => (eqV a b).map not
  | .is => match a, b with
    | x, .non => match x with | .non => some true | .tok => none | _ => some false
    | .bl p, .bl q => some (p == q)
    | x, .bl _ => match x with | .int _ => some false | .non => some false | .str _ => some false | .tup _ => some false | .lst _ => some false | _ => none
    | _, _ => none
  | .isnot => match a, b with
    | x, .non => match x with | .non => some false | .tok => none | _ => some true
    | _, _ => none
  | .isin => match a, b with
    | .int i, .lst xs => (asInts xs).map (inInts i)
    | .int i, .tup xs => (asInts xs).map (inInts i)
    | _, _ => none
  | .notin => match a, b with
    | .int i, .lst xs => (asInts xs).map fun l => !(inInts i l)
    | .int i, .tup xs => (asInts xs).map fun l => !(inInts i l)
    | _, _ => none
  | .lt => match a, b with
    | .int i, .int j => some (decide (i < j))
    | .tup xs, .tup ys => match asInts xs, asInts ys with
      | some l, some m => some (HT.lexLt l m)
      | _, _ => none
    | _, _ => none
  | op => match a, b with
    | .int i, .int j => ordI op i j
    | _, _ => none
def truthV : Val → Option Bool
  | .non => some false | .bl b => some b | .int i => some (i != 0) | .tup xs => some (!xs.isEmpty) | .lst xs => some (!xs.isEmpty) | _ => none
def isTy (t : Ty) : Val → Option Bool
  | .non => some false
  | .bl _ => some (t == .bool || t == .int)
  | .int _ => some (t == .int)
  | .str _ => some (t == .str)
  | .tup _ => some (t == .tuple)
  | .lst _ => some (t == .list)
  | .tok => none

/-- insertion sort -/
def insI (x : Int) : List Int → List Int
  | [] => [x]
  | y :: r => if x ≤ y then x :: y :: r else y :: insI x r
def sortI : List Int → List Int
  | [] => []
  | x :: r => insI x (sortI r)
def lexLe (a b : List Int) : Bool := !(HT.lexLt b a)
def insL (x : List Int) : List (List Int) → List (List Int)
  | [] => [x]
  | y :: r => if lexLe x y then x :: y :: r else y :: insL x r
def sortL : List (List Int) → List (List Int)
  | [] => []
  | x :: r => insL x (sortL r)
def asRows : List Val → Option (List (List Int))
  | [] => some []
  | .tup xs :: r => match asInts xs, asRows r with
    | some l, some m => some (l :: m)
    | _, _ => none
  | _ :: _ => none
def ofRow (l : List Int) : Val := .tup (l.map .int)
def sortV (xs : List Val) : Option (List Val) :=
  match asInts xs with
  | some l => some ((sortI l).map .int)
  | none => match asRows xs with
    | some m => if m.all (fun l => !l.isEmpty) then some ((sortL m).map ofRow) else none
    | none => none
def seqV : Val → Option (List Val)
  | .tup xs => some xs | .lst xs => some xs | _ => none
def lenV : Val → Option Nat
  | .tup xs => some xs.length | .lst xs => some xs.length | _ => none
def biV (b : Bi) (vs : List Val) : Option Val :=
  match b, vs with
  | .len, [x] => (lenV x).map fun n => .int (n : Int)
  | .sum, [x] => match seqV x with
    | some xs => (asInts xs).map fun l => .int l.sum
    | none => none
  | .sorted, [.lst xs] => (sortV xs).map .lst
  | .tuple, [x] => (seqV x).map .tup
  | .list, [x] => (seqV x).map .lst
  | .int, [.int i] => some (.int i)
  | .int, [.bl b] => some (.int (if b then 1 else 0))
  | .abs, [.int i] => some (.int (if i < 0 then -i else i))
  | .min2, [.int i, .int j] => some (.int (if j < i then j else i))
  | .max2, [.int i, .int j] => some (.int (if j > i then j else i))
  | .isin t, [x] => (isTy t x).map .bl
  | .isqrt, [.int i] => if decide (0 ≤ i) && decide (i < 2 ^ 64) then some (.int ((Float64.isqrt i.toNat : Nat) : Int)) else none
  | .gcd, [.int a, .int b] => some (.int ((Nat.gcd a.natAbs b.natAbs : Nat) : Int))
  | _, _ => none

def ixV (a b : Val) : Option Val :=
  match a, b with
  | .lst xs, .int i => L2.atI xs i
  | .tup xs, .int i => L2.atI xs i
  | _, _ => none
/-- a slice's place among n -/
def cutL {α : Type} (xs : List α) (lo hi : Option Int) : List α := (xs.drop (HT.sIx xs.length 0 lo)).take (HT.sIx xs.length xs.length hi - HT.sIx xs.length 0 lo)
def slV (a : Val) (lo hi : Option Int) : Option Val :=
  match a with
  | .lst xs => some (.lst (cutL xs lo hi))
  | .tup xs => some (.tup (cutL xs lo hi))
  | _ => none
def revV : Val → Option Val
  | .lst xs => some (.lst xs.reverse)
  | _ => none

def getE (env : Env) (i : Nat) : Option Val := env.getD i none
def wipeE (env : Env) : List Nat → Env
  | [] => env
  | v :: vs => (wipeE env vs).set v none
def setAll : List Nat → List Val → Env → Option Env
  | [], [], env => some env
  | i :: is, v :: vs, env => setAll is vs (env.set i (some v))
  | _, _, _ => none
def setT (t : Tg) (v : Val) (env : Env) : Option Env :=
  match t with
  | .name i => some (env.set i (some v))
  | .tup is => match v with
    | .tup vs => setAll is vs env
    | _ => none

def rngOk (i : Int) : Bool := decide (-(2 ^ 62) ≤ i) && decide (i < 2 ^ 62)
def rngL (lo : Int) (n : Nat) : List Val := (List.range n).map fun (i : Nat) => Val.int (lo + (i : Int))
def enumL (k : Int) : List Val → List Val
  | [] => []
  | x :: r => .tup [.int k, x] :: enumL (k + 1) r

/-- the items of a comprehension -/
def lcGo {S : Type} (f : Val → S → Option (Option Val × S)) : List Val → S → Option (List Val × S)
  | [], s => some ([], s)
  | x :: r, s => bnd (f x s) fun y s1 => bnd (lcGo f r s1) fun ys s2 =>
      match y with
      | some y => if lenOk (ys.length + 1) then some (y :: ys, s2) else none
      | none => some (ys, s2)
def lcGo2 {S : Type} (f : Val → S → Option (List Val × S)) : List Val → S → Option (List Val × S)
  | [], s => some ([], s)
  | x :: r, s => bnd (f x s) fun y s1 => bnd (lcGo2 f r s1) fun ys s2 => if lenOk (y.length + ys.length) then some (y ++ ys, s2) else none

def permL (vs : List Val) (perm : List Nat) : Option (List Val) := perm.mapM fun i => vs[i]?

section
variable {S : Type} (F : List (FS S))
mutual
def evE : CE → Env → S → Option (Val × S)
  | .var i, env, s => (getE env i).map fun v => (v, s)
  | .int z, _, s => some (.int z, s)
  | .bl b, _, s => some (.bl b, s)
  | .non, _, s => some (.non, s)
  | .str x, _, s => some (.str x, s)
  | .bin op a b, env, s => bnd (evE a env s) fun x s1 => bnd (evE b env s1) fun y s2 => (bop op x y).map fun v => (v, s2)
  | .neg a, env, s => bnd (evE a env s) fun x s1 => match x with
    | .int i => some (.int (-i), s1)
    | _ => none
  | .not a, env, s => bnd (evE a env s) fun x s1 => (truthV x).map fun b => (.bl (!b), s1)
  | .cmp op a b, env, s => bnd (evE a env s) fun x s1 => bnd (evE b env s1) fun y s2 => (cop op x y).map fun v => (.bl v, s2)
  | .chain op op' a b c, env, s => bnd (evE a env s) fun x s1 => bnd (evE b env s1) fun y s2 => match cop op x y with
    | some true => bnd (evE c env s2) fun z s3 => (cop op' y z).map fun v => (.bl v, s3)
    | some false => some (.bl false, s2)
    | none => none
  | .bool isAnd es, env, s => evB isAnd es env s
  | .ife c a b, env, s => bnd (evE c env s) fun x s1 => match truthV x with
    | some true => evE a env s1
    | some false => evE b env s1
    | none => none
  | .tup es, env, s => bnd (evEs es env s) fun vs s1 => if lenOk vs.length then some (.tup vs, s1) else none
  | .lst es, env, s => bnd (evEs es env s) fun vs s1 => if lenOk vs.length then some (.lst vs, s1) else none
  | .call f es, env, s => match F[f]? with
    | some fs => bnd (evEs es env s) fun vs s1 => fs.run vs s1
    | none => none
  | .callk f es ks perm, env, s => match F[f]? with
    | some fs => bnd (evEs es env s) fun vs s1 => bnd (evEs ks env s1) fun ws s2 => match permL (vs ++ ws) perm with
      | some us => fs.run us s2
      | none => none
    | none => none
  | .bi b es, env, s => bnd (evEs es env s) fun vs s1 => (biV b vs).map fun v => (v, s1)
  | .ix a b, env, s => bnd (evE a env s) fun x s1 => bnd (evE b env s1) fun y s2 => (ixV x y).map fun v => (v, s2)
  | .sl a lo hi, env, s => bnd (evE a env s) fun x s1 => bnd (evO lo env s1) fun l s2 => bnd (evO hi env s2) fun h s3 => (slV x l h).map fun v => (v, s3)
  | .rev a, env, s => bnd (evE a env s) fun x s1 => (revV x).map fun v => (v, s1)
  | .lc elt tg it cond own, env, s => bnd (evI it env s) fun items s1 =>
      bnd (lcGo (fun x s2 => match setT tg x (wipeE env own) with
        | some env2 => bnd (evC cond env2 s2) fun b s3 => if b = true then bnd (evE elt env2 s3) fun y s4 => some (some y, s4) else some (none, s3)
        | none => none) items s1) fun ys s5 => some (.lst ys, s5)
  | .lc2 elt tg it tg2 it2 cond own, env, s => bnd (evI it env s) fun items s1 =>
      bnd (lcGo2 (fun x s2 => match setT tg x (wipeE env own) with
        | some env2 => bnd (evI it2 env2 s2) fun items2 s3 => lcGo (fun x2 s4 => match setT tg2 x2 env2 with
          | some env3 => bnd (evC cond env3 s4) fun b s5 => if b = true then bnd (evE elt env3 s5) fun y s6 => some (some y, s6) else some (none, s5)
          | none => none) items2 s3
        | none => none) items s1) fun ys s5 => some (.lst ys, s5)
def evEs : CEs → Env → S → Option (List Val × S)
  | .nil, _, s => some ([], s)
  | .cons e es, env, s => bnd (evE e env s) fun v s1 => bnd (evEs es env s1) fun vs s2 => some (v :: vs, s2)
def evB (isAnd : Bool) : CEs → Env → S → Option (Val × S)
  | .nil, _, _ => none
  | .cons e .nil, env, s => evE e env s
  | .cons e (.cons e2 es), env, s => bnd (evE e env s) fun v s1 => match v with
    | .bl b => if b = isAnd then evB isAnd (.cons e2 es) env s1 else some (.bl b, s1)
    | _ => none
def evO : CEo → Env → S → Option (Option Int × S)
  | .none, _, s => some (none, s)
  | .some e, env, s => bnd (evE e env s) fun v s1 => match v with
    | .int i => some (some i, s1)
    | _ => none
def evC : CEo → Env → S → Option (Bool × S)
  | .none, _, s => some (true, s)
  | .some e, env, s => bnd (evE e env s) fun v s1 => (truthV v).map fun b => (b, s1)
def evI : CI → Env → S → Option (List Val × S)
  | .seq e, env, s => bnd (evE e env s) fun v s1 => (seqV v).map fun xs => (xs, s1)
  | .rng1 a, env, s => bnd (evE a env s) fun v s1 => match v with
    | .int j => if rngOk j then some (rngL 0 j.toNat, s1) else none
    | _ => none
  | .rng2 a b, env, s => bnd (evE a env s) fun v s1 => bnd (evE b env s1) fun w s2 => match v, w with
    | .int i, .int j => if rngOk i && rngOk j then some (rngL i (j - i).toNat, s2) else none
    | _, _ => none
  | .rng3 a b c, env, s => bnd (evE a env s) fun v s1 => bnd (evE b env s1) fun w s2 => match v, w with
    | .int i, .int j => if rngOk i && rngOk j && decide (0 < c) && decide (c < 2 ^ 30) then some ((List.range ((j - i + c - 1) / c).toNat).map fun (k : Nat) => Val.int (i + (k : Int) * c), s2)
        else if rngOk i && rngOk j && decide (c = -1) then some ((List.range (i - j).toNat).map fun (k : Nat) => Val.int (i - (k : Int)), s2) else none
    | _, _ => none
  | .enum a, env, s => bnd (evE a env s) fun v s1 => (seqV v).map fun xs => (enumL 0 xs, s1)
end

inductive Out where | nx | bk | ct | rt (v : Val)

def forGo (body : Val → Env → S → Option (Out × Env × S)) : List Val → Env → S → Option (Out × Env × S)
  | [], env, s => some (.nx, env, s)
  | x :: r, env, s => match body x env s with
    | some (.nx, env1, s1) => forGo body r env1 s1
    | some (.ct, env1, s1) => forGo body r env1 s1
    | some (.bk, env1, s1) => some (.nx, env1, s1)
    | some (.rt v, env1, s1) => some (.rt v, env1, s1)
    | none => none
def whlGo (test : Env → S → Option (Bool × S)) (body : Env → S → Option (Out × Env × S)) : Nat → Env → S → Option (Out × Env × S)
  | 0, _, _ => none
  | n + 1, env, s => match test env s with
    | some (false, s1) => some (.nx, env, s1)
    | some (true, s1) => match body env s1 with
      | some (.nx, env1, s2) => whlGo test body n env1 s2
      | some (.ct, env1, s2) => whlGo test body n env1 s2
      | some (.bk, env1, s2) => some (.nx, env1, s2)
      | some (.rt v, env1, s2) => some (.rt v, env1, s2)
      | none => none
    | none => none
def evT (c : CE) (env : Env) (s : S) : Option (Bool × S) := bnd (evE F c env s) fun v s1 => (truthV v).map fun b => (b, s1)

mutual
def exS (n : Nat) : CS → Env → S → Option (Out × Env × S)
  | .asg i e, env, s => bnd (evE F e env s) fun v s1 => some (.nx, env.set i (some v), s1)
  | .asgT is e, env, s => bnd (evE F e env s) fun v s1 => match v with
    | .tup vs => (setAll is vs env).map fun env2 => (.nx, env2, s1)
    | _ => none
  | .asgP is es, env, s => bnd (evEs F es env s) fun vs s1 => (setAll is vs env).map fun env2 => (.nx, env2, s1)
  | .aug i op e, env, s => match getE env i with
    | some (.int a) => bnd (evE F e env s) fun v s1 => match v, op with
      | .int b, .add => some (.nx, env.set i (some (.int (a + b))), s1)
      | .int b, .sub => some (.nx, env.set i (some (.int (a - b))), s1)
      | _, _ => none
    | _ => none
  | .app i e, env, s => bnd (evE F e env s) fun v s1 => match getE env i with
    | some (.lst xs) => if lenOk (xs.length + 1) then some (.nx, env.set i (some (.lst (xs ++ [v]))), s1) else none
    | _ => none
  | .ext i e, env, s => bnd (evE F e env s) fun v s1 => match getE env i, v with
    | some (.lst xs), .lst ys => if lenOk (xs.length + ys.length) then some (.nx, env.set i (some (.lst (xs ++ ys))), s1) else none
    | _, _ => none
  | .popS i, env, s => match getE env i with
    | some (.lst xs) => if xs.isEmpty then none else some (.nx, env.set i (some (.lst xs.dropLast)), s)
    | _ => none
  | .appPop i j e, env, s => match getE env j with
    | some (.lst ys) => bnd (evE F e env s) fun v s1 => match v with
      | .int k => match ys[k.toNat]? with
        | some y => match getE env i with
          | some (.lst xs) => if decide (0 ≤ k) && lenOk (xs.length + 1) then some (.nx, (env.set j (some (.lst (ys.eraseIdx k.toNat)))).set i (some (.lst (xs ++ [y]))), s1) else none
          | _ => none
        | none => none
      | _ => none
    | _ => none
  | .asgPop i j, env, s => match getE env j with
    | some (.lst ys) => match ys.getLast? with
      | some y => some (.nx, (env.set j (some (.lst ys.dropLast))).set i (some y), s)
      | none => none
    | _ => none
  | .seti i k e, env, s => bnd (evE F e env s) fun v s1 => bnd (evE F k env s1) fun kv s2 => match getE env i, kv with
    | some (.lst xs), .int k => if decide (0 ≤ k) && decide (k.toNat < xs.length) then some (.nx, env.set i (some (.lst (xs.set k.toNat v))), s2) else none
    | _, _ => none
  | .ife c a b, env, s => match evT F c env s with
    | some (true, s1) => exSs n a env s1
    | some (false, s1) => exSs n b env s1
    | none => none
  | .whl c b, env, s => whlGo (evT F c) (fun env s => exSs n b env s) n env s
  | .for tg it b, env, s => bnd (evI F it env s) fun items s1 =>
      forGo (fun x env s => match setT tg x env with
        | some env2 => exSs n b env2 s
        | none => none) items env s1
  | .ret e, env, s => bnd (evE F e env s) fun v s1 => some (.rt v, env, s1)
  | .retN, env, s => some (.rt .non, env, s)
  | .brk, env, s => some (.bk, env, s)
  | .cnt, env, s => some (.ct, env, s)
  | .pass, env, s => some (.nx, env, s)
  | .nev, _, _ => none
def exSs (n : Nat) : CSs → Env → S → Option (Out × Env × S)
  | .nil, env, s => some (.nx, env, s)
  | .cons c cs, env, s => match exS n c env s with
    | some (.nx, env1, s1) => exSs n cs env1 s1
    | r => r
end
/-- a def's value -/
def fnV (n : Nat) (m : Nat) (body : CSs) (args : List Val) (s : S) : Option (Val × S) :=
  match exSs F n body (args.map some ++ List.replicate (m - args.length) none) s with
  | some (.rt v, _, s1) => some (v, s1)
  | some (.nx, _, s1) => some (.non, s1)
  | _ => none
end
end Itp

namespace Itp
open PySem PySem.Spec PyProof.Rows L2

/-! ### how values lie in the heap -/
structure Res where
  S : Type
  foot : Addr → Prop
  tok : V
  inv : S → Hp → Prop
  stay : ∀ s H H', inv s H → (∀ b o, foot b → H b = some o → H' b = some o) → inv s H'
  lists : ∀ s H, inv s H → ∀ b, foot b → ∃ xs, H b = some (.lst xs)
  tokf : ∀ a, tok = .ref a → foot a

mutual
def Rep (tok : V) (K : PySem.W.Frag) (A : Addr → Prop) (H : Hp) : Val → V → Prop
  | .non, w => w = .non
  | .bl b, w => w = .bl b
  | .int i, w => w = .int i
  | .str x, w => w = .str x
  | .tup ds, w => ∃ a vs, w = .ref a ∧ H a = some (.tup vs) ∧ Reps tok K A H ds vs
  | .lst ds, w => ∃ a vs, w = .ref a ∧ H a = some (.lst vs) ∧ ¬ A a ∧ Reps tok K A H ds vs
  | .tok, w => w = tok
def Reps (tok : V) (K : PySem.W.Frag) (A : Addr → Prop) (H : Hp) : List Val → List V → Prop
  | [], vs => vs = []
  | d :: ds, vs => ∃ v r, vs = v :: r ∧ Rep tok K A H d v ∧ Reps tok K A H ds r
end
/-- a list at the top may be one of A -/
def PRep (tok : V) (K : PySem.W.Frag) (A : Addr → Prop) (H : Hp) (F : Addr → Prop) (d : Val) (w : V) : Prop := Rep tok K A H d w ∨ ∃ ds a vs, d = .lst ds ∧ w = .ref a ∧ H a = some (.lst vs) ∧ ¬ F a ∧ Reps tok K A H ds vs
def FreshTop (H : Hp) (d : Val) (w : V) : Prop := ∀ ds a, d = .lst ds → w = .ref a → H a = none

section
variable {tok : V} {K : PySem.W.Frag} {A A' F : Addr → Prop} {H H' : Hp}
theorem Reps.len : ∀ {ds : List Val} {vs : List V}, Reps tok K A H ds vs → vs.length = ds.length
  | [], _, h => by
    simp only [Reps] at h
    subst h
    rfl
  | d :: ds, _, h => by
    simp only [Reps] at h
    obtain ⟨v, r, rfl, _, h2⟩ := h
    rw [List.length_cons, List.length_cons, Reps.len h2]
theorem Reps.get : ∀ {ds : List Val} {vs : List V} {i : Nat} {d : Val}, Reps tok K A H ds vs → ds[i]? = some d → ∃ v, vs[i]? = some v ∧ Rep tok K A H d v
  | [], _, _, _, _, e => by simp at e
  | d0 :: ds, _, 0, d, h, e => by
    simp only [Reps] at h
    obtain ⟨v, r, rfl, h1, _⟩ := h
    simp at e
    subst e
    exact ⟨v, rfl, h1⟩
  | d0 :: ds, _, i + 1, d, h, e => by
    simp only [Reps] at h
    obtain ⟨v, r, rfl, _, h2⟩ := h
    obtain ⟨u, h3, h4⟩ := Reps.get (i := i) (d := d) h2 (by simpa using e)
    exact ⟨u, by simpa using h3, h4⟩
theorem Reps.app : ∀ {ds es : List Val} {vs us : List V}, Reps tok K A H ds vs → Reps tok K A H es us → Reps tok K A H (ds ++ es) (vs ++ us)
  | [], _, _, _, h, h' => by
    simp only [Reps] at h
    subst h
    exact h'
  | d :: ds, _, _, _, h, h' => by
    simp only [Reps] at h
    obtain ⟨v, r, rfl, h1, h2⟩ := h
    simp only [List.cons_append, Reps]
    exact ⟨v, _, rfl, h1, Reps.app h2 h'⟩
theorem Reps.nil : Reps tok K A H [] [] := by simp only [Reps]
theorem Reps.cons {d : Val} {v : V} {ds : List Val} {vs : List V} (h : Rep tok K A H d v) (h' : Reps tok K A H ds vs) : Reps tok K A H (d :: ds) (v :: vs) := by
  simp only [Reps]
  exact ⟨v, vs, rfl, h, h'⟩
theorem Reps.take : ∀ {ds : List Val} {vs : List V} (n : Nat), Reps tok K A H ds vs → Reps tok K A H (ds.take n) (vs.take n)
  | [], _, n, h => by
    simp only [Reps] at h
    subst h
    simp only [List.take_nil, Reps]
  | d :: ds, _, 0, h => by simp only [List.take_zero, Reps]
  | d :: ds, _, n + 1, h => by
    simp only [Reps] at h
    obtain ⟨v, r, rfl, h1, h2⟩ := h
    exact Reps.cons h1 (Reps.take n h2)
theorem Reps.drop : ∀ {ds : List Val} {vs : List V} (n : Nat), Reps tok K A H ds vs → Reps tok K A H (ds.drop n) (vs.drop n)
  | [], _, n, h => by
    simp only [Reps] at h
    subst h
    simp only [List.drop_nil, Reps]
  | d :: ds, _, 0, h => h
  | d :: ds, _, n + 1, h => by
    simp only [Reps] at h
    obtain ⟨v, r, rfl, h1, h2⟩ := h
    exact Reps.drop n h2
theorem Reps.rev : ∀ {ds : List Val} {vs : List V}, Reps tok K A H ds vs → Reps tok K A H ds.reverse vs.reverse
  | [], _, h => by
    simp only [Reps] at h
    subst h
    simp only [List.reverse_nil, Reps]
  | d :: ds, _, h => by
    simp only [Reps] at h
    obtain ⟨v, r, rfl, h1, h2⟩ := h
    rw [List.reverse_cons, List.reverse_cons]
    exact Reps.app (Reps.rev h2) (Reps.cons h1 Reps.nil)
theorem Reps.rep {ds : List Val} {vs : List V} (h : Reps tok K A H ds vs) : ∀ n : Nat, Reps tok K A H (List.replicate n ds).flatten (List.replicate n vs).flatten
  | 0 => by simp only [List.replicate_zero, List.flatten_nil, Reps]
  | n + 1 => by
    rw [List.replicate_succ, List.replicate_succ, List.flatten_cons, List.flatten_cons]
    exact Reps.app h (Reps.rep h n)
theorem Reps.set : ∀ {ds : List Val} {vs : List V} {d : Val} {v : V} (n : Nat), Reps tok K A H ds vs → Rep tok K A H d v → Reps tok K A H (ds.set n d) (vs.set n v)
  | [], _, d, v, n, h, h' => by
    simp only [Reps] at h
    subst h
    simp only [List.set_nil, Reps]
  | _ :: ds, _, d, v, 0, h, h' => by
    simp only [Reps] at h
    obtain ⟨v1, r, rfl, h1, h2⟩ := h
    exact Reps.cons h' h2
  | _ :: ds, _, d, v, n + 1, h, h' => by
    simp only [Reps] at h
    obtain ⟨v1, r, rfl, h1, h2⟩ := h
    exact Reps.cons h1 (Reps.set n h2 h')
theorem Reps.erase : ∀ {ds : List Val} {vs : List V} (n : Nat), Reps tok K A H ds vs → Reps tok K A H (ds.eraseIdx n) (vs.eraseIdx n)
  | [], _, n, h => by
    simp only [Reps] at h
    subst h
    simp only [List.eraseIdx_nil, Reps]
  | _ :: ds, _, 0, h => by
    simp only [Reps] at h
    obtain ⟨v1, r, rfl, h1, h2⟩ := h
    exact h2
  | _ :: ds, _, n + 1, h => by
    simp only [Reps] at h
    obtain ⟨v1, r, rfl, h1, h2⟩ := h
    exact Reps.cons h1 (Reps.erase n h2)

theorem sqT_same {a : Addr} {xs : List V} (e : Same H H') (h : SqT K H a xs) : SqT K H' a xs := by
  rcases h with (h | ⟨o, h⟩) | h
  · exact .inl (.inl (e _ _ h))
  · exact .inl (.inr ⟨o, e _ _ h⟩)
  · exact .inr h
mutual
theorem Rep.ext (eL : ∀ a vs, ¬ A a → H a = some (.lst vs) → ¬ A' a ∧ H' a = some (.lst vs)) (eT : ∀ a vs, H a = some (.tup vs) → H' a = some (.tup vs)) : ∀ (d : Val) {w : V}, Rep tok K A H d w → Rep tok K A' H' d w
  | .non, _, h => by simpa only [Rep] using h
  | .bl b, _, h => by simpa only [Rep] using h
  | .int i, _, h => by simpa only [Rep] using h
  | .str x, _, h => by simpa only [Rep] using h
  | .tok, _, h => by simpa only [Rep] using h
  | .tup ds, _, h => by
    simp only [Rep] at h ⊢
    obtain ⟨a, vs, e, hs, hr⟩ := h
    exact ⟨a, vs, e, eT _ _ hs, Reps.ext eL eT ds hr⟩
  | .lst ds, _, h => by
    simp only [Rep] at h ⊢
    obtain ⟨a, vs, e, hs, ha, hr⟩ := h
    have q := eL _ _ ha hs
    exact ⟨a, vs, e, q.2, q.1, Reps.ext eL eT ds hr⟩
theorem Reps.ext (eL : ∀ a vs, ¬ A a → H a = some (.lst vs) → ¬ A' a ∧ H' a = some (.lst vs)) (eT : ∀ a vs, H a = some (.tup vs) → H' a = some (.tup vs)) : ∀ (ds : List Val) {ws : List V}, Reps tok K A H ds ws → Reps tok K A' H' ds ws
  | [], _, h => by simpa only [Reps] using h
  | d :: ds, _, h => by
    simp only [Reps] at h ⊢
    obtain ⟨v, r, e, h1, h2⟩ := h
    exact ⟨v, r, e, Rep.ext eL eT d h1, Reps.ext eL eT ds h2⟩
end
theorem Rep.same (e : Same H H') {d : Val} {w : V} (h : Rep tok K A H d w) : Rep tok K A H' d w := Rep.ext (fun a vs n q => ⟨n, e _ _ q⟩) (fun a vs q => e _ _ q) d h
theorem Reps.same (e : Same H H') {d : List Val} {w : List V} (h : Reps tok K A H d w) : Reps tok K A H' d w := Reps.ext (fun a vs n q => ⟨n, e _ _ q⟩) (fun a vs q => e _ _ q) d h
theorem Rep.mono (e : ∀ a, A' a → A a) {d : Val} {w : V} (h : Rep tok K A H d w) : Rep tok K A' H d w := Rep.ext (fun a vs n q => ⟨fun z => n (e _ z), q⟩) (fun a vs q => q) d h
theorem Reps.mono (e : ∀ a, A' a → A a) {d : List Val} {w : List V} (h : Reps tok K A H d w) : Reps tok K A' H d w := Reps.ext (fun a vs n q => ⟨fun z => n (e _ z), q⟩) (fun a vs q => q) d h
theorem PRep.same (e : Same H H') {d : Val} {w : V} (h : PRep tok K A H F d w) : PRep tok K A H' F d w := by
  rcases h with h | ⟨ds, a, vs, h1, h2, h3, h4, h5⟩
  · exact .inl (h.same e)
  · exact .inr ⟨ds, a, vs, h1, h2, e _ _ h3, h4, h5.same e⟩
mutual
/-- values without lists don't ask what is to be avoided -/
theorem Rep.noLst : ∀ (d : Val) {w : V}, d.noLst = true → Rep tok K A H d w → Rep tok K A' H d w
  | .non, _, _, h => by simpa only [Rep] using h
  | .bl b, _, _, h => by simpa only [Rep] using h
  | .int i, _, _, h => by simpa only [Rep] using h
  | .str x, _, _, h => by simpa only [Rep] using h
  | .tok, _, _, h => by simpa only [Rep] using h
  | .lst ds, _, n, h => by simp [Val.noLst] at n
  | .tup ds, _, n, h => by
    simp only [Rep] at h ⊢
    obtain ⟨a, vs, e, hs, hr⟩ := h
    exact ⟨a, vs, e, hs, Reps.noLst ds (by simpa [Val.noLst] using n) hr⟩
theorem Reps.noLst : ∀ (ds : List Val) {ws : List V}, Val.noLsts ds = true → Reps tok K A H ds ws → Reps tok K A' H ds ws
  | [], _, _, h => by simpa only [Reps] using h
  | d :: ds, _, n, h => by
    simp only [Reps] at h ⊢
    have n' : d.noLst = true ∧ Val.noLsts ds = true := by simpa [Val.noLsts] using n
    obtain ⟨v, r, e, h1, h2⟩ := h
    exact ⟨v, r, e, Rep.noLst d n'.1 h1, Reps.noLst ds n'.2 h2⟩
end
mutual
theorem Rep.dp : ∀ (d : Val) {w : V}, d.noTok = true → Rep tok K A H d w → Dp K H w d.toD
  | .non, _, _, h => by simp only [Rep] at h; subst h; exact Dp.non
  | .bl b, _, _, h => by simp only [Rep] at h; subst h; exact Dp.bl b
  | .int i, _, _, h => by simp only [Rep] at h; subst h; exact Dp.int i
  | .str x, _, _, h => by simp only [Rep] at h; subst h; exact Dp.str x
  | .tok, _, n, h => by simp [Val.noTok] at n
  | .tup ds, _, n, h => by
    simp only [Rep] at h
    obtain ⟨a, vs, rfl, hs, hr⟩ := h
    simp only [Val.toD]
    exact Dp.tup (SqT.of hs) (Reps.dp ds (by simpa [Val.noTok] using n) hr)
  | .lst ds, _, n, h => by
    simp only [Rep] at h
    obtain ⟨a, vs, rfl, hs, _, hr⟩ := h
    simp only [Val.toD]
    exact Dp.lst (SqL.of hs) (Reps.dp ds (by simpa [Val.noTok] using n) hr)
theorem Reps.dp : ∀ (ds : List Val) {ws : List V}, Val.noToks ds = true → Reps tok K A H ds ws → DpAll K H ws (Val.toDs ds)
  | [], _, _, h => by simp only [Reps] at h; subst h; simp only [Val.toDs]; exact DpAll.nil
  | d :: ds, _, n, h => by
    simp only [Reps] at h
    have n' : d.noTok = true ∧ Val.noToks ds = true := by simpa [Val.noToks] using n
    obtain ⟨v, r, rfl, h1, h2⟩ := h
    simp only [Val.toDs]
    exact DpAll.cons (Rep.dp d n'.1 h1) (Reps.dp ds n'.2 h2)
end
theorem PRep.dp {d : Val} {w : V} (n : d.noTok = true) (h : PRep tok K A H F d w) : Dp K H w d.toD := by
  rcases h with h | ⟨ds, a, vs, rfl, rfl, h3, h4, h5⟩
  · exact h.dp d n
  · simp only [Val.toD]
    exact Dp.lst (SqL.of h3) (Reps.dp ds (by simpa [Val.noTok] using n) h5)
theorem PRep.int {i : Int} {w : V} (h : PRep tok K A H F (.int i) w) : w = .int i := by
  rcases h with h | ⟨ds, a, vs, h1, _⟩
  · simpa only [Rep] using h
  · cases h1
theorem PRep.bl {i : Bool} {w : V} (h : PRep tok K A H F (.bl i) w) : w = .bl i := by
  rcases h with h | ⟨ds, a, vs, h1, _⟩
  · simpa only [Rep] using h
  · cases h1
theorem PRep.tup {ds : List Val} {w : V} (h : PRep tok K A H F (.tup ds) w) : ∃ a vs, w = .ref a ∧ H a = some (.tup vs) ∧ Reps tok K A H ds vs := by
  rcases h with h | ⟨ds, a, vs, h1, _⟩
  · simpa only [Rep] using h
  · cases h1
theorem PRep.lst {ds : List Val} {w : V} (fa : ∀ a, F a → A a) (h : PRep tok K A H F (.lst ds) w) : ∃ a vs, w = .ref a ∧ H a = some (.lst vs) ∧ ¬ F a ∧ Reps tok K A H ds vs := by
  rcases h with h | ⟨ds', a, vs, h1, h2, h3, h4, h5⟩
  · simp only [Rep] at h
    obtain ⟨a, vs, e, hs, na, hr⟩ := h
    exact ⟨a, vs, e, hs, fun z => na (fa _ z), hr⟩
  · cases h1
    exact ⟨a, vs, h2, h3, h4, h5⟩
theorem Reps.ints : ∀ {ds : List Val} {vs : List V} {l : List Int}, Reps tok K A H ds vs → asInts ds = some l → vs = l.map V.int
  | [], _, l, h, e => by
    simp only [Reps] at h
    simp only [asInts, Option.some.injEq] at e
    subst e h
    rfl
  | .int i :: r, _, l, h, e => by
    simp only [Reps, Rep] at h
    obtain ⟨v, q, rfl, rfl, h2⟩ := h
    simp only [asInts, Option.map_eq_some_iff] at e
    obtain ⟨l', e1, rfl⟩ := e
    rw [Reps.ints h2 e1]
    rfl
  | .non :: _, _, _, _, e => by simp [asInts] at e
  | .bl _ :: _, _, _, _, e => by simp [asInts] at e
  | .str _ :: _, _, _, _, e => by simp [asInts] at e
  | .tup _ :: _, _, _, _, e => by simp [asInts] at e
  | .lst _ :: _, _, _, _, e => by simp [asInts] at e
  | .tok :: _, _, _, _, e => by simp [asInts] at e
theorem reps_ints : ∀ (l : List Int), Reps tok K A H (l.map Val.int) (l.map V.int)
  | [] => Reps.nil
  | i :: l => Reps.cons (by simp only [Rep]) (reps_ints l)
end
end Itp

namespace Itp
open PySem PySem.Spec PyProof.Rows L2

section
variable {tok : V} {X : Cx} {F : Addr → Prop}

/-- what is asked where two values come to one -/
def rG (tok : V) (K : PySem.W.Frag) (F : Addr → Prop) (g : Val → Val → Option Val) : R2 := fun x y H Q => ∃ A d1 d2 d, (∀ a, F a → A a) ∧ (∀ a, A a → H a ≠ none) ∧ PRep tok K A H F d1 x ∧ PRep tok K A H F d2 y ∧ g d1 d2 = some d ∧
  ∀ w H', Same H H' → Rep tok K A H' d w → FreshTop H d w → Q w H'
theorem fresh_int {H : Hp} {i : Int} {w : V} : FreshTop H (.int i) w := fun _ _ e => by cases e
theorem fresh_bl {H : Hp} {i : Bool} {w : V} : FreshTop H (.bl i) w := fun _ _ e => by cases e
theorem fresh_tup {H : Hp} {i : List Val} {w : V} : FreshTop H (.tup i) w := fun _ _ e => by cases e
theorem fresh_new {H : Hp} {d : Val} {p : Addr} (h : H p = none) : FreshTop H d (.ref p) := fun _ _ _ e => by cases e; exact h
theorem same_new {H : Hp} {p : Addr} {o : HO} (h : H p = none) : Same H (upd H p o) := fun b x e => by
  rw [upd_ne (ne_of_none e h)]
  exact e
theorem rep_int {K : PySem.W.Frag} {A : Addr → Prop} {H : Hp} {i : Int} : Rep tok K A H (.int i) (.int i) := by simp only [Rep]
theorem rep_bl {K : PySem.W.Frag} {A : Addr → Prop} {H : Hp} {i : Bool} : Rep tok K A H (.bl i) (.bl i) := by simp only [Rep]
theorem rep_newT {K : PySem.W.Frag} {A : Addr → Prop} {H : Hp} {ds : List Val} {vs : List V} {p : Addr} (hp : H p = none) (h : Reps tok K A H ds vs) : Rep tok K A (upd H p (.tup vs)) (.tup ds) (.ref p) := by
  simp only [Rep]
  exact ⟨p, vs, rfl, upd_same, h.same (same_new hp)⟩
theorem rep_newL {K : PySem.W.Frag} {A : Addr → Prop} {H : Hp} {ds : List Val} {vs : List V} {p : Addr} (hp : H p = none) (na : ¬ A p) (h : Reps tok K A H ds vs) : Rep tok K A (upd H p (.lst vs)) (.lst ds) (.ref p) := by
  simp only [Rep]
  exact ⟨p, vs, rfl, upd_same, na, h.same (same_new hp)⟩
theorem lenOk_iff {n : Nat} (h : lenOk n = true) : n ≤ sizeLine := by
  have h' : n ≤ 16777216 := of_decide_eq_true h
  exact h'
theorem mulOk_iff {i j : Int} (h : mulOk i j = true) : CMul i j ∨ CMulW i j := by
  simp only [mulOk, Bool.or_eq_true, decide_eq_true_eq] at h
  rcases h with (h | h) | h
  · exact .inl (.inl ⟨by omega, by omega⟩)
  · exact .inl (.inr ⟨by omega, by omega⟩)
  · exact .inr h
theorem op_fdivA : OpR X (binaryOp .FloorDiv) (rI (fun _ j => divOk j = true) fun i j => .int (i.fdiv j)) := opI fun i j _ _ _ _ _ hc q => by
  simp only [divOk, Bool.and_eq_true, bne_iff_ne, ne_eq, Bool.or_eq_true, decide_eq_true_eq] at hc
  rcases hc.2 with h | h
  · exact floordiv_int hc.1 q (.inl (PyProof.noPylong_small h))
  · exact floordiv_int hc.1 q (.inl (PyProof.noPylong_of_log2 h))

def pyOp : BOp → Operator
  | .add => .Add | .sub => .Sub | .mul => .Mult | .fdiv => .FloorDiv | .mod => .Mod | .pow => .Pow | .band => .BitAnd

theorem op_binI (op : BOp) : OpR X (binaryOp (pyOp op)) (fun x y H Q => ∃ i j d, x = .int i ∧ y = .int j ∧ bopI op i j = some d ∧ ∀ k, d = .int k → Q (.int k) H) := by
  intro pins s σ H x y v u Q I rx ry h
  obtain ⟨i, j, d, rfl, rfl, hb, q⟩ := h
  cases op with
  | add =>
    simp only [bopI, Option.some.injEq] at hb
    exact op_add pins s σ H _ _ v u Q I rx ry ⟨i, j, rfl, rfl, q _ hb.symm⟩
  | sub =>
    simp only [bopI, Option.some.injEq] at hb
    exact op_sub pins s σ H _ _ v u Q I rx ry ⟨i, j, rfl, rfl, q _ hb.symm⟩
  | mul =>
    simp only [bopI] at hb
    split at hb
    · rename_i hc
      simp only [Option.some.injEq] at hb
      rcases mulOk_iff hc with hc | hc
      · exact op_mul pins s σ H _ _ v u Q I rx ry ⟨i, j, rfl, rfl, hc, q _ hb.symm⟩
      · exact op_mulW pins s σ H _ _ v u Q I rx ry ⟨i, j, rfl, rfl, hc, q _ hb.symm⟩
    · cases hb
  | fdiv =>
    simp only [bopI] at hb
    split at hb
    · rename_i hc
      simp only [Option.some.injEq] at hb
      exact op_fdivA pins s σ H _ _ v u Q I rx ry ⟨i, j, rfl, rfl, hc, q _ hb.symm⟩
    · cases hb
  | mod =>
    simp only [bopI] at hb
    split at hb
    · rename_i hc
      simp only [Option.some.injEq] at hb
      exact op_modN pins s σ H _ _ v u Q I rx ry ⟨i, j, rfl, rfl, by simpa using hc, q _ hb.symm⟩
    · cases hb
  | pow =>
    simp only [bopI] at hb
    split at hb
    · rename_i hc
      simp only [Option.some.injEq] at hb
      simp only [Bool.and_eq_true, decide_eq_true_eq] at hc
      exact op_pow pins s σ H _ _ v u Q I rx ry ⟨i, j, rfl, rfl, ⟨hc.1.1, hc.1.2, hc.2⟩, q _ hb.symm⟩
    · cases hb
  | band =>
    simp only [bopI, Option.some.injEq] at hb
    exact op_and pins s σ H _ _ v u Q I rx ry ⟨i, j, rfl, rfl, q _ hb.symm⟩
theorem bopI_int {op : BOp} {i j : Int} {d : Val} (h : bopI op i j = some d) : ∃ k, d = .int k := by
  cases op <;> simp only [bopI] at h <;> first
    | (split at h <;> first | (cases h; exact ⟨_, rfl⟩) | cases h)
    | (cases h; exact ⟨_, rfl⟩)

theorem op_bin (op : BOp) : OpR X (binaryOp (pyOp op)) (rG tok X.K F (bop op)) := by
  intro pins s σ H x y v u Q I rx ry h
  obtain ⟨A, d1, d2, d, fa, ad, p1, p2, hg, q⟩ := h
  have notA : ∀ p, H p = none → ¬ A p := fun p hp z => ad p z hp
  cases d1 with
  | int i =>
    cases d2 with
    | int j =>
      have hg' : bopI op i j = some d := hg
      have e1 := p1.int
      have e2 := p2.int
      subst e1 e2
      refine op_binI op pins s σ H _ _ v u Q I rx ry ⟨i, j, d, rfl, rfl, hg', fun k e => ?_⟩
      subst e
      exact q _ H (Same.refl H) rep_int fresh_int
    | _ => cases hg
  | tup xs =>
    cases d2 with
    | tup ys =>
      cases op <;> simp only [bop] at hg <;> try (cases hg; done)
      split at hg
      · rename_i hc
        cases hg
        obtain ⟨a, vs, rfl, ha, ra⟩ := p1.tup
        obtain ⟨b, us, rfl, hb, rb⟩ := p2.tup
        refine op_catA pins s σ H _ _ v u Q I rx ry ⟨a, b, vs, us, rfl, rfl, SqT.of ha, SqT.of hb, ?_, fun e => ?_, fun e e' => ?_, fun _ _ p hp => ?_⟩
        · rw [ra.len, rb.len]; exact lenOk_iff hc
        · subst e
          have e0 : xs = [] := by
            have := ra.len
            exact List.eq_nil_of_length_eq_zero this.symm
          subst e0
          refine q _ H (Same.refl H) ?_ fresh_tup
          simp only [Rep, List.nil_append]
          exact ⟨b, us, rfl, hb, rb⟩
        · subst e'
          have e0 : ys = [] := List.eq_nil_of_length_eq_zero rb.len.symm
          subst e0
          refine q _ H (Same.refl H) ?_ fresh_tup
          simp only [Rep, List.append_nil]
          exact ⟨a, vs, rfl, ha, ra⟩
        · exact q _ _ (same_new hp) (rep_newT hp (ra.app rb)) fresh_tup
      · cases hg
    | _ => cases hg
  | lst xs =>
    cases d2 with
    | lst ys =>
      cases op <;> simp only [bop] at hg <;> try (cases hg; done)
      split at hg
      · rename_i hc
        cases hg
        obtain ⟨a, vs, rfl, ha, na, ra⟩ := p1.lst fa
        obtain ⟨b, us, rfl, hb, nb, rb⟩ := p2.lst fa
        refine op_cat pins s σ H _ _ v u Q I rx ry ⟨a, b, vs, us, rfl, rfl, ha, hb, ?_, fun p hp => ?_⟩
        · rw [ra.len, rb.len]; exact lenOk_iff hc
        · exact q _ _ (same_new hp) (rep_newL hp (notA p hp) (ra.app rb)) (fresh_new hp)
      · cases hg
    | int k =>
      cases op <;> simp only [bop] at hg <;> try (cases hg; done)
      split at hg
      · rename_i hc
        cases hg
        simp only [Bool.and_eq_true, decide_eq_true_eq] at hc
        obtain ⟨a, vs, rfl, ha, na, ra⟩ := p1.lst fa
        have e2 := p2.int
        subst e2
        refine op_rep pins s σ H _ _ v u Q I rx ry ⟨a, k, vs, rfl, rfl, ha, by omega, by omega, ?_, fun p hp => ?_⟩
        · rw [ra.len]; exact lenOk_iff hc.2
        · exact q _ _ (same_new hp) (rep_newL hp (notA p hp) (ra.rep _)) (fresh_new hp)
      · cases hg
    | _ => cases hg
  | _ => cases d2 <;> cases hg
end
end Itp

namespace Itp
open PySem PySem.Spec PyProof.Rows L2

section
variable {tok : V} {X : Cx} {F : Addr → Prop}

def pyCmp : COp → CmpOp
  | .eq => .Eq | .ne => .NotEq | .lt => .Lt | .le => .LtE | .gt => .Gt | .ge => .GtE | .is => .Is | .isnot => .IsNot | .isin => .In | .notin => .NotIn
def copV (op : COp) (a b : Val) : Option Val := (cop op a b).map .bl

theorem op_eqA (hu : X.A.units + 64 < cLine) : OpR X (compareOp .Eq) (rG tok X.K F (copV .eq)) := by
  intro pins s σ H x y v u Q I rx ry h
  obtain ⟨A, d1, d2, d, fa, ad, p1, p2, hg, q⟩ := h
  simp only [copV, cop, Option.map_eq_some_iff] at hg
  obtain ⟨b, hb, rfl⟩ := hg
  have gen : (shapedV d1 && shapedV d2) = true → PyData.eqv d1.toD d2.toD = b → wpAny (model X.prog X.w) X.A (compareOp .Eq v u) (EP X pins σ Q) X.xe s := fun hs e => by
    simp only [shapedV, Bool.and_eq_true] at hs
    refine op_eqD hu pins s σ H x y v u Q I rx ry ⟨_, _, p1.dp hs.1.1, p2.dp hs.2.1, hs.1.2, hs.2.2, ?_⟩
    rw [e]
    exact q _ H (Same.refl H) rep_bl fresh_bl
  unfold eqV at hb
  split at hb
  · rename_i i j
    cases hb
    have e1 := p1.int
    have e2 := p2.int
    subst e1 e2
    refine op_eq pins s σ H _ _ v u Q I rx ry ⟨rfl, ?_⟩
    rw [dec_int]
    exact q _ H (Same.refl H) rep_bl fresh_bl
  · split at hb
    · rename_i hs
      cases hb
      exact gen hs rfl
    · cases hb
theorem op_neA (hu : X.A.units + 64 < cLine) : OpR X (compareOp .NotEq) (rG tok X.K F (copV .ne)) := by
  intro pins s σ H x y v u Q I rx ry h
  obtain ⟨A, d1, d2, d, fa, ad, p1, p2, hg, q⟩ := h
  simp only [copV, cop, Option.map_map, Option.map_eq_some_iff] at hg
  obtain ⟨b, hb, rfl⟩ := hg
  simp only [Function.comp] at q
  have gen : (shapedV d1 && shapedV d2) = true → PyData.eqv d1.toD d2.toD = b → wpAny (model X.prog X.w) X.A (compareOp .NotEq v u) (EP X pins σ Q) X.xe s := fun hs e => by
    simp only [shapedV, Bool.and_eq_true] at hs
    refine op_neD hu pins s σ H x y v u Q I rx ry ⟨_, _, p1.dp hs.1.1, p2.dp hs.2.1, hs.1.2, hs.2.2, ?_⟩
    rw [e]
    exact q _ H (Same.refl H) rep_bl fresh_bl
  unfold eqV at hb
  split at hb
  · rename_i i j
    cases hb
    have e1 := p1.int
    have e2 := p2.int
    subst e1 e2
    refine op_ne pins s σ H _ _ v u Q I rx ry ⟨rfl, ?_⟩
    rw [dec_int]
    exact q _ H (Same.refl H) rep_bl fresh_bl
  · split at hb
    · rename_i hs
      cases hb
      exact gen hs rfl
    · cases hb

/-- the kinds of values a rule may ask for -/
theorem rel_kind {K : PySem.W.Frag} {A : Addr → Prop} {H : Hp} {d : Val} {x : V} {v : Value} (p : PRep tok K A H F d x) (r : RelV x v) (h : d.noTok = true ∨ d ≠ .tok) :
    (match d with | .non => v = .none | .bl b => v = .bool b | .int i => ∃ t, v = .int i t | .str z => ∃ t, v = .str z t | .tup _ => ∃ a, v = .ref a | .lst _ => ∃ a, v = .ref a | .tok => True) := by
  cases d with
  | non =>
    rcases p with p | ⟨_, _, _, e, _⟩
    · simp only [Rep] at p; subst p; exact r
    · cases e
  | bl b => have e := p.bl; subst e; exact r
  | int i => have e := p.int; subst e; exact r
  | str z =>
    rcases p with p | ⟨_, _, _, e, _⟩
    · simp only [Rep] at p; subst p; exact r
    · cases e
  | tup ds => obtain ⟨a, vs, e, _⟩ := p.tup; subst e; exact ⟨a, r⟩
  | lst ds =>
    rcases p with p | ⟨_, a, _, _, e, _⟩
    · simp only [Rep] at p
      obtain ⟨a, vs, e, _⟩ := p
      subst e
      exact ⟨a, r⟩
    · subst e; exact ⟨a, r⟩
  | tok => exact True.intro
theorem op_isA : OpR X (compareOp .Is) (rG tok X.K F (copV .is)) := by
  intro pins s σ H x y v u Q I rx ry h
  obtain ⟨A, d1, d2, d, fa, ad, p1, p2, hg, q⟩ := h
  simp only [copV, cop, Option.map_eq_some_iff] at hg
  obtain ⟨b, hb, rfl⟩ := hg
  have fin : ∀ c, b = c → EP X pins σ Q (.bool c) s := fun c e => by
    subst e
    exact ⟨.bl b, H, I, rfl, q _ H (Same.refl H) rep_bl fresh_bl⟩
  cases d2 with
  | non =>
    have k2 := rel_kind p2 ry (.inl rfl)
    simp only at k2
    subst k2
    cases d1 with
    | tok => simp at hb
    | non =>
      have k1 := rel_kind p1 rx (.inl rfl)
      simp only at k1
      subst k1
      simp at hb
      exact wpAny_is_self rfl (fin _ hb)
    | bl c =>
      have k1 := rel_kind p1 rx (.inl rfl)
      simp only at k1
      subst k1
      simp at hb
      exact wpAny_is_other rfl (fun z => nomatch z) (fin _ hb)
    | int c =>
      obtain ⟨t, k1⟩ := rel_kind p1 rx (.inl rfl)
      subst k1
      simp at hb
      exact wpAny_is_other rfl (fun z => nomatch z) (fin _ hb)
    | str c =>
      obtain ⟨t, k1⟩ := rel_kind p1 rx (.inl rfl)
      subst k1
      simp at hb
      exact wpAny_is_other rfl (fun z => nomatch z) (fin _ hb)
    | tup c =>
      obtain ⟨t, k1⟩ := rel_kind p1 rx (.inr (by simp))
      subst k1
      simp at hb
      exact wpAny_is_other rfl (fun z => nomatch z) (fin _ hb)
    | lst c =>
      obtain ⟨t, k1⟩ := rel_kind p1 rx (.inr (by simp))
      subst k1
      simp at hb
      exact wpAny_is_other rfl (fun z => nomatch z) (fin _ hb)
  | bl e =>
    have k2 := rel_kind p2 ry (.inl rfl)
    simp only at k2
    subst k2
    cases d1 with
    | tok => simp at hb
    | non =>
      have k1 := rel_kind p1 rx (.inl rfl)
      simp only at k1
      subst k1
      simp at hb
      exact wpAny_is_other rfl (fun z => nomatch z) (fin _ hb)
    | bl c =>
      have k1 := rel_kind p1 rx (.inl rfl)
      simp only at k1
      subst k1
      simp at hb
      by_cases z : c = e
      · subst z
        exact wpAny_is_self rfl (fin _ (by simpa using hb.symm))
      · exact wpAny_is_other rfl (fun q => z (Value.bool.inj q)) (fin _ (by rw [← hb]; exact beq_eq_false_iff_ne.mpr z))
    | int c =>
      obtain ⟨t, k1⟩ := rel_kind p1 rx (.inl rfl)
      subst k1
      simp at hb
      exact wpAny_is_other rfl (fun z => nomatch z) (fin _ hb)
    | str c =>
      obtain ⟨t, k1⟩ := rel_kind p1 rx (.inl rfl)
      subst k1
      simp at hb
      exact wpAny_is_other rfl (fun z => nomatch z) (fin _ hb)
    | tup c =>
      obtain ⟨t, k1⟩ := rel_kind p1 rx (.inr (by simp))
      subst k1
      simp at hb
      exact wpAny_is_other rfl (fun z => nomatch z) (fin _ hb)
    | lst c =>
      obtain ⟨t, k1⟩ := rel_kind p1 rx (.inr (by simp))
      subst k1
      simp at hb
      exact wpAny_is_other rfl (fun z => nomatch z) (fin _ hb)
  | _ => cases d1 <;> simp at hb
theorem op_isnotA : OpR X (compareOp .IsNot) (rG tok X.K F (copV .isnot)) := by
  intro pins s σ H x y v u Q I rx ry h
  obtain ⟨A, d1, d2, d, fa, ad, p1, p2, hg, q⟩ := h
  simp only [copV, cop, Option.map_eq_some_iff] at hg
  obtain ⟨b, hb, rfl⟩ := hg
  have fin : ∀ c, b = c → EP X pins σ Q (.bool c) s := fun c e => by
    subst e
    exact ⟨.bl b, H, I, rfl, q _ H (Same.refl H) rep_bl fresh_bl⟩
  cases d2 with
  | non =>
    have k2 := rel_kind p2 ry (.inl rfl)
    simp only at k2
    subst k2
    cases d1 with
    | tok => simp at hb
    | non =>
      have k1 := rel_kind p1 rx (.inl rfl)
      simp only at k1
      subst k1
      simp at hb
      exact wpAny_isNot_self rfl (fin _ hb)
    | bl c =>
      have k1 := rel_kind p1 rx (.inl rfl)
      simp only at k1
      subst k1
      simp at hb
      exact wpAny_isNot_other rfl (fun z => nomatch z) (fin _ hb)
    | int c =>
      obtain ⟨t, k1⟩ := rel_kind p1 rx (.inl rfl)
      subst k1
      simp at hb
      exact wpAny_isNot_other rfl (fun z => nomatch z) (fin _ hb)
    | str c =>
      obtain ⟨t, k1⟩ := rel_kind p1 rx (.inl rfl)
      subst k1
      simp at hb
      exact wpAny_isNot_other rfl (fun z => nomatch z) (fin _ hb)
    | tup c =>
      obtain ⟨t, k1⟩ := rel_kind p1 rx (.inr (by simp))
      subst k1
      simp at hb
      exact wpAny_isNot_other rfl (fun z => nomatch z) (fin _ hb)
    | lst c =>
      obtain ⟨t, k1⟩ := rel_kind p1 rx (.inr (by simp))
      subst k1
      simp at hb
      exact wpAny_isNot_other rfl (fun z => nomatch z) (fin _ hb)
  | _ => cases d1 <;> simp at hb

theorem flat_ints : ∀ l : List Int, (l.map V.int).all flatV = true
  | [] => rfl
  | _ :: l => by simp [flatV, flat_ints l]
theorem inV_ints (i : Int) : ∀ l : List Int, inV (.int i) (l.map V.int) = inInts i l
  | [] => rfl
  | x :: l => by
    have ih := inV_ints i l
    simp only [inV, inInts, List.map_cons, List.any_cons] at ih ⊢
    rw [ih]
    rfl
theorem PRep.seqInts {K : PySem.W.Frag} {A : Addr → Prop} {H : Hp} {ds : List Val} {l : List Int} {w : V} (fa : ∀ a, F a → A a) (e : asInts ds = some l) (h : PRep tok K A H F (.lst ds) w ∨ PRep tok K A H F (.tup ds) w) :
    ∃ p, w = .ref p ∧ (SqL K H p (l.map V.int) ∨ SqT K H p (l.map V.int)) := by
  rcases h with h | h
  · obtain ⟨a, vs, rfl, ha, na, r⟩ := h.lst fa
    rw [r.ints e] at ha
    exact ⟨a, rfl, .inl (SqL.of ha)⟩
  · obtain ⟨a, vs, rfl, ha, r⟩ := h.tup
    rw [r.ints e] at ha
    exact ⟨a, rfl, .inr (SqT.of ha)⟩
theorem op_inA : OpR X (compareOp .In) (rG tok X.K F (copV .isin)) := by
  intro pins s σ H x y v u Q I rx ry h
  obtain ⟨A, d1, d2, d, fa, ad, p1, p2, hg, q⟩ := h
  simp only [copV, cop, Option.map_eq_some_iff] at hg
  obtain ⟨b, hb, rfl⟩ := hg
  have go : ∀ i l, d1 = .int i → (∃ ds, (d2 = .lst ds ∨ d2 = .tup ds) ∧ asInts ds = some l) → inInts i l = b → wpAny (model X.prog X.w) X.A (compareOp .In v u) (EP X pins σ Q) X.xe s := by
    rintro i l rfl ⟨ds, hd, el⟩ e
    have e1 := p1.int
    subst e1
    obtain ⟨p, rfl, hs⟩ := PRep.seqInts (w := y) fa el (by rcases hd with rfl | rfl; exact .inl p2; exact .inr p2)
    refine op_in_seq pins s σ H _ _ v u Q I rx ry ⟨p, _, rfl, hs, rfl, flat_ints l, ?_⟩
    simp only [Bool.false_eq_true, if_false]
    rw [inV_ints, e]
    exact q _ H (Same.refl H) rep_bl fresh_bl
  cases d1 with
  | int i =>
    cases d2 with
    | lst ds =>
      simp only [Option.map_eq_some_iff] at hb
      obtain ⟨l, e1, e2⟩ := hb
      exact go i l rfl ⟨ds, .inl rfl, e1⟩ e2
    | tup ds =>
      simp only [Option.map_eq_some_iff] at hb
      obtain ⟨l, e1, e2⟩ := hb
      exact go i l rfl ⟨ds, .inr rfl, e1⟩ e2
    | _ => simp at hb
  | _ => cases d2 <;> simp at hb
theorem op_notinA : OpR X (compareOp .NotIn) (rG tok X.K F (copV .notin)) := by
  intro pins s σ H x y v u Q I rx ry h
  obtain ⟨A, d1, d2, d, fa, ad, p1, p2, hg, q⟩ := h
  simp only [copV, cop, Option.map_eq_some_iff] at hg
  obtain ⟨b, hb, rfl⟩ := hg
  have go : ∀ i l, d1 = .int i → (∃ ds, (d2 = .lst ds ∨ d2 = .tup ds) ∧ asInts ds = some l) → (!inInts i l) = b → wpAny (model X.prog X.w) X.A (compareOp .NotIn v u) (EP X pins σ Q) X.xe s := by
    rintro i l rfl ⟨ds, hd, el⟩ e
    have e1 := p1.int
    subst e1
    obtain ⟨p, rfl, hs⟩ := PRep.seqInts (w := y) fa el (by rcases hd with rfl | rfl; exact .inl p2; exact .inr p2)
    refine op_notIn_seq pins s σ H _ _ v u Q I rx ry ⟨p, _, rfl, hs, rfl, flat_ints l, ?_⟩
    simp only [if_true]
    rw [inV_ints, e]
    exact q _ H (Same.refl H) rep_bl fresh_bl
  cases d1 with
  | int i =>
    cases d2 with
    | lst ds =>
      simp only [Option.map_eq_some_iff] at hb
      obtain ⟨l, e1, e2⟩ := hb
      exact go i l rfl ⟨ds, .inl rfl, e1⟩ e2
    | tup ds =>
      simp only [Option.map_eq_some_iff] at hb
      obtain ⟨l, e1, e2⟩ := hb
      exact go i l rfl ⟨ds, .inr rfl, e1⟩ e2
    | _ => simp at hb
  | _ => cases d2 <;> simp at hb
theorem op_ltA (hu : X.A.units < cLine) : OpR X (compareOp .Lt) (rG tok X.K F (copV .lt)) := by
  intro pins s σ H x y v u Q I rx ry h
  obtain ⟨A, d1, d2, d, fa, ad, p1, p2, hg, q⟩ := h
  simp only [copV, cop, Option.map_eq_some_iff] at hg
  obtain ⟨b, hb, rfl⟩ := hg
  cases d1 with
  | int i =>
    cases d2 with
    | int j =>
      cases hb
      have e1 := p1.int
      have e2 := p2.int
      subst e1 e2
      exact op_lt pins s σ H _ _ v u Q I rx ry ⟨i, j, rfl, rfl, q _ H (Same.refl H) rep_bl fresh_bl⟩
    | _ => simp at hb
  | tup xs =>
    cases d2 with
    | tup ys =>
      simp only at hb
      split at hb
      · rename_i l m e1 e2
        cases hb
        obtain ⟨a, vs, rfl, ha, ra⟩ := p1.tup
        obtain ⟨b, us, rfl, hb, rb⟩ := p2.tup
        rw [ra.ints e1] at ha
        rw [rb.ints e2] at hb
        exact op_ltT hu pins s σ H _ _ v u Q I rx ry ⟨a, b, l, m, rfl, rfl, SqT.of ha, SqT.of hb, q _ H (Same.refl H) rep_bl fresh_bl⟩
      · simp at hb
    | _ => simp at hb
  | _ => cases d2 <;> simp at hb
theorem op_ordA {o : CmpOp} {op : COp} (hr : OpR X (compareOp o) (rI0 fun i j => .bl ((ordI op i j).getD false))) (hc : ∀ a b, cop op a b = match a, b with | .int i, .int j => ordI op i j | _, _ => none) : OpR X (compareOp o) (rG tok X.K F (copV op)) := by
  intro pins s σ H x y v u Q I rx ry h
  obtain ⟨A, d1, d2, d, fa, ad, p1, p2, hg, q⟩ := h
  simp only [copV, hc, Option.map_eq_some_iff] at hg
  obtain ⟨b, hb, rfl⟩ := hg
  cases d1 with
  | int i =>
    cases d2 with
    | int j =>
      simp only at hb
      have e1 := p1.int
      have e2 := p2.int
      subst e1 e2
      refine hr pins s σ H _ _ v u Q I rx ry ⟨i, j, rfl, rfl, ?_⟩
      show Q (V.bl ((ordI op i j).getD false)) H
      rw [hb]
      exact q _ H (Same.refl H) rep_bl fresh_bl
    | _ => simp at hb
  | _ => cases d2 <;> simp at hb
theorem op_cmpA (hu : X.A.units + 64 < cLine) : ∀ op : COp, OpR X (compareOp (pyCmp op)) (rG tok X.K F (copV op))
  | .eq => op_eqA hu
  | .ne => op_neA hu
  | .is => op_isA
  | .isnot => op_isnotA
  | .isin => op_inA
  | .notin => op_notinA
  | .lt => op_ltA (by omega)
  | .le => op_ordA op_le fun a b => by cases a <;> cases b <;> rfl
  | .gt => op_ordA op_gt fun a b => by cases a <;> cases b <;> rfl
  | .ge => op_ordA op_ge fun a b => by cases a <;> cases b <;> rfl
end
end Itp

namespace Itp
open PySem PySem.Spec PyProof.Rows L2

section
variable {tok : V} {X : Cx} {F : Addr → Prop}
def PReps (tok : V) (K : PySem.W.Frag) (A : Addr → Prop) (H : Hp) (F : Addr → Prop) : List Val → List V → Prop
  | [], vs => vs = []
  | d :: ds, vs => ∃ v r, vs = v :: r ∧ PRep tok K A H F d v ∧ PReps tok K A H F ds r
/-- a call of a built-in thing by values -/
def rB (tok : V) (K : PySem.W.Frag) (F : Addr → Prop) (g : List Val → Option Val) : List V → Hp → VK → Prop := fun xs H Q => ∃ A ds d, (∀ a, F a → A a) ∧ (∀ a, A a → H a ≠ none) ∧
  PReps tok K A H F ds xs ∧ g ds = some d ∧
  ∀ w H', Same H H' → Rep tok K A H' d w → FreshTop H d w → Q w H'
theorem seqV_some {d : Val} {xs : List Val} (h : seqV d = some xs) : d = .lst xs ∨ d = .tup xs := by
  cases d <;> simp [seqV] at h
  · subst h; exact .inr rfl
  · subst h; exact .inl rfl
theorem PRep.seq {K : PySem.W.Frag} {A : Addr → Prop} {H : Hp} {d : Val} {ds : List Val} {w : V} (fa : ∀ a, F a → A a) (e : seqV d = some ds) (h : PRep tok K A H F d w) :
    ∃ p vs, w = .ref p ∧ Reps tok K A H ds vs ∧ ((d = .lst ds ∧ H p = some (.lst vs)) ∨ (d = .tup ds ∧ H p = some (.tup vs))) := by
  rcases seqV_some e with rfl | rfl
  · obtain ⟨a, vs, rfl, ha, na, r⟩ := h.lst fa
    exact ⟨a, vs, rfl, r, .inl ⟨rfl, ha⟩⟩
  · obtain ⟨a, vs, rfl, ha, r⟩ := h.tup
    exact ⟨a, vs, rfl, r, .inr ⟨rfl, ha⟩⟩
theorem one_of {K : PySem.W.Frag} {A : Addr → Prop} {H : Hp} {xs : List V} {d : Val} (h : PReps tok K A H F [d] xs) : ∃ w, xs = [w] ∧ PRep tok K A H F d w := by
  obtain ⟨v, r, rfl, h1, h2⟩ := h
  cases (show r = [] from h2)
  exact ⟨v, rfl, h1⟩
theorem two_of {K : PySem.W.Frag} {A : Addr → Prop} {H : Hp} {xs : List V} {d e : Val} (h : PReps tok K A H F [d, e] xs) : ∃ w u, xs = [w, u] ∧ PRep tok K A H F d w ∧ PRep tok K A H F e u := by
  obtain ⟨v, r, rfl, h1, u, r', rfl, h3, h4⟩ := h
  cases (show r' = [] from h4)
  exact ⟨v, u, rfl, h1, h3⟩
theorem g1 {b : Bi} {ds : List Val} {d : Val} (hb : b = .len ∨ b = .sum ∨ b = .sorted ∨ b = .tuple ∨ b = .list ∨ (∃ t, b = .isin t)) (h : biV b ds = some d) : ∃ e, ds = [e] := by
  match ds with
  | [e] => exact ⟨e, rfl⟩
  | [] => rcases hb with rfl | rfl | rfl | rfl | rfl | ⟨t, rfl⟩ <;> simp [biV] at h
  | a :: b :: c => rcases hb with rfl | rfl | rfl | rfl | rfl | ⟨t, rfl⟩ <;> simp [biV] at h

theorem cr_lenA : CallR X (.builtin "len") (rB tok X.K F (biV .len)) := by
  intro pins s σ H xs us Q I r h
  obtain ⟨A, ds, d, fa, ad, hp, hg, q⟩ := h
  obtain ⟨e, rfl⟩ := g1 (by simp) hg
  obtain ⟨w, rfl, p⟩ := one_of hp
  simp only [biV, Option.map_eq_some_iff] at hg
  obtain ⟨n, hn, rfl⟩ := hg
  obtain ⟨xs, e1, e2⟩ : ∃ xs, seqV e = some xs ∧ n = xs.length := by
    cases e <;> simp [lenV] at hn <;> exact ⟨_, rfl, hn.symm⟩
  obtain ⟨a, vs, rfl, hr, hh⟩ := p.seq fa e1
  refine call_len_seq pins s σ H _ us Q I r ⟨a, vs, rfl, ?_, ?_⟩
  · rcases hh with ⟨_, hh⟩ | ⟨_, hh⟩
    · exact .inl (SqL.of hh)
    · exact .inr (SqT.of hh)
  · rw [hr.len, e2.symm]
    exact q _ H (Same.refl H) rep_int fresh_int
theorem cr_listA : CallR X (.type "list") (rB tok X.K F (biV .list)) := by
  intro pins s σ H xs us Q I r h
  obtain ⟨A, ds, d, fa, ad, hp, hg, q⟩ := h
  obtain ⟨e, rfl⟩ := g1 (by simp) hg
  obtain ⟨w, rfl, p⟩ := one_of hp
  simp only [biV, Option.map_eq_some_iff] at hg
  obtain ⟨xs, e1, rfl⟩ := hg
  obtain ⟨a, vs, rfl, hr, hh⟩ := p.seq fa e1
  refine call_list_of pins s σ H _ us Q I r ⟨a, vs, rfl, ?_, fun l hl => ?_⟩
  · rcases hh with ⟨_, hh⟩ | ⟨_, hh⟩
    · exact .inl (SqL.of hh)
    · exact .inr (SqT.of hh)
  · exact q _ _ (same_new hl) (rep_newL hl (fun z => ad _ z hl) hr) (fresh_new hl)
theorem cr_tupleA : CallR X (.type "tuple") (rB tok X.K F (biV .tuple)) := by
  intro pins s σ H xs us Q I r h
  obtain ⟨A, ds, d, fa, ad, hp, hg, q⟩ := h
  obtain ⟨e, rfl⟩ := g1 (by simp) hg
  obtain ⟨w, rfl, p⟩ := one_of hp
  simp only [biV, Option.map_eq_some_iff] at hg
  obtain ⟨xs, e1, rfl⟩ := hg
  obtain ⟨a, vs, rfl, hr, hh⟩ := p.seq fa e1
  refine call_tuple_of pins s σ H _ us Q I r ⟨a, vs, rfl, ?_⟩
  rcases hh with ⟨_, hh⟩ | ⟨_, hh⟩
  · exact .inl ⟨SqL.of hh, fun l hl => q _ _ (same_new hl) (rep_newT hl hr) fresh_tup⟩
  · refine .inr ⟨SqT.of hh, q _ H (Same.refl H) ?_ fresh_tup⟩
    simp only [Rep]
    exact ⟨a, vs, rfl, hh, hr⟩
theorem cr_sumT (hc : X.calm = true) : CallR X (.builtin "sum") (fun xs H Q => ∃ (a : Addr) (ns : List Int), xs = [V.ref a] ∧ SqT X.K H a (ns.map V.int) ∧ Q (.int ns.sum) H) := by
  intro pins s σ H xs us Q I r h
  obtain ⟨a, ns, rfl, hs, q⟩ := h
  obtain ⟨its, rv, ht, hz⟩ := I.tuple hs
  rw [Vals.ref1 r]
  have hi := rv.ints
  have hl : s.heap.IsTuple a its.toArray := ht
  obtain ⟨xs', hx⟩ := hi.allInts.items
  have hn : numsOf its.toArray.toList = ns := by rw [show its.toArray.toList = its from rfl, hi.numsOf]
  rw [hx] at hl hn
  rw [nums_intItems] at hn
  refine PySem.W.ktm_sumG (I.ok.hd hc) hl fun h' tk t' hk => ?_
  rw [preSum_eq, List.take_of_length_le (by simp), hn]
  exact ⟨.int _, H, I.kept hk, ⟨_, rfl⟩, q⟩
theorem cr_sumA (hc : X.calm = true) : CallR X (.builtin "sum") (rB tok X.K F (biV .sum)) := by
  intro pins s σ H xs us Q I r h
  obtain ⟨A, ds, d, fa, ad, hp, hg, q⟩ := h
  obtain ⟨e, rfl⟩ := g1 (by simp) hg
  obtain ⟨w, rfl, p⟩ := one_of hp
  simp only [biV] at hg
  split at hg
  · rename_i xs e1
    simp only [Option.map_eq_some_iff] at hg
    obtain ⟨l, e2, rfl⟩ := hg
    obtain ⟨a, vs, rfl, hr, hh⟩ := p.seq fa e1
    rw [hr.ints e2] at hh
    rcases hh with ⟨_, hh⟩ | ⟨_, hh⟩
    · exact cr_sum hc pins s σ H _ us Q I r ⟨a, l, rfl, SqL.of hh, q _ H (Same.refl H) rep_int fresh_int⟩
    · exact cr_sumT hc pins s σ H _ us Q I r ⟨a, l, rfl, SqT.of hh, q _ H (Same.refl H) rep_int fresh_int⟩
  · cases hg
theorem cr_absA : CallR X (.builtin "abs") (rB tok X.K F (biV .abs)) := by
  intro pins s σ H xs us Q I r h
  obtain ⟨A, ds, d, fa, ad, hp, hg, q⟩ := h
  match ds, hg, hp with
  | [.int i], hg, hp =>
    obtain ⟨w, rfl, p⟩ := one_of hp
    have e := p.int
    subst e
    cases hg
    exact call_abs pins s σ H _ us Q I r ⟨i, rfl, q _ H (Same.refl H) rep_int fresh_int⟩
theorem cr_intA : CallR X (.type "int") (rB tok X.K F (biV .int)) := by
  intro pins s σ H xs us Q I r h
  obtain ⟨A, ds, d, fa, ad, hp, hg, q⟩ := h
  match ds, hg, hp with
  | [.int i], hg, hp =>
    obtain ⟨w, rfl, p⟩ := one_of hp
    have e := p.int
    subst e
    cases hg
    exact call_int1 pins s σ H _ us Q I r (.inl ⟨i, rfl, q _ H (Same.refl H) rep_int fresh_int⟩)
  | [.bl i], hg, hp =>
    obtain ⟨w, rfl, p⟩ := one_of hp
    have e := p.bl
    subst e
    cases hg
    exact call_int1 pins s σ H _ us Q I r (.inr ⟨i, rfl, q _ H (Same.refl H) rep_int fresh_int⟩)
theorem cr_min2A (hc : X.calm = true) : CallR X (.builtin "min") (rB tok X.K F (biV .min2)) := by
  intro pins s σ H xs us Q I r h
  obtain ⟨A, ds, d, fa, ad, hp, hg, q⟩ := h
  match ds, hg, hp with
  | [.int i, .int j], hg, hp =>
    obtain ⟨w, u, rfl, p, p'⟩ := two_of hp
    have e := p.int
    have e' := p'.int
    subst e e'
    cases hg
    exact call_min2 hc pins s σ H _ us Q I r ⟨i, j, rfl, q _ H (Same.refl H) rep_int fresh_int⟩
theorem cr_max2A (hc : X.calm = true) : CallR X (.builtin "max") (rB tok X.K F (biV .max2)) := by
  intro pins s σ H xs us Q I r h
  obtain ⟨A, ds, d, fa, ad, hp, hg, q⟩ := h
  match ds, hg, hp with
  | [.int i, .int j], hg, hp =>
    obtain ⟨w, u, rfl, p, p'⟩ := two_of hp
    have e := p.int
    have e' := p'.int
    subst e e'
    cases hg
    exact call_max2 hc pins s σ H _ us Q I r ⟨i, j, rfl, q _ H (Same.refl H) rep_int fresh_int⟩
theorem cr_gcdA : CallR X (.builtin "math.gcd") (rB tok X.K F (biV .gcd)) := by
  intro pins s σ H xs us Q I r h
  obtain ⟨A, ds, d, fa, ad, hp, hg, q⟩ := h
  match ds, hg, hp with
  | [.int i, .int j], hg, hp =>
    obtain ⟨w, u, rfl, p, p'⟩ := two_of hp
    have e := p.int
    have e' := p'.int
    subst e e'
    cases hg
    exact cr_gcd pins s σ H _ us Q I r ⟨i, j, rfl, q _ H (Same.refl H) rep_int fresh_int⟩
theorem cr_isqrtA : CallR X (.builtin "math.isqrt") (rB tok X.K F (biV .isqrt)) := by
  intro pins s σ H xs us Q I r h
  obtain ⟨A, ds, d, fa, ad, hp, hg, q⟩ := h
  match ds, hg, hp with
  | [.int i], hg, hp =>
    obtain ⟨w, rfl, p⟩ := one_of hp
    have e := p.int
    subst e
    simp only [biV] at hg
    split at hg
    · rename_i hc
      cases hg
      simp only [Bool.and_eq_true, decide_eq_true_eq] at hc
      obtain ⟨u, rfl, t, rfl⟩ := vals1 r
      exact PySem.W.mg_isqrt hc.1 hc.2 ⟨.int _, H, I.tok _, ⟨_, rfl⟩, q _ H (Same.refl H) rep_int fresh_int⟩
    · cases hg

/-! isinstance -/
def tyStr : Ty → String
  | .int => "int" | .bool => "bool" | .str => "str" | .tuple => "tuple" | .list => "list"
end
end Itp

namespace Itp
open PySem PySem.Spec PyProof.Rows L2

section
variable {tok : V} {X : Cx} {F : Addr → Prop}
/-! isinstance -/
theorem kit_all (K : PySem.W.Frag) (t : Ty) : PySem.W.kitOne K (.type "int") (.type (tyStr t)) = some (t == .int) ∧ PySem.W.kitOne K (.type "bool") (.type (tyStr t)) = some (t == .bool || t == .int) ∧ PySem.W.kitOne K (.type "str") (.type (tyStr t)) = some (t == .str) ∧
    PySem.W.kitOne K (.type "tuple") (.type (tyStr t)) = some (t == .tuple) ∧ PySem.W.kitOne K (.type "list") (.type (tyStr t)) = some (t == .list) ∧ PySem.W.kitOne K (.type "NoneType") (.type (tyStr t)) = some false := by
  cases t <;> exact ⟨by with_unfolding_all rfl, by with_unfolding_all rfl, by with_unfolding_all rfl, by with_unfolding_all rfl, by with_unfolding_all rfl, by with_unfolding_all rfl⟩
theorem sqT_tyx {K : PySem.W.Frag} {H : Hp} {a : Addr} {vs : List V} (h : SqT K H a vs) : TyX K H (.ref a) (.type "tuple") := by
  rcases h with (h | ⟨o, h⟩) | ⟨o, its, n, h1, h2, _⟩
  · exact .base (.tup h)
  · exact .fTuple h
  · exact .kTuple h1 h2
theorem cr_isinA (t : Ty) : CallR X (.builtin "isinstance") (fun xs H Q => ∃ A d w b, xs = [w, .ty (tyStr t)] ∧ (∀ a, F a → A a) ∧ PRep tok X.K A H F d w ∧ isTy t d = some b ∧ Q (.bl b) H) := by
  intro pins s σ H xs us Q I r h
  obtain ⟨A, d, w, b, rfl, fa, p, hb, q⟩ := h
  obtain ⟨k1, k2, k3, k4, k5, k6⟩ := kit_all X.K t
  have go : ∀ tv, TyX X.K H w tv → PySem.W.kitOne X.K tv (.type (tyStr t)) = some b → wpAny (model X.prog X.w) X.A (call (.builtin "isinstance") us) (EP X pins σ Q) X.xe s := fun tv h1 h2 =>
    call_isi pins s σ H _ us Q I r ⟨w, _, tv, _, b, rfl, ClsV.ty _, h1, h2, q⟩
  cases d with
  | non =>
    rcases p with p | ⟨_, _, _, e, _⟩
    · simp only [Rep] at p; subst p; cases hb; exact go _ (.base .non) k6
    · cases e
  | bl c => have e := p.bl; subst e; cases hb; exact go _ (.base (.bl c)) k2
  | int i => have e := p.int; subst e; cases hb; exact go _ (.base (.int i)) k1
  | str z =>
    rcases p with p | ⟨_, _, _, e, _⟩
    · simp only [Rep] at p; subst p; cases hb; exact go _ (.base (.str z)) k3
    · cases e
  | tup ds => obtain ⟨a, vs, rfl, hs, _⟩ := p.tup; cases hb; exact go _ (.base (.tup hs)) k4
  | lst ds => obtain ⟨a, vs, rfl, hs, _⟩ := p.lst fa; cases hb; exact go _ (.base (.lst hs)) k5
  | tok => cases hb

/-! sorted -/
theorem insI_perm (x : Int) : ∀ l : List Int, (insI x l).Perm (x :: l)
  | [] => List.Perm.refl _
  | y :: r => by
    unfold insI
    split
    · exact List.Perm.refl _
    · exact ((insI_perm x r).cons y).trans (List.Perm.swap x y r)
theorem sortI_perm : ∀ l : List Int, (sortI l).Perm l
  | [] => List.Perm.refl _
  | x :: r => (insI_perm x _).trans ((sortI_perm r).cons x)
theorem insI_srt (x : Int) : ∀ {l : List Int}, l.Pairwise (· ≤ ·) → (insI x l).Pairwise (· ≤ ·)
  | [], _ => List.pairwise_singleton _ _
  | y :: r, h => by
    unfold insI
    split
    · rename_i hxy
      refine List.pairwise_cons.mpr ⟨fun z hz => ?_, h⟩
      rcases List.mem_cons.mp hz with rfl | hz
      · exact hxy
      · exact Int.le_trans hxy ((List.pairwise_cons.mp h).1 z hz)
    · rename_i hxy
      refine List.pairwise_cons.mpr ⟨fun z hz => ?_, insI_srt x (List.pairwise_cons.mp h).2⟩
      rcases List.mem_cons.mp ((insI_perm x r).mem_iff.mp hz) with rfl | hz
      · omega
      · exact (List.pairwise_cons.mp h).1 z hz
theorem sortI_srt : ∀ l : List Int, (sortI l).Pairwise (· ≤ ·)
  | [] => List.Pairwise.nil
  | x :: r => insI_srt x (sortI_srt r)
theorem srt_uniq {α : Type} {le : α → α → Prop} (anti : ∀ a b, le a b → le b a → a = b) : ∀ {l m : List α}, l.Perm m → l.Pairwise le → m.Pairwise le → l = m
  | [], m, p, _, _ => (List.Perm.nil_eq p)
  | x :: l, [], p, _, _ => absurd p.symm.nil_eq (by simp)
  | x :: l, y :: m, p, h1, h2 => by
    have e : x = y := by
      have hx : x ∈ y :: m := p.mem_iff.mp List.mem_cons_self
      have hy : y ∈ x :: l := p.mem_iff.mpr List.mem_cons_self
      rcases List.mem_cons.mp hx with e | hx
      · exact e
      · rcases List.mem_cons.mp hy with e | hy
        · exact e.symm
        · exact anti _ _ ((List.pairwise_cons.mp h1).1 y hy) ((List.pairwise_cons.mp h2).1 x hx)
    subst e
    rw [srt_uniq anti (List.Perm.cons_inv p) (List.pairwise_cons.mp h1).2 (List.pairwise_cons.mp h2).2]
theorem cr_sortedInts : CallR X (.builtin "sorted") (fun xs H Q => ∃ (a : Addr) (ns : List Int), xs = [V.ref a] ∧ SqL X.K H a (ns.map V.int) ∧ ∀ p, H p = none → Q (.ref p) (upd H p (.lst ((sortI ns).map V.int)))) := by
  intro pins s σ H xs us Q I r h
  obtain ⟨a, ns, rfl, hs, q⟩ := h
  refine cr_sortedI pins s σ H _ us Q I r ⟨a, ns, rfl, hs, fun ns' p hp hs' hn => ?_⟩
  rw [srt_uniq (le := (· ≤ ·)) (fun a b h1 h2 => Int.le_antisymm h1 h2) (hp.trans (sortI_perm ns).symm) hs' (sortI_srt ns)]
  exact q p hn

/-! rows of ints -/
theorem lexLt_irrefl : ∀ l : List Int, HT.lexLt l l = false
  | [] => rfl
  | x :: l => by rw [HT.lexLt_cons, if_pos rfl]; exact lexLt_irrefl l
theorem lexLt_asym : ∀ a b : List Int, HT.lexLt a b = true → HT.lexLt b a = false
  | [], [], h => rfl
  | [], _ :: _, _ => rfl
  | _ :: _, [], h => by cases h
  | x :: a, y :: b, h => by
    rw [HT.lexLt_cons] at h ⊢
    by_cases e : x = y
    · rw [if_pos e] at h
      rw [if_pos e.symm]
      exact lexLt_asym a b h
    · rw [if_neg e] at h
      rw [if_neg (Ne.symm e)]
      have h := of_decide_eq_true h
      exact decide_eq_false (by omega)
theorem lexLt_negtr : ∀ a b c : List Int, HT.lexLt b a = false → HT.lexLt c b = false → HT.lexLt c a = false
  | [], b, c, h1, h2 => by
    cases c with
    | nil => rfl
    | cons z c => rfl
  | x :: a, [], c, h1, h2 => by cases h1
  | x :: a, y :: b, [], h1, h2 => by cases h2
  | x :: a, y :: b, z :: c, h1, h2 => by
    rw [HT.lexLt_cons] at h1 h2 ⊢
    by_cases e1 : y = x
    · subst e1
      rw [if_pos rfl] at h1
      by_cases e2 : z = y
      · subst e2
        rw [if_pos rfl] at h2 ⊢
        exact lexLt_negtr a b c h1 h2
      · rw [if_neg e2] at h2 ⊢
        exact h2
    · rw [if_neg e1] at h1
      have h1 := of_decide_eq_false h1
      by_cases e2 : z = y
      · subst e2
        rw [if_neg e1]
        exact decide_eq_false h1
      · rw [if_neg e2] at h2
        have h2 := of_decide_eq_false h2
        by_cases e3 : z = x
        · omega
        · rw [if_neg e3]
          exact decide_eq_false (by omega)
theorem lexLt_tri : ∀ a b : List Int, HT.lexLt a b = false → HT.lexLt b a = false → a = b
  | [], [], _, _ => rfl
  | [], _ :: _, h, _ => by cases h
  | _ :: _, [], _, h => by cases h
  | x :: a, y :: b, h1, h2 => by
    rw [HT.lexLt_cons] at h1 h2
    by_cases e : x = y
    · subst e
      rw [if_pos rfl] at h1 h2
      rw [lexLt_tri a b h1 h2]
    · rw [if_neg e] at h1
      rw [if_neg (Ne.symm e)] at h2
      have h1 := of_decide_eq_false h1
      have h2 := of_decide_eq_false h2
      omega
theorem swo_rows {α : Type} (k : α → List Int) : SrtO.Swo fun v u => HT.lexLt (k v) (k u) :=
  ⟨fun x y h => lexLt_asym _ _ h, fun x y z h1 h2 => lexLt_negtr _ _ _ h1 h2⟩
theorem insL_perm (x : List Int) : ∀ l : List (List Int), (insL x l).Perm (x :: l)
  | [] => List.Perm.refl _
  | y :: r => by
    unfold insL
    split
    · exact List.Perm.refl _
    · exact ((insL_perm x r).cons y).trans (List.Perm.swap x y r)
theorem sortL_perm : ∀ l : List (List Int), (sortL l).Perm l
  | [] => List.Perm.refl _
  | x :: r => (insL_perm x _).trans ((sortL_perm r).cons x)
abbrev LexLe (a b : List Int) : Prop := HT.lexLt b a = false
theorem insL_srt (x : List Int) : ∀ {l : List (List Int)}, l.Pairwise LexLe → (insL x l).Pairwise LexLe
  | [], _ => List.pairwise_singleton _ _
  | y :: r, h => by
    unfold insL
    split
    · rename_i hxy
      have hxy : HT.lexLt y x = false := by simpa [lexLe] using hxy
      refine List.pairwise_cons.mpr ⟨fun z hz => ?_, h⟩
      rcases List.mem_cons.mp hz with rfl | hz
      · exact hxy
      · exact lexLt_negtr _ _ _ hxy ((List.pairwise_cons.mp h).1 z hz)
    · rename_i hxy
      have hxy : HT.lexLt y x = true := by simpa [lexLe] using hxy
      refine List.pairwise_cons.mpr ⟨fun z hz => ?_, insL_srt x (List.pairwise_cons.mp h).2⟩
      rcases List.mem_cons.mp ((insL_perm x r).mem_iff.mp hz) with rfl | hz
      · exact lexLt_asym _ _ hxy
      · exact (List.pairwise_cons.mp h).1 z hz
theorem sortL_srt : ∀ l : List (List Int), (sortL l).Pairwise LexLe
  | [] => List.Pairwise.nil
  | x :: r => insL_srt x (sortL_srt r)
end

section
variable {prog : Program} {w : World} {A : Around} {E : Value → Shared → Prop} {s : Shared}
open SrtO Srt
/-- a tuple of ints in the heap -/
def IsRow (h : Heap) (v : Value) (l : List Int) : Prop := ∃ a o its n, v = .ref a ∧ h.get? a = some o ∧ o.cls = .type "tuple" ∧ o.data = .seq its n ∧ IntsAre its.toList l
theorem IsRow.keeps {h h' : Heap} {v : Value} {l : List Int} (p : IsRow h v l) (k : ∀ b o, h.get? b = some o → o.cls = .type "tuple" → h'.get? b = some o) : IsRow h' v l := by
  obtain ⟨a, o, its, n, e, ho, hc, hd, hi⟩ := p
  exact ⟨a, o, its, n, e, k _ _ ho hc, hc, hd, hi⟩
theorem oneLt_any {b : Bool} {x y : Int} {t u : Tok} {Q : Bool → Shared → Prop} (h : Q (decide (x < y)) s) : wpAny (model prog w) A (oneLt' b (.int x t) (.int y u)) Q E s := by
  cases b with
  | true =>
    exact wpAny_mono (oneLt_int (E := E) (Q := fun r s' => Q r s') h) (fun _ _ q => q) fun _ _ q => q
  | false => exact PySem.W.kat_one _ _ (PyProof.Rows.lt_int h)
theorem rows_lex {fin : Bool} : ∀ {vs us : List Value} {l m : List Int}, IntsAre vs l → IntsAre us m → ∀ i, fin = decide (l.length < m.length) → PySem.W.KatLex prog w A true fin (fun r s' => s' = s ∧ r = HT.lexLt l m) (vs.zip us) i s
  | _, _, [], [], .nil, .nil, i, e => ⟨rfl, by rw [e]; rfl⟩
  | _, _, [], y :: m, .nil, .cons _ _ _, i, e => ⟨rfl, by rw [e]; rfl⟩
  | _, _, x :: l, [], .cons _ _ _, .nil, i, e => ⟨rfl, by rw [e]; rfl⟩
  | _, _, x :: l, y :: m, .cons _ t hv, .cons _ u hu, i, e => by
    refine PySem.W.kat_cons (SeqAt.EqAt.int_int x t y u prog w _ _ ?_)
    refine PySem.W.kat_go (fun e1 => ?_) (fun e1 => ?_)
    · have ex : x = y := by simpa using e1
      have ih := rows_lex (fin := fin) hv hu (i + 1) (by rw [e]; simp)
      have e2 : HT.lexLt (x :: l) (y :: m) = HT.lexLt l m := by rw [HT.lexLt_cons, if_pos ex]
      rw [e2]
      exact PySem.W.kat_yes ih
    · have ex : ¬ x = y := by simpa using e1
      have e2 : HT.lexLt (x :: l) (y :: m) = decide (x < y) := by rw [HT.lexLt_cons, if_neg ex]
      rw [e2]
      exact PySem.W.kat_no (oneLt_any ⟨rfl, rfl⟩)
theorem rows_cmp {vs : List Value} {k : Value → List Int} (hp : ∀ v ∈ vs, IsRow s.heap v (k v)) : Cmp prog w A s (tuples' true) (fun p => p.1 ∈ vs) (lt2 fun v u => HT.lexLt (k v) (k u)) := by
  intro p q hm hm'
  have h1 := hp _ hm
  have h2 := hp _ hm'
  show wpAny (model prog w) A (keyLt' (tuples' true) p.1 q.1) (fun r s' => s' = s ∧ r = HT.lexLt (k p.1) (k q.1)) (fun _ _ => False) s
  generalize k p.1 = l at h1 ⊢
  generalize k q.1 = m at h2 ⊢
  obtain ⟨a, o, its, n, e, ho, hc, hd, hi⟩ := h1
  obtain ⟨a', o', its', n', e', ho', hc', hd', hi'⟩ := h2
  rw [e, e']
  refine PySem.W.kat_lt ho hd ho' hd' ?_
  refine rows_lex hi hi' 0 ?_
  have z1 := hi.length
  have z2 := hi'.length
  simp only [Array.length_toList] at z1 z2
  rw [z1, z2]
theorem rows_firsts {h : Heap} {k : Value → List Int} : ∀ {vs : List Value}, (∀ v ∈ vs, IsRow h v (k v) ∧ k v ≠ []) → ∃ fs : List Value, PySem.W.KatTups h vs fs ∧ fs.length = vs.length ∧ ∀ f ∈ fs, ∃ x t, f = Value.int x t
  | [], _ => ⟨[], PySem.W.KatTups.nil, rfl, fun _ hm => by simp at hm⟩
  | v :: vs, hp => by
    obtain ⟨fs, h1, h2, h3⟩ := rows_firsts (vs := vs) fun v' hm => hp v' (List.mem_cons_of_mem _ hm)
    obtain ⟨⟨a, o, its, n, e, ho, hc, hd, hi⟩, hne⟩ := hp v (List.mem_cons_self ..)
    generalize k v = l at hi hne
    generalize hl : its.toList = vl at hi
    cases hi with
    | nil => exact absurd rfl hne
    | @cons x t vr lr hi =>
      subst e
      refine ⟨.int x t :: fs, PySem.W.KatTups.cons ho hc hd ?_ h1, by rw [List.length_cons, List.length_cons, h2], fun f hm => ?_⟩
      · rw [← Array.getElem?_toList, hl]; rfl
      · rcases List.mem_cons.mp hm with rfl | hm
        · exact ⟨x, t, rfl⟩
        · exact h3 f hm
theorem rows_sortableO {a : Addr} {vs : List Value} {k : Value → List Int} (h0 : 0 < vs.length) (hp : ∀ v ∈ vs, IsRow s.heap v (k v) ∧ k v ≠ []) (ha : ∀ o, s.heap.get? a = some o → o.cls ≠ .type "tuple") : SortableO prog w A s a vs fun v u => HT.lexLt (k v) (k u) := by
  intro h' keep
  have hp' : ∀ v ∈ vs, IsRow h' v (k v) ∧ k v ≠ [] := fun v hm => ⟨(hp v hm).1.keeps fun b o e c => keep b o (fun z => by subst z; exact ha o e c) e, (hp v hm).2⟩
  obtain ⟨fs, h1, h2, h3⟩ := rows_firsts hp'
  refine ⟨tuples' true, fun Q E hq => ?_, rows_cmp fun v hm => (hp' v hm).1⟩
  refine PySem.W.kat_kind (T := .type "int") h1 (by omega) (fun f hm => ?_) (by rfl) ?_
  · obtain ⟨x, t, rfl⟩ := h3 f hm
    exact PySem.W.Looks.now
  · have e : (Value.type "int" != Value.type "tuple") = true := by first | decide +kernel | rfl | decide
    rw [e]
    exact hq
theorem sorted_rowsO {l : Addr} {vs : List Value} {k : Value → List Int} {Q : Value → Shared → Prop} (hl : s.heap.IsList l vs.toArray) (hz : vs.length ≤ sizeLine) (hp : ∀ v ∈ vs, IsRow s.heap v (k v) ∧ k v ≠ [])
    (h : ∀ (h' : Heap) (d : Addr) (out : List Value), Srtd (fun v u => HT.lexLt (k v) (k u)) out → Stb (fun v u => HT.lexLt (k v) (k u)) out vs → (∀ b o, s.heap.get? b = some o → h'.get? b = some o) → s.heap.objs.size ≤ d → (∃ n, h'.get? d = some (seqObj "list" out.toArray n)) → Q (.ref d) { s with heap := h' }) :
    wpAny (model prog w) A (call (.builtin "sorted") [.ref l]) Q E s := by
  refine sorted_ord (swo_rows k) hl hz (fun h2 h₁ a ha kk => ?_) fun out hs hb => ?_
  · refine rows_sortableO (s := { s with heap := h₁ }) (by omega) (fun v hm => ⟨(hp v hm).1.keeps fun b o e _ => (kk b o e).2, (hp v hm).2⟩) fun o e => ?_
    have e' : some o = some (seqObj "list" vs.toArray 0) := e.symm.trans ha
    cases e'
    intro c
    exact absurd (Value.type.inj c) (by decide)
  · exact h _ _ out hs hb (fun b o e => sortedAll_old e) (Nat.le_succ _) (sortedAll_at s.heap vs out.toArray)
end
section
variable {tok : V} {X : Cx} {F : Addr → Prop}
/-- sorted(l) of tuples of ints that are not empty: their refs in some order, sorted -/
theorem cr_sortedRows : CallR X (.builtin "sorted") (fun vs H Q => ∃ (a : Addr) (xs : List V) (k : V → List Int), vs = [V.ref a] ∧ SqL X.K H a xs ∧ (∀ x ∈ xs, k x ≠ [] ∧ ∃ t, x = V.ref t ∧ SqT X.K H t ((k x).map V.int)) ∧
    ∀ ys p, ys.Perm xs → ys.Pairwise (fun x y => HT.lexLt (k y) (k x) = false) → H p = none → Q (.ref p) (upd H p (.lst ys))) := by
  intro pins s σ H vs us Q I r h
  obtain ⟨a, xs, k, rfl, hs, hx, q⟩ := h
  obtain ⟨its, rv, hl, hz⟩ := I.list hs
  obtain ⟨u, rfl, ru⟩ := vals1 r
  obtain rfl : u = Value.ref a := ru
  obtain ⟨e1, e2⟩ := refs_back rv fun x m => by
    obtain ⟨_, t, e, _⟩ := hx x m
    exact ⟨t, e⟩
  refine sorted_rowsO (k := fun u => k (backV u)) hl.isList (by rw [← rv.length]; exact hz) (fun v hv => ?_) fun h' d out h1 h2 kp hd hn => ?_
  · obtain ⟨t, rfl⟩ := e2 v hv
    have hm : V.ref t ∈ xs := by rw [e1]; exact List.mem_map.mpr ⟨_, hv, rfl⟩
    obtain ⟨hne, t', e, ht⟩ := hx _ hm
    cases e
    obtain ⟨its2, r2, ⟨o, ho, hc, n, hd⟩, _⟩ := I.tuple ht
    exact ⟨⟨t, o, _, n, rfl, ho, hc, hd, (show IntsAre its2.toArray.toList (k (V.ref t)) by simpa using r2.ints)⟩, hne⟩
  · have h3 : ∀ u ∈ out, ∃ a, u = Value.ref a := fun u hu => e2 u (h2.perm.mem_iff.mp hu)
    obtain ⟨n, hn⟩ := hn
    have hp : (out.map backV).Perm xs := by
      rw [e1]
      exact h2.perm.map backV
    refine ⟨.ref d, upd H d (.lst (out.map backV)), I.laid (t' := s.toks) kp hd ⟨?_, out, n, vals_back h3, hn⟩, rfl, q _ d hp ?_ (I.hok.fresh hd)⟩
    · rw [hp.length_eq]
      exact hz
    · exact List.pairwise_map.mpr h1

theorem rows_of {K : PySem.W.Frag} {A : Addr → Prop} {H : Hp} : ∀ {ds : List Val} {vs : List V} {m : List (List Int)}, Reps tok K A H ds vs → asRows ds = some m → ds = m.map ofRow ∧ Paired (fun (l : List Int) (x : V) => ∃ t, x = V.ref t ∧ H t = some (.tup (l.map V.int))) m vs
  | [], _, m, h, e => by
    simp only [Reps] at h
    simp only [asRows, Option.some.injEq] at e
    subst e h
    exact ⟨rfl, .nil⟩
  | .tup xs :: r, _, m, h, e => by
    simp only [Reps, Rep] at h
    obtain ⟨v, q, rfl, ⟨a, vs, rfl, hs, hr⟩, h2⟩ := h
    simp only [asRows] at e
    split at e
    · rename_i l m' e1 e2
      cases e
      obtain ⟨i1, i2⟩ := rows_of h2 e2
      have e3 := hr.ints e1
      subst e3
      have e4 : xs = l.map Val.int := by
        clear hr hs
        induction xs generalizing l with
        | nil => simp only [asInts, Option.some.injEq] at e1; subst e1; rfl
        | cons y ys ih =>
          cases y with
          | int i =>
            simp only [asInts, Option.map_eq_some_iff] at e1
            obtain ⟨l', e5, rfl⟩ := e1
            rw [ih l' e5]
            rfl
          | _ => simp [asInts] at e1
      exact ⟨by rw [i1, e4]; rfl, .cons ⟨a, rfl, hs⟩ i2⟩
    · cases e
  | .int _ :: _, _, _, _, e => by simp [asRows] at e
  | .non :: _, _, _, _, e => by simp [asRows] at e
  | .bl _ :: _, _, _, _, e => by simp [asRows] at e
  | .str _ :: _, _, _, _, e => by simp [asRows] at e
  | .lst _ :: _, _, _, _, e => by simp [asRows] at e
  | .tok :: _, _, _, _, e => by simp [asRows] at e
theorem map_int_inj {l m : List Int} (h : l.map V.int = m.map V.int) : l = m := by
  have e : (l.map V.int).map (fun v => match v with | .int i => i | _ => 0) = (m.map V.int).map (fun v => match v with | .int i => i | _ => 0) := by rw [h]
  simpa [List.map_map, Function.comp_def] using e
open Classical in
noncomputable def rowAt (_ : PySem.W.Frag) (H : Hp) (x : V) : List Int := if h : ∃ l t, x = V.ref t ∧ H t = some (.tup (l.map V.int)) then Classical.choose h else []
theorem rowAt_spec {K : PySem.W.Frag} {H : Hp} {x : V} (h : ∃ (l : List Int) (t : Addr), x = V.ref t ∧ H t = some (.tup (l.map V.int))) : ∃ t, x = V.ref t ∧ H t = some (.tup ((rowAt K H x).map V.int)) := by
  unfold rowAt
  rw [dif_pos h]
  exact Classical.choose_spec h
theorem paired_map {pins : List (Addr × Obj)} {σ : L2.St} {H : Hp} {s : Shared} (I : Inv X pins σ H s) : ∀ {m : List (List Int)} {vs : List V}, Paired (fun (l : List Int) (x : V) => ∃ t, x = V.ref t ∧ H t = some (.tup (l.map V.int))) m vs → m = vs.map (rowAt X.K H) ∧ ∀ x ∈ vs, ∃ t, x = V.ref t ∧ H t = some (.tup ((rowAt X.K H x).map V.int))
  | _, _, .nil => ⟨rfl, fun _ h => by simp at h⟩
  | _, _, .cons (a := l) (b := x) h r => by
    obtain ⟨i1, i2⟩ := paired_map I r
    have h1 := rowAt_spec (K := X.K) ⟨l, h⟩
    obtain ⟨t, rfl, ht⟩ := h
    obtain ⟨t', e, ht'⟩ := h1
    cases e
    have e2 := map_int_inj (by
      have z := Option.some.inj (ht.symm.trans ht')
      injection z)
    refine ⟨by rw [List.map_cons, ← i1, ← e2], fun y hy => ?_⟩
    rcases List.mem_cons.mp hy with rfl | hy
    · exact ⟨t, rfl, ht'⟩
    · exact i2 y hy
theorem reps_rows {K : PySem.W.Frag} {A : Addr → Prop} {H : Hp} : ∀ {ys : List V}, (∀ y ∈ ys, ∃ t, y = V.ref t ∧ H t = some (.tup ((rowAt K H y).map V.int))) → Reps tok K A H ((ys.map (rowAt K H)).map ofRow) ys
  | [], _ => Reps.nil
  | y :: ys, h => by
    refine Reps.cons ?_ (reps_rows fun z hz => h z (List.mem_cons_of_mem _ hz))
    obtain ⟨t, e, ht⟩ := h y List.mem_cons_self
    simp only [ofRow, Rep]
    exact ⟨t, _, e, ht, reps_ints _⟩
theorem cr_sortedA : CallR X (.builtin "sorted") (rB tok X.K F (biV .sorted)) := by
  intro pins s σ H xs us Q I r h
  obtain ⟨A, ds, d, fa, ad, hp, hg, q⟩ := h
  match ds, hg, hp with
  | [.lst es], hg, hp =>
    obtain ⟨w, rfl, p⟩ := one_of hp
    simp only [biV, Option.map_eq_some_iff] at hg
    obtain ⟨zs, e1, rfl⟩ := hg
    obtain ⟨a, vs, rfl, hs, na, hr⟩ := p.lst fa
    unfold sortV at e1
    split at e1
    · rename_i l el
      cases e1
      rw [hr.ints el] at hs
      exact cr_sortedInts pins s σ H _ us Q I r ⟨a, l, rfl, SqL.of hs, fun p hp' => q _ _ (same_new hp') (rep_newL hp' (fun z => ad _ z hp') (reps_ints _)) (fresh_new hp')⟩
    · split at e1
      · rename_i m em
        split at e1
        · rename_i hne
          cases e1
          obtain ⟨_, pm⟩ := rows_of hr em
          obtain ⟨i1, i2⟩ := paired_map I pm
          refine cr_sortedRows pins s σ H _ us Q I r ⟨a, vs, rowAt X.K H, rfl, SqL.of hs, fun x hx => ⟨fun z => ?_, (i2 x hx).imp fun t h => ⟨h.1, SqT.of h.2⟩⟩, fun ys p hy hw hp' => ?_⟩
          · have hm : rowAt X.K H x ∈ m := by rw [i1]; exact List.mem_map.mpr ⟨x, hx, rfl⟩
            have := List.all_eq_true.mp hne _ hm
            rw [z] at this
            cases this
          · have e2 : sortL m = ys.map (rowAt X.K H) := by
              refine srt_uniq (le := LexLe) (fun a b h1 h2 => lexLt_tri _ _ h2 h1) ((sortL_perm m).trans ?_) (sortL_srt m) (List.pairwise_map.mpr hw)
              rw [i1]
              exact (hy.map _).symm
            rw [e2] at q
            exact q _ _ (same_new hp') (rep_newL hp' (fun z => ad _ z hp') (reps_rows fun y hy' => i2 y (hy.mem_iff.mp hy'))) (fresh_new hp')
        · cases e1
      · cases e1

/-! index, slices -/
def rH (tok : V) (K : PySem.W.Frag) (F : Addr → Prop) (g : Val → Val → Option Val) : R2 := fun x y H Q => ∃ A d1 d2 d, (∀ a, F a → A a) ∧ (∀ a, A a → H a ≠ none) ∧ PRep tok K A H F d1 x ∧ PRep tok K A H F d2 y ∧ g d1 d2 = some d ∧
  ∀ w, Rep tok K A H d w → Q w H
theorem ix_A : IxR X (rH tok X.K F ixV) := by
  intro value slice pins s σ H x y v u Q I rx ry h hs
  obtain ⟨A, d1, d2, d, fa, ad, p1, p2, hg, q⟩ := h
  cases d2 with
  | int i =>
    have e2 := p2.int
    subst e2
    cases d1 with
    | lst xs =>
      obtain ⟨a, vs, rfl, ha, na, r⟩ := p1.lst fa
      simp only [ixV, atI] at hg
      obtain ⟨j, h1, h2⟩ := Option.bind_eq_some_iff.mp hg
      obtain ⟨w, h3, h4⟩ := r.get h2
      refine ix_list value slice pins s σ H _ _ v u Q I rx ry ⟨a, vs, i, w, rfl, rfl, SqL.of ha, ?_, q _ h4⟩ hs
      simp only [atI]
      rw [r.len, h1]
      exact h3
    | tup xs =>
      obtain ⟨a, vs, rfl, ha, r⟩ := p1.tup
      simp only [ixV, atI] at hg
      obtain ⟨j, h1, h2⟩ := Option.bind_eq_some_iff.mp hg
      obtain ⟨w, h3, h4⟩ := r.get h2
      refine ix_tup value slice pins s σ H _ _ v u Q I rx ry ⟨a, vs, i, w, rfl, rfl, SqT.of ha, ?_, q _ h4⟩ hs
      simp only [atI]
      rw [r.len, h1]
      exact h3
    | _ => cases hg
  | _ => cases d1 <;> cases hg
theorem reps_cut {K : PySem.W.Frag} {A : Addr → Prop} {H : Hp} {ds : List Val} {vs : List V} (lo hi : Option Int) (h : Reps tok K A H ds vs) : Reps tok K A H (cutL ds lo hi) (cutV vs lo hi) := by
  unfold cutL cutV
  rw [h.len]
  exact (h.drop _).take _
theorem cutL_whole {ds : List Val} {lo hi : Option Int} (h : HT.sIx ds.length 0 lo = 0 ∧ HT.sIx ds.length ds.length hi = ds.length) : cutL ds lo hi = ds := by
  unfold cutL
  rw [h.1, h.2]
  simp
def rS (tok : V) (K : PySem.W.Frag) (F : Addr → Prop) : V → Option Int → Option Int → Hp → VK → Prop := fun x lo hi H Q => ∃ A d1 d, (∀ a, F a → A a) ∧ (∀ a, A a → H a ≠ none) ∧ PRep tok K A H F d1 x ∧ slV d1 lo hi = some d ∧
  ∀ w H', Same H H' → Rep tok K A H' d w → FreshTop H d w → Q w H'
theorem sl_A : SlR X (rS tok X.K F) := by
  intro pins s σ H x v vl vu lo hi sl Q I rx hs pl pu h
  obtain ⟨A, d1, d, fa, ad, p1, hg, q⟩ := h
  cases d1 with
  | lst xs =>
    cases hg
    obtain ⟨a, vs, rfl, ha, na, r⟩ := p1.lst fa
    exact sl_list pins s σ H _ v vl vu lo hi sl Q I rx hs pl pu ⟨a, vs, rfl, SqL.of ha, fun p hp => q _ _ (same_new hp) (rep_newL hp (fun z => ad _ z hp) (reps_cut lo hi r)) (fresh_new hp)⟩
  | tup xs =>
    cases hg
    obtain ⟨a, vs, rfl, ha, r⟩ := p1.tup
    refine sl_tupA pins s σ H _ v vl vu lo hi sl Q I rx hs pl pu ⟨a, vs, rfl, SqT.of ha, fun hw => ?_, fun _ p hp => q _ _ (same_new hp) (rep_newT hp (reps_cut lo hi r)) fresh_tup⟩
    refine q _ H (Same.refl H) ?_ fresh_tup
    rw [r.len] at hw
    rw [cutL_whole hw]
    simp only [Rep]
    exact ⟨a, vs, rfl, ha, r⟩
  | _ => cases hg
end
end Itp

namespace Itp
open PySem PySem.Spec PyProof.Rows L2

/-! ### the own text stands for the text -/
/-- names of defs, and the calls with keywords alone: a name, its keywords, the parameters' order -/
structure Tb where
  nm : List Str
  kw : List (Str × List Str × List Nat)
def okName (x : Str) : Bool := decide ((x == ("__debug__" : Str)) = false) && decide ((x == ("__classdict__" : Str)) = false)
def visB (sc : Scope) (x : Str) : Bool := match sc.names.lookup x with | some .local => true | some .cell => true | some .free => true | _ => false
def glB (sc : Scope) (x : Str) : Bool := match sc.names.lookup x with | some .globalImplicit => true | _ => false
def locB (sc : Scope) (x : Str) : Bool := match sc.names.lookup x with | some .local => true | some .cell => true | _ => false
theorem visB_of {sc : Scope} {x : Str} (h : visB sc x = true) : Vis sc x := by
  unfold visB at h
  split at h
  · exact .inl (by assumption)
  · exact .inr (.inl (by assumption))
  · exact .inr (.inr (by assumption))
  · cases h
theorem glB_of {sc : Scope} {x : Str} (h : glB sc x = true) : sc.names.lookup x = some .globalImplicit := by
  unfold glB at h
  split at h
  · assumption
  · cases h
def biNm : Bi → Str
  | .len => "len" | .sum => "sum" | .sorted => "sorted" | .tuple => "tuple" | .list => "list" | .int => "int" | .abs => "abs" | .min2 => "min" | .max2 => "max" | .isin _ => "isinstance" | .isqrt => "isqrt" | .gcd => "gcd"
def ownP (N : List Str) (own : List Nat) : List (Str × Nat) := own.filterMap fun i => (N[i]?).map fun x => (x, i)

def nilB : CEs → Bool | .nil => true | _ => false
def tOk : CE → Bool | .ife _ _ _ => false | _ => true
def tOks : CEs → Bool | .nil => true | .cons e es => tOk e && tOks es
section
variable (N : List Str) (T : Tb)
def chkG (sc : Scope) : Tg → Expr → Bool
  | .name i, e => match e with
    | .Name x _ => decide (N[i]? = some x) && locB sc x
    | _ => false
  | .tup is, e => match e with
    | .Tuple es _ _ => chkGs sc is es
    | _ => false
where
  chkGs (sc : Scope) : List Nat → List Expr → Bool
  | [], [] => true
  | i :: is, .Name x _ :: es => decide (N[i]? = some x) && locB sc x && chkGs sc is es
  | _, _ => false
def tgIs : Tg → List Nat
  | .name i => [i]
  | .tup is => is
mutual
def chkE : CE → Scope → Expr → Bool
  | .var i, sc, e => match e with
    | .Name x _ => decide (N[i]? = some x) && visB sc x && okName x
    | _ => false
  | .int z, sc, e => match e with
    | .Constant c _ _ => (match c with | .int i => decide (i = z) | _ => false)
    | _ => false
  | .bl b, sc, e => match e with
    | .Constant c _ _ => (match c with | .bool i => decide (i = b) | _ => false)
    | _ => false
  | .non, sc, e => match e with
    | .Constant c _ _ => (match c with | .none => true | _ => false)
    | _ => false
  | .str z, sc, e => match e with
    | .Constant c _ _ => (match c with | .str i => decide (i = z) | _ => false)
    | _ => false
  | .bin op a b, sc, e => match e with
    | .BinOp l o r _ => decide (o = pyOp op) && chkE a sc l && chkE b sc r
    | _ => false
  | .neg a, sc, e => match e with
    | .UnaryOp o x _ => decide (o = .USub) && chkE a sc x
    | _ => false
  | .not a, sc, e => match e with
    | .UnaryOp o x _ => decide (o = .Not) && tOk a && chkE a sc x
    | _ => false
  | .cmp op a b, sc, e => match e with
    | .Compare l [o] [r] _ => decide (o = pyCmp op) && chkE a sc l && chkE b sc r
    | _ => false
  | .chain op op' a b c, sc, e => match e with
    | .Compare l [o, o'] [r, r'] _ => decide (o = pyCmp op) && decide (o' = pyCmp op') && chkE a sc l && chkE b sc r && chkE c sc r'
    | _ => false
  | .bool isAnd es, sc, e => match e with
    | .BoolOp o vs _ => decide (o = if isAnd then .And else .Or) && tOks es && chkEs es sc vs
    | _ => false
  | .ife c a b, sc, e => match e with
    | .IfExp t x y _ => tOk c && chkE c sc t && chkE a sc x && chkE b sc y
    | _ => false
  | .tup es, sc, e => match e with
    | .Tuple xs _ _ => chkEs es sc xs
    | _ => false
  | .lst es, sc, e => match e with
    | .List xs _ => chkEs es sc xs
    | _ => false
  | .call f es, sc, e => match e with
    | .Call g xs ks _ => (match g, ks with
      | .Name x _, [] => decide (T.nm[f]? = some x) && glB sc x && okName x && chkEs es sc xs && !xs.isEmpty
      | _, _ => false)
    | _ => false
  | .callk f es ks perm, sc, e => match e with
    | .Call g [] kws _ => (match g with
      | .Name x _ => nilB es && decide (T.nm[f]? = some x) && glB sc x && okName x && decide ((x, kws.filterMap (·.arg), perm) ∈ T.kw) && kws.all (·.arg.isSome) && chkEs ks sc (kws.map (·.value))
      | _ => false)
    | _ => false
  | .bi b es, sc, e => match e with
    | .Call g xs ks _ => (match g, ks with
      | .Name x _, [] => decide (x = biNm b) && glB sc x && (match b with
        | .isin t => (match xs with
          | [x1, .Name tn _] => chkEs es sc [x1] && decide (tn = Str.ofString (tyStr t)) && glB sc tn
          | _ => false)
        | .isqrt => decide (("isqrt" : Str) ∈ T.nm) && chkEs es sc xs && !xs.isEmpty
        | .gcd => decide (("gcd" : Str) ∈ T.nm) && chkEs es sc xs && !xs.isEmpty
        | _ => chkEs es sc xs && !xs.isEmpty)
      | _, _ => false)
    | _ => false
  | .ix a b, sc, e => match e with
    | .Subscript x y _ => chkE a sc x && chkE b sc y
    | _ => false
  | .sl a lo hi, sc, e => match e with
    | .Subscript x (.Slice l h none _) _ => chkE a sc x && chkO lo sc l && chkO hi sc h
    | _ => false
  | .rev a, sc, e => match e with
    | .Subscript x (.Slice none none (some (.UnaryOp .USub (.Constant (.int i) _ _) _)) _) _ => decide (i = 1) && chkE a sc x
    | _ => false
  | .lc elt tg it cond own, sc, e => match e with
    | .ListComp x [⟨g, i, ifs, asy⟩] scope _ => decide (asy = 0) && decide ((ownP N own).map (·.2) = own) && blkC N sc scope (ownP N own) && chkI it sc i && chkG N scope tg g && (tgIs tg).all (fun j => own.contains j) && chkC cond (relS scope sc) ifs && chkE elt (relS scope sc) x
    | _ => false
  | .lc2 _ _ _ _ _ _ _, _, _ => false
def chkEs : CEs → Scope → List Expr → Bool
  | .nil, _, es => es.isEmpty
  | .cons c cs, sc, es => match es with
    | e :: es => chkE c sc e && chkEs cs sc es
    | [] => false
def chkO : CEo → Scope → Option Expr → Bool
  | .none, _, e => e.isNone
  | .some c, sc, e => match e with
    | some e => chkE c sc e
    | none => false
def chkC : CEo → Scope → List Expr → Bool
  | .none, _, e => e.isEmpty
  | .some c, sc, e => match e with
    | [e] => tOk c && chkE c sc e
    | _ => false
def chkI : CI → Scope → Expr → Bool
  | .seq a, sc, e => chkE a sc e
  | .rng1 a, sc, e => match e with
    | .Call g [x] ks _ => (match g, ks with
      | .Name n _, [] => decide (n = ("range" : Str)) && glB sc n && chkE a sc x
      | _, _ => false)
    | _ => false
  | .rng2 a b, sc, e => match e with
    | .Call g [x, y] ks _ => (match g, ks with
      | .Name n _, [] => decide (n = ("range" : Str)) && glB sc n && chkE a sc x && chkE b sc y
      | _, _ => false)
    | _ => false
  | .rng3 _ _ _, _, _ => false
  | .enum _, _, _ => false
end
end

/-! ### ownership: a list that a name owns is not handed on -/
def isVar : CE → Bool | .var _ => true | _ => false
def wipeB (ow : List Bool) : List Nat → List Bool
  | [] => ow
  | v :: vs => (wipeB ow vs).set v false
section
variable (kd : List Kd)
mutual
def okV : CE → List Bool → Bool
  | .var i, ow => !(ow.getD i false)
  | .int _, _ => true | .bl _, _ => true | .non, _ => true | .str _, _ => true
  | .bin _ a b, ow => (isVar a || okV a ow) && (isVar b || okV b ow)
  | .neg a, ow => (isVar a || okV a ow)
  | .not a, ow => (isVar a || okV a ow)
  | .cmp _ a b, ow => (isVar a || okV a ow) && (isVar b || okV b ow)
  | .chain _ _ a b c, ow => (isVar a || okV a ow) && (isVar b || okV b ow) && (isVar c || okV c ow)
  | .bool _ es, ow => okVs es ow
  | .ife c a b, ow => (isVar c || okV c ow) && okV a ow && okV b ow
  | .tup es, ow => okVs es ow
  | .lst es, ow => okVs es ow
  | .call f es, ow => if kd[f]? = some Kd.pure then okPs es ow else okVs es ow
  | .callk f es ks _, ow => okVs es ow && okVs ks ow
  | .bi _ es, ow => okPs es ow
  | .ix a b, ow => (isVar a || okV a ow) && (isVar b || okV b ow)
  | .sl a lo hi, ow => (isVar a || okV a ow) && okO lo ow && okO hi ow
  | .rev a, ow => (isVar a || okV a ow)
  | .lc elt _ it cond own, ow => okI it ow && okO cond (wipeB ow own) && okV elt (wipeB ow own)
  | .lc2 elt _ it _ it2 cond own, ow => okI it ow && okI it2 (wipeB ow own) && okO cond (wipeB ow own) && okV elt (wipeB ow own)
def okVs : CEs → List Bool → Bool
  | .nil, _ => true
  | .cons e es, ow => okV e ow && okVs es ow
def okPs : CEs → List Bool → Bool
  | .nil, _ => true
  | .cons e es, ow => (isVar e || okV e ow) && okPs es ow
def okO : CEo → List Bool → Bool
  | .none, _ => true
  | .some e, ow => (isVar e || okV e ow)
def okI : CI → List Bool → Bool
  | .seq e, ow => (isVar e || okV e ow)
  | .rng1 a, ow => (isVar a || okV a ow)
  | .rng2 a b, ow => (isVar a || okV a ow) && (isVar b || okV b ow)
  | .rng3 a b _, ow => (isVar a || okV a ow) && (isVar b || okV b ow)
  | .enum a, ow => (isVar a || okV a ow)
end
mutual
/-- a list that comes of it is a new one -/
def fresh : CE → Bool
  | .var _ => false
  | .int _ => true | .bl _ => true | .non => true | .str _ => true
  | .bin _ _ _ => true | .neg _ => true | .not _ => true | .cmp _ _ _ => true | .chain _ _ _ _ _ => true
  | .bool _ es => freshs es
  | .ife _ a b => fresh a && fresh b
  | .tup _ => true | .lst _ => true
  | .call f _ => match kd[f]? with | some .pure => true | some .fresh => true | _ => false
  | .callk f _ _ _ => match kd[f]? with | some .pure => true | some .fresh => true | _ => false
  | .bi _ _ => true
  | .ix _ _ => false | .sl _ _ _ => true | .rev _ => true
  | .lc _ _ _ _ _ => true | .lc2 _ _ _ _ _ _ _ => true
def freshs : CEs → Bool
  | .nil => true
  | .cons e es => fresh e && freshs es
end
end
end Itp

namespace Itp
open PySem PySem.Spec PyProof.Rows L2

/-! ### what is known of the state -/
def Ext (R : Res) (H H' : Hp) : Prop := ∀ b o, H b = some o → ¬ R.foot b → H' b = some o
theorem Ext.refl {R : Res} (H : Hp) : Ext R H H := fun _ _ h _ => h
theorem Ext.trans {R : Res} {H H1 H2 : Hp} (a : Ext R H H1) (b : Ext R H1 H2) : Ext R H H2 := fun c o h n => b c o (a c o h n) n
theorem Ext.of_same {R : Res} {H H' : Hp} (h : Same H H') : Ext R H H' := fun b o e _ => h b o e

section
variable {R : Res} {K : PySem.W.Frag} {A F : Addr → Prop} {H H' : Hp} {s s' : R.S}
theorem Res.notfoot (hi : R.inv s H) {b : Addr} {o : HO} (h : H b = some o) (n : ∀ xs, o ≠ .lst xs) : ¬ R.foot b := fun z => by
  obtain ⟨xs, e⟩ := R.lists s H hi b z
  rw [h] at e
  cases e
  exact n xs rfl
theorem sqT_ext (hi : R.inv s H) (e : Ext R H H') {a : Addr} {xs : List V} (h : SqT K H a xs) : SqT K H' a xs := by
  rcases h with (h | ⟨o, h⟩) | h
  · exact .inl (.inl (e _ _ h (R.notfoot hi h fun _ z => by cases z)))
  · exact .inl (.inr ⟨o, e _ _ h (R.notfoot hi h fun _ z => by cases z)⟩)
  · exact .inr h
theorem Rep.extR (hi : R.inv s H) (e : Ext R H H') (fa : ∀ a, R.foot a → A a) {d : Val} {w : V} (h : Rep R.tok K A H d w) : Rep R.tok K A H' d w :=
  Rep.ext (fun a vs n q => ⟨n, e _ _ q fun z => n (fa _ z)⟩) (fun a vs q => e _ _ q (R.notfoot hi q fun _ z => by cases z)) d h
theorem Reps.extR (hi : R.inv s H) (e : Ext R H H') (fa : ∀ a, R.foot a → A a) {d : List Val} {w : List V} (h : Reps R.tok K A H d w) : Reps R.tok K A H' d w :=
  Reps.ext (fun a vs n q => ⟨n, e _ _ q fun z => n (fa _ z)⟩) (fun a vs q => e _ _ q (R.notfoot hi q fun _ z => by cases z)) d h
theorem PRep.extR (hi : R.inv s H) (e : Ext R H H') (fa : ∀ a, R.foot a → A a) {d : Val} {w : V} (h : PRep R.tok K A H R.foot d w) : PRep R.tok K A H' R.foot d w := by
  rcases h with h | ⟨ds, a, vs, h1, h2, h3, h4, h5⟩
  · exact .inl (h.extR hi e fa)
  · exact .inr ⟨ds, a, vs, h1, h2, e _ _ h3 h4, h4, h5.extR hi e fa⟩
theorem PReps.extR (hi : R.inv s H) (e : Ext R H H') (fa : ∀ a, R.foot a → A a) : ∀ {ds : List Val} {ws : List V}, PReps R.tok K A H R.foot ds ws → PReps R.tok K A H' R.foot ds ws
  | [], _, h => h
  | d :: ds, _, ⟨v, r, e1, h1, h2⟩ => ⟨v, r, e1, h1.extR hi e fa, PReps.extR hi e fa h2⟩
theorem PReps.of : ∀ {ds : List Val} {ws : List V}, Reps R.tok K A H ds ws → PReps R.tok K A H R.foot ds ws
  | [], _, h => by
    simp only [Reps] at h
    exact h
  | d :: ds, _, h => by
    simp only [Reps] at h
    obtain ⟨v, r, e1, h1, h2⟩ := h
    exact ⟨v, r, e1, .inl h1, PReps.of h2⟩
/-- what a peek shows, for who avoids only the resource -/
theorem PRep.foot (fa : ∀ a, R.foot a → A a) {d : Val} {w : V} (h : PRep R.tok K A H R.foot d w) : Rep R.tok K R.foot H d w := by
  rcases h with h | ⟨ds, a, vs, rfl, rfl, h3, h4, h5⟩
  · exact h.mono fa
  · simp only [Rep]
    exact ⟨a, vs, rfl, h3, h4, h5.mono fa⟩
theorem PReps.foot (fa : ∀ a, R.foot a → A a) : ∀ {ds : List Val} {ws : List V}, PReps R.tok K A H R.foot ds ws → Reps R.tok K R.foot H ds ws
  | [], _, h => by simp only [Reps]; exact h
  | d :: ds, _, ⟨v, r, e1, h1, h2⟩ => by
    simp only [Reps]
    exact ⟨v, r, e1, h1.foot fa, PReps.foot fa h2⟩
theorem Reps.preps_len {ds : List Val} {ws : List V} (h : PReps R.tok K A H R.foot ds ws) (fa : ∀ a, R.foot a → A a) : ws.length = ds.length := (h.foot fa).len
end

/-- the slots, the resource -/
structure ERel (R : Res) (K : PySem.W.Frag) (A : Addr → Prop) (ow : List Bool) (env : Env) (s : R.S) (σ : L2.St) (H : Hp) : Prop where
  inv : R.inv s H
  len : env.length = σ.length
  fa : ∀ a, R.foot a → A a
  al : ∀ a, A a → ∃ xs, H a = some (.lst xs)
  slots : ∀ i d, getE env i = some d → ∃ w, σ[i]? = some (some w) ∧ PRep R.tok K A H R.foot d w ∧ (ow.getD i false = false → Rep R.tok K A H d w)
theorem ERel.ext {R : Res} {K : PySem.W.Frag} {A : Addr → Prop} {ow : List Bool} {env : Env} {s s' : R.S} {σ : L2.St} {H H' : Hp} (r : ERel R K A ow env s σ H) (e : Ext R H H') (hi : R.inv s' H') : ERel R K A ow env s' σ H' := by
  refine ⟨hi, r.len, r.fa, fun a ha => ?_, fun i d h => ?_⟩
  · by_cases hf : R.foot a
    · exact R.lists s' H' hi a hf
    · obtain ⟨xs, q⟩ := r.al a ha
      exact ⟨xs, e a _ q hf⟩
  · obtain ⟨w, h1, h2, h3⟩ := r.slots i d h
    exact ⟨w, h1, h2.extR r.inv e r.fa, fun z => (h3 z).extR r.inv e r.fa⟩

theorem ERel.ad {R : Res} {K : PySem.W.Frag} {A : Addr → Prop} {ow : List Bool} {env : Env} {s : R.S} {σ : L2.St} {H : Hp} (r : ERel R K A ow env s σ H) : ∀ a, A a → H a ≠ none := fun a ha hn => by
  obtain ⟨xs, q⟩ := r.al a ha
  rw [hn] at q
  cases q
/-- a def's promise -/
def spI (R : Res) (K : PySem.W.Frag) (n : Nat) (fs : FS R.S) : Sp := fun vs H Q _ => ∃ A ds s r s', (∀ a, R.foot a → A a) ∧ (∀ a, A a → ∃ xs, H a = some (.lst xs)) ∧ Reps R.tok K A H ds vs ∧ R.inv s H ∧ fs.run ds s = some (r, s') ∧ ds.length = n ∧
  ∀ w H', Ext R H H' → R.inv s' H' → Rep R.tok K A H' r w → (fs.kind = .fresh → FreshTop H r w) → Q w H'
/-- how a call with keywords alone binds -/
def KBd (K : PySem.W.Frag) (fd : FuncData) (ps ks : List Str) (perm : List Nat) : Prop := ∀ (s : Shared) (ws : List Value), ws.length = ks.length → BindsTo s fd ⟨[], ks.zip ws⟩ (ps.zip (perm.filterMap fun i => ws[i]?))
structure FnGood (R : Res) (X : Cx) (T : Tb) (fs : FS R.S) (x : Str) : Prop where
  ok : ∃ n f fd ps k, FnOk X.prog X.w X.K X.mg X.base CX0 k f fd ps (spI R X.K n fs) ∧ Room k X.A ∧ X.mg x = some (.ref f) ∧ PySem.W.keepIn X.K (.ref f) = true ∧ Binds X.K fd ps [] ∧ (∀ ds s q, fs.run ds s = some q → ds.length = n) ∧ ∀ ks perm, (x, ks, perm) ∈ T.kw → KBd X.K fd ps ks perm
  pure : fs.kind = .pure → ∀ ds s r s', fs.run ds s = some (r, s') → r.noLst = true
structure Good (R : Res) (F : List (FS R.S)) (N : List Str) (T : Tb) (X : Cx) : Prop where
  calm : X.calm = true
  nd : X.N.Nodup
  N : X.N = N
  hu : X.A.units + 64 < cLine
  fn : ∀ (i : Nat) (fs : FS R.S) (x : Str), F[i]? = some fs → T.nm[i]? = some x → FnGood R X T fs x
  bi : ∀ b : Bi, (b = .isqrt ∨ b = .gcd) ∨ X.mg (biNm b) = none
  isqrt : ("isqrt" : Str) ∈ T.nm → X.mg "isqrt" = some (.builtin "math.isqrt")
  gcd : ("gcd" : Str) ∈ T.nm → X.mg "gcd" = some (.builtin "math.gcd")
  tys : ∀ t, X.mg (Str.ofString (tyStr t)) = none
  range : X.mg "range" = none
  enumerate : X.mg "enumerate" = none

theorem _root_.L2.PE.weak {X : Cx} {e : Expr} {t t' : TE} (h : PE X e t) (hw : ∀ σ H Q, t' σ H Q → t σ H Q) : PE X e t' := ⟨fun pins s σ H Q I q => h.run pins s σ H Q I (hw σ H Q q)⟩
theorem _root_.L2.PT.weak {X : Cx} {e : Expr} {t t' : TT} (h : PT X e t) (hw : ∀ σ H Q, t' σ H Q → t σ H Q) : PT X e t' := ⟨fun pins s σ H Q I q => h.run pins s σ H Q I (hw σ H Q q)⟩
theorem _root_.L2.PW.weak {X : Cx} {e : Expr} {t t' : TT} (h : PW X e t) (hw : ∀ σ H Q, t' σ H Q → t σ H Q) : PW X e t' := ⟨fun wh pins s σ H Q I q => h.run wh pins s σ H Q I (hw σ H Q q)⟩
theorem _root_.L2.PA.weak {X : Cx} {e : List Expr} {t t' : TA} (h : PA X e t) (hw : ∀ σ H Q, t' σ H Q → t σ H Q) : PA X e t' := ⟨fun pos pins s σ H Q I q => h.run pos pins s σ H Q I (hw σ H Q q)⟩
theorem _root_.L2.PO.weak {X : Cx} {e : Option Expr} {t t' : TO} (h : PO X e t) (hw : ∀ σ H Q, t' σ H Q → t σ H Q) : PO X e t' := ⟨fun pins s σ H Q I q => h.run pins s σ H Q I (hw σ H Q q)⟩
theorem _root_.L2.PI.weak {X : Cx} {tg e : Expr} {t t' : TI} (h : PI X tg e t) (hw : ∀ σ H Q, t' σ H Q → t σ H Q) : PI X tg e t' := ⟨fun pins s σ H Q I q => h.run pins s σ H Q I (hw σ H Q q)⟩

section
variable {R : Res} (F : List (FS R.S)) (K : PySem.W.Frag)
def kds (F : List (FS R.S)) : List Kd := F.map (·.kind)
def rdE (ow : List Bool) (ce : CE) : TE := fun σ H Q => ∃ A env s d s', ERel R K A ow env s σ H ∧ evE F ce env s = some (d, s') ∧
  ∀ w H', Ext R H H' → R.inv s' H' → Rep R.tok K A H' d w → (fresh (kds F) ce = true → FreshTop H d w) → Q w H'
def rdP (ow : List Bool) (ce : CE) : TE := fun σ H Q => ∃ A env s d s', ERel R K A ow env s σ H ∧ evE F ce env s = some (d, s') ∧
  ∀ w H', Ext R H H' → R.inv s' H' → PRep R.tok K A H' R.foot d w → Q w H'
def rdT (ow : List Bool) (ce : CE) : TT := fun σ H Q => ∃ A env s d s' b, ERel R K A ow env s σ H ∧ evE F ce env s = some (d, s') ∧ truthV d = some b ∧
  ∀ H', Ext R H H' → R.inv s' H' → Q b H'
/-- the new lists among values -/
def FrS : CEs → List Val → List V → Addr → Prop
  | .cons e es, d :: ds, w :: ws, a => (fresh (kds F) e = true ∧ d.isLst = true ∧ w = .ref a) ∨ FrS es ds ws a
  | _, _, _, _ => False
/-- values that come one after another: a new list stands apart from all else -/
def RepsF (H H' : Hp) : (Addr → Prop) → CEs → List Val → List V → Prop
  | _, .nil, ds, ws => ds = [] ∧ ws = []
  | U, .cons e es, ds, ws => ∃ d ds' w ws', ds = d :: ds' ∧ ws = w :: ws' ∧ Rep R.tok K (fun a => U a ∨ FrS F es ds' ws' a) H' d w ∧ (fresh (kds F) e = true → FreshTop H d w) ∧ RepsF H H' (fun a => U a ∨ (fresh (kds F) e = true ∧ d.isLst = true ∧ w = .ref a)) es ds' ws'
theorem RepsF.reps {H H' : Hp} : ∀ {U : Addr → Prop} {ces : CEs} {ds : List Val} {ws : List V}, RepsF F K H H' U ces ds ws → Reps R.tok K U H' ds ws
  | _, .nil, _, _, h => by
    obtain ⟨rfl, rfl⟩ := h
    exact Reps.nil
  | U, .cons e es, _, _, h => by
    obtain ⟨d, ds', w, ws', rfl, rfl, h1, _, h2⟩ := h
    exact Reps.cons (h1.mono fun a z => .inl z) ((RepsF.reps h2).mono fun a z => .inl z)
theorem RepsF.none {H H' : Hp} : ∀ {U : Addr → Prop} {ces : CEs} {ds : List Val} {ws : List V} {a : Addr}, RepsF F K H H' U ces ds ws → FrS F ces ds ws a → H a = none
  | _, .nil, _, _, _, h, z => by
    obtain ⟨rfl, rfl⟩ := h
    exact z.elim
  | U, .cons e es, _, _, a, h, z => by
    obtain ⟨d, ds', w, ws', rfl, rfl, _, h1, h2⟩ := h
    rcases z with ⟨z1, z2, z3⟩ | z
    · cases d with
      | lst l => exact h1 z1 l a rfl z3
      | _ => simp [Val.isLst] at z2
    · exact RepsF.none h2 z
theorem RepsF.lists {H H' : Hp} : ∀ {U : Addr → Prop} {ces : CEs} {ds : List Val} {ws : List V} {a : Addr}, RepsF F K H H' U ces ds ws → FrS F ces ds ws a → ∃ xs, H' a = some (.lst xs)
  | _, .nil, _, _, _, h, z => by
    obtain ⟨rfl, rfl⟩ := h
    exact z.elim
  | U, .cons e es, _, _, a, h, z => by
    obtain ⟨d, ds', w, ws', rfl, rfl, h0, _, h2⟩ := h
    rcases z with ⟨z1, z2, z3⟩ | z
    · cases d with
      | lst l =>
        simp only [Rep] at h0
        obtain ⟨b, vs, e1, e2, _⟩ := h0
        subst e1
        cases z3
        exact ⟨vs, e2⟩
      | _ => simp [Val.isLst] at z2
    · exact RepsF.lists h2 z
def rdEs (ow : List Bool) (ces : CEs) : TA := fun σ H Q => ∃ A env s ds s', ERel R K A ow env s σ H ∧ evEs F ces env s = some (ds, s') ∧
  ∀ ws H', Ext R H H' → R.inv s' H' → RepsF F K H H' A ces ds ws → Q ws H'
def rdPs (ow : List Bool) (ces : CEs) : TA := fun σ H Q => ∃ A env s ds s', ERel R K A ow env s σ H ∧ evEs F ces env s = some (ds, s') ∧
  ∀ ws H', Ext R H H' → R.inv s' H' → PReps R.tok K A H' R.foot ds ws → Q ws H'
def rdB (ow : List Bool) (isAnd : Bool) (ces : CEs) : TT := fun σ H Q => ∃ A env s d s' b, ERel R K A ow env s σ H ∧ evB F isAnd ces env s = some (d, s') ∧ truthV d = some b ∧
  ∀ H', Ext R H H' → R.inv s' H' → Q b H'
def rdBv (ow : List Bool) (isAnd : Bool) (ces : CEs) : TE := fun σ H Q => ∃ A env s d s', ERel R K A ow env s σ H ∧ evB F isAnd ces env s = some (d, s') ∧
  ∀ w H', Ext R H H' → R.inv s' H' → Rep R.tok K A H' d w → (freshs (kds F) ces = true → FreshTop H d w) → Q w H'
def rdO (ow : List Bool) (c : CEo) : TO := fun σ H Q => ∃ A env s o s', ERel R K A ow env s σ H ∧ evO F c env s = some (o, s') ∧
  ∀ H', Ext R H H' → R.inv s' H' → Q o H'
def rdC (ow : List Bool) (c : CEo) : TT := fun σ H Q => ∃ A env s b s', ERel R K A ow env s σ H ∧ evC F c env s = some (b, s') ∧
  ∀ H', Ext R H H' → R.inv s' H' → Q b H'
/-- how the items come: xs behind the i-th turn -/
def Items (R : Res) (K : PySem.W.Frag) (A P : Addr → Prop) (H0 : Hp) (J : It) (xs : List Val) : Prop :=
  ∀ i H (A' : Addr → Prop), (∀ a, A' a → A a ∨ H0 a = none) → (∀ b o, H0 b = some o → ¬ P b → H b = some o) →
    (i < xs.length → J.go i H ∧ ∀ w H', J.yld i H w H' → ∃ d, xs[i]? = some d ∧ Same H H' ∧ Rep R.tok K A' H' d w) ∧ (xs.length ≤ i → J.stop i H)
def rdI (vm : Bool) (ow : List Bool) (c : CI) : TI := fun σ H Q => ∃ A env s xs s', ERel R K A ow env s σ H ∧ evI F c env s = some (xs, s') ∧
  ∀ J H', Ext R H H' → R.inv s' H' → Items R K A (if vm = true then A else R.foot) H' J xs → Q J H'
end
end Itp

namespace Itp
open PySem PySem.Spec PyProof.Rows L2

section
variable {R : Res} {F : List (FS R.S)} {N : List Str} {T : Tb}

theorem Good.blk {X : Cx} {s : Shared} {H : Hp} {scope : Scope} {cenv : PySem.Env} {fp : List Addr} (g : Good R F N T X) : Good R F N T (X.blk s H scope cenv fp) :=
  ⟨g.calm, g.nd, g.N, g.hu, fun i fs x h1 h2 => ⟨(g.fn i fs x h1 h2).ok, (g.fn i fs x h1 h2).pure⟩, g.bi, g.isqrt, g.gcd, g.tys, g.range, g.enumerate⟩

theorem chk_star {ce : CE} {sc : Scope} {v : Expr} {p : Pos} : chkE N T ce sc (.Starred v p) = false := by cases ce <;> simp [chkE]
theorem chk_slice {ce : CE} {sc : Scope} {a b c : Option Expr} {p : Pos} : chkE N T ce sc (.Slice a b c p) = false := by cases ce <;> simp [chkE]
theorem chk_set {ce : CE} {sc : Scope} {a : List Expr} {k : Nat} {p : Pos} : chkE N T ce sc (.Set a k p) = false := by cases ce <;> simp [chkE]
theorem star_of {ce : CE} {sc : Scope} {e : Expr} (h : chkE N T ce sc e = true) (es : List Expr) (env : PySem.Env) : starEach (e :: es) env = (false, eval e env) :: starEach es env := by
  cases e <;> first
    | rfl
    | (rw [chk_star] at h; cases h)
theorem mark_of {ce : CE} {sc : Scope} {e : Expr} (h : chkE N T ce sc e = true) (op : CmpOp) : behindInMarks op e = false := by
  cases e <;> first
    | rfl
    | (rw [chk_set] at h; cases h)
theorem marks_of {ce : CE} {sc : Scope} {e b : Expr} (h : chkE N T ce sc e = true) (o o' : CmpOp) : lastMarks [o, o'] [b, e] = false := by
  show behindInMarks o' e = false
  exact mark_of h o'
theorem plain_of {ce : CE} {sc : Scope} {e : Expr} (h : chkE N T ce sc e = true) : PlainIx e := by
  intro o i
  cases e <;> first
    | rfl
    | (rw [chk_slice] at h; cases h)
theorem fold_of {ce : CE} {sc : Scope} {e : Expr} (h : chkE N T ce sc e = true) (env : PySem.Env) : ∀ x, foldedSetIterable e env x = pure x := by
  intro x
  cases e <;> first
    | rfl
    | (rw [chk_set] at h; cases h)
theorem nostars : ∀ {ces : CEs} {sc : Scope} {es : List Expr}, chkEs N T ces sc es = true → ∀ (env : PySem.Env) (pos : Pos), (backTo pos (starEach es env)).any (·.1) = false
  | .nil, sc, es, h, env, pos => by
    cases es with
    | nil => rfl
    | cons _ _ => simp [chkEs] at h
  | .cons c cs, sc, [], h, env, pos => rfl
  | .cons c cs, sc, e :: es, h, env, pos => by
    have h' : chkE N T c sc e = true ∧ chkEs N T cs sc es = true := by simpa [chkEs] using h
    rw [star_of h'.1]
    show (false || (backTo pos (starEach es env)).any (·.1)) = false
    rw [nostars h'.2]
    rfl


/-- a name that is peeked at -/
theorem pk_var {X : Cx} {e : Expr} {i : Nat} {ow : List Bool} (g : Good R F N T X) (h : chkE N T (.var i) X.env.scope e = true) : PE X e (rdP F X.K ow (.var i)) := by
  cases e <;> simp only [chkE] at h <;> try (cases h; done)
  rename_i x pos
  simp only [Bool.and_eq_true, decide_eq_true_eq, okName] at h
  refine (pe_var (i := i) (by rw [g.N]; exact h.1.1) (visB_of h.1.2) h.2.1 h.2.2).weak fun σ H Q => ?_
  rintro ⟨A, env, s, d, s', er, ev, q⟩
  simp only [evE, Option.map_eq_some_iff] at ev
  obtain ⟨d', h1, h2⟩ := ev
  cases h2
  obtain ⟨w, h3, h4, h5⟩ := er.slots i d h1
  exact ⟨w, h3, q w H (Ext.refl H) er.inv h4⟩
theorem pk_of {X : Cx} {e : Expr} {ce : CE} {ow : List Bool} (g : Good R F N T X) (h : chkE N T ce X.env.scope e = true) (hv : okV (kds F) ce ow = true → PE X e (rdE F X.K ow ce)) (hp : (isVar ce || okV (kds F) ce ow) = true) : PE X e (rdP F X.K ow ce) := by
  by_cases hi : isVar ce = true
  · cases ce <;> first
      | exact pk_var g h
      | (simp [isVar] at hi)
  · have hp' : okV (kds F) ce ow = true := by simpa [hi] using hp
    refine (hv hp').weak fun σ H Q => ?_
    rintro ⟨A, env, s, d, s', er, ev, q⟩
    exact ⟨A, env, s, d, s', er, ev, fun w H' e1 e2 e3 _ => q w H' e1 e2 (.inl e3)⟩
theorem truth_of {X : Cx} {A : Addr → Prop} {H : Hp} {d : Val} {w : V} {b : Bool} (fa : ∀ a, R.foot a → A a) (p : PRep R.tok X.K A H R.foot d w) (h : truthV d = some b) : TruV X.K w H b := by
  cases d with
  | non =>
    rcases p with p | ⟨_, _, _, e, _⟩
    · simp only [Rep] at p; subst p; cases h; rfl
    · cases e
  | bl c => have e := p.bl; subst e; cases h; rfl
  | int i => have e := p.int; subst e; cases h; rfl
  | str z => cases h
  | tok => cases h
  | tup ds =>
    obtain ⟨a, vs, rfl, hs, hr⟩ := p.tup
    cases h
    refine .inr (.inl ⟨vs, SqT.of hs, ?_⟩)
    have := hr.len
    cases ds <;> cases vs <;> simp_all
  | lst ds =>
    obtain ⟨a, vs, rfl, hs, _, hr⟩ := p.lst fa
    cases h
    refine .inl ⟨vs, SqL.of hs, ?_⟩
    have := hr.len
    cases ds <;> cases vs <;> simp_all
theorem pt_gen {X : Cx} {e : Expr} {ce : CE} {ow : List Bool} (he : ∀ whole, isTrue e X.env whole = (do let v ← whole; standAt e.pos; holding [v] (truthy v))) (hp : PE X e (rdP F X.K ow ce)) : PT X e (rdT F X.K ow ce) := by
  refine (pt_truth hp he).weak fun σ H Q => ?_
  rintro ⟨A, env, s, d, s', b, er, ev, tr, q⟩
  exact ⟨A, env, s, d, s', er, ev, fun w H' e1 e2 e3 => ⟨b, truth_of er.fa e3 tr, q H' e1 e2⟩⟩

/-- what is shown of an own expression -/
def St (R : Res) (F : List (FS R.S)) (N : List Str) (T : Tb) (ce : CE) : Prop := ∀ (X : Cx) (e : Expr) (ow : List Bool), Good R F N T X → chkE N T ce X.env.scope e = true →
  (okV (kds F) ce ow = true → PE X e (rdE F X.K ow ce)) ∧ ((isVar ce || okV (kds F) ce ow) = true → tOk ce = true → PT X e (rdT F X.K ow ce))
theorem St.pk {ce : CE} (h : St R F N T ce) {X : Cx} {e : Expr} {ow : List Bool} (g : Good R F N T X) (hc : chkE N T ce X.env.scope e = true) (hp : (isVar ce || okV (kds F) ce ow) = true) : PE X e (rdP F X.K ow ce) :=
  pk_of g hc (h X e ow g hc).1 hp
/-- of an expression whose test is its value's truth -/
theorem St.gen {ce : CE} (hpl : ∀ (X : Cx) (e : Expr), chkE N T ce X.env.scope e = true → ∀ whole, isTrue e X.env whole = (do let v ← whole; standAt e.pos; holding [v] (truthy v)))
    (hv : ∀ (X : Cx) (e : Expr) (ow : List Bool), Good R F N T X → chkE N T ce X.env.scope e = true → okV (kds F) ce ow = true → PE X e (rdE F X.K ow ce)) : St R F N T ce := fun X e ow g hc =>
  ⟨hv X e ow g hc, fun hp _ => pt_gen (hpl X e hc) (pk_of g hc (hv X e ow g hc) hp)⟩

theorem st_var (i : Nat) : St R F N T (.var i) := St.gen (fun X e hc => by
    cases e <;> simp only [chkE] at hc <;> first | (cases hc; done) | (intro _; rfl)) fun X e ow g hc hv => by
  have hp := pk_var (ow := ow) g hc
  cases e <;> simp only [chkE] at hc <;> try (cases hc; done)
  rename_i x pos
  simp only [Bool.and_eq_true, decide_eq_true_eq, okName] at hc
  refine (pe_var (i := i) (by rw [g.N]; exact hc.1.1) (visB_of hc.1.2) hc.2.1 hc.2.2).weak fun σ H Q => ?_
  rintro ⟨A, env, s, d, s', er, ev, q⟩
  simp only [evE, Option.map_eq_some_iff] at ev
  obtain ⟨d', h1, h2⟩ := ev
  cases h2
  obtain ⟨w, h3, h4, h5⟩ := er.slots i d h1
  exact ⟨w, h3, q w H (Ext.refl H) er.inv (h5 (by simpa [okV] using hv)) (by simp [fresh])⟩
theorem st_int (z : Int) : St R F N T (.int z) := St.gen (fun X e hc => by
    cases e <;> simp only [chkE] at hc <;> first | (cases hc; done) | (intro _; rfl)) fun X e ow g hc hv => by
  cases e <;> simp only [chkE] at hc <;> try (cases hc; done)
  rename_i c k pos
  cases c <;> simp only [decide_eq_true_eq] at hc <;> try (cases hc; done)
  subst hc
  refine pe_int.weak fun σ H Q => ?_
  rintro ⟨A, env, s, d, s', er, ev, q⟩
  cases ev
  exact q _ H (Ext.refl H) er.inv rep_int fun _ => fresh_int
theorem st_bl (z : Bool) : St R F N T (.bl z) := St.gen (fun X e hc => by
    cases e <;> simp only [chkE] at hc <;> first | (cases hc; done) | (intro _; rfl)) fun X e ow g hc hv => by
  cases e <;> simp only [chkE] at hc <;> try (cases hc; done)
  rename_i c k pos
  cases c <;> simp only [decide_eq_true_eq] at hc <;> try (cases hc; done)
  subst hc
  refine pe_bl.weak fun σ H Q => ?_
  rintro ⟨A, env, s, d, s', er, ev, q⟩
  cases ev
  exact q _ H (Ext.refl H) er.inv rep_bl fun _ => fresh_bl
theorem st_non : St R F N T .non := St.gen (fun X e hc => by
    cases e <;> simp only [chkE] at hc <;> first | (cases hc; done) | (intro _; rfl)) fun X e ow g hc hv => by
  cases e <;> simp only [chkE] at hc <;> try (cases hc; done)
  rename_i c k pos
  cases c <;> simp only at hc <;> try (cases hc; done)
  refine pe_non.weak fun σ H Q => ?_
  rintro ⟨A, env, s, d, s', er, ev, q⟩
  cases ev
  exact q _ H (Ext.refl H) er.inv (by simp only [Rep]) fun _ _ _ e => by cases e
theorem st_str (z : Str) : St R F N T (.str z) := St.gen (fun X e hc => by
    cases e <;> simp only [chkE] at hc <;> first | (cases hc; done) | (intro _; rfl)) fun X e ow g hc hv => by
  cases e <;> simp only [chkE] at hc <;> try (cases hc; done)
  rename_i c k pos
  cases c <;> simp only [decide_eq_true_eq] at hc <;> try (cases hc; done)
  subst hc
  refine pe_str.weak fun σ H Q => ?_
  rintro ⟨A, env, s, d, s', er, ev, q⟩
  cases ev
  exact q _ H (Ext.refl H) er.inv (by simp only [Rep]) fun _ _ _ e => by cases e

/-- two values, an operation -/
theorem two_go {X : Cx} {σ : L2.St} {H : Hp} {Q : VK} {A : Addr → Prop} {ow : List Bool} {env : Env} {s : R.S} {a b : CE} {x y : Val} {s1 s2 : R.S} {g : Val → Val → Option Val} {d : Val}
    (er : ERel R X.K A ow env s σ H) (h1 : evE F a env s = some (x, s1)) (h2 : evE F b env s1 = some (y, s2)) (h3 : g x y = some d)
    (q : ∀ w H', Ext R H H' → R.inv s2 H' → Rep R.tok X.K A H' d w → FreshTop H d w → Q w H') : tOp (rG R.tok X.K R.foot g) (rdP F X.K ow a) (rdP F X.K ow b) σ H Q := by
  refine ⟨A, env, s, x, s1, er, h1, fun w1 H1 e1 i1 p1 => ?_⟩
  have er1 := er.ext e1 i1
  refine ⟨A, env, s1, y, s2, er1, h2, fun w2 H2 e2 i2 p2 => ?_⟩
  have er2 := er1.ext e2 i2
  refine ⟨A, x, y, d, er.fa, er2.ad, p1.extR i1 e2 er.fa, p2, h3, fun w H' e3 r3 f3 => ?_⟩
  have e13 := (e1.trans e2).trans (Ext.of_same e3)
  refine q w H' e13 (R.stay _ _ _ i2 fun b o _ z => e3 b o z) r3 fun l a e4 e5 => ?_
  have z := f3 l a e4 e5
  cases hq : H a with
  | none => rfl
  | some o =>
    by_cases hf : R.foot a
    · obtain ⟨xs, z'⟩ := R.lists _ _ i2 a hf
      rw [z] at z'
      cases z'
    · have := (e1.trans e2) a o hq hf
      rw [z] at this
      cases this
theorem st_bin {op : BOp} {a b : CE} (ha : St R F N T a) (hb : St R F N T b) : St R F N T (.bin op a b) := St.gen (fun X e hc => by
    cases e <;> simp only [chkE] at hc <;> first | (cases hc; done) | (intro _; rfl)) fun X e ow g hc hv => by
  cases e <;> simp only [chkE] at hc <;> try (cases hc; done)
  simp only [Bool.and_eq_true, decide_eq_true_eq] at hc
  simp only [okV, Bool.and_eq_true] at hv
  obtain ⟨⟨rfl, c1⟩, c2⟩ := hc
  refine (pe_op (op_bin (tok := R.tok) (F := R.foot) op) (ha.pk g c1 hv.1) (hb.pk g c2 hv.2)).weak fun σ H Q => ?_
  rintro ⟨A, env, s, d, s', er, ev, q⟩
  simp only [evE] at ev
  obtain ⟨x, s1, h1, ev⟩ := bnd_some ev
  obtain ⟨y, s2, h2, ev⟩ := bnd_some ev
  simp only [Option.map_eq_some_iff] at ev
  obtain ⟨d', h3, e⟩ := ev
  cases e
  exact two_go er h1 h2 h3 fun w H' e1 i1 r1 f1 => q w H' e1 i1 r1 fun _ => f1
theorem st_neg {a : CE} (ha : St R F N T a) : St R F N T (.neg a) := St.gen (fun X e hc => by
    cases e <;> simp only [chkE] at hc <;> try (cases hc; done)
    simp only [Bool.and_eq_true, decide_eq_true_eq] at hc
    obtain ⟨rfl, _⟩ := hc
    intro _
    rfl) fun X e ow g hc hv => by
  cases e <;> simp only [chkE] at hc <;> try (cases hc; done)
  simp only [Bool.and_eq_true, decide_eq_true_eq] at hc
  simp only [okV] at hv
  obtain ⟨rfl, c1⟩ := hc
  refine (pe_un un_neg (ha.pk g c1 hv)).weak fun σ H Q => ?_
  rintro ⟨A, env, s, d, s', er, ev, q⟩
  simp only [evE] at ev
  obtain ⟨x, s1, h1, ev⟩ := bnd_some ev
  refine ⟨A, env, s, x, s1, er, h1, fun w1 H1 e1 i1 p1 => ?_⟩
  split at ev
  · cases ev
    exact ⟨_, p1.int, q _ H1 e1 i1 rep_int fun _ => fresh_int⟩
  · cases ev
theorem pw_not {X : Cx} {e : Expr} {a : CE} {ow : List Bool} {pos : Pos} (h : PT X e (rdT F X.K ow a)) : PT X (.UnaryOp .Not e pos) (rdT F X.K ow (.not a)) := by
  refine (pt_not h).weak fun σ H Q => ?_
  rintro ⟨A, env, s, d, s', b, er, ev, tr, q⟩
  simp only [evE] at ev
  obtain ⟨x, s1, h1, ev⟩ := bnd_some ev
  simp only [Option.map_eq_some_iff] at ev
  obtain ⟨c, h2, e1⟩ := ev
  cases e1
  cases tr
  exact ⟨A, env, s, x, _, c, er, h1, h2, fun H' e1 i1 => q H' e1 i1⟩
end
end Itp

namespace Itp
open PySem PySem.Spec PyProof.Rows L2

section
variable {R : Res} {F : List (FS R.S)} {N : List Str} {T : Tb}

theorem st_not {a : CE} (ha : St R F N T a) : St R F N T (.not a) := fun X e ow g hc => by
  cases e <;> simp only [chkE] at hc <;> try (cases hc; done)
  rename_i o x pos
  simp only [Bool.and_eq_true, decide_eq_true_eq] at hc
  obtain ⟨⟨rfl, tk⟩, c1⟩ := hc
  refine ⟨fun hv => ?_, fun hp _ => ?_⟩
  · simp only [okV] at hv
    refine (pe_notT (ha.pk g c1 hv)).weak fun σ H Q => ?_
    rintro ⟨A, env, s, d, s', er, ev, q⟩
    simp only [evE] at ev
    obtain ⟨x, s1, h1, ev⟩ := bnd_some ev
    simp only [Option.map_eq_some_iff] at ev
    obtain ⟨c, h2, e1⟩ := ev
    cases e1
    exact ⟨A, env, s, x, _, er, h1, fun w1 H1 e1 i1 p1 => ⟨c, truth_of er.fa p1 h2, q _ H1 e1 i1 rep_bl fun _ => fresh_bl⟩⟩
  · simp only [isVar, Bool.false_or, okV] at hp
    exact pw_not ((ha X _ ow g c1).2 hp tk)

theorem st_cmp {op : COp} {a b : CE} (ha : St R F N T a) (hb : St R F N T b) : St R F N T (.cmp op a b) := fun X e ow g hc => by
  cases e <;> simp only [chkE] at hc <;> try (cases hc; done)
  rename_i l os rs pos
  match os, rs, hc with
  | [o], [r], hc =>
    simp only [Bool.and_eq_true, decide_eq_true_eq] at hc
    obtain ⟨⟨rfl, c1⟩, c2⟩ := hc
    have run : ∀ {σ : L2.St} {H : Hp} {Q : VK} {A : Addr → Prop} {env : Env} {s : R.S} {d : Val} {s' : R.S}, ERel R X.K A ow env s σ H → evE F (.cmp op a b) env s = some (d, s') →
        (∀ w H', Ext R H H' → R.inv s' H' → Rep R.tok X.K A H' d w → Q w H') → tOp (rG R.tok X.K R.foot (copV op)) (rdP F X.K ow a) (rdP F X.K ow b) σ H Q := fun {σ H Q A env s d s'} er ev q => by
      simp only [evE] at ev
      obtain ⟨x, s1, h1, ev⟩ := bnd_some ev
      obtain ⟨y, s2, h2, ev⟩ := bnd_some ev
      simp only [Option.map_eq_some_iff] at ev
      obtain ⟨d', h3, e⟩ := ev
      cases e
      exact two_go er h1 h2 (by simp only [copV, h3, Option.map_some]) fun w H' e1 i1 r1 f1 => q w H' e1 i1 r1
    refine ⟨fun hv => ?_, fun hp _ => ?_⟩
    · simp only [okV, Bool.and_eq_true] at hv
      refine (pe_cmpR (op_cmpA (tok := R.tok) (F := R.foot) g.hu op) (ha.pk g c1 hv.1) (hb.pk g c2 hv.2) (mark_of c2 _)).weak fun σ H Q => ?_
      rintro ⟨A, env, s, d, s', er, ev, q⟩
      refine run er ev fun w H' e1 i1 r1 => q w H' e1 i1 r1 fun _ => ?_
      simp only [evE] at ev
      obtain ⟨x, s1, h1, ev⟩ := bnd_some ev
      obtain ⟨y, s2, h2, ev⟩ := bnd_some ev
      simp only [Option.map_eq_some_iff] at ev
      obtain ⟨d', h3, e⟩ := ev
      cases e
      exact fresh_bl
    · simp only [isVar, Bool.false_or, okV, Bool.and_eq_true] at hp
      refine (pt_cmpR (op_cmpA (tok := R.tok) (F := R.foot) g.hu op) (ha.pk g c1 hp.1) (hb.pk g c2 hp.2) (mark_of c2 _)).weak fun σ H Q => ?_
      rintro ⟨A, env, s, d, s', b', er, ev, tr, q⟩
      refine run er ev fun w H' e1 i1 r1 => ?_
      simp only [evE] at ev
      obtain ⟨x, s1, h1, ev⟩ := bnd_some ev
      obtain ⟨y, s2, h2, ev⟩ := bnd_some ev
      simp only [Option.map_eq_some_iff] at ev
      obtain ⟨d', h3, e⟩ := ev
      cases e
      cases tr
      simp only [Rep] at r1
      exact ⟨_, r1, q H' e1 i1⟩

/-- a op b op' c by values -/
theorem chain_go {X : Cx} {op op' : COp} {a b c : CE} {σ : L2.St} {H : Hp} {Q : VK} {A : Addr → Prop} {ow : List Bool} {env : Env} {s : R.S} {d : Val} {s' : R.S}
    (er : ERel R X.K A ow env s σ H) (ev : evE F (.chain op op' a b c) env s = some (d, s')) (q : ∀ v H', d = .bl v → Ext R H H' → R.inv s' H' → Q (.bl v) H') :
    tChain (rG R.tok X.K R.foot (copV op)) (rG R.tok X.K R.foot (copV op')) (rdP F X.K ow a) (rdP F X.K ow b) (rdP F X.K ow c) σ H Q := by
  simp only [evE] at ev
  obtain ⟨x, s1, h1, ev⟩ := bnd_some ev
  obtain ⟨y, s2, h2, ev⟩ := bnd_some ev
  refine ⟨A, env, s, x, s1, er, h1, fun w1 H1 e1 i1 p1 => ?_⟩
  have er1 := er.ext e1 i1
  refine ⟨A, env, s1, y, s2, er1, h2, fun w2 H2 e2 i2 p2 => ?_⟩
  have er2 := er1.ext e2 i2
  split at ev
  · rename_i hk
    refine ⟨A, x, y, .bl true, er.fa, er2.ad, p1.extR i1 e2 er.fa, p2, by simp only [copV, hk, Option.map_some], fun w H3 e3 r3 f3 => ?_⟩
    simp only [Rep] at r3
    subst r3
    have i3 : R.inv s2 H3 := R.stay _ _ _ i2 fun b o _ z => e3 b o z
    have er3 := er2.ext (Ext.of_same e3) i3
    obtain ⟨z, s3, h3, ev⟩ := bnd_some ev
    simp only [Option.map_eq_some_iff] at ev
    obtain ⟨d', h4, e⟩ := ev
    cases e
    refine ⟨true, rfl, ?_⟩
    rw [if_pos rfl]
    refine ⟨A, env, s2, z, _, er3, h3, fun w4 H4 e4 i4 p4 => ?_⟩
    have er4 := er3.ext e4 i4
    refine ⟨A, y, z, .bl d', er.fa, er4.ad, (p2.same e3).extR i3 e4 er.fa, p4, by simp only [copV, h4, Option.map_some], fun w H5 e5 r5 f5 => ?_⟩
    simp only [Rep] at r5
    subst r5
    exact q _ _ rfl ((((e1.trans e2).trans (Ext.of_same e3)).trans e4).trans (Ext.of_same e5)) (R.stay _ _ _ i4 fun b o _ z => e5 b o z)
  · rename_i hk
    cases ev
    refine ⟨A, x, y, .bl false, er.fa, er2.ad, p1.extR i1 e2 er.fa, p2, by simp only [copV, hk, Option.map_some], fun w H3 e3 r3 f3 => ?_⟩
    simp only [Rep] at r3
    subst r3
    refine ⟨false, rfl, ?_⟩
    rw [if_neg Bool.false_ne_true]
    exact q _ _ rfl ((e1.trans e2).trans (Ext.of_same e3)) (R.stay _ _ _ i2 fun b o _ z => e3 b o z)
  · cases ev
theorem chain_bl {op op' : COp} {a b c : CE} {env : Env} {s : R.S} {d : Val} {s' : R.S} (ev : evE F (.chain op op' a b c) env s = some (d, s')) : ∃ v, d = .bl v := by
  simp only [evE] at ev
  obtain ⟨x, s1, h1, ev⟩ := bnd_some ev
  obtain ⟨y, s2, h2, ev⟩ := bnd_some ev
  split at ev
  · obtain ⟨z, s3, h3, ev⟩ := bnd_some ev
    simp only [Option.map_eq_some_iff] at ev
    obtain ⟨d', h4, e⟩ := ev
    cases e
    exact ⟨_, rfl⟩
  · cases ev
    exact ⟨_, rfl⟩
  · cases ev
theorem st_chain {op op' : COp} {a b c : CE} (ha : St R F N T a) (hb : St R F N T b) (hcc : St R F N T c) : St R F N T (.chain op op' a b c) := fun X e ow g hc => by
  cases e <;> simp only [chkE] at hc <;> try (cases hc; done)
  rename_i l os rs pos
  match os, rs, hc with
  | [o, o'], [r, r'], hc =>
    simp only [Bool.and_eq_true, decide_eq_true_eq] at hc
    obtain ⟨⟨⟨⟨rfl, rfl⟩, c1⟩, c2⟩, c3⟩ := hc
    refine ⟨fun hv => ?_, fun hp _ => ?_⟩
    · simp only [okV, Bool.and_eq_true] at hv
      refine (pe_chain (op_cmpA (tok := R.tok) (F := R.foot) g.hu op) (op_cmpA (tok := R.tok) (F := R.foot) g.hu op') (ha.pk g c1 hv.1.1) (hb.pk g c2 hv.1.2) (hcc.pk g c3 hv.2) (marks_of c3 _ _)).weak fun σ H Q => ?_
      rintro ⟨A, env, s, d, s', er, ev, q⟩
      refine chain_go er ev fun v H' e0 e1 i1 => ?_
      subst e0
      exact q _ H' e1 i1 rep_bl fun _ => fresh_bl
    · simp only [isVar, Bool.false_or, okV, Bool.and_eq_true] at hp
      refine (pt_chain (op_cmpA (tok := R.tok) (F := R.foot) g.hu op) (op_cmpA (tok := R.tok) (F := R.foot) g.hu op') (ha.pk g c1 hp.1.1) (hb.pk g c2 hp.1.2) (hcc.pk g c3 hp.2) (marks_of c3 _ _)).weak fun σ H Q => ?_
      rintro ⟨A, env, s, d, s', b', er, ev, tr, q⟩
      refine chain_go er ev fun v H' e0 e1 i1 => ?_
      subst e0
      cases tr
      exact ⟨_, rfl, q H' e1 i1⟩
theorem st_ife {c a b : CE} (hcc : St R F N T c) (ha : St R F N T a) (hb : St R F N T b) : St R F N T (.ife c a b) := fun X e ow g hc => by
  cases e <;> simp only [chkE] at hc <;> try (cases hc; done)
  simp only [Bool.and_eq_true, decide_eq_true_eq] at hc
  refine ⟨fun hv => ?_, fun _ h => by simp [tOk] at h⟩
  simp only [okV, Bool.and_eq_true] at hv
  refine (pe_ifExp ((hcc X _ ow g hc.1.1.2).2 hv.1.1 hc.1.1.1) ((ha X _ ow g hc.1.2).1 hv.1.2) ((hb X _ ow g hc.2).1 hv.2)).weak fun σ H Q => ?_
  rintro ⟨A, env, s, d, s', er, ev, q⟩
  simp only [evE] at ev
  obtain ⟨x, s1, h1, ev⟩ := bnd_some ev
  have fr : ∀ {H1 H' : Hp} {w : V}, Ext R H H1 → R.inv s1 H1 → FreshTop H1 d w → FreshTop H d w := fun {H1 H' w} e1 i1 f l a e4 e5 => by
    have z := f l a e4 e5
    cases hq : H a with
    | none => rfl
    | some o =>
      by_cases hf : R.foot a
      · obtain ⟨xs, z'⟩ := R.lists _ _ i1 a hf
        rw [z] at z'
        cases z'
      · have := e1 a o hq hf
        rw [z] at this
        cases this
  split at ev
  · rename_i hk
    refine ⟨A, env, s, x, s1, true, er, h1, hk, fun H1 e1 i1 => ?_⟩
    refine iteT ?_
    refine ⟨A, env, s1, d, s', er.ext e1 i1, ev, fun w H' e2 i2 r2 f2 => q w H' (e1.trans e2) i2 r2 fun z => ?_⟩
    simp only [fresh, Bool.and_eq_true] at z
    exact fr (H' := H') e1 i1 (f2 z.1)
  · rename_i hk
    refine ⟨A, env, s, x, s1, false, er, h1, hk, fun H1 e1 i1 => ?_⟩
    refine iteF ?_
    refine ⟨A, env, s1, d, s', er.ext e1 i1, ev, fun w H' e2 i2 r2 f2 => q w H' (e1.trans e2) i2 r2 fun z => ?_⟩
    simp only [fresh, Bool.and_eq_true] at z
    exact fr (H' := H') e1 i1 (f2 z.2)
  · cases ev
end
end Itp

namespace Itp
open PySem PySem.Spec PyProof.Rows L2

section
variable {R : Res} {F : List (FS R.S)} {N : List Str} {T : Tb}

/-- a list that is new later is new now -/
theorem fresh_back {R : Res} {H H1 : Hp} {s1 : R.S} (i1 : R.inv s1 H1) (e1 : Ext R H H1) {a : Addr} (z : H1 a = none) : H a = none := by
  cases hq : H a with
  | none => rfl
  | some o =>
    by_cases hf : R.foot a
    · obtain ⟨xs, z'⟩ := R.lists _ _ i1 a hf
      rw [z] at z'
      cases z'
    · have := e1 a o hq hf
      rw [z] at this
      cases this
theorem ERel.add {K : PySem.W.Frag} {A : Addr → Prop} {ow : List Bool} {env : Env} {s s' : R.S} {σ : L2.St} {H H1 : Hp} {P : Addr → Prop} (r : ERel R K A ow env s σ H) (e : Ext R H H1) (hi : R.inv s' H1) (hP : ∀ a, P a → H a = none ∧ ∃ xs, H1 a = some (.lst xs)) :
    ERel R K (fun a => A a ∨ P a) ow env s' σ H1 := by
  have mvs : ∀ {d : List Val} {w : List V}, Reps R.tok K A H d w → Reps R.tok K (fun a => A a ∨ P a) H1 d w := fun {d w} h =>
    Reps.ext (fun a vs n q => ⟨fun z => z.elim n (fun e => by rw [(hP a e).1] at q; cases q), e _ _ q fun z => n (r.fa _ z)⟩) (fun a vs q => e _ _ q (R.notfoot r.inv q fun _ z => by cases z)) d h
  have mv : ∀ {d : Val} {w : V}, Rep R.tok K A H d w → Rep R.tok K (fun a => A a ∨ P a) H1 d w := fun {d w} h =>
    Rep.ext (fun a vs n q => ⟨fun z => z.elim n (fun e => by rw [(hP a e).1] at q; cases q), e _ _ q fun z => n (r.fa _ z)⟩) (fun a vs q => e _ _ q (R.notfoot r.inv q fun _ z => by cases z)) d h
  refine ⟨hi, r.len, fun a z => .inl (r.fa a z), fun a z => ?_, fun i d h => ?_⟩
  · rcases z with z | z
    · exact (r.ext e hi).al a z
    · exact (hP a z).2
  · obtain ⟨w, h1, h2, h3⟩ := r.slots i d h
    refine ⟨w, h1, ?_, fun z => mv (h3 z)⟩
    rcases h2 with h2 | ⟨ds, a, vs, e1, e2, e3, e4, e5⟩
    · exact .inl (mv h2)
    · exact .inr ⟨ds, a, vs, e1, e2, e _ _ e3 e4, e4, mvs e5⟩
theorem RepsF.back {K : PySem.W.Frag} {s1 : R.S} {H H1 H' : Hp} (i1 : R.inv s1 H1) (e1 : Ext R H H1) : ∀ {U : Addr → Prop} {ces : CEs} {ds : List Val} {ws : List V}, RepsF F K H1 H' U ces ds ws → RepsF F K H H' U ces ds ws
  | _, .nil, _, _, h => h
  | U, .cons e es, _, _, h => by
    obtain ⟨d, ds', w, ws', rfl, rfl, h1, h2, h3⟩ := h
    exact ⟨d, ds', w, ws', rfl, rfl, h1, fun z l a z1 z2 => fresh_back i1 e1 (h2 z l a z1 z2), RepsF.back i1 e1 h3⟩
def StEs (R : Res) (F : List (FS R.S)) (N : List Str) (T : Tb) (ces : CEs) : Prop := ∀ (X : Cx) (es : List Expr) (ow : List Bool), Good R F N T X → chkEs N T ces X.env.scope es = true →
  (okVs (kds F) ces ow = true → PA X es (rdEs F X.K ow ces)) ∧ (okPs (kds F) ces ow = true → PA X es (rdPs F X.K ow ces)) ∧
  (∀ isAnd pos, es ≠ [] → okVs (kds F) ces ow = true → PE X (.BoolOp (if isAnd = true then .And else .Or) es pos) (rdBv F X.K ow isAnd ces)) ∧
  (∀ isAnd pos, es ≠ [] → okVs (kds F) ces ow = true → tOks ces = true → PW X (.BoolOp (if isAnd = true then .And else .Or) es pos) (rdB F X.K ow isAnd ces)) ∧
  (okPs (kds F) ces ow = true → ∀ x v, PE X x (tC v) → (∀ es env, starEach (x :: es) env = (false, eval x env) :: starEach es env) → PA X (es ++ [x]) (fun σ H Q => rdPs F X.K ow ces σ H fun vs H1 => Q (vs ++ [v]) H1))
theorem ste_nil : StEs R F N T .nil := fun X es ow g hc => by
  cases es with
  | cons _ _ => simp [chkEs] at hc
  | nil =>
    refine ⟨fun _ => pa_nil.weak fun σ H Q => ?_, fun _ => pa_nil.weak fun σ H Q => ?_, fun _ _ h => absurd rfl h, fun _ _ h => absurd rfl h, fun _ x v hx hs => (pa_cons hx pa_nil (hs _ _)).weak fun σ H Q => ?_⟩
    · rintro ⟨A, env, s, ds, s', er, ev, q⟩
      cases ev
      exact q _ H (Ext.refl H) er.inv ⟨rfl, rfl⟩
    · rintro ⟨A, env, s, ds, s', er, ev, q⟩
      cases ev
      exact q _ H (Ext.refl H) er.inv rfl
    · rintro ⟨A, env, s, ds, s', er, ev, q⟩
      cases ev
      exact q [] H (Ext.refl H) er.inv rfl
theorem bool_one {c : CE} {isAnd : Bool} {env : Env} {s : R.S} : evB F isAnd (.cons c .nil) env s = evE F c env s := by simp only [evB]
theorem es_step {c : CE} {cs : CEs} {K : PySem.W.Frag} {ow : List Bool} {σ : L2.St} {H : Hp} {Q : List V → Hp → Prop} (h : rdEs F K ow (.cons c cs) σ H Q) : tCons (rdE F K ow c) (rdEs F K ow cs) σ H Q := by
  obtain ⟨A, env, s, ds, s', er, ev, q⟩ := h
  simp only [evEs] at ev
  obtain ⟨v, s1, e1, ev⟩ := bnd_some ev
  obtain ⟨vs, s2, e2, ev⟩ := bnd_some ev
  cases ev
  refine ⟨A, env, s, v, s1, er, e1, fun w H1 x1 j1 r1 f1 => ?_⟩
  refine ⟨fun a => A a ∨ (fresh (kds F) c = true ∧ v.isLst = true ∧ w = .ref a), env, s1, vs, _, er.add x1 j1 (fun a z => ?_), e2, fun ws H2 x2 j2 r2 => ?_⟩
  · obtain ⟨z1, z2, rfl⟩ := z
    cases v with
    | lst l =>
      refine ⟨f1 z1 l a rfl rfl, ?_⟩
      simp only [Rep] at r1
      obtain ⟨a', vs', e', e'', _⟩ := r1
      cases e'
      exact ⟨vs', e''⟩
    | _ => simp [Val.isLst] at z2
  · refine q (w :: ws) H2 (x1.trans x2) j2 ⟨v, vs, w, ws, rfl, rfl, ?_, f1, r2.back j1 x1⟩
    refine Rep.ext (fun a us n q => ⟨fun z => z.elim n fun z => ?_, x2 _ _ q fun z => n (er.fa _ z)⟩) (fun a us q => x2 _ _ q (R.notfoot j1 q fun _ z => by cases z)) v r1
    have z' := RepsF.none F K r2 z
    rw [q] at z'
    cases z'
theorem ste_cons {c : CE} {cs : CEs} (h1 : St R F N T c) (h2 : StEs R F N T cs) : StEs R F N T (.cons c cs) := fun X es ow g hc => by
  cases es with
  | nil => simp [chkEs] at hc
  | cons e es =>
    have hc' : chkE N T c X.env.scope e = true ∧ chkEs N T cs X.env.scope es = true := by simpa [chkEs] using hc
    obtain ⟨i1, i2, i3, i4, i5⟩ := h2 X es ow g hc'.2
    refine ⟨fun hv => ?_, fun hp => ?_, fun isAnd pos _ hv => ?_, fun isAnd pos _ hv tk => ?_, fun hp x v hx hs => ?_⟩
    · simp only [okVs, Bool.and_eq_true] at hv
      refine (pa_cons ((h1 X e ow g hc'.1).1 hv.1) (i1 hv.2) (star_of hc'.1 es X.env)).weak fun σ H Q => ?_
      rintro ⟨A, env, s, ds, s', er, ev, q⟩
      simp only [evEs] at ev
      obtain ⟨v, s1, e1, ev⟩ := bnd_some ev
      obtain ⟨vs, s2, e2, ev⟩ := bnd_some ev
      cases ev
      refine ⟨A, env, s, v, s1, er, e1, fun w H1 x1 j1 r1 f1 => ?_⟩
      refine ⟨fun a => A a ∨ (fresh (kds F) c = true ∧ v.isLst = true ∧ w = .ref a), env, s1, vs, _, er.add x1 j1 (fun a z => ?_), e2, fun ws H2 x2 j2 r2 => ?_⟩
      · obtain ⟨z1, z2, rfl⟩ := z
        cases v with
        | lst l =>
          refine ⟨f1 z1 l a rfl rfl, ?_⟩
          simp only [Rep] at r1
          obtain ⟨a', vs', e', e'', _⟩ := r1
          cases e'
          exact ⟨vs', e''⟩
        | _ => simp [Val.isLst] at z2
      · refine q (w :: ws) H2 (x1.trans x2) j2 ⟨v, vs, w, ws, rfl, rfl, ?_, f1, r2.back j1 x1⟩
        refine Rep.ext (fun a us n q => ⟨fun z => z.elim n fun z => ?_, x2 _ _ q fun z => n (er.fa _ z)⟩) (fun a us q => x2 _ _ q (R.notfoot j1 q fun _ z => by cases z)) v r1
        have z' := RepsF.none F X.K r2 z
        rw [q] at z'
        cases z'
    · simp only [okPs, Bool.and_eq_true] at hp
      refine (pa_cons (h1.pk g hc'.1 hp.1) (i2 hp.2) (star_of hc'.1 es X.env)).weak fun σ H Q => ?_
      rintro ⟨A, env, s, ds, s', er, ev, q⟩
      simp only [evEs] at ev
      obtain ⟨v, s1, e1, ev⟩ := bnd_some ev
      obtain ⟨vs, s2, e2, ev⟩ := bnd_some ev
      cases ev
      exact ⟨A, env, s, v, s1, er, e1, fun w H1 x1 j1 r1 => ⟨A, env, s1, vs, _, er.ext x1 j1, e2, fun ws H2 x2 j2 r2 => q (w :: ws) H2 (x1.trans x2) j2 ⟨w, ws, rfl, r1.extR j1 x2 er.fa, r2⟩⟩⟩
    · simp only [okVs, Bool.and_eq_true] at hv
      have p1 := (h1 X e ow g hc'.1).1 hv.1
      cases es with
      | nil =>
        cases cs with
        | cons _ _ => simp [chkEs] at hc'
        | nil =>
          refine (pe_one p1).weak fun σ H Q => ?_
          rintro ⟨A, env, s, d, s', er, ev, q⟩
          rw [bool_one] at ev
          exact ⟨A, env, s, d, s', er, ev, fun w H' z1 z2 z3 z4 => q w H' z1 z2 z3 fun z => z4 (by simpa [freshs] using z)⟩
      | cons e2 es =>
        cases cs with
        | nil => simp [chkEs] at hc'
        | cons c2 cs =>
          have p2 := i3 isAnd pos (by simp) hv.2
          have go : ∀ {σ : L2.St} {H : Hp} {Q : VK}, rdBv F X.K ow isAnd (.cons c (.cons c2 cs)) σ H Q → rdE F X.K ow c σ H fun x H1 => ∃ b, x = .bl b ∧ if b = isAnd then rdBv F X.K ow isAnd (.cons c2 cs) σ H1 Q else Q (.bl b) H1 := by
            rintro σ H Q ⟨A, env, s, d, s', er, ev, q⟩
            simp only [evB] at ev
            obtain ⟨v, s1, e1, ev⟩ := bnd_some ev
            refine ⟨A, env, s, v, s1, er, e1, fun w H1 x1 j1 r1 f1 => ?_⟩
            split at ev
            · rename_i b
              simp only [Rep] at r1
              refine ⟨b, r1, ?_⟩
              split at ev
              · rename_i hb
                rw [if_pos hb]
                refine ⟨A, env, s1, d, s', er.ext x1 j1, ev, fun w' H' z1 z2 z3 z4 => q w' H' (x1.trans z1) z2 z3 fun z l a y1 y2 => ?_⟩
                have zz : freshs (kds F) (.cons c2 cs) = true := by
                  simp only [freshs, Bool.and_eq_true] at z ⊢
                  exact z.2
                exact fresh_back j1 x1 (z4 zz l a y1 y2)
              · rename_i hb
                rw [if_neg hb]
                cases ev
                exact q _ H1 x1 j1 rep_bl fun _ => fresh_bl
            · cases ev
          cases isAnd with
          | true =>
            refine (pe_and p1 p2).weak fun σ H Q h => ?_
            obtain ⟨A, env, s, d, s', er, ev, q⟩ := go h
            refine ⟨A, env, s, d, s', er, ev, fun w H1 x1 j1 r1 f1 => ?_⟩
            obtain ⟨b, e1, z⟩ := q w H1 x1 j1 r1 f1
            refine ⟨b, e1, ?_⟩
            cases b with
            | true => exact z
            | false => exact z
          | false =>
            refine (pe_or p1 p2).weak fun σ H Q h => ?_
            obtain ⟨A, env, s, d, s', er, ev, q⟩ := go h
            refine ⟨A, env, s, d, s', er, ev, fun w H1 x1 j1 r1 f1 => ?_⟩
            obtain ⟨b, e1, z⟩ := q w H1 x1 j1 r1 f1
            refine ⟨b, e1, ?_⟩
            cases b with
            | true => exact z
            | false => exact z
    · simp only [okVs, Bool.and_eq_true] at hv
      simp only [tOks, Bool.and_eq_true] at tk
      have p1 := (h1 X e ow g hc'.1).2 (by rw [hv.1]; simp) tk.1
      cases es with
      | nil =>
        cases cs with
        | cons _ _ => simp [chkEs] at hc'
        | nil =>
          cases isAnd with
          | true =>
            refine (pw_and1 p1).weak fun σ H Q => ?_
            rintro ⟨A, env, s, d, s', b, er, ev, q⟩
            rw [bool_one] at ev
            exact ⟨A, env, s, d, s', b, er, ev, q⟩
          | false =>
            refine (pw_or1 p1).weak fun σ H Q => ?_
            rintro ⟨A, env, s, d, s', b, er, ev, q⟩
            rw [bool_one] at ev
            exact ⟨A, env, s, d, s', b, er, ev, q⟩
      | cons e2 es =>
        cases cs with
        | nil => simp [chkEs] at hc'
        | cons c2 cs =>
          have p2 := i4 isAnd pos (by simp) hv.2 tk.2
          have go : ∀ {σ : L2.St} {H : Hp} {Q : Bool → Hp → Prop}, rdB F X.K ow isAnd (.cons c (.cons c2 cs)) σ H Q → rdT F X.K ow c σ H fun b H1 => if b = isAnd then rdB F X.K ow isAnd (.cons c2 cs) σ H1 Q else Q b H1 := by
            rintro σ H Q ⟨A, env, s, d, s', b', er, ev, tr, q⟩
            simp only [evB] at ev
            obtain ⟨v, s1, e1, ev⟩ := bnd_some ev
            split at ev
            · rename_i b
              refine ⟨A, env, s, .bl b, s1, b, er, e1, rfl, fun H1 x1 j1 => ?_⟩
              split at ev
              · rename_i hb
                rw [if_pos hb]
                exact ⟨A, env, s1, d, s', b', er.ext x1 j1, ev, tr, fun H' z1 z2 => q H' (x1.trans z1) z2⟩
              · rename_i hb
                rw [if_neg hb]
                cases ev
                cases tr
                exact q H1 x1 j1
            · cases ev
          cases isAnd with
          | true =>
            refine (pw_and p1 p2).weak fun σ H Q h => ?_
            obtain ⟨A, env, s, d, s', b, er, ev, tr, q⟩ := go h
            refine ⟨A, env, s, d, s', b, er, ev, tr, fun H1 x1 j1 => ?_⟩
            have z := q H1 x1 j1
            cases b with
            | true => exact z
            | false => exact z
          | false =>
            refine (pw_or p1 p2).weak fun σ H Q h => ?_
            obtain ⟨A, env, s, d, s', b, er, ev, tr, q⟩ := go h
            refine ⟨A, env, s, d, s', b, er, ev, tr, fun H1 x1 j1 => ?_⟩
            have z := q H1 x1 j1
            cases b with
            | true => exact z
            | false => exact z
    · simp only [okPs, Bool.and_eq_true] at hp
      refine (pa_cons (h1.pk g hc'.1 hp.1) (i5 hp.2 x v hx hs) (star_of hc'.1 (es ++ [x]) X.env)).weak fun σ H Q => ?_
      rintro ⟨A, env, s, ds, s', er, ev, q⟩
      simp only [evEs] at ev
      obtain ⟨v', s1, e1, ev⟩ := bnd_some ev
      obtain ⟨vs, s2, e2, ev⟩ := bnd_some ev
      cases ev
      exact ⟨A, env, s, v', s1, er, e1, fun w H1 x1 j1 r1 => ⟨A, env, s1, vs, _, er.ext x1 j1, e2, fun ws H2 x2 j2 r2 => q (w :: ws) H2 (x1.trans x2) j2 ⟨w, ws, rfl, r1.extR j1 x2 er.fa, r2⟩⟩⟩
theorem st_bool {isAnd : Bool} {es : CEs} (h : StEs R F N T es) : St R F N T (.bool isAnd es) := fun X e ow g hc => by
  cases e <;> simp only [chkE] at hc <;> try (cases hc; done)
  rename_i o vs pos
  simp only [Bool.and_eq_true, decide_eq_true_eq] at hc
  obtain ⟨⟨rfl, tk⟩, c1⟩ := hc
  obtain ⟨_, _, i3, i4, _⟩ := h X vs ow g c1
  by_cases hn : vs = []
  · subst hn
    have hes : es = .nil := by
      cases es with
      | nil => rfl
      | cons _ _ => simp [chkEs] at c1
    subst hes
    refine ⟨fun _ => ⟨fun pins s σ H Q I h => ?_⟩, fun _ _ => ⟨fun pins s σ H Q I h => ?_⟩⟩
    · obtain ⟨A, env, s, d, s', er, ev, q⟩ := h
      simp [evE, evB] at ev
    · obtain ⟨A, env, s, d, s', b, er, ev, tr, q⟩ := h
      simp [evE, evB] at ev
  · refine ⟨fun hv => (i3 isAnd pos hn (by simpa [okV] using hv)).weak fun σ H Q => ?_, fun hp _ => (i4 isAnd pos hn (by simpa [okV, isVar] using hp) tk).pt.weak fun σ H Q => ?_⟩
    · rintro ⟨A, env, s, d, s', er, ev, q⟩
      simp only [evE] at ev
      exact ⟨A, env, s, d, s', er, ev, fun w H' z1 z2 z3 z4 => q w H' z1 z2 z3 fun z => z4 (by simpa [fresh] using z)⟩
    · rintro ⟨A, env, s, d, s', b, er, ev, tr, q⟩
      simp only [evE] at ev
      exact ⟨A, env, s, d, s', b, er, ev, tr, q⟩
theorem st_tup {es : CEs} (h : StEs R F N T es) : St R F N T (.tup es) := St.gen (fun X e hc => by
    cases e <;> simp only [chkE] at hc <;> first | (cases hc; done) | (intro _; rfl)) fun X e ow g hc hv => by
  cases e <;> simp only [chkE] at hc <;> try (cases hc; done)
  simp only [okV] at hv
  refine (pe_tup ((h X _ ow g hc).1 hv)).weak fun σ H Q => ?_
  rintro ⟨A, env, s, d, s', er, ev, q⟩
  simp only [evE] at ev
  obtain ⟨vs, s1, e1, ev⟩ := bnd_some ev
  split at ev
  · rename_i hl
    cases ev
    refine ⟨A, env, s, vs, _, er, e1, fun ws H1 x1 j1 r1 => ?_⟩
    have r1 := RepsF.reps F X.K r1
    refine ⟨?_, fun p hp => ?_⟩
    · rw [r1.len]
      exact lenOk_iff hl
    · exact q _ _ (x1.trans (Ext.of_same (same_new hp))) (R.stay _ _ _ j1 fun b o _ z => same_new hp b o z) (rep_newT hp r1) fun _ => fresh_tup
  · cases ev
theorem st_lst {es : CEs} (h : StEs R F N T es) : St R F N T (.lst es) := St.gen (fun X e hc => by
    cases e <;> simp only [chkE] at hc <;> first | (cases hc; done) | (intro _; rfl)) fun X e ow g hc hv => by
  cases e <;> simp only [chkE] at hc <;> try (cases hc; done)
  simp only [okV] at hv
  refine (pe_lst ((h X _ ow g hc).1 hv)).weak fun σ H Q => ?_
  rintro ⟨A, env, s, d, s', er, ev, q⟩
  simp only [evE] at ev
  obtain ⟨vs, s1, e1, ev⟩ := bnd_some ev
  split at ev
  · rename_i hl
    cases ev
    refine ⟨A, env, s, vs, _, er, e1, fun ws H1 x1 j1 r1 => ?_⟩
    have r1 := RepsF.reps F X.K r1
    refine ⟨?_, fun p hp => ?_⟩
    · rw [r1.len]
      exact lenOk_iff hl
    · exact q _ _ (x1.trans (Ext.of_same (same_new hp))) (R.stay _ _ _ j1 fun b o _ z => same_new hp b o z) (rep_newL hp (fun z => (er.ext x1 j1).ad _ z hp) r1) fun _ l a _ z => by
        cases z
        exact fresh_back j1 x1 hp
  · cases ev
theorem st_ix {a b : CE} (ha : St R F N T a) (hb : St R F N T b) : St R F N T (.ix a b) := St.gen (fun X e hc => by
    cases e <;> simp only [chkE] at hc <;> first | (cases hc; done) | (intro _; rfl)) fun X e ow g hc hv => by
  cases e <;> simp only [chkE] at hc <;> try (cases hc; done)
  simp only [Bool.and_eq_true] at hc
  simp only [okV, Bool.and_eq_true] at hv
  refine (pe_ix (ix_A (tok := R.tok) (F := R.foot)) (ha.pk g hc.1 hv.1) (hb.pk g hc.2 hv.2) (plain_of hc.2)).weak fun σ H Q => ?_
  rintro ⟨A, env, s, d, s', er, ev, q⟩
  simp only [evE] at ev
  obtain ⟨x, s1, h1, ev⟩ := bnd_some ev
  obtain ⟨y, s2, h2, ev⟩ := bnd_some ev
  simp only [Option.map_eq_some_iff] at ev
  obtain ⟨d', h3, e⟩ := ev
  cases e
  refine ⟨A, env, s, x, s1, er, h1, fun w1 H1 e1 i1 p1 => ?_⟩
  have er1 := er.ext e1 i1
  refine ⟨A, env, s1, y, _, er1, h2, fun w2 H2 e2 i2 p2 => ?_⟩
  have er2 := er1.ext e2 i2
  exact ⟨A, x, y, d, er.fa, er2.ad, p1.extR i1 e2 er.fa, p2, h3, fun w r3 => q w H2 (e1.trans e2) i2 r3 fun z => by simp [fresh] at z⟩
theorem st_rev {a : CE} (ha : St R F N T a) : St R F N T (.rev a) := St.gen (fun X e hc => by
    cases e <;> simp only [chkE] at hc <;> first | (cases hc; done) | (intro _; rfl)) fun X e ow g hc hv => by
  unfold chkE at hc
  split at hc
  · simp only [Bool.and_eq_true, decide_eq_true_eq] at hc
    obtain ⟨rfl, c1⟩ := hc
    simp only [okV] at hv
    refine (pe_revL (ha.pk g c1 hv)).weak fun σ H Q => ?_
    rintro ⟨A, env, s, d, s', er, ev, q⟩
    simp only [evE] at ev
    obtain ⟨x, s1, h1, ev⟩ := bnd_some ev
    simp only [Option.map_eq_some_iff] at ev
    obtain ⟨d', h3, e⟩ := ev
    cases e
    refine ⟨A, env, s, x, _, er, h1, fun w1 H1 e1 i1 p1 => ?_⟩
    cases x <;> simp only [revV] at h3 <;> try (cases h3; done)
    cases h3
    obtain ⟨a', vs, rfl, hs, na, hr⟩ := p1.lst er.fa
    refine ⟨a', vs, rfl, SqL.of hs, fun p hp => ?_⟩
    exact q _ _ (e1.trans (Ext.of_same (same_new hp))) (R.stay _ _ _ i1 fun b o _ z => same_new hp b o z) (rep_newL hp (fun z => (er.ext e1 i1).ad _ z hp) hr.rev) fun _ l a _ z => by
      cases z
      exact fresh_back i1 e1 hp
  · cases hc
end
end Itp

namespace Itp
open PySem PySem.Spec PyProof.Rows L2

section
variable {R : Res} {F : List (FS R.S)} {N : List Str} {T : Tb}
/-! slices -/
def StO (R : Res) (F : List (FS R.S)) (N : List Str) (T : Tb) (c : CEo) : Prop := ∀ (X : Cx) (e : Option Expr) (ow : List Bool), Good R F N T X → chkO N T c X.env.scope e = true → okO (kds F) c ow = true → PO X e (rdO F X.K ow c)
theorem sto_none : StO R F N T .none := fun X e ow g hc hv => by
  cases e with
  | some _ => simp [chkO] at hc
  | none =>
    refine po_none.weak fun σ H Q => ?_
    rintro ⟨A, env, s, d, s', er, ev, q⟩
    simp only [evO] at ev
    cases ev
    exact q H (Ext.refl H) er.inv
theorem sto_some {c : CE} (h : St R F N T c) : StO R F N T (.some c) := fun X e ow g hc hv => by
  cases e with
  | none => simp [chkO] at hc
  | some e =>
    simp only [chkO] at hc
    simp only [okO] at hv
    refine (po_some (h.pk g hc hv)).weak fun σ H Q => ?_
    rintro ⟨A, env, s, d, s', er, ev, q⟩
    simp only [evO] at ev
    obtain ⟨x, s1, h1, ev⟩ := bnd_some ev
    refine ⟨A, env, s, x, s1, er, h1, fun w1 H1 e1 i1 p1 => ?_⟩
    split at ev
    · cases ev
      exact ⟨_, p1.int, q H1 e1 i1⟩
    · cases ev
theorem st_sl {a : CE} {lo hi : CEo} (ha : St R F N T a) (hl : StO R F N T lo) (hh : StO R F N T hi) : St R F N T (.sl a lo hi) := St.gen (fun X e hc => by
    cases e <;> simp only [chkE] at hc <;> first | (cases hc; done) | (intro _; rfl)) fun X e ow g hc hv => by
  unfold chkE at hc
  split at hc
  · simp only [Bool.and_eq_true, decide_eq_true_eq] at hc
    simp only [okV, Bool.and_eq_true] at hv
    refine (pe_slice (sl_A (tok := R.tok) (F := R.foot)) (ha.pk g hc.1.1 hv.1.1) (hl X _ ow g hc.1.2 hv.1.2) (hh X _ ow g hc.2 hv.2)).weak fun σ H Q => ?_
    rintro ⟨A, env, s, d, s', er, ev, q⟩
    simp only [evE] at ev
    obtain ⟨x, s1, h1, ev⟩ := bnd_some ev
    obtain ⟨l, s2, h2, ev⟩ := bnd_some ev
    obtain ⟨u, s3, h3, ev⟩ := bnd_some ev
    simp only [Option.map_eq_some_iff] at ev
    obtain ⟨d', h4, e⟩ := ev
    cases e
    refine ⟨A, env, s, x, s1, er, h1, fun w1 H1 e1 i1 p1 => ?_⟩
    have er1 := er.ext e1 i1
    refine ⟨A, env, s1, l, s2, er1, h2, fun H2 e2 i2 => ?_⟩
    have er2 := er1.ext e2 i2
    refine ⟨A, env, s2, u, _, er2, h3, fun H3 e3 i3 => ?_⟩
    have er3 := er2.ext e3 i3
    refine ⟨A, x, d, er.fa, er3.ad, (p1.extR i1 e2 er.fa).extR i2 e3 er.fa, h4, fun w H' e4 r4 f4 => ?_⟩
    have e13 := (e1.trans e2).trans e3
    exact q w H' (e13.trans (Ext.of_same e4)) (R.stay _ _ _ i3 fun b o _ z => e4 b o z) r4 fun _ l' a' z1 z2 => fresh_back i3 e13 (f4 l' a' z1 z2)
  · cases hc

/-! calls -/
theorem kd_at {f : Nat} {fs : FS R.S} (h : F[f]? = some fs) : (kds F)[f]? = some fs.kind := by
  simp [kds, h]
theorem st_call {f : Nat} {es : CEs} (h : StEs R F N T es) : St R F N T (.call f es) := St.gen (fun X e hc => by
    cases e <;> simp only [chkE] at hc <;> first | (cases hc; done) | (intro _; rfl)) fun X e ow g hc hv => by
  cases e <;> simp only [chkE] at hc <;> try (cases hc; done)
  rename_i fn xs ks pos
  split at hc
  · rename_i x p
    simp only [Bool.and_eq_true, decide_eq_true_eq, okName, Bool.not_eq_true'] at hc
    obtain ⟨⟨⟨⟨c1, c2⟩, c3⟩, c4⟩, c5⟩ := hc
    cases xs with
    | nil => cases c5
    | cons e0 es0 =>
      -- is there such a def?
      cases hf : F[f]? with
      | none =>
        refine ⟨fun pins s σ H Q I hq => ?_⟩
        obtain ⟨A, env, s, d, s', er, ev, q⟩ := hq
        simp only [evE, hf] at ev
        cases ev
      | some fs =>
        have gf := g.fn f fs x hf c1
        obtain ⟨n, fa, fd, ps, k, ok, room, mg, kp, b, ar, _⟩ := gf.ok
        have st0 : chkE N T (match es with | .cons c _ => c | .nil => .non) X.env.scope e0 = true := by
          cases es with
          | nil => simp [chkEs] at c4
          | cons c cs =>
            simp only [chkEs, Bool.and_eq_true] at c4
            exact c4.1
        have ns := nostars c4 X.env pos
        have ns' : (backTo pos (starEach es0 X.env)).any (·.1) = false := by
          rw [star_of st0] at ns
          have z : (false || (backTo pos (starEach es0 X.env)).any (·.1)) = false := ns
          simpa using z
        by_cases hk : fs.kind = .pure
        · have hv' : okPs (kds F) es ow = true := by
            simp only [okV, kd_at hf, hk, if_true] at hv
            exact hv
          refine (pe_call ok room (show Gl X x from glB_of c2) mg kp b .nil pass0 ((h X _ ow g c4).2.1 hv') c3.1 (star_of st0 es0 X.env) ns').weak fun σ H Q => ?_
          rintro ⟨A, env, s, d, s', er, ev, q⟩
          simp only [evE, hf] at ev
          obtain ⟨ds, s1, h1, ev⟩ := bnd_some ev
          refine ⟨A, env, s, ds, s1, er, h1, fun ws H1 e1 i1 r1 => ?_⟩
          show spI R X.K n fs (ws ++ []) H1 Q E0
          rw [List.append_nil]
          refine ⟨R.foot, ds, s1, d, s', fun _ z => z, fun a z => R.lists _ _ i1 a z, r1.foot er.fa, i1, ev, ar _ _ _ ev, fun w H' e2 i2 r2 _ => ?_⟩
          have nl := gf.pure hk _ _ _ _ ev
          refine q w H' (e1.trans e2) i2 (r2.noLst _ nl) fun _ l a z => ?_
          subst z
          simp [Val.noLst] at nl
        · have hv' : okVs (kds F) es ow = true := by
            simp only [okV, kd_at hf, Option.some.injEq, hk, if_false] at hv
            exact hv
          refine (pe_call ok room (show Gl X x from glB_of c2) mg kp b .nil pass0 ((h X _ ow g c4).1 hv') c3.1 (star_of st0 es0 X.env) ns').weak fun σ H Q => ?_
          rintro ⟨A, env, s, d, s', er, ev, q⟩
          simp only [evE, hf] at ev
          obtain ⟨ds, s1, h1, ev⟩ := bnd_some ev
          refine ⟨A, env, s, ds, s1, er, h1, fun ws H1 e1 i1 r1 => ?_⟩
          have r1 := RepsF.reps F X.K r1
          show spI R X.K n fs (ws ++ []) H1 Q E0
          rw [List.append_nil]
          have er1 := er.ext e1 i1
          refine ⟨A, ds, s1, d, s', er.fa, er1.al, r1, i1, ev, ar _ _ _ ev, fun w H' e2 i2 r2 f2 => q w H' (e1.trans e2) i2 r2 fun z l a z1 z2 => ?_⟩
          have hfr : fs.kind = .fresh := by
            simp only [fresh, kd_at hf] at z
            cases hkk : fs.kind with
            | pure => exact absurd hkk hk
            | fresh => rfl
            | any => rw [hkk] at z; simp at z
          exact fresh_back i1 e1 (f2 hfr l a z1 z2)
  · cases hc

/-! calls with keywords alone -/
theorem reps_get {K : PySem.W.Frag} {tok : V} {A : Addr → Prop} {H : Hp} : ∀ {ds : List Val} {vs : List V} {i : Nat} {d : Val}, Reps tok K A H ds vs → ds[i]? = some d → ∃ w, vs[i]? = some w ∧ Rep tok K A H d w
  | [], _, i, d, _, h => by simp at h
  | x :: ds, vs, i, d, hr, h => by
    simp only [Reps] at hr
    obtain ⟨v, r, rfl, h1, h2⟩ := hr
    cases i with
    | zero =>
      simp at h
      subst h
      exact ⟨v, rfl, h1⟩
    | succ i =>
      simp at h
      simpa using reps_get h2 h
def StKs (R : Res) (F : List (FS R.S)) (N : List Str) (T : Tb) (ces : CEs) : Prop := ∀ (X : Cx) (kws : List Keyword) (ow : List Bool), Good R F N T X → chkEs N T ces X.env.scope (kws.map (·.value)) = true → okVs (kds F) ces ow = true → PK X kws (rdEs F X.K ow ces)
theorem _root_.L2.PK.weak {X : Cx} {e : List Keyword} {t t' : TA} (h : PK X e t) (hw : ∀ σ H Q, t' σ H Q → t σ H Q) : PK X e t' := ⟨fun pos pins s σ H Q I q => h.run pos pins s σ H Q I (hw σ H Q q)⟩
theorem stk_nil : StKs R F N T .nil := fun X kws ow g hc hv => by
  cases kws with
  | cons _ _ => simp [chkEs] at hc
  | nil =>
    refine pk_nil.weak fun σ H Q => ?_
    rintro ⟨A, env, s, ds, s', er, ev, q⟩
    cases ev
    exact q _ H (Ext.refl H) er.inv ⟨rfl, rfl⟩
theorem stk_cons {c : CE} {cs : CEs} (h1 : St R F N T c) (h2 : StKs R F N T cs) : StKs R F N T (.cons c cs) := fun X kws ow g hc hv => by
  cases kws with
  | nil => simp [chkEs] at hc
  | cons e es =>
    obtain ⟨nm, e, kp⟩ := e
    have hc' : chkE N T c X.env.scope e = true ∧ chkEs N T cs X.env.scope (es.map (·.value)) = true := by simpa [chkEs] using hc
    simp only [okVs, Bool.and_eq_true] at hv
    refine (pk_cons ((h1 X e ow g hc'.1).1 hv.1) (h2 X es ow g hc'.2 hv.2)).weak fun σ H Q h => es_step h
theorem perm_reps {tok : V} {K : PySem.W.Frag} {A : Addr → Prop} {H : Hp} {ds : List Val} {ws : List V} (hr : Reps tok K A H ds ws) : ∀ {perm : List Nat} {us : List Val}, permL ds perm = some us → Reps tok K A H us (perm.filterMap fun i => ws[i]?)
  | [], us, h => by
    simp only [permL, List.mapM_nil] at h
    cases h
    exact Reps.nil
  | i :: perm, us, h => by
    simp only [permL, List.mapM_cons, Option.bind_eq_bind, Option.bind_eq_some_iff] at h
    obtain ⟨d, h1, us', h2, h3⟩ := h
    cases h3
    obtain ⟨w, h4, h5⟩ := reps_get hr h1
    rw [List.filterMap_cons, h4]
    exact Reps.cons h5 (perm_reps hr (perm := perm) h2)
theorem perm_vals {vs : List V} {us : List Value} (r : Vals vs us) : ∀ {perm : List Nat}, (∀ i ∈ perm, i < vs.length) → Vals (perm.filterMap fun i => vs[i]?) (perm.filterMap fun i => us[i]?)
  | [], _ => .nil
  | i :: perm, h => by
    have hi : i < vs.length := h i (.head _)
    have e : vs[i]? = some vs[i] := List.getElem?_eq_getElem hi
    obtain ⟨u, e2, e3⟩ := r.get e
    rw [List.filterMap_cons, List.filterMap_cons, e, e2]
    exact .cons e3 (perm_vals r fun j hj => h j (.tail _ hj))
theorem perm_len {ds : List Val} : ∀ {perm : List Nat} {us : List Val}, permL ds perm = some us → us.length = perm.length ∧ ∀ i ∈ perm, i < ds.length
  | [], us, h => by
    simp only [permL, List.mapM_nil] at h
    cases h
    exact ⟨rfl, fun i hi => by cases hi⟩
  | i :: perm, us, h => by
    simp only [permL, List.mapM_cons, Option.bind_eq_bind, Option.bind_eq_some_iff] at h
    obtain ⟨d, h1, us', h2, h3⟩ := h
    cases h3
    obtain ⟨h4, h5⟩ := perm_len (perm := perm) h2
    refine ⟨by simp [h4], fun j hj => ?_⟩
    cases hj with
    | head => exact (List.getElem?_eq_some_iff.mp h1).1
    | tail _ hj => exact h5 j hj
theorem kws_all {env : PySem.Env} {pos : Pos} : ∀ {kws : List Keyword}, kws.all (·.arg.isSome) = true → (backToKw pos (keywordEach kws env)).all (·.1.isSome) = true ∧ (backToKw pos (keywordEach kws env)).filterMap (·.1) = kws.filterMap (·.arg) ∧ (backToKw pos (keywordEach kws env)).any (·.1.isNone) = false ∧ (kws.filterMap (·.arg)).length = kws.length
  | [], _ => ⟨rfl, rfl, rfl, rfl⟩
  | ⟨nm, e, kp⟩ :: kws, h => by
    rw [List.all_cons, Bool.and_eq_true] at h
    obtain ⟨h1, h2, h3, h4⟩ := kws_all (env := env) (pos := pos) h.2
    cases nm with
    | none => simp at h
    | some x =>
      refine ⟨?_, ?_, ?_, ?_⟩
      · show ((some x).isSome && (backToKw pos (keywordEach kws env)).all (·.1.isSome)) = true
        rw [h1]; rfl
      · show x :: (backToKw pos (keywordEach kws env)).filterMap (·.1) = _
        rw [h2]; rfl
      · show ((some x).isNone || (backToKw pos (keywordEach kws env)).any (·.1.isNone)) = false
        rw [h3]; rfl
      · show (kws.filterMap (·.arg)).length + 1 = kws.length + 1
        rw [h4]
theorem chkEs_len {ces : CEs} {sc : Scope} : ∀ {es : List Expr}, chkEs N T ces sc es = true → True := fun _ => trivial
theorem rdEs_len {K : PySem.W.Frag} {X : Cx} : ∀ {ces : CEs} {kws : List Keyword}, chkEs N T ces X.env.scope (kws.map (·.value)) = true → ∀ {env : Env} {s s' : R.S} {ds : List Val}, evEs F ces env s = some (ds, s') → ds.length = kws.length
  | .nil, [], _, env, s, s', ds, h => by
    simp only [evEs] at h
    cases h
    rfl
  | .nil, _ :: _, hc, _, _, _, _, _ => by simp [chkEs] at hc
  | .cons c cs, [], hc, _, _, _, _, _ => by simp [chkEs] at hc
  | .cons c cs, k :: kws, hc, env, s, s', ds, h => by
    have hc' : chkE N T c X.env.scope k.value = true ∧ chkEs N T cs X.env.scope (kws.map (·.value)) = true := by simpa [chkEs] using hc
    simp only [evEs] at h
    obtain ⟨v, s1, _, h⟩ := bnd_some h
    obtain ⟨vs, s2, h2, h⟩ := bnd_some h
    cases h
    simp [rdEs_len (K := K) hc'.2 h2]
theorem st_callk {f : Nat} {es ks : CEs} {perm : List Nat} (h : StKs R F N T ks) : St R F N T (.callk f es ks perm) := St.gen (fun X e hc => by
    cases e <;> simp only [chkE] at hc <;> first | (cases hc; done) | (intro _; rfl)) fun X e ow g hc hv => by
  · unfold chkE at hc
    split at hc
    · rename_i fn kws pos
      split at hc
      · rename_i x p
        simp only [Bool.and_eq_true, decide_eq_true_eq, okName] at hc
        obtain ⟨⟨⟨⟨⟨⟨c0, c1⟩, c2⟩, c3⟩, c4⟩, c5⟩, c6⟩ := hc
        cases es with
        | cons _ _ => cases c0
        | nil =>
          cases hf : F[f]? with
          | none =>
            refine ⟨fun pins s σ H Q I hq => ?_⟩
            obtain ⟨A, env, s, d, s', er, ev, q⟩ := hq
            simp only [evE, hf] at ev
            cases ev
          | some fs =>
            have gf := g.fn f fs x hf c1
            obtain ⟨n, fa, fd, ps, k, ok, room, mg, kp, b, ar, kb⟩ := gf.ok
            have kb := kb _ _ c4
            simp only [okV, okVs, Bool.true_and] at hv
            have pk := h X kws ow g c6 hv
            obtain ⟨a1, a2, a3, a4⟩ := kws_all (env := X.env) (pos := pos) c5
            refine ⟨fun pins s σ H Q I hq => ?_⟩
            obtain ⟨A, env, s0, d, s', er, ev, q⟩ := hq
            simp only [evE, hf, evEs, bnd_eq] at ev
            obtain ⟨ds, s1, h1, ev⟩ := bnd_some ev
            rw [List.nil_append] at ev
            split at ev
            · rename_i us hus
              refine wpAny_Call_Name_kw (ld_glob I (show Gl X x from glB_of c2) mg ?_ c3.1)
              refine PySem.W.callWith_KW0 (h₀ := X.base) I.ok.mod.kin kp a1 ?_ (by rw [a3]; rfl)
              refine thn (pk.run pos pins s σ H (fun ws H1 => ws.length = kws.length ∧ spI R X.K n fs (perm.filterMap fun i => ws[i]?) H1 Q E0) I ⟨A, env, s0, ds, s1, er, h1, fun ws H1 e1 i1 r1 => ?_⟩) fun ws s2 ⟨zs, H2, I2, rz, hl, q2⟩ => ⟨I2.kIn, ?_⟩
              · have r1 := RepsF.reps F X.K r1
                have er1 := er.ext e1 i1
                refine ⟨by rw [r1.len]; exact rdEs_len (K := X.K) c6 h1, A, us, s1, d, s', er.fa, er1.al, perm_reps r1 hus, i1, ev, ar _ _ _ ev, fun w H' e2 i2 r2 f2 => q w H' (e1.trans e2) i2 r2 fun z l a z1 z2 => ?_⟩
                refine fresh_back i1 e1 (f2 ?_ l a z1 z2)
                simp only [fresh, kd_at hf] at z
                cases hkk : fs.kind with
                | pure =>
                  have nl := gf.pure hkk _ _ _ _ ev
                  subst z1
                  simp [Val.noLst] at nl
                | fresh => rfl
                | any => rw [hkk] at z; simp at z
              · rw [a2]
                have hlz : ws.length = kws.length := by rw [← rz.length]; exact hl
                have hpl : ∀ i ∈ perm, i < zs.length := fun i hi => by
                  rw [hl, ← rdEs_len (K := X.K) c6 h1]
                  exact (perm_len hus).2 i hi
                have hvv : Vals (perm.filterMap fun i => zs[i]?) (perm.filterMap fun i => ws[i]?) := perm_vals rz hpl
                show wpAny _ _ (call (.ref fa) [] (List.zip (kws.filterMap (·.arg)) ws)) _ _ _
                refine wpAny_call (codeAny_mono (ok.run X.A X.stack s2 H2 ⟨[], (kws.filterMap (·.arg)).zip ws⟩ _ _ Q E0 room I2.env0 (kb s2 ws (by rw [a4]; exact hlz)) hvv q2) fun r s' hq => ?_)
                cases r with
                | error e => exact (pass0 (X := X)) pins σ H2 s2 e s' I2 hq
                | ok fl =>
                  cases fl with
                  | ret u => exact I2.after hq
                  | next => exact False.elim hq
                  | brk => exact False.elim hq
                  | cont => exact False.elim hq
            · cases ev
      · cases hc
    · cases hc

theorem preps_A {X : Cx} {A : Addr → Prop} {H : Hp} : ∀ {ds : List Val} {ws : List V}, PReps R.tok X.K A H R.foot ds ws → Itp.PReps R.tok X.K A H R.foot ds ws := fun h => h
/-- a built-in thing called -/
theorem bi_go {X : Cx} {b : Bi} {es : CEs} {σ : L2.St} {H : Hp} {Q : VK} {ow : List Bool} (h : rdE F X.K ow (.bi b es) σ H Q) : rdPs F X.K ow es σ H fun vs H1 => rB R.tok X.K R.foot (biV b) vs H1 Q := by
  obtain ⟨A, env, s, d, s', er, ev, q⟩ := h
  simp only [evE] at ev
  obtain ⟨ds, s1, h1, ev⟩ := bnd_some ev
  simp only [Option.map_eq_some_iff] at ev
  obtain ⟨d', h3, e⟩ := ev
  cases e
  refine ⟨A, env, s, ds, _, er, h1, fun ws H1 e1 i1 r1 => ?_⟩
  have er1 := er.ext e1 i1
  exact ⟨A, ds, d, er.fa, er1.ad, r1, h3, fun w H' e2 r2 f2 => q w H' (e1.trans (Ext.of_same e2)) (R.stay _ _ _ i1 fun b o _ z => e2 b o z) r2 fun _ l a z1 z2 => fresh_back i1 e1 (f2 l a z1 z2)⟩
theorem boot_len' : bootBuiltins "len" = some (.builtin "len") := by decide +kernel
theorem boot_sum' : bootBuiltins "sum" = some (.builtin "sum") := by decide +kernel
theorem boot_sorted' : bootBuiltins "sorted" = some (.builtin "sorted") := by decide +kernel
theorem boot_abs' : bootBuiltins "abs" = some (.builtin "abs") := by decide +kernel
theorem boot_min' : bootBuiltins "min" = some (.builtin "min") := by decide +kernel
theorem boot_max' : bootBuiltins "max" = some (.builtin "max") := by decide +kernel
theorem boot_isin' : bootBuiltins "isinstance" = some (.builtin "isinstance") := by decide +kernel
theorem boot_tuple' : bootBuiltins "tuple" = some (.type "tuple") := by decide +kernel
theorem boot_list' : bootBuiltins "list" = some (.type "list") := by decide +kernel
theorem boot_int' : bootBuiltins "int" = some (.type "int") := by decide +kernel
theorem boot_ty (t : Ty) : bootBuiltins (Str.ofString (tyStr t)) = some (.type (tyStr t)) := by cases t <;> decide +kernel
theorem dbg_bi (b : Bi) : (biNm b == ("__debug__" : Str)) = false ∧ biNm b ≠ "__name__" := by
  cases b with
  | isin t => cases t <;> exact ⟨by decide, by decide⟩
  | _ => exact ⟨by decide, by decide⟩
theorem dbg_ty (t : Ty) : (Str.ofString (tyStr t) == ("__debug__" : Str)) = false ∧ Str.ofString (tyStr t) ≠ "__name__" := by cases t <;> exact ⟨by decide, by decide⟩
theorem args_of {ces : CEs} {sc : Scope} {e0 : Expr} {es0 : List Expr} (c4 : chkEs N T ces sc (e0 :: es0) = true) (env : PySem.Env) (pos : Pos) :
    starEach (e0 :: es0) env = (false, eval e0 env) :: starEach es0 env ∧ (backTo pos (starEach es0 env)).any (·.1) = false := by
  cases ces with
  | nil => simp [chkEs] at c4
  | cons c cs =>
    have h := c4
    simp only [chkEs, Bool.and_eq_true] at h
    refine ⟨star_of h.1 es0 env, nostars h.2 env pos⟩
theorem bi_B {X : Cx} {b : Bi} {id : String} {es : CEs} {e0 : Expr} {es0 : List Expr} {ow : List Bool} {p pos : Pos} (h : StEs R F N T es) (g : Good R F N T X) (hr : CallR X (.builtin id) (rB R.tok X.K R.foot (biV b))) (hm : X.mg (biNm b) = none)
    (hb : bootBuiltins (biNm b) = some (.builtin id)) (c2 : glB X.env.scope (biNm b) = true) (c4 : chkEs N T es X.env.scope (e0 :: es0) = true) (hv : okPs (kds F) es ow = true) : PE X (.Call (.Name (biNm b) p) (e0 :: es0) [] pos) (rdE F X.K ow (.bi b es)) :=
  (pe_callB hr (show Gl X _ from glB_of c2) hm hb ((h X _ ow g c4).2.1 hv) (dbg_bi b).2 (dbg_bi b).1 (args_of c4 X.env pos).1 (args_of c4 X.env pos).2).weak fun σ H Q q => bi_go q
theorem bi_T {X : Cx} {b : Bi} {id : String} {es : CEs} {e0 : Expr} {es0 : List Expr} {ow : List Bool} {p pos : Pos} (h : StEs R F N T es) (g : Good R F N T X) (hr : CallR X (.type id) (rB R.tok X.K R.foot (biV b))) (hm : X.mg (biNm b) = none)
    (hb : bootBuiltins (biNm b) = some (.type id)) (c2 : glB X.env.scope (biNm b) = true) (c4 : chkEs N T es X.env.scope (e0 :: es0) = true) (hv : okPs (kds F) es ow = true) : PE X (.Call (.Name (biNm b) p) (e0 :: es0) [] pos) (rdE F X.K ow (.bi b es)) :=
  (pe_callTy hr (show Gl X _ from glB_of c2) hm hb ((h X _ ow g c4).2.1 hv) (dbg_bi b).2 (dbg_bi b).1 (args_of c4 X.env pos).1 (args_of c4 X.env pos).2).weak fun σ H Q q => bi_go q
theorem bi_G {X : Cx} {b : Bi} {id : String} {es : CEs} {e0 : Expr} {es0 : List Expr} {ow : List Bool} {p pos : Pos} (h : StEs R F N T es) (g : Good R F N T X) (hr : CallR X (.builtin id) (rB R.tok X.K R.foot (biV b))) (hm : X.mg (biNm b) = some (.builtin id))
    (c2 : glB X.env.scope (biNm b) = true) (c4 : chkEs N T es X.env.scope (e0 :: es0) = true) (hv : okPs (kds F) es ow = true) : PE X (.Call (.Name (biNm b) p) (e0 :: es0) [] pos) (rdE F X.K ow (.bi b es)) :=
  (pe_callBfun hr (show Gl X _ from glB_of c2) hm ((h X _ ow g c4).2.1 hv) (dbg_bi b).1 (args_of c4 X.env pos).1 (args_of c4 X.env pos).2).weak fun σ H Q q => bi_go q
theorem st_bi {b : Bi} {es : CEs} (h : StEs R F N T es) : St R F N T (.bi b es) := St.gen (fun X e hc => by
    cases e <;> simp only [chkE] at hc <;> first | (cases hc; done) | (intro _; rfl)) fun X e ow g hc hv => by
  cases e <;> simp only [chkE] at hc <;> try (cases hc; done)
  rename_i fn xs ks pos
  split at hc
  · rename_i x p
    simp only [Bool.and_eq_true, decide_eq_true_eq] at hc
    obtain ⟨⟨rfl, c2⟩, c3⟩ := hc
    simp only [okV] at hv
    have gen : (∀ t, b ≠ .isin t) → chkEs N T es X.env.scope xs = true ∧ xs ≠ [] := fun hb => by
      cases b with
      | isin t => exact absurd rfl (hb t)
      | isqrt =>
        simp only [Bool.and_eq_true, Bool.not_eq_true'] at c3
        refine ⟨c3.1.2, fun z => ?_⟩
        subst z
        cases c3.2
      | gcd =>
        simp only [Bool.and_eq_true, Bool.not_eq_true'] at c3
        refine ⟨c3.1.2, fun z => ?_⟩
        subst z
        cases c3.2
      | _ =>
        simp only [Bool.and_eq_true, Bool.not_eq_true'] at c3
        refine ⟨c3.1, fun z => ?_⟩
        subst z
        cases c3.2
    have mgn : (b ≠ .isqrt) → b ≠ .gcd → X.mg (biNm b) = none := fun h1 h2 => by
      rcases g.bi b with (z | z) | z
      · exact absurd z h1
      · exact absurd z h2
      · exact z
    cases b with
    | isin t =>
      simp only at c3
      split at c3
      · rename_i x1 tn tp
        simp only [Bool.and_eq_true, decide_eq_true_eq] at c3
        obtain ⟨⟨c4, rfl⟩, c5⟩ := c3
        have pn : PE X (.Name (Str.ofString (tyStr t)) tp) (tC (.ty (tyStr t))) := pe_bltn (show Gl X _ from glB_of c5) (g.tys t) (boot_ty t) rfl (dbg_ty t).2 (dbg_ty t).1
        have pa := (h X _ ow g c4).2.2.2.2 hv _ _ pn fun _ _ => rfl
        have e1 := args_of c4 X.env pos
        refine (pe_callB (cr_isinA (tok := R.tok) (F := R.foot) t) (show Gl X _ from glB_of c2) (mgn (fun z => nomatch z) (fun z => nomatch z)) boot_isin' pa (dbg_bi (.isin t)).2 (dbg_bi (.isin t)).1 ?_ ?_).weak fun σ H Q => ?_
        · cases es with
          | nil => simp [chkEs] at c4
          | cons c cs =>
            simp only [chkEs, Bool.and_eq_true] at c4
            exact star_of c4.1 _ _
        · rfl
        · rintro ⟨A, env, s, d, s', er, ev, q⟩
          simp only [evE] at ev
          obtain ⟨ds, s1, h1, ev⟩ := bnd_some ev
          simp only [Option.map_eq_some_iff] at ev
          obtain ⟨d', h3, e⟩ := ev
          cases e
          refine ⟨A, env, s, ds, _, er, h1, fun ws H1 x1 j1 r1 => ?_⟩
          obtain ⟨e0, rfl⟩ := g1 (by simp) h3
          obtain ⟨w, rfl, p⟩ := one_of r1
          simp only [biV, Option.map_eq_some_iff] at h3
          obtain ⟨b, h4, rfl⟩ := h3
          exact ⟨A, e0, w, b, rfl, er.fa, p, h4, q _ H1 x1 j1 rep_bl fun _ => fresh_bl⟩
      · cases c3
    | len =>
      obtain ⟨c4, hn⟩ := gen (fun t z => nomatch z)
      match xs, hn, c4 with
      | e0 :: es0, _, c4 => exact bi_B h g cr_lenA (mgn (fun z => nomatch z) (fun z => nomatch z)) boot_len' c2 c4 hv
    | sum =>
      obtain ⟨c4, hn⟩ := gen (fun t z => nomatch z)
      match xs, hn, c4 with
      | e0 :: es0, _, c4 => exact bi_B h g (cr_sumA g.calm) (mgn (fun z => nomatch z) (fun z => nomatch z)) boot_sum' c2 c4 hv
    | sorted =>
      obtain ⟨c4, hn⟩ := gen (fun t z => nomatch z)
      match xs, hn, c4 with
      | e0 :: es0, _, c4 => exact bi_B h g cr_sortedA (mgn (fun z => nomatch z) (fun z => nomatch z)) boot_sorted' c2 c4 hv
    | tuple =>
      obtain ⟨c4, hn⟩ := gen (fun t z => nomatch z)
      match xs, hn, c4 with
      | e0 :: es0, _, c4 => exact bi_T h g cr_tupleA (mgn (fun z => nomatch z) (fun z => nomatch z)) boot_tuple' c2 c4 hv
    | list =>
      obtain ⟨c4, hn⟩ := gen (fun t z => nomatch z)
      match xs, hn, c4 with
      | e0 :: es0, _, c4 => exact bi_T h g cr_listA (mgn (fun z => nomatch z) (fun z => nomatch z)) boot_list' c2 c4 hv
    | int =>
      obtain ⟨c4, hn⟩ := gen (fun t z => nomatch z)
      match xs, hn, c4 with
      | e0 :: es0, _, c4 => exact bi_T h g cr_intA (mgn (fun z => nomatch z) (fun z => nomatch z)) boot_int' c2 c4 hv
    | abs =>
      obtain ⟨c4, hn⟩ := gen (fun t z => nomatch z)
      match xs, hn, c4 with
      | e0 :: es0, _, c4 => exact bi_B h g cr_absA (mgn (fun z => nomatch z) (fun z => nomatch z)) boot_abs' c2 c4 hv
    | min2 =>
      obtain ⟨c4, hn⟩ := gen (fun t z => nomatch z)
      match xs, hn, c4 with
      | e0 :: es0, _, c4 => exact bi_B h g (cr_min2A g.calm) (mgn (fun z => nomatch z) (fun z => nomatch z)) boot_min' c2 c4 hv
    | max2 =>
      obtain ⟨c4, hn⟩ := gen (fun t z => nomatch z)
      match xs, hn, c4 with
      | e0 :: es0, _, c4 => exact bi_B h g (cr_max2A g.calm) (mgn (fun z => nomatch z) (fun z => nomatch z)) boot_max' c2 c4 hv
    | isqrt =>
      simp only [Bool.and_eq_true, decide_eq_true_eq, Bool.not_eq_true'] at c3
      match xs, c3 with
      | e0 :: es0, c3 => exact bi_G h g cr_isqrtA (g.isqrt c3.1.1) c2 c3.1.2 hv
    | gcd =>
      simp only [Bool.and_eq_true, decide_eq_true_eq, Bool.not_eq_true'] at c3
      match xs, c3 with
      | e0 :: es0, c3 => exact bi_G h g cr_gcdA (g.gcd c3.1.1) c2 c3.1.2 hv
  · cases hc
end
end Itp

namespace Itp
open PySem PySem.Spec PyProof.Rows L2

section
variable {R : Res} {F : List (FS R.S)} {N : List Str} {T : Tb}
theorem pi_or {X : Cx} {tg e : Expr} {w1 w2 : TI} (h1 : PI X tg e w1) (h2 : PI X tg e w2) : PI X tg e (fun σ H Q => w1 σ H Q ∨ w2 σ H Q) :=
  ⟨fun pins s σ H Q I q => q.elim (h1.run pins s σ H Q I) (h2.run pins s σ H Q I)⟩
theorem rep_items {K : PySem.W.Frag} {A A' P : Addr → Prop} {H0 H : Hp} {d : Val} {w : V} (hP : ∀ a, P a → A a) (al : ∀ a, A a → ∃ xs, H0 a = some (.lst xs)) (hA : ∀ a, A' a → A a ∨ H0 a = none) (hk : ∀ b o, H0 b = some o → ¬ P b → H b = some o)
    (h : Rep R.tok K A H0 d w) : Rep R.tok K A' H d w := by
  refine Rep.ext (fun a vs n q => ⟨fun z => ?_, hk _ _ q fun z => n (hP _ z)⟩) (fun a vs q => ?_) d h
  · rcases hA a z with z | z
    · exact n z
    · rw [q] at z
      cases z
  · refine hk _ _ q fun z => ?_
    obtain ⟨xs, e⟩ := al a (hP a z)
    have e' := (show H0 a = _ from q).symm.trans e
    cases e'
theorem sqt_items {K : PySem.W.Frag} {A P : Addr → Prop} {H0 H : Hp} {a : Addr} {vs : List V} (hP : ∀ a, P a → A a) (al : ∀ a, A a → ∃ xs, H0 a = some (.lst xs)) (hk : ∀ b o, H0 b = some o → ¬ P b → H b = some o)
    (q : SqT K H0 a vs) : SqT K H a vs := by
  rcases q with (q | ⟨o, q⟩) | q
  · refine .inl (.inl (hk _ _ q fun z => ?_))
    obtain ⟨xs, e⟩ := al a (hP a z)
    have e' := (show H0 a = _ from q).symm.trans e
    cases e'
  · refine .inl (.inr ⟨o, hk _ _ q fun z => ?_⟩)
    obtain ⟨xs, e⟩ := al a (hP a z)
    have e' := (show H0 a = _ from q).symm.trans e
    cases e'
  · exact .inr q
theorem items_list {K : PySem.W.Frag} {A P : Addr → Prop} {H0 : Hp} {a : Addr} {ds : List Val} {vs : List V} (hP : ∀ a, P a → A a) (al : ∀ a, A a → ∃ xs, H0 a = some (.lst xs)) (na : ¬ P a) (ha : H0 a = some (.lst vs)) (hr : Reps R.tok K A H0 ds vs) : Items R K A P H0 (Itl K a) ds := by
  intro i H A' hA hk
  have hH : H a = some (.lst vs) := hk _ _ ha na
  refine ⟨fun hi => ?_, fun hi => ⟨vs, SqL.of hH, by rw [hr.len]; exact hi⟩⟩
  obtain ⟨w, h1, h2⟩ := hr.get (List.getElem?_eq_getElem hi)
  refine ⟨⟨vs, w, SqL.of hH, h1⟩, fun w' H' hy => ?_⟩
  obtain ⟨e, hy⟩ := hy
  subst e
  have e := hy vs (SqL.of hH)
  rw [h1] at e
  cases e
  exact ⟨_, List.getElem?_eq_getElem hi, Same.refl _, rep_items hP al hA hk h2⟩
theorem items_tup {K : PySem.W.Frag} {A P : Addr → Prop} {H0 : Hp} {a : Addr} {ds : List Val} {vs : List V} (hP : ∀ a, P a → A a) (al : ∀ a, A a → ∃ xs, H0 a = some (.lst xs)) (ha : H0 a = some (.tup vs)) (hr : Reps R.tok K A H0 ds vs) : Items R K A P H0 (Itt K a) ds := by
  intro i H A' hA hk
  have hH : SqT K H a vs := sqt_items hP al hk (SqT.of ha)
  refine ⟨fun hi => ?_, fun hi => ⟨vs, hH, by rw [hr.len]; exact hi⟩⟩
  obtain ⟨w, h1, h2⟩ := hr.get (List.getElem?_eq_getElem hi)
  refine ⟨⟨vs, w, hH, h1⟩, fun w' H' hy => ?_⟩
  obtain ⟨e, hy⟩ := hy
  subst e
  have e := hy vs hH
  rw [h1] at e
  cases e
  exact ⟨_, List.getElem?_eq_getElem hi, Same.refl _, rep_items hP al hA hk h2⟩
theorem items_rng {K : PySem.W.Frag} {A P : Addr → Prop} {H0 : Hp} (lo : Int) (n : Nat) : Items R K A P H0 (Itr lo n) (rngL lo n) := by
  intro i H A' hA hk
  have hl : (rngL lo n).length = n := by simp [rngL]
  refine ⟨fun hi => ⟨by rw [hl] at hi; exact hi, fun w H' hy => ?_⟩, fun hi => by rw [hl] at hi; exact hi⟩
  obtain ⟨rfl, rfl⟩ := hy
  rw [hl] at hi
  refine ⟨.int (lo + (i : Int)), ?_, Same.refl _, rep_int⟩
  simp [rngL, hi]

def okIm (vm : Bool) (kd : List Kd) (c : CI) (ow : List Bool) : Bool := if vm = true then (match c with | .seq e => okV kd e ow | .enum e => okV kd e ow | c => okI kd c ow) else okI kd c ow
def StI (R : Res) (F : List (FS R.S)) (N : List Str) (T : Tb) (c : CI) : Prop := ∀ (X : Cx) (tg e : Expr) (ow : List Bool) (vm : Bool), Good R F N T X → chkI N T c X.env.scope e = true → okIm vm (kds F) c ow = true → PI X tg e (rdI F X.K vm ow c)
theorem sti_seq {c : CE} (h : St R F N T c) : StI R F N T (.seq c) := fun X tg e ow vm g hc hv => by
  simp only [chkI] at hc
  cases vm with
  | true =>
    have hv' : okV (kds F) c ow = true := hv
    have p := (h X e ow g hc).1 hv'
    refine (pi_or (pi_list p) (pi_tup p)).weak fun σ H Q => ?_
    rintro ⟨A, env, s, xs, s', er, ev, q⟩
    simp only [evI] at ev
    obtain ⟨v, s1, h1, ev⟩ := bnd_some ev
    simp only [Option.map_eq_some_iff] at ev
    obtain ⟨xs', h2, e2⟩ := ev
    cases e2
    rcases seqV_some h2 with rfl | rfl
    · refine .inl ⟨A, env, s, _, _, er, h1, fun w H1 e1 i1 r1 _ => ?_⟩
      simp only [Rep] at r1
      obtain ⟨a, vs, rfl, ha, na, hr⟩ := r1
      refine ⟨a, rfl, ⟨vs, SqL.of ha⟩, q _ H1 e1 i1 ?_⟩
      exact items_list (fun _ z => z) (er.ext e1 i1).al na ha hr
    · refine .inr ⟨A, env, s, _, _, er, h1, fun w H1 e1 i1 r1 _ => ?_⟩
      simp only [Rep] at r1
      obtain ⟨a, vs, rfl, ha, hr⟩ := r1
      refine ⟨a, rfl, ⟨vs, SqT.of ha⟩, q _ H1 e1 i1 ?_⟩
      exact items_tup (fun _ z => z) (er.ext e1 i1).al ha hr
  | false =>
    have hv' : (isVar c || okV (kds F) c ow) = true := by simpa [okIm, okI] using hv
    have p := h.pk g hc hv'
    refine (pi_or (pi_list p) (pi_tup p)).weak fun σ H Q => ?_
    rintro ⟨A, env, s, xs, s', er, ev, q⟩
    simp only [evI] at ev
    obtain ⟨v, s1, h1, ev⟩ := bnd_some ev
    simp only [Option.map_eq_some_iff] at ev
    obtain ⟨xs', h2, e2⟩ := ev
    cases e2
    rcases seqV_some h2 with rfl | rfl
    · refine .inl ⟨A, env, s, _, _, er, h1, fun w H1 e1 i1 r1 => ?_⟩
      obtain ⟨a, vs, rfl, ha, na, hr⟩ := r1.lst er.fa
      refine ⟨a, rfl, ⟨vs, SqL.of ha⟩, q _ H1 e1 i1 ?_⟩
      exact items_list er.fa (er.ext e1 i1).al na ha hr
    · refine .inr ⟨A, env, s, _, _, er, h1, fun w H1 e1 i1 r1 => ?_⟩
      obtain ⟨a, vs, rfl, ha, hr⟩ := r1.tup
      refine ⟨a, rfl, ⟨vs, SqT.of ha⟩, q _ H1 e1 i1 ?_⟩
      exact items_tup er.fa (er.ext e1 i1).al ha hr
theorem sti_rng1 {c : CE} (h : St R F N T c) : StI R F N T (.rng1 c) := fun X tg e ow vm g hc hv => by
  unfold chkI at hc
  split at hc
  · split at hc
    case h_2 => cases hc
    rename_i x pos _ _ n p
    simp only [Bool.and_eq_true, decide_eq_true_eq] at hc
    obtain ⟨⟨rfl, c2⟩, c3⟩ := hc
    have hv' : (isVar c || okV (kds F) c ow) = true := by cases vm <;> simpa [okIm, okI] using hv
    refine (pi_range1 (show Gl X _ from glB_of c2) g.range (pa_cons (h.pk g c3 hv') pa_nil (star_of c3 _ _)) (by rw [star_of c3]; rfl)).weak fun σ H Q => ?_
    rintro ⟨A, env, s, xs, s', er, ev, q⟩
    simp only [evI] at ev
    obtain ⟨v, s1, h1, ev⟩ := bnd_some ev
    refine ⟨A, env, s, v, s1, er, h1, fun w H1 e1 i1 p1 => ?_⟩
    cases v with
    | int j =>
      simp only at ev
      split at ev
      · rename_i hj
        cases ev
        simp only [rngOk, Bool.and_eq_true, decide_eq_true_eq] at hj
        refine ⟨j, by rw [p1.int], hj.1, hj.2, q _ H1 e1 i1 (items_rng 0 j.toNat)⟩
      · cases ev
    | _ => cases ev
  · cases hc
theorem sti_rng2 {c c' : CE} (h : St R F N T c) (h' : St R F N T c') : StI R F N T (.rng2 c c') := fun X tg e ow vm g hc hv => by
  unfold chkI at hc
  split at hc
  · split at hc
    case h_2 => cases hc
    rename_i x y pos _ _ n p
    simp only [Bool.and_eq_true, decide_eq_true_eq] at hc
    obtain ⟨⟨⟨rfl, c2⟩, c3⟩, c4⟩ := hc
    have hv' : (isVar c || okV (kds F) c ow) = true ∧ (isVar c' || okV (kds F) c' ow) = true := by cases vm <;> simpa [okIm, okI] using hv
    refine (pi_range2 (show Gl X _ from glB_of c2) g.range (pa_cons (h.pk g c3 hv'.1) (pa_cons (h'.pk g c4 hv'.2) pa_nil (star_of c4 _ _)) (star_of c3 _ _)) (by rw [star_of c3, star_of c4]; rfl) (by rw [star_of c4]; rfl)).weak fun σ H Q => ?_
    rintro ⟨A, env, s, xs, s', er, ev, q⟩
    simp only [evI] at ev
    obtain ⟨v, s1, h1, ev⟩ := bnd_some ev
    obtain ⟨w, s2, h2, ev⟩ := bnd_some ev
    refine ⟨A, env, s, v, s1, er, h1, fun w1 H1 e1 i1 p1 => ?_⟩
    refine ⟨A, env, s1, w, s2, er.ext e1 i1, h2, fun w2 H2 e2 i2 p2 => ?_⟩
    cases v with
    | int i =>
      cases w with
      | int j =>
        simp only at ev
        split at ev
        · rename_i hj
          cases ev
          simp only [rngOk, Bool.and_eq_true, decide_eq_true_eq] at hj
          refine ⟨i, j, by rw [p1.int, p2.int], ⟨hj.1.1, hj.1.2, hj.2.1, hj.2.2⟩, q _ H2 (e1.trans e2) i2 (items_rng i (j - i).toNat)⟩
        · cases ev
      | _ => cases ev
    | _ => cases w <;> cases ev
  · cases hc

/-! targets -/
theorem locB_of {sc : Scope} {x : Str} (h : locB sc x = true) : sc.names.lookup x = some .local ∨ sc.names.lookup x = some .cell := by
  unfold locB at h
  split at h
  · exact .inl (by assumption)
  · exact .inr (by assumption)
  · cases h
def gNames : List Nat → TGs
  | [] => gNil
  | i :: is => gCons (gName i) (gNames is)
def gT (K : PySem.W.Frag) : Tg → TG
  | .name i => gName i
  | .tup is => gTup K is.length (gNames is)
/-- what a target wants of its names -/
def TgSc (X : Cx) (sc : Scope) : Prop := ∀ x, (sc.names.lookup x = some .local ∨ sc.names.lookup x = some .cell) → Loc X.env.scope x ∧ (X.fn x = true ∨ X.env.scope.names.lookup x = some .local)
theorem tgs_ok {X : Cx} {sc : Scope} (g : Good R F N T X) (hs : TgSc X sc) : ∀ {is : List Nat} {es : List Expr}, chkG.chkGs N sc is es = true → PGs X es (gNames is) ∧ (assignEach es X.env).length = is.length ∧ (assignEach es X.env).findIdx? (·.1) = none
  | [], [], h => ⟨pgs_nil, rfl, rfl⟩
  | [], _ :: _, h => by simp [chkG.chkGs] at h
  | _ :: _, [], h => by simp [chkG.chkGs] at h
  | i :: is, e :: es, h => by
    cases e <;> simp only [chkG.chkGs] at h <;> try (cases h; done)
    rename_i x pos
    simp only [Bool.and_eq_true, decide_eq_true_eq] at h
    obtain ⟨p1, p2, p3⟩ := tgs_ok g hs h.2
    have l := hs x (locB_of h.1.2)
    refine ⟨pgs_cons (pg_name g.nd (by rw [g.N]; exact h.1.1) l.1 l.2) p1 rfl, ?_, ?_⟩
    · show (assignEach es X.env).length + 1 = is.length + 1
      rw [p2]
    · show ((false, assign (.Name x pos) X.env) :: assignEach es X.env).findIdx? (·.1) = none
      rw [List.findIdx?_cons]
      simp [p3]
theorem tg_ok {X : Cx} {sc : Scope} {tg : Tg} {e : Expr} (g : Good R F N T X) (hs : TgSc X sc) (h : chkG N sc tg e = true) : PG X e (gT X.K tg) := by
  cases tg with
  | name i =>
    cases e <;> simp only [chkG] at h <;> try (cases h; done)
    rename_i x pos
    simp only [Bool.and_eq_true, decide_eq_true_eq] at h
    have l := hs x (locB_of h.2)
    exact pg_name g.nd (by rw [g.N]; exact h.1) l.1 l.2
  | tup is =>
    cases e <;> simp only [chkG] at h <;> try (cases h; done)
    obtain ⟨p1, p2, p3⟩ := tgs_ok g hs h
    exact pg_tup g.calm p1 p2 p3
end
end Itp

namespace Itp
open PySem PySem.Spec PyProof.Rows L2

section
variable {R : Res} {F : List (FS R.S)} {N : List Str} {T : Tb}
theorem getE_set {env : Env} {i j : Nat} {d : Option Val} : getE (env.set i d) j = if i = j ∧ i < env.length then d else getE env j := by
  unfold getE
  rw [List.getD_eq_getElem?_getD, List.getD_eq_getElem?_getD, List.getElem?_set]
  by_cases h : i = j
  · subst h
    by_cases hl : i < env.length
    · simp [hl]
    · simp [hl]
  · simp [h]
theorem ERel.set {K : PySem.W.Frag} {A : Addr → Prop} {ow : List Bool} {env : Env} {s : R.S} {σ : L2.St} {H : Hp} {i : Nat} {d : Val} {w : V} (r : ERel R K A ow env s σ H) (h : Rep R.tok K A H d w) : ERel R K A ow (env.set i (some d)) s (σ.set i (some w)) H := by
  refine ⟨r.inv, by simp [r.len], r.fa, r.al, fun j e he => ?_⟩
  rw [getE_set] at he
  split at he
  · rename_i hc
    obtain ⟨rfl, hl⟩ := hc
    cases he
    refine ⟨w, ?_, .inl h, fun _ => h⟩
    rw [List.getElem?_set_self (by rw [← r.len]; exact hl)]
  · rename_i hc
    obtain ⟨u, h1, h2, h3⟩ := r.slots j e he
    refine ⟨u, ?_, h2, h3⟩
    by_cases hij : i = j
    · subst hij
      have hl : ¬ i < env.length := fun z => hc ⟨rfl, z⟩
      rw [r.len] at hl
      rw [List.getElem?_eq_none (by omega)] at h1
      cases h1
    · rw [List.getElem?_set_ne hij]
      exact h1
theorem wipe_get {σ : L2.St} : ∀ {vs : List Nat} {i : Nat}, i ∉ vs → (wipe σ vs)[i]? = σ[i]?
  | [], _, _ => rfl
  | v :: vs, i, h => by
    unfold wipe
    have h1 : v ≠ i := fun z => h (by simp [z])
    have h2 : i ∉ vs := fun z => h (by simp [z])
    rw [List.getElem?_set_ne h1]
    exact wipe_get h2
theorem wipe_in {σ : L2.St} : ∀ {vs : List Nat} {i : Nat}, i ∈ vs → (wipe σ vs)[i]? = if i < σ.length then some none else none
  | v :: vs, i, h => by
    unfold wipe
    by_cases h1 : v = i
    · subst h1
      by_cases hl : v < σ.length
      · rw [if_pos hl, List.getElem?_set_self (by rw [wipe_length]; exact hl)]
      · rw [if_neg hl, List.getElem?_eq_none (by rw [List.length_set, wipe_length]; omega)]
    · rw [List.getElem?_set_ne h1]
      exact wipe_in (by rcases List.mem_cons.mp h with z | z; exact absurd z.symm h1; exact z)
theorem wipe_eq {σ σ' : L2.St} {vs : List Nat} (hl : σ'.length = σ.length) (h : ∀ i, i ∉ vs → σ'[i]? = σ[i]?) : wipe σ' vs = wipe σ vs := by
  apply List.ext_getElem?
  intro i
  by_cases hi : i ∈ vs
  · rw [wipe_in hi, wipe_in hi, hl]
  · rw [wipe_get hi, wipe_get hi, h i hi]
theorem wipeE_get {env : Env} : ∀ {vs : List Nat} {i : Nat} {d : Val}, getE (wipeE env vs) i = some d → i ∉ vs ∧ getE env i = some d
  | [], _, _, h => ⟨by simp, h⟩
  | v :: vs, i, d, h => by
    unfold wipeE at h
    rw [getE_set] at h
    split at h
    · cases h
    · rename_i hc
      obtain ⟨h1, h2⟩ := wipeE_get h
      refine ⟨fun z => ?_, h2⟩
      rcases List.mem_cons.mp z with z | z
      · subst z
        refine hc ⟨rfl, ?_⟩
        -- the slot is there
        have hg : getE env i = some d := h2
        unfold getE at hg
        rw [List.getD_eq_getElem?_getD] at hg
        by_cases hl : i < env.length
        · have : ∀ vs, (wipeE env vs).length = env.length := fun vs => by
            induction vs with
            | nil => rfl
            | cons v vs ih => unfold wipeE; rw [List.length_set, ih]
          rw [this]
          exact hl
        · rw [List.getElem?_eq_none (by omega)] at hg
          cases hg
      · exact h1 z
theorem wipeE_len {env : Env} : ∀ vs : List Nat, (wipeE env vs).length = env.length
  | [] => rfl
  | v :: vs => by unfold wipeE; rw [List.length_set, wipeE_len vs]
theorem wipeB_get {ow : List Bool} : ∀ {vs : List Nat} {i : Nat}, i ∉ vs → (wipeB ow vs).getD i false = ow.getD i false
  | [], _, _ => rfl
  | v :: vs, i, h => by
    unfold wipeB
    have h1 : v ≠ i := fun z => h (by simp [z])
    have h2 : i ∉ vs := fun z => h (by simp [z])
    rw [List.getD_eq_getElem?_getD, List.getElem?_set_ne h1, ← List.getD_eq_getElem?_getD]
    exact wipeB_get h2
theorem ERel.wipe {K : PySem.W.Frag} {A : Addr → Prop} {ow : List Bool} {env : Env} {s : R.S} {σ : L2.St} {H : Hp} (r : ERel R K A ow env s σ H) (vs : List Nat) : ERel R K A (wipeB ow vs) (wipeE env vs) s (L2.wipe σ vs) H := by
  refine ⟨r.inv, by rw [wipeE_len, wipe_length, r.len], r.fa, r.al, fun j e he => ?_⟩
  obtain ⟨h1, h2⟩ := wipeE_get he
  obtain ⟨u, h3, h4, h5⟩ := r.slots j e h2
  exact ⟨u, by rw [wipe_get h1]; exact h3, h4, fun z => h5 (by rw [← wipeB_get h1]; exact z)⟩
/-- a new list D stands apart -/
theorem ERel.apart {K : PySem.W.Frag} {A : Addr → Prop} {ow : List Bool} {env : Env} {s : R.S} {σ : L2.St} {H : Hp} {D : Addr} {xs : List V} (r : ERel R K A ow env s σ H) (hD : H D = none) : ERel R K (fun a => A a ∨ a = D) ow env s σ (upd H D (.lst xs)) := by
  have sm : Same H (upd H D (.lst xs)) := same_new hD
  have mv : ∀ {d : Val} {w : V}, Rep R.tok K A H d w → Rep R.tok K (fun a => A a ∨ a = D) (upd H D (.lst xs)) d w := fun {d w} h =>
    Rep.ext (fun a vs n q => ⟨fun z => z.elim n (fun e => by subst e; rw [hD] at q; cases q), sm _ _ q⟩) (fun a vs q => sm _ _ q) d h
  refine ⟨R.stay _ _ _ r.inv fun b o _ z => sm b o z, r.len, fun a z => .inl (r.fa a z), fun a z => ?_, fun i d h => ?_⟩
  · rcases z with z | z
    · obtain ⟨ys, e⟩ := r.al a z
      exact ⟨ys, sm _ _ e⟩
    · subst z
      exact ⟨xs, upd_same⟩
  · obtain ⟨w, h1, h2, h3⟩ := r.slots i d h
    refine ⟨w, h1, ?_, fun z => mv (h3 z)⟩
    rcases h2 with h2 | ⟨ds, a, vs, e1, e2, e3, e4, e5⟩
    · exact .inl (mv h2)
    · exact .inr ⟨ds, a, vs, e1, e2, sm _ _ e3, e4, Reps.ext (fun a vs n q => ⟨fun z => z.elim n (fun e => by subst e; rw [hD] at q; cases q), sm _ _ q⟩) (fun a vs q => sm _ _ q) ds e5⟩

/-- a target takes a value -/
theorem names_go {K : PySem.W.Frag} {A : Addr → Prop} {ow : List Bool} : ∀ {is : List Nat} {ds : List Val} {ws : List V} {env env2 : Env} {s : R.S} {σ : L2.St} {H : Hp} {Q : L2.St → Hp → Prop}, ERel R K A ow env s σ H → Reps R.tok K A H ds ws → setAll is ds env = some env2 →
    (∀ σ', ERel R K A ow env2 s σ' H → σ'.length = σ.length → (∀ j, j ∉ is → σ'[j]? = σ[j]?) → Q σ' H) → gNames is ws σ H Q
  | [], [], ws, env, env2, s, σ, H, Q, er, hr, hs, q => by
    simp only [Reps] at hr
    simp only [setAll, Option.some.injEq] at hs
    subst hs
    exact ⟨hr, q σ er rfl fun _ _ => rfl⟩
  | i :: is, d :: ds, ws, env, env2, s, σ, H, Q, er, hr, hs, q => by
    simp only [Reps] at hr
    obtain ⟨w, r, rfl, h1, h2⟩ := hr
    simp only [setAll] at hs
    refine ⟨w, r, rfl, ?_⟩
    refine names_go (er.set (i := i) h1) h2 hs fun σ' er' hl hk => q σ' er' (by rw [hl, List.length_set]) fun j hj => ?_
    rw [hk j fun z => hj (by simp [z]), List.getElem?_set_ne fun z => hj (by simp [z])]
  | [], _ :: _, _, _, _, _, _, _, _, _, _, hs, _ => by simp [setAll] at hs
  | _ :: _, [], _, _, _, _, _, _, _, _, _, hs, _ => by simp [setAll] at hs
theorem tg_go {K : PySem.W.Frag} {A : Addr → Prop} {ow : List Bool} {tg : Tg} {d : Val} {w : V} {env env2 : Env} {s : R.S} {σ : L2.St} {H : Hp} {Q : L2.St → Hp → Prop} (er : ERel R K A ow env s σ H) (hr : Rep R.tok K A H d w) (hs : setT tg d env = some env2)
    (q : ∀ σ', ERel R K A ow env2 s σ' H → σ'.length = σ.length → (∀ j, j ∉ tgIs tg → σ'[j]? = σ[j]?) → Q σ' H) : gT K tg w σ H Q := by
  cases tg with
  | name i =>
    simp only [setT, Option.some.injEq] at hs
    subst hs
    refine q _ (er.set hr) (by simp) fun j hj => ?_
    rw [List.getElem?_set_ne fun z => hj (by simp [tgIs, z])]
  | tup is =>
    cases d <;> simp only [setT] at hs <;> try (cases hs; done)
    rename_i ds
    simp only [Rep] at hr
    obtain ⟨a, vs, rfl, ha, hr⟩ := hr
    have hl : ds.length = is.length := by
      clear q hr
      induction is generalizing ds env with
      | nil => cases ds <;> simp [setAll] at hs <;> rfl
      | cons i is ih =>
        cases ds with
        | nil => simp [setAll] at hs
        | cons d ds =>
          simp only [setAll] at hs
          have er' : ERel R K A ow (env.set i (some d)) s (σ.set i none) H → True := fun _ => True.intro
          have : ∀ {is : List Nat} {ds : List Val} {env : Env}, setAll is ds env = some env2 → ds.length = is.length := by
            intro is
            induction is with
            | nil => intro ds env h; cases ds <;> simp [setAll] at h <;> rfl
            | cons i is ih => intro ds env h; cases ds with
              | nil => simp [setAll] at h
              | cons d ds => simp only [setAll] at h; simp [ih h]
          simp [this hs]
    exact ⟨a, vs, rfl, SqT.of ha, by rw [hr.len, hl], names_go er hr hs q⟩

/-! tests of a clause -/
def StC (R : Res) (F : List (FS R.S)) (N : List Str) (T : Tb) (c : CEo) : Prop := ∀ (X : Cx) (ifs : List Expr) (ow : List Bool), Good R F N T X → chkC N T c X.env.scope ifs = true → okO (kds F) c ow = true → PTs X ifs (rdC F X.K ow c)
theorem _root_.L2.PTs.weak {X : Cx} {e : List Expr} {t t' : TT} (h : PTs X e t) (hw : ∀ σ H Q, t' σ H Q → t σ H Q) : PTs X e t' := ⟨fun pins s σ H Q I q => h.run pins s σ H Q I (hw σ H Q q)⟩
theorem stc_none : StC R F N T .none := fun X ifs ow g hc hv => by
  cases ifs with
  | cons _ _ => simp [chkC] at hc
  | nil =>
    refine pts_nil.weak fun σ H Q => ?_
    rintro ⟨A, env, s, b, s', er, ev, q⟩
    simp only [evC] at ev
    cases ev
    exact q H (Ext.refl H) er.inv
theorem stc_some {c : CE} (h : St R F N T c) : StC R F N T (.some c) := fun X ifs ow g hc hv => by
  match ifs, hc with
  | [e], hc =>
    simp only [chkC, Bool.and_eq_true] at hc
    simp only [okO] at hv
    refine (pts_one ((h X e ow g hc.2).2 hv hc.1)).weak fun σ H Q => ?_
    rintro ⟨A, env, s, b, s', er, ev, q⟩
    simp only [evC] at ev
    obtain ⟨x, s1, h1, ev⟩ := bnd_some ev
    simp only [Option.map_eq_some_iff] at ev
    obtain ⟨d', h4, e⟩ := ev
    cases e
    exact ⟨A, env, s, x, _, _, er, h1, h4, q⟩
  | [], hc => simp [chkC] at hc
  | _ :: _ :: _, hc => simp [chkC] at hc

theorem blk_sc {X : Cx} {s : Shared} {H : Hp} {scope : Scope} {cl : List (Str × Addr)} {C : Addr} {fp : List Addr} : (X.blk s H scope (compEnvC scope cl C X.env) fp).env.scope = relS scope X.env.scope := rfl
theorem blk_tg {X : Cx} {s : Shared} {H : Hp} {scope : Scope} {cl : List (Str × Addr)} {C : Addr} {fp : List Addr} : TgSc (X.blk s H scope (compEnvC scope cl C X.env) fp) scope := fun x h => by
  have e : (relS scope X.env.scope).names.lookup x = scope.names.lookup x := by
    rcases h with h | h
    · rw [h]
      exact lookup_relS_keep (by simp) h
    · rw [h]
      exact lookup_relS_keep (by simp) h
  refine ⟨?_, ?_⟩
  · show (relS scope X.env.scope).names.lookup x = _ ∨ (relS scope X.env.scope).names.lookup x = _
    rw [e]
    exact h
  · rcases h with h | h
    · right
      show (relS scope X.env.scope).names.lookup x = _
      rw [e]
      exact h
    · left
      show (scope.names.lookup x == some NameKind.cell) = true
      rw [h]
      rfl
end
end Itp

namespace Itp
open PySem PySem.Spec PyProof.Rows L2

section
variable {R : Res} {F : List (FS R.S)} {N : List Str} {T : Tb}
theorem ERel.move {K : PySem.W.Frag} {A : Addr → Prop} {ow : List Bool} {env : Env} {s s' : R.S} {σ : L2.St} {H H1 : Hp} {D : Addr} {xs : List V} (r : ERel R K A ow env s σ H1) (e : Ext R H1 H) (hi : R.inv s' H) (hD : H1 D = none) (hd : H D = some (.lst xs)) :
    ERel R K (fun a => A a ∨ a = D) ow env s' σ H := by
  have mvs : ∀ {d : List Val} {w : List V}, Reps R.tok K A H1 d w → Reps R.tok K (fun a => A a ∨ a = D) H d w := fun {d w} h =>
    Reps.ext (fun a vs n q => ⟨fun z => z.elim n (fun e => by subst e; rw [hD] at q; cases q), e _ _ q fun z => n (r.fa _ z)⟩) (fun a vs q => e _ _ q (R.notfoot r.inv q fun _ z => by cases z)) d h
  have mv : ∀ {d : Val} {w : V}, Rep R.tok K A H1 d w → Rep R.tok K (fun a => A a ∨ a = D) H d w := fun {d w} h =>
    Rep.ext (fun a vs n q => ⟨fun z => z.elim n (fun e => by subst e; rw [hD] at q; cases q), e _ _ q fun z => n (r.fa _ z)⟩) (fun a vs q => e _ _ q (R.notfoot r.inv q fun _ z => by cases z)) d h
  refine ⟨hi, r.len, fun a z => .inl (r.fa a z), fun a z => ?_, fun i d h => ?_⟩
  · rcases z with z | z
    · by_cases hf : R.foot a
      · exact R.lists _ _ hi a hf
      · obtain ⟨ys, e'⟩ := r.al a z
        exact ⟨ys, e _ _ e' hf⟩
    · subst z
      exact ⟨xs, hd⟩
  · obtain ⟨w, h1, h2, h3⟩ := r.slots i d h
    refine ⟨w, h1, ?_, fun z => mv (h3 z)⟩
    rcases h2 with h2 | ⟨ds, a, vs, e1, e2, e3, e4, e5⟩
    · exact .inl (mv h2)
    · exact .inr ⟨ds, a, vs, e1, e2, e _ _ e3 e4, e4, mvs e5⟩
theorem lcGo_len {S : Type} {f : Val → S → Option (Option Val × S)} : ∀ {l : List Val} {s s' : S} {ys : List Val}, lcGo f l s = some (ys, s') → ys.length ≤ sizeLine
  | [], _, _, _, h => by
    simp only [lcGo, Option.some.injEq, Prod.mk.injEq] at h
    rw [← h.1]
    exact Nat.zero_le _
  | x :: r, s, s', ys, h => by
    simp only [lcGo] at h
    obtain ⟨y, s1, h1, h⟩ := bnd_some h
    obtain ⟨zs, s2, h2, h⟩ := bnd_some h
    cases y with
    | none =>
      cases h
      exact lcGo_len h2
    | some y =>
      simp only at h
      split at h
      · rename_i hl
        cases h
        exact lenOk_iff hl
      · cases h
theorem foldI {it : CI} {sc : Scope} {e : Expr} (h : chkI N T it sc e = true) (env : PySem.Env) : ∀ x, foldedSetIterable e env x = pure x := by
  cases it with
  | seq a => exact fold_of (show chkE N T a sc e = true by simpa [chkI] using h) env
  | rng1 a =>
    unfold chkI at h
    split at h
    · intro x; rfl
    · cases h
  | rng2 a b =>
    unfold chkI at h
    split at h
    · intro x; rfl
    · cases h
  | rng3 a b c => simp [chkI] at h
  | enum a => simp [chkI] at h
/-- an own list grows -/
theorem rep_grow {K : PySem.W.Frag} {A : Addr → Prop} {H : Hp} {D : Addr} {vs ws : List V} {d : Val} {w : V} (hD : H D = some (.lst vs)) (hA : A D) (h : Rep R.tok K A H d w) : Rep R.tok K A (upd H D (.lst ws)) d w := by
  refine Rep.ext (fun a us n q => ⟨n, ?_⟩) (fun a us q => ?_) d h
  · rw [upd_ne (fun z => n (by rw [z]; exact hA))]
    exact q
  · rw [upd_ne (ne_of q hD (fun z => by cases z))]
    exact q
theorem reps_grow {K : PySem.W.Frag} {A : Addr → Prop} {H : Hp} {D : Addr} {vs ws : List V} (hD : H D = some (.lst vs)) (hA : A D) : ∀ {d : List Val} {w : List V}, Reps R.tok K A H d w → Reps R.tok K A (upd H D (.lst ws)) d w
  | [], _, h => by
    simp only [Reps] at h ⊢
    exact h
  | d :: ds, _, h => by
    simp only [Reps] at h ⊢
    obtain ⟨v, r, e, h1, h2⟩ := h
    exact ⟨v, r, e, rep_grow hD hA h1, reps_grow hD hA h2⟩

theorem lc_go {X : Cx} {elt : CE} {tg : Tg} {it : CI} {cond : CEo} {own : List Nat} {ow : List Bool} {σ : L2.St} {H : Hp} {Q : VK} (ho : ∀ j ∈ tgIs tg, j ∈ own) (h : rdE F X.K ow (.lc elt tg it cond own) σ H Q) :
    tLc (rdI F X.K false ow it) (gT X.K tg) (rdC F X.K (wipeB ow own) cond) (rdE F X.K (wipeB ow own) elt) own σ H Q := by
  obtain ⟨A, env, s, d, s', er, ev, q⟩ := h
  simp only [evE] at ev
  obtain ⟨items, s1, h1, ev⟩ := bnd_some ev
  obtain ⟨ys, s5, h2, ev⟩ := bnd_some ev
  cases ev
  refine ⟨A, env, s, items, s1, er, h1, fun J H1 e1 i1 IT D hD => ?_⟩
  have er1 := er.ext e1 i1
  have nf : ¬ R.foot D := fun z => by
    obtain ⟨xs, e⟩ := R.lists _ _ i1 D z
    rw [hD] at e
    cases e
  have nA : ¬ A D := fun z => er1.ad D z hD
  have hlen := lcGo_len h2
  refine ⟨fun i m H2 => m + i = items.length ∧ ∃ sI dn vn rest, Ext R H1 H2 ∧ H2 D = some (.lst vn) ∧ Reps R.tok X.K (fun a => A a ∨ a = D) H2 dn vn ∧ R.inv sI H2 ∧ lcGo (fun x s2 => match setT tg x (wipeE env own) with
        | some env2 => bnd (evC F cond env2 s2) fun b s3 => if b = true then bnd (evE F elt env2 s3) fun y s4 => some (some y, s4) else some (none, s3)
        | none => none) (items.drop i) sI = some (rest, s') ∧ ys = dn ++ rest,
    ⟨items.length, by omega, s1, [], [], ys, ?_, upd_same, Reps.nil, R.stay _ _ _ i1 (fun b o _ z => same_new hD b o z), h2, rfl⟩, ?_⟩
  · exact Ext.of_same (same_new hD)
  · rintro i m H2 ⟨hm, sI, dn, vn, rest, e2, hd, hr, hi, hl, hy⟩
    have tr := IT i H2 (fun a => A a ∨ a = D) (fun a z => z.imp id (fun e => by subst e; exact hD)) e2
    by_cases hlt : i < items.length
    · obtain ⟨go, yl⟩ := tr.1 hlt
      refine .inr ⟨go, _, fun H' hN => ⟨m - 1, by omega, hN⟩, fun w H3 hyl => ?_⟩
      obtain ⟨dd, hdd, sm, hrep⟩ := yl w H3 hyl
      have hdrop : items.drop i = dd :: items.drop (i + 1) := by
        rw [List.drop_eq_getElem_cons hlt]
        rw [List.getElem?_eq_getElem hlt] at hdd
        rw [Option.some.inj hdd]
      rw [hdrop] at hl
      simp only [lcGo] at hl
      obtain ⟨y, s3, hf, hl⟩ := bnd_some hl
      obtain ⟨zs, s4, hz, hl⟩ := bnd_some hl
      split at hf
      · rename_i env2 hset
        have e3 : Ext R H1 H3 := e2.trans (Ext.of_same sm)
        have i3 : R.inv sI H3 := R.stay _ _ _ hi fun b o _ z => sm b o z
        have hd3 : H3 D = some (.lst vn) := sm _ _ hd
        have er3 := (er1.move (s' := sI) e3 i3 hD hd3).wipe own
        refine tg_go er3 hrep hset fun σ2 er4 hl2 hk => ⟨wipe_eq (by rw [hl2, wipe_length]) fun j hj => by rw [hk j (fun z => hj (ho j z)), wipe_get hj], ?_⟩
        obtain ⟨b, s6, hb, hf⟩ := bnd_some hf
        refine ⟨_, env2, sI, b, s6, er4, hb, fun H4 e4 i4 => ?_⟩
        have hd4 : H4 D = some (.lst vn) := e4 _ _ hd3 nf
        have hr4 : Reps R.tok X.K (fun a => A a ∨ a = D) H4 dn vn := ((hr.same sm).extR i3 e4 er4.fa)
        cases b with
        | true =>
          simp only [if_true] at hf ⊢
          obtain ⟨yv, s7, hy7, hf⟩ := bnd_some hf
          cases hf
          simp only at hl
          split at hl
          · rename_i hlo
            cases hl
            refine ⟨_, env2, s6, yv, s3, er4.ext e4 i4, hy7, fun u H5 e5 i5 r5 _ => ⟨vn, e5 _ _ hd4 nf, ?_, ?_⟩⟩
            · rw [hr4.len]
              rw [hy] at hlen
              simp only [List.length_append, List.length_cons] at hlen
              omega
            · have hd5 : H5 D = some (.lst vn) := e5 _ _ hd4 nf
              have hr5 := hr4.extR i4 e5 er4.fa
              refine ⟨by omega, s3, dn ++ [yv], vn ++ [u], zs, fun b o hb hn => ?_, upd_same, ?_, ?_, hz, by rw [hy]; simp⟩
              · rw [upd_ne (ne_of_none hb hD)]
                exact ((e3.trans e4).trans e5) b o hb hn
              · exact reps_grow hd5 (.inr rfl) (hr5.app (Reps.cons r5 Reps.nil))
              · refine R.stay _ _ _ i5 fun b o hb z => ?_
                rw [upd_ne (fun e => nf (by rw [← e]; exact hb))]
                exact z
          · cases hl
        | false =>
          simp only [Bool.false_eq_true, if_false] at hf ⊢
          cases hf
          simp only at hl
          cases hl
          exact ⟨by omega, s3, dn, vn, rest, e3.trans e4, hd4, hr4, i4, hz, hy⟩
      · cases hf
    · have hge : items.length ≤ i := by omega
      refine .inl ⟨tr.2 hge, ?_⟩
      rw [List.drop_of_length_le hge] at hl
      simp only [lcGo, Option.some.injEq, Prod.mk.injEq] at hl
      obtain ⟨rfl, rfl⟩ := hl
      rw [List.append_nil] at hy
      subst hy
      refine q _ H2 (e1.trans e2) hi ?_ fun _ l a _ z => ?_
      · simp only [Rep]
        exact ⟨D, vn, rfl, hd, nA, hr.mono fun a z => .inl z⟩
      · cases z
        exact fresh_back i1 e1 hD
theorem st_lc {elt : CE} {tg : Tg} {it : CI} {cond : CEo} {own : List Nat} (hE : St R F N T elt) (hI : StI R F N T it) (hC : StC R F N T cond) : St R F N T (.lc elt tg it cond own) := St.gen (fun X e hc => by
    cases e <;> simp only [chkE] at hc <;> first | (cases hc; done) | (intro _; rfl)) fun X e ow g hc hv => by
  unfold chkE at hc
  split at hc
  · simp only [Bool.and_eq_true, decide_eq_true_eq, List.all_eq_true, List.contains_iff_mem] at hc
    obtain ⟨⟨⟨⟨⟨⟨⟨rfl, c1⟩, c2⟩, c3⟩, c4⟩, c5⟩, c6⟩, c7⟩ := hc
    simp only [okV, Bool.and_eq_true] at hv
    have bo := blkOk_by c2
    rw [← g.N] at bo
    refine (pe_lc (te := rdE F X.K (wipeB ow own) elt) (tt := rdC F X.K (wipeB ow own) cond) (g := gT X.K tg) g.calm g.nd (hI X _ _ ow false g c3 (by simpa [okIm] using hv.1.1)) bo
      (fun s H C cl fp => tg_ok g.blk blk_tg c4) (fun s H C cl fp => hC _ _ (wipeB ow own) g.blk c6 hv.1.2) (fun s H C cl fp => (hE (X.blk s H _ (compEnvC _ cl C X.env) fp) _ (wipeB ow own) g.blk c7).1 hv.2) (foldI c3 X.env)).weak fun σ H Q h => ?_
    have z := lc_go (X := X) (by exact c5) h
    rw [g.N, c1]
    exact z
  · cases hc
end
end Itp

namespace Itp
open PySem PySem.Spec PyProof.Rows L2

section
variable {R : Res} {F : List (FS R.S)} {N : List Str} {T : Tb}
theorem st_false {ce : CE} (h : ∀ sc e, chkE N T ce sc e = false) : St R F N T ce := fun X e ow g hc => by rw [h] at hc; cases hc
theorem sti_false {ce : CI} (h : ∀ sc e, chkI N T ce sc e = false) : StI R F N T ce := fun X tg e ow vm g hc => by rw [h] at hc; cases hc
mutual
theorem soundE : ∀ ce : CE, St R F N T ce
  | .var i => st_var i
  | .int i => st_int i
  | .bl i => st_bl i
  | .non => st_non
  | .str i => st_str i
  | .bin op a b => st_bin (soundE a) (soundE b)
  | .neg a => st_neg (soundE a)
  | .not a => st_not (soundE a)
  | .cmp op a b => st_cmp (soundE a) (soundE b)
  | .chain op op' a b c => st_chain (soundE a) (soundE b) (soundE c)
  | .bool b es => st_bool (soundEs es)
  | .ife c a b => st_ife (soundE c) (soundE a) (soundE b)
  | .tup es => st_tup (soundEs es)
  | .lst es => st_lst (soundEs es)
  | .call f es => st_call (soundEs es)
  | .callk f es ks p => st_callk (soundKs ks)
  | .bi b es => st_bi (soundEs es)
  | .ix a b => st_ix (soundE a) (soundE b)
  | .sl a lo hi => st_sl (soundE a) (soundO lo) (soundO hi)
  | .rev a => st_rev (soundE a)
  | .lc elt tg it cond own => st_lc (soundE elt) (soundI it) (soundC cond)
  | .lc2 _ _ _ _ _ _ _ => st_false fun sc e => by simp [chkE]
theorem soundEs : ∀ ces : CEs, StEs R F N T ces
  | .nil => ste_nil
  | .cons c cs => ste_cons (soundE c) (soundEs cs)
theorem soundKs : ∀ ces : CEs, StKs R F N T ces
  | .nil => stk_nil
  | .cons c cs => stk_cons (soundE c) (soundKs cs)
theorem soundO : ∀ c : CEo, StO R F N T c
  | .none => sto_none
  | .some c => sto_some (soundE c)
theorem soundC : ∀ c : CEo, StC R F N T c
  | .none => stc_none
  | .some c => stc_some (soundE c)
theorem soundI : ∀ c : CI, StI R F N T c
  | .seq a => sti_seq (soundE a)
  | .rng1 a => sti_rng1 (soundE a)
  | .rng2 a b => sti_rng2 (soundE a) (soundE b)
  | .rng3 _ _ _ => sti_false fun sc e => by simp [chkI]
  | .enum _ => sti_false fun sc e => by simp [chkI]
end
end

/-! ### a list is not within itself -/
mutual
def vsize : Val → Nat
  | .tup xs => vsizes xs + 1
  | .lst xs => vsizes xs + 1
  | _ => 1
def vsizes : List Val → Nat
  | [] => 0
  | x :: xs => vsize x + vsizes xs
end
section
variable {tok : V} {K : PySem.W.Frag} {A A' : Addr → Prop} {H : Hp}
mutual
theorem size_uniq (ht : ∀ a, tok = .ref a → A a) (hT : ∀ a xs, tok = .ref a → H a ≠ some (.tup xs)) : ∀ (d d' : Val) {w : V}, Rep tok K A H d w → Rep tok K A H d' w → vsize d = vsize d'
  | .tup ds, d', w, h, h' => by
    simp only [Rep] at h
    obtain ⟨a, vs, rfl, hs, hr⟩ := h
    cases d' with
    | tup ds' =>
      simp only [Rep] at h'
      obtain ⟨a', vs', e, hs', hr'⟩ := h'
      cases e
      have := hs.symm.trans hs'
      cases this
      simp only [vsize]
      rw [sizes_uniq ht hT ds ds' hr hr']
    | lst ds' =>
      simp only [Rep] at h'
      obtain ⟨a', vs', e, hs', _⟩ := h'
      cases e
      rw [hs] at hs'
      cases hs'
    | tok => simp only [Rep] at h'; exact absurd hs (hT _ _ h'.symm)
    | _ => simp only [Rep] at h'; cases h'
  | .lst ds, d', w, h, h' => by
    simp only [Rep] at h
    obtain ⟨a, vs, rfl, hs, na, hr⟩ := h
    cases d' with
    | lst ds' =>
      simp only [Rep] at h'
      obtain ⟨a', vs', e, hs', _, hr'⟩ := h'
      cases e
      have := hs.symm.trans hs'
      cases this
      simp only [vsize]
      rw [sizes_uniq ht hT ds ds' hr hr']
    | tup ds' =>
      simp only [Rep] at h'
      obtain ⟨a', vs', e, hs', _⟩ := h'
      cases e
      rw [hs] at hs'
      cases hs'
    | tok => simp only [Rep] at h'; exact absurd (ht _ h'.symm) na
    | _ => simp only [Rep] at h'; cases h'
  | .tok, d', w, h, h' => by
    simp only [Rep] at h
    subst h
    cases d' with
    | tup ds' =>
      simp only [Rep] at h'
      obtain ⟨a', vs', e, hs', _⟩ := h'
      exact absurd hs' (hT _ _ e)
    | lst ds' =>
      simp only [Rep] at h'
      obtain ⟨a', vs', e, hs', na, _⟩ := h'
      exact absurd (ht _ e) na
    | _ => rfl
  | .non, d', w, h, h' => by simp only [Rep] at h; subst h; cases d' <;> simp only [Rep] at h' <;> first | rfl | (obtain ⟨_, _, e, _⟩ := h'; cases e)
  | .bl b, d', w, h, h' => by simp only [Rep] at h; subst h; cases d' <;> simp only [Rep] at h' <;> first | rfl | (obtain ⟨_, _, e, _⟩ := h'; cases e)
  | .int i, d', w, h, h' => by simp only [Rep] at h; subst h; cases d' <;> simp only [Rep] at h' <;> first | rfl | (obtain ⟨_, _, e, _⟩ := h'; cases e)
  | .str x, d', w, h, h' => by simp only [Rep] at h; subst h; cases d' <;> simp only [Rep] at h' <;> first | rfl | (obtain ⟨_, _, e, _⟩ := h'; cases e)
theorem sizes_uniq (ht : ∀ a, tok = .ref a → A a) (hT : ∀ a xs, tok = .ref a → H a ≠ some (.tup xs)) : ∀ (ds ds' : List Val) {ws : List V}, Reps tok K A H ds ws → Reps tok K A H ds' ws → vsizes ds = vsizes ds'
  | [], ds', ws, h, h' => by
    simp only [Reps] at h
    subst h
    cases ds' with
    | nil => rfl
    | cons d ds => simp only [Reps] at h'; obtain ⟨_, _, e, _⟩ := h'; cases e
  | d :: ds, ds', ws, h, h' => by
    simp only [Reps] at h
    obtain ⟨v, r, rfl, h1, h2⟩ := h
    cases ds' with
    | nil => simp only [Reps] at h'; cases h'
    | cons d' ds' =>
      simp only [Reps] at h'
      obtain ⟨v', r', e, h3, h4⟩ := h'
      cases e
      simp only [vsizes]
      rw [size_uniq ht hT d d' h1 h3, sizes_uniq ht hT ds ds' h2 h4]
end
mutual
theorem no_self (ht : ∀ a, tok = .ref a → A a) (hT : ∀ a xs, tok = .ref a → H a ≠ some (.tup xs)) {a : Addr} {vs : List V} {ds : List Val} (ha : H a = some (.lst vs)) (hr : Reps tok K A H ds vs) : ∀ (d : Val) {w : V}, vsize d ≤ vsizes ds → Rep tok K A H d w → Rep tok K (fun b => A b ∨ b = a) H d w
  | .tup es, w, hs, h => by
    simp only [Rep] at h ⊢
    simp only [vsize] at hs
    obtain ⟨b, us, e, h1, h2⟩ := h
    exact ⟨b, us, e, h1, no_selfs ht hT ha hr es (by omega) h2⟩
  | .lst es, w, hs, h => by
    simp only [Rep] at h ⊢
    simp only [vsize] at hs
    obtain ⟨b, us, e, h1, h2, h3⟩ := h
    refine ⟨b, us, e, h1, fun z => z.elim h2 fun z => ?_, no_selfs ht hT ha hr es (by omega) h3⟩
    subst z
    have z := ha.symm.trans h1
    cases z
    have := sizes_uniq ht hT _ _ hr h3
    omega
  | .tok, w, hs, h => by simp only [Rep] at h ⊢; exact h
  | .non, w, hs, h => by simp only [Rep] at h ⊢; exact h
  | .bl b, w, hs, h => by simp only [Rep] at h ⊢; exact h
  | .int i, w, hs, h => by simp only [Rep] at h ⊢; exact h
  | .str x, w, hs, h => by simp only [Rep] at h ⊢; exact h
theorem no_selfs (ht : ∀ a, tok = .ref a → A a) (hT : ∀ a xs, tok = .ref a → H a ≠ some (.tup xs)) {a : Addr} {vs : List V} {ds : List Val} (ha : H a = some (.lst vs)) (hr : Reps tok K A H ds vs) : ∀ (es : List Val) {ws : List V}, vsizes es ≤ vsizes ds → Reps tok K A H es ws → Reps tok K (fun b => A b ∨ b = a) H es ws
  | [], ws, hs, h => by simp only [Reps] at h ⊢; exact h
  | e :: es, ws, hs, h => by
    simp only [Reps] at h ⊢
    simp only [vsizes] at hs
    obtain ⟨v, r, e1, h1, h2⟩ := h
    exact ⟨v, r, e1, no_self ht hT ha hr e (by omega) h1, no_selfs ht hT ha hr es (by omega) h2⟩
end
end
end Itp

namespace Itp
open PySem PySem.Spec PyProof.Rows L2

section
variable {R : Res} {K : PySem.W.Frag}
abbrev Avoid (A0 : Addr → Prop) (M : Nat → Option Addr) : Addr → Prop := fun a => A0 a ∨ ∃ i, M i = some a
structure SRel (R : Res) (K : PySem.W.Frag) (A0 : Addr → Prop) (H0 : Hp) (ow : List Bool) (M : Nat → Option Addr) (env : Env) (s : R.S) (σ : L2.St) (H : Hp) : Prop where
  inv : R.inv s H
  len : env.length = σ.length
  ol : ow.length = env.length
  fa : ∀ a, R.foot a → A0 a
  al : ∀ a, A0 a → ∃ xs, H a = some (.lst xs)
  na : ∀ i a, M i = some a → ¬ A0 a
  ext : Ext R H0 H
  own : ∀ i a, M i = some a → ow.getD i false = true ∧ H0 a = none ∧ ∃ ds vs, getE env i = some (.lst ds) ∧ σ[i]? = some (some (.ref a)) ∧ H a = some (.lst vs) ∧ Reps R.tok K (Avoid A0 M) H ds vs
  inj : ∀ i j a, M i = some a → M j = some a → i = j
  slots : ∀ i d, getE env i = some d → M i = none → ∃ w, σ[i]? = some (some w) ∧ Rep R.tok K (Avoid A0 M) H d w
  has : ∀ i ds, ow.getD i false = true → getE env i = some (.lst ds) → ∃ a, M i = some a

variable {A0 : Addr → Prop} {H0 H H' : Hp} {ow ow' : List Bool} {M : Nat → Option Addr} {env : Env} {s s' : R.S} {σ : L2.St}
theorem SRel.erel (r : SRel R K A0 H0 ow M env s σ H) : ERel R K (Avoid A0 M) ow env s σ H := by
  refine ⟨r.inv, r.len, fun a z => .inl (r.fa a z), fun a z => ?_, fun i d h => ?_⟩
  · rcases z with z | ⟨i, z⟩
    · exact r.al a z
    · obtain ⟨_, _, ds, vs, _, _, e, _⟩ := r.own i a z
      exact ⟨vs, e⟩
  · cases hm : M i with
    | none =>
      obtain ⟨w, h1, h2⟩ := r.slots i d h hm
      exact ⟨w, h1, .inl h2, fun _ => h2⟩
    | some a =>
      obtain ⟨h1, h2, ds, vs, e1, e2, e3, e4⟩ := r.own i a hm
      rw [h] at e1
      cases e1
      exact ⟨_, e2, .inr ⟨ds, a, vs, rfl, rfl, e3, fun z => r.na i a hm (r.fa a z), e4⟩, fun z => by rw [h1] at z; cases z⟩
theorem SRel.exts (r : SRel R K A0 H0 ow M env s σ H) (e : Ext R H H') (hi : R.inv s' H') : SRel R K A0 H0 ow M env s' σ H' := by
  have fa : ∀ a, R.foot a → Avoid A0 M a := fun a z => .inl (r.fa a z)
  refine ⟨hi, r.len, r.ol, r.fa, fun a z => (r.erel.ext e hi).al a (.inl z), r.na, r.ext.trans e, fun i a h => ?_, r.inj, fun i d h hm => ?_, r.has⟩
  · obtain ⟨h1, h2, ds, vs, e1, e2, e3, e4⟩ := r.own i a h
    exact ⟨h1, h2, ds, vs, e1, e2, e _ _ e3 fun z => r.na i a h (r.fa a z), e4.extR r.inv e fa⟩
  · obtain ⟨w, h1, h2⟩ := r.slots i d h hm
    exact ⟨w, h1, h2.extR r.inv e fa⟩
/-- names are given up -/
theorem SRel.freeze (r : SRel R K A0 H0 ow M env s σ H) (hol : ow'.length = ow.length) (hle : ∀ i, ow'.getD i false = true → ow.getD i false = true) : ∃ M', SRel R K A0 H0 ow' M' env s σ H := by
  let M' : Nat → Option Addr := fun i => if ow'.getD i false = true then M i else none
  have hM : ∀ i a, M' i = some a → M i = some a ∧ ow'.getD i false = true := fun i a h => by
    simp only [M'] at h
    split at h
    · exact ⟨h, by assumption⟩
    · cases h
  have le : ∀ a, Avoid A0 M' a → Avoid A0 M a := fun a z => z.imp id fun ⟨i, h⟩ => ⟨i, (hM i a h).1⟩
  refine ⟨M', r.inv, r.len, by rw [hol, r.ol], r.fa, r.al, (fun i a h => r.na i a (hM i a h).1), r.ext, fun i a h => ?_, fun i j a h1 h2 => r.inj i j a (hM _ _ h1).1 (hM _ _ h2).1, fun i d h hm => ?_, fun i ds h1 h2 => ?_⟩
  · obtain ⟨h1, h2⟩ := hM i a h
    obtain ⟨_, h4, ds, vs, e1, e2, e3, e4⟩ := r.own i a h1
    exact ⟨h2, h4, ds, vs, e1, e2, e3, e4.mono le⟩
  · cases hq : M i with
    | none =>
      obtain ⟨w, h1, h2⟩ := r.slots i d h hq
      exact ⟨w, h1, h2.mono le⟩
    | some a =>
      obtain ⟨h1, h2, ds, vs, e1, e2, e3, e4⟩ := r.own i a hq
      rw [h] at e1
      cases e1
      refine ⟨_, e2, ?_⟩
      simp only [Rep]
      refine ⟨a, vs, rfl, e3, fun z => ?_, e4.mono le⟩
      rcases z with z | ⟨j, z⟩
      · exact r.na i a hq z
      · have hj := r.inj i j a hq (hM j a z).1
        subst hj
        rw [hm] at z
        cases z
  · obtain ⟨a, h3⟩ := r.has i ds (hle i h1) h2
    refine ⟨a, ?_⟩
    simp only [M']
    rw [if_pos h1, h3]
theorem getD_set {ow : List Bool} {i j : Nat} {b : Bool} : (ow.set i b).getD j false = if i = j ∧ i < ow.length then b else ow.getD j false := by
  rw [List.getD_eq_getElem?_getD, List.getD_eq_getElem?_getD, List.getElem?_set]
  by_cases h : i = j
  · subst h
    by_cases hl : i < ow.length
    · simp [hl]
    · simp [hl]
  · simp [h]
/-- a list does not hold itself -/
theorem own_reps (hi : R.inv s H) {A : Addr → Prop} (fa : ∀ a, R.foot a → A a) {a : Addr} {vs : List V} {ds : List Val} (ha : H a = some (.lst vs)) (hr : Reps R.tok K A H ds vs) : Reps R.tok K (fun b => A b ∨ b = a) H ds vs :=
  no_selfs (fun b z => fa b (R.tokf b z)) (fun b xs z z' => by
    obtain ⟨ys, e⟩ := R.lists s H hi b (R.tokf b z)
    rw [z'] at e
    cases e) ha hr ds (Nat.le_refl _) hr
/-- new lists are to be avoided, too -/
theorem SRel.grow (r : SRel R K A0 H0 ow M env s σ H) (e : Ext R H H') (hi : R.inv s' H') {P : Addr → Prop} (hP : ∀ a, P a → H a = none ∧ ∃ xs, H' a = some (.lst xs)) : SRel R K (fun a => A0 a ∨ P a) H0 ow M env s' σ H' := by
  have r1 := r.exts e hi
  have fa : ∀ a, R.foot a → Avoid A0 M a := fun a z => .inl (r.fa a z)
  have mv : ∀ {d : Val} {w : V}, Rep R.tok K (Avoid A0 M) H d w → Rep R.tok K (Avoid (fun a => A0 a ∨ P a) M) H' d w := fun {d w} h =>
    Rep.ext (fun c us n q => ⟨fun z => by
      rcases z with (z | z) | z
      · exact n (.inl z)
      · rw [(hP c z).1] at q; cases q
      · exact n (.inr z), e _ _ q fun z => n (fa _ z)⟩) (fun c us q => e _ _ q (R.notfoot r.inv q fun _ z => by cases z)) d h
  have mvs : ∀ {d : List Val} {w : List V}, Reps R.tok K (Avoid A0 M) H d w → Reps R.tok K (Avoid (fun a => A0 a ∨ P a) M) H' d w := fun {d w} h =>
    Reps.ext (fun c us n q => ⟨fun z => by
      rcases z with (z | z) | z
      · exact n (.inl z)
      · rw [(hP c z).1] at q; cases q
      · exact n (.inr z), e _ _ q fun z => n (fa _ z)⟩) (fun c us q => e _ _ q (R.notfoot r.inv q fun _ z => by cases z)) d h
  refine ⟨hi, r.len, r.ol, fun a z => .inl (r.fa a z), fun a z => z.elim (r1.al a) fun z => (hP a z).2, fun i a h z => z.elim (r.na i a h) fun z => ?_, r1.ext, fun i a h => ?_, r.inj, fun i d h hm => ?_, r.has⟩
  · obtain ⟨_, _, ds, vs, _, _, e3, _⟩ := r.own i a h
    rw [(hP a z).1] at e3
    cases e3
  · obtain ⟨h1, h2, ds, vs, e1, e2, e3, e4⟩ := r.own i a h
    exact ⟨h1, h2, ds, vs, e1, e2, e _ _ e3 fun z => r.na i a h (r.fa a z), mvs e4⟩
  · obtain ⟨w, h1, h2⟩ := r.slots i d h hm
    exact ⟨w, h1, mv h2⟩
theorem SRel.less {B : Addr → Prop} (r : SRel R K B H0 ow M env s σ H) (hB : ∀ a, A0 a → B a) (fa : ∀ a, R.foot a → A0 a) : SRel R K A0 H0 ow M env s σ H := by
  have le : ∀ a, Avoid A0 M a → Avoid B M a := fun a z => z.imp (hB a) id
  refine ⟨r.inv, r.len, r.ol, fa, fun a z => r.al a (hB a z), fun i a h z => r.na i a h (hB a z), r.ext, fun i a h => ?_, r.inj, fun i d h hm => ?_, r.has⟩
  · obtain ⟨h1, h2, ds, vs, e1, e2, e3, e4⟩ := r.own i a h
    exact ⟨h1, h2, ds, vs, e1, e2, e3, e4.mono le⟩
  · obtain ⟨w, h1, h2⟩ := r.slots i d h hm
    exact ⟨w, h1, h2.mono le⟩
/-- a new list is stored at a name that owns it -/
theorem SRel.put {B : Addr → Prop} (r : SRel R K B H0 ow M env s σ H) {i : Nat} {a : Addr} {ds : List Val} {vs : List V} (hB : ∀ c, B c → A0 c ∨ c = a) (hB' : ∀ c, A0 c → B c) (ha : B a) (fa : ∀ c, R.foot c → A0 c) (nA : ¬ A0 a) (h0 : H0 a = none)
    (hv : H a = some (.lst vs)) (hr : Reps R.tok K (Avoid B M) H ds vs) (hl : i < ow.length) :
    ∃ M', SRel R K A0 H0 (ow.set i true) M' (env.set i (some (.lst ds))) s (σ.set i (some (.ref a))) H ∧ ∀ c, Avoid A0 M' c → Avoid B M c := by
  have ol := r.ol
  have hil : i < env.length := by rw [← ol]; exact hl
  let M' : Nat → Option Addr := fun j => if j = i then some a else M j
  have hM : ∀ j c, M' j = some c → (j = i ∧ c = a) ∨ (j ≠ i ∧ M j = some c) := fun j c h => by
    simp only [M'] at h
    split at h
    · cases h; exact .inl ⟨by assumption, rfl⟩
    · exact .inr ⟨by assumption, h⟩
  have le : ∀ c, Avoid A0 M' c → Avoid B M c := fun c z => by
    rcases z with z | ⟨j, z⟩
    · exact .inl (hB' c z)
    · rcases hM j c z with ⟨_, z⟩ | ⟨_, z⟩
      · exact .inl (by rw [z]; exact ha)
      · exact .inr ⟨j, z⟩
  refine ⟨M', ⟨r.inv, by simp [r.len], by simp [ol], fa, fun c z => r.al c (hB' c z), fun j c h z => ?_, r.ext, fun j c h => ?_, fun j k c h1 h2 => ?_, fun j d' h hm => ?_, fun j ds' h1 h2 => ?_⟩, le⟩
  · rcases hM j c h with ⟨_, rfl⟩ | ⟨_, h⟩
    · exact nA z
    · exact r.na j c h (hB' c z)
  · rcases hM j c h with ⟨rfl, rfl⟩ | ⟨hj, h⟩
    · exact ⟨by rw [getD_set, if_pos ⟨rfl, hl⟩], h0, ds, vs, by rw [getE_set, if_pos ⟨rfl, hil⟩], by rw [List.getElem?_set_self (by rw [← r.len]; exact hil)], hv, hr.mono le⟩
    · obtain ⟨h1, h2, ds', vs', e1, e2, e3, e4⟩ := r.own j c h
      exact ⟨by rw [getD_set, if_neg (fun z => hj z.1.symm)]; exact h1, h2, ds', vs', by rw [getE_set, if_neg (fun z => hj z.1.symm)]; exact e1, by rw [List.getElem?_set_ne (Ne.symm hj)]; exact e2, e3, e4.mono le⟩
  · rcases hM j c h1 with ⟨q1, q2⟩ | ⟨q1, q2⟩ <;> rcases hM k c h2 with ⟨q3, q4⟩ | ⟨q3, q4⟩
    · rw [q1, q3]
    · subst q2
      exact absurd ha (r.na k c q4)
    · subst q4
      exact absurd ha (r.na j c q2)
    · exact r.inj j k c q2 q4
  · have hj : j ≠ i := fun z => by
      simp only [M', z, if_true] at hm
      cases hm
    rw [getE_set, if_neg (fun z => hj z.1.symm)] at h
    have hm' : M j = none := by simpa [M', hj] using hm
    obtain ⟨u, h1, h2⟩ := r.slots j d' h hm'
    exact ⟨u, by rw [List.getElem?_set_ne (Ne.symm hj)]; exact h1, h2.mono le⟩
  · by_cases hj : j = i
    · exact ⟨a, by simp [M', hj]⟩
    · rw [getD_set, if_neg (fun z => hj z.1.symm)] at h1
      rw [getE_set, if_neg (fun z => hj z.1.symm)] at h2
      obtain ⟨c, h3⟩ := r.has j ds' h1 h2
      exact ⟨c, by simp [M', hj, h3]⟩
/-- a name is stored, owning nothing (or no list comes) -/
theorem SRel.put0 (r : SRel R K A0 H0 ow M env s σ H) {i : Nat} {d : Val} {w : V} {b : Bool} (hr : Rep R.tok K (Avoid A0 M) H d w) (hb : b = false ∨ d.isLst = false) :
    ∃ M', SRel R K A0 H0 (ow.set i b) M' (env.set i (some d)) s (σ.set i (some w)) H ∧ ∀ c, Avoid A0 M' c → Avoid A0 M c := by
  have ol := r.ol
  let M' : Nat → Option Addr := fun j => if j = i then none else M j
  have hM : ∀ j c, M' j = some c → j ≠ i ∧ M j = some c := fun j c h => by
    simp only [M'] at h
    split at h
    · cases h
    · exact ⟨by assumption, h⟩
  have le : ∀ a, Avoid A0 M' a → Avoid A0 M a := fun a z => z.imp id fun ⟨j, h⟩ => ⟨j, (hM j a h).2⟩
  refine ⟨M', ⟨r.inv, by simp [r.len], by simp [ol], r.fa, r.al, fun j c h => r.na j c (hM j c h).2, r.ext, fun j c h => ?_, fun j k c h1 h2 => r.inj j k c (hM _ _ h1).2 (hM _ _ h2).2, fun j d' h hm => ?_, fun j ds' h1 h2 => ?_⟩, le⟩
  · obtain ⟨hj, h⟩ := hM j c h
    obtain ⟨h1, h2, ds', vs', e1, e2, e3, e4⟩ := r.own j c h
    exact ⟨by rw [getD_set, if_neg (fun z => hj z.1.symm)]; exact h1, h2, ds', vs', by rw [getE_set, if_neg (fun z => hj z.1.symm)]; exact e1, by rw [List.getElem?_set_ne (Ne.symm hj)]; exact e2, e3, e4.mono le⟩
  · rw [getE_set] at h
    split at h
    · rename_i hq
      obtain ⟨rfl, hq⟩ := hq
      cases h
      exact ⟨w, by rw [List.getElem?_set_self (by rw [← r.len]; exact hq)], hr.mono le⟩
    · rename_i hq
      by_cases hj : j = i
      · subst hj
        have hlt : ¬ j < env.length := fun z => hq ⟨rfl, z⟩
        unfold getE at h
        rw [List.getD_eq_getElem?_getD, List.getElem?_eq_none (by omega)] at h
        cases h
      · have hm' : M j = none := by simpa [M', hj] using hm
        obtain ⟨u, h1, h2⟩ := r.slots j d' h hm'
        exact ⟨u, by rw [List.getElem?_set_ne (Ne.symm hj)]; exact h1, h2.mono le⟩
  · by_cases hj : j = i
    · subst hj
      rw [getE_set] at h2
      rw [getD_set] at h1
      split at h2
      · rename_i hq
        rw [if_pos ⟨rfl, by rw [ol]; exact hq.2⟩] at h1
        cases h2
        rcases hb with hb | hb
        · rw [hb] at h1; cases h1
        · cases hb
      · rename_i hq
        have hlt : ¬ j < env.length := fun z => hq ⟨rfl, z⟩
        unfold getE at h2
        rw [List.getD_eq_getElem?_getD, List.getElem?_eq_none (by omega)] at h2
        cases h2
    · rw [getD_set, if_neg (fun z => hj z.1.symm)] at h1
      rw [getE_set, if_neg (fun z => hj z.1.symm)] at h2
      obtain ⟨c, h3⟩ := r.has j ds' h1 h2
      exact ⟨c, by simp [M', hj, h3]⟩
/-- a name is stored; b: it owns its list, which is new -/
theorem SRel.store (r : SRel R K A0 H0 ow M env s σ H) (e : Ext R H H') (hi : R.inv s' H') {i : Nat} {d : Val} {w : V} {b : Bool} (hr : Rep R.tok K (Avoid A0 M) H' d w) (hf : b = true → FreshTop H d w) (hl : i < ow.length ∨ b = false) :
    ∃ M', SRel R K A0 H0 (ow.set i b) M' (env.set i (some d)) s' (σ.set i (some w)) H' := by
  by_cases hc : b = true ∧ d.isLst = true
  · obtain ⟨rfl, hd⟩ := hc
    cases d <;> simp [Val.isLst] at hd
    rename_i ds
    simp only [Rep] at hr
    obtain ⟨a, vs, rfl, hv, na, hrs⟩ := hr
    have hna : H a = none := hf rfl ds a rfl rfl
    have hil : i < ow.length := by rcases hl with h | h; exact h; cases h
    have nA : ¬ A0 a := fun z => na (.inl z)
    have r1 := r.grow e hi (P := fun c => c = a) fun c z => by subst z; exact ⟨hna, vs, hv⟩
    obtain ⟨M', h1, _⟩ := r1.put (A0 := A0) (i := i) (a := a) (ds := ds) (vs := vs) (fun c z => z) (fun c z => .inl z) (.inr rfl) r.fa nA (fresh_back r.inv r.ext hna) hv
      ((own_reps hi (fun c z => .inl (r.fa c z)) hv hrs).mono fun c z => by
        rcases z with (z | z) | z
        · exact .inl (.inl z)
        · exact .inr z
        · exact .inl (.inr z)) hil
    exact ⟨M', h1⟩
  · obtain ⟨M', h1, _⟩ := (r.exts e hi).put0 (i := i) (b := b) hr (by
      cases b with
      | false => exact .inl rfl
      | true =>
        cases hd : d.isLst with
        | false => exact .inr rfl
        | true => exact absurd ⟨rfl, hd⟩ hc)
    exact ⟨M', h1⟩
/-- an owned list is changed -/
theorem SRel.change (r : SRel R K A0 H0 ow M env s σ H) {i : Nat} {a : Addr} {ds' : List Val} {vs' : List V} (hm : M i = some a) (hr : Reps R.tok K (Avoid A0 M) H ds' vs') :
    SRel R K A0 H0 ow M (env.set i (some (.lst ds'))) s σ (upd H a (.lst vs')) := by
  obtain ⟨h1, h2, ds, vs, e1, e2, e3, e4⟩ := r.own i a hm
  have hA : Avoid A0 M a := .inr ⟨i, hm⟩
  have nf : ¬ R.foot a := fun z => r.na i a hm (r.fa a z)
  have hil : i < env.length := by
    by_cases h : i < env.length
    · exact h
    · unfold getE at e1
      rw [List.getD_eq_getElem?_getD, List.getElem?_eq_none (by omega)] at e1
      cases e1
  refine ⟨R.stay _ _ _ r.inv fun b o hb z => by rw [upd_ne (fun z' => nf (by rw [← z']; exact hb))]; exact z, by simp [r.len], by simp [r.ol], r.fa, fun c z => ?_, r.na, fun b o hb hn => ?_, fun j c h => ?_, r.inj, fun j d h hmj => ?_, fun j es q1 q2 => ?_⟩
  · by_cases hc : c = a
    · subst hc; exact absurd z (r.na i c hm)
    · rw [upd_ne hc]; exact r.al c z
  · rw [upd_ne (ne_of_none hb h2)]
    exact r.ext b o hb hn
  · obtain ⟨q1, q2, es, us, f1, f2, f3, f4⟩ := r.own j c h
    by_cases hj : j = i
    · subst hj
      rw [hm] at h
      cases h
      exact ⟨q1, q2, ds', vs', by rw [getE_set, if_pos ⟨rfl, hil⟩], f2, upd_same, reps_grow e3 hA hr⟩
    · have hc : c ≠ a := fun z => hj (r.inj j i c h (by rw [z]; exact hm))
      exact ⟨q1, q2, es, us, by rw [getE_set, if_neg (fun z => hj z.1.symm)]; exact f1, f2, by rw [upd_ne hc]; exact f3, reps_grow e3 hA f4⟩
  · have hj : j ≠ i := fun z => by rw [z, hm] at hmj; cases hmj
    rw [getE_set, if_neg (fun z => hj z.1.symm)] at h
    obtain ⟨w, q1, q2⟩ := r.slots j d h hmj
    exact ⟨w, q1, rep_grow e3 hA q2⟩
  · by_cases hj : j = i
    · subst hj; exact ⟨a, hm⟩
    · rw [getE_set, if_neg (fun z => hj z.1.symm)] at q2
      exact r.has j es q1 q2
end
end Itp

namespace Itp
open PySem PySem.Spec PyProof.Rows L2

/-! ### statements: the own text stands for the text -/
def parNames (sc : Scope) (ts : List Expr) : List Str :=
  ts.filterMap fun
    | .Name id pos => if sc.names.lookup id == some .local && pos.line == (ts.head?.map (·.pos.line)).getD 0 then some id else none
    | _ => none
/-- whether a, b = x, y stores from the right -/
def swB (sc : Scope) (ts vs : List Expr) : Bool :=
  (ts.length == 2 || ts.length == 3) && vs.length == ts.length && (parNames sc ts).length == ts.length && (parNames sc ts).eraseDups.length == (parNames sc ts).length && !(vs.all (foldedForSure 8))
section
variable (N : List Str) (T : Tb)
mutual
def chkS : CS → Scope → Stmt → Bool
  | .asg i e, sc, st => match st with
    | .Assign [.Name x _] v _ => decide (N[i]? = some x) && locB sc x && chkE N T e sc v
    | _ => false
  | .asgT is e, sc, st => match st with
    | .Assign [.Tuple es _ _] v _ => chkG.chkGs N sc is es && chkE N T e sc v && (match v with | .Tuple .. => false | _ => true)
    | _ => false
  | .asgP is es, sc, st => match st with
    | .Assign [.Tuple ts _ _] (.Tuple vs _ _) _ => chkG.chkGs N sc is ts && decide (is.Nodup ∧ is.length ≤ 16) && chkEs N T es sc vs && (if swB sc ts vs then !(vs.all (constantsAlone 8)) && decide (parNames sc ts = is.map (fun (i : Nat) => (N[i]?).getD ("" : Str))) else true)
    | _ => false
  | .aug i op e, sc, st => match st with
    | .AugAssign (.Name x _) o v _ => decide (N[i]? = some x) && locB sc x && decide (o = pyOp op) && chkE N T e sc v
    | _ => false
  | .app i e, sc, st => match st with
    | .Expr (.Call (.Attribute (.Name x p1) nm apos) [v] [] cpos) _ => decide (nm = ("append" : Str)) && (apos.endLine == cpos.line) && chkE N T (.var i) sc (.Name x p1) && chkE N T e sc v
    | _ => false
  | .ext i e, sc, st => match st with
    | .Expr (.Call (.Attribute (.Name x p1) nm apos) [v] [] cpos) _ => decide (nm = ("extend" : Str)) && (apos.endLine == cpos.line) && chkE N T (.var i) sc (.Name x p1) && chkE N T e sc v
    | _ => false
  | .popS _, _, _ => false
  | .appPop _ _ _, _, _ => false
  | .asgPop _ _, _, _ => false
  | .seti _ _ _, _, _ => false
  | .ife c a b, sc, st => match st with
    | .If t x y _ => tOk c && chkE N T c sc t && chkSs a sc x && chkSs b sc y
    | _ => false
  | .whl c b, sc, st => match st with
    | .While t x [] _ => tOk c && chkE N T c sc t && chkSs b sc x
    | _ => false
  | .for tg it b, sc, st => match st with
    | .For g i x [] _ => chkG N sc tg g && chkI N T it sc i && chkSs b sc x
    | _ => false
  | .ret e, sc, st => match st with
    | .Return (some v) _ => chkE N T e sc v
    | _ => false
  | .retN, _, st => match st with
    | .Return none _ => true
    | _ => false
  | .brk, _, st => match st with
    | .Break _ => true
    | _ => false
  | .cnt, _, st => match st with
    | .Continue _ => true
    | _ => false
  | .pass, _, st => match st with
    | .Pass _ => true
    | _ => false
  | .nev, _, _ => true
def chkSs : CSs → Scope → List Stmt → Bool
  | .nil, _, ss => ss.isEmpty
  | .cons c cs, sc, ss => match ss with
    | s :: ss => chkS c sc s && chkSs cs sc ss
    | [] => false
end
end

/-! ### ownership through statements -/
section
variable (kd : List Kd)
mutual
/-- the names that are handed on are given up -/
def clr : CE → List Bool → List Bool
  | .var i, ow => ow.set i false
  | .int _, ow => ow | .bl _, ow => ow | .non, ow => ow | .str _, ow => ow
  | .bin _ a b, ow => (if isVar b then id else clr b) ((if isVar a then id else clr a) ow)
  | .neg a, ow => if isVar a then ow else clr a ow
  | .not a, ow => if isVar a then ow else clr a ow
  | .cmp _ a b, ow => (if isVar b then id else clr b) ((if isVar a then id else clr a) ow)
  | .chain _ _ a b c, ow => (if isVar c then id else clr c) ((if isVar b then id else clr b) ((if isVar a then id else clr a) ow))
  | .bool _ es, ow => clrs es ow
  | .ife c a b, ow => clr b (clr a ((if isVar c then id else clr c) ow))
  | .tup es, ow => clrs es ow
  | .lst es, ow => clrs es ow
  | .call f es, ow => if kd[f]? = some Kd.pure then clrPs es ow else clrs es ow
  | .callk f es ks _, ow => clrs ks (clrs es ow)
  | .bi _ es, ow => clrPs es ow
  | .ix a b, ow => (if isVar b then id else clr b) ((if isVar a then id else clr a) ow)
  | .sl a _ _, ow => if isVar a then ow else clr a ow
  | .rev a, ow => if isVar a then ow else clr a ow
  | .lc elt _ it cond _, ow => clr elt (clrI it ow)
  | .lc2 elt _ it _ it2 cond _, ow => clr elt (clrI it2 (clrI it ow))
def clrs : CEs → List Bool → List Bool
  | .nil, ow => ow
  | .cons e es, ow => clrs es (clr e ow)
def clrPs : CEs → List Bool → List Bool
  | .nil, ow => ow
  | .cons e es, ow => clrPs es (if isVar e then ow else clr e ow)
def clrI : CI → List Bool → List Bool
  | .seq e, ow => if isVar e then ow else clr e ow
  | _, ow => ow
end
def clrIm (it : CI) (ow : List Bool) : List Bool := match it with | .seq e => clr kd e ow | it => clrI kd it ow
def clrP (e : CE) (ow : List Bool) : List Bool := if isVar e then ow else clr kd e ow
def okP (e : CE) (ow : List Bool) : Bool := isVar e || okV kd e ow
/-- at most -/
def leB : List Bool → List Bool → Bool
  | [], [] => true
  | a :: as, b :: bs => (!a || b) && leB as bs
  | _, _ => false
def meetB (a b : List Bool) : List Bool := List.zipWith (· && ·) a b
def setFs : List Nat → List Bool → List Bool
  | [], ow => ow
  | i :: is, ow => setFs is (ow.set i false)
def setFr : List Nat → CEs → List Bool → List Bool
  | i :: is, .cons e es, ow => setFr is es (ow.set i (fresh kd e))
  | _, _, ow => ow
def ltAll : List Nat → Nat → Bool
  | [], _ => true
  | i :: is, n => decide (i < n) && ltAll is n
mutual
/-- who owns what behind a statement; rk: the def's kind; lo: what a loop asks at its next turn -/
def ck (rk : Kd) (lo : List Bool) : CS → List Bool → Option (List Bool)
  | .asg i e, ow => let o := clr kd e ow
    if okV kd e o && leB o ow && decide (i < ow.length) then some (o.set i (fresh kd e)) else none
  | .asgT is e, ow => let o := clr kd e ow
    if okV kd e o && leB o ow then some (setFs is o) else none
  | .asgP is es, ow => let o := clrs kd es ow
    if okVs kd es o && leB o ow && ltAll is ow.length then some (setFr kd is es o) else none
  | .aug i _ e, ow => let o := clrP kd e ow
    if okP kd e o && leB o ow then some (o.set i false) else none
  | .app i e, ow => let o := clr kd e ow
    if okV kd e o && leB o ow && o.getD i false then some o else none
  | .ext i e, ow => let o := clrP kd e ow
    if okP kd e o && leB o ow && o.getD i false then some o else none
  | .popS i, ow => if ow.getD i false then some ow else none
  | .appPop _ _ _, _ => none
  | .asgPop _ _, _ => none
  | .seti _ _ _, _ => none
  | .ife c a b, ow => let o := clrP kd c ow
    if okP kd c o && leB o ow then match cks rk lo a o, cks rk lo b o with
      | some x, some y => some (meetB x y)
      | _, _ => none
    else none
  | .whl c b, ow =>
    let f := fun o => match cks rk (List.replicate ow.length false) b (clrP kd c o) with | some r => meetB (meetB o (clrP kd c o)) r | none => o
    let o := f (f ow)
    let o1 := clrP kd c o
    if okP kd c o1 && leB o ow && leB o1 o then match cks rk o b o1 with
      | some r => if leB o r && leB o o1 then some o else none
      | none => none
    else none
  | .for tg it b, ow =>
    let oi := clrIm kd it ow
    let f := fun o => match cks rk (List.replicate ow.length false) b (setFs (tgIs tg) o) with | some r => meetB o r | none => o
    let o := f (f (setFs (tgIs tg) oi))
    if leB oi ow && okIm true kd it oi && leB o oi && (tgIs tg).all (fun i => !o.getD i false) then match cks rk o b o with
      | some r => if leB o r then some o else none
      | none => none
    else none
  | .ret e, ow => let o := clr kd e ow
    if okV kd e o && leB o ow && (rk != .fresh || fresh kd e || (match e with | .var i => ow.getD i false | _ => false)) then some (List.replicate ow.length true) else none
  | .retN, ow => some (List.replicate ow.length true)
  | .brk, ow => if leB lo ow then some (List.replicate ow.length true) else none
  | .cnt, ow => if leB lo ow then some (List.replicate ow.length true) else none
  | .pass, ow => some ow
  | .nev, ow => some (List.replicate ow.length true)
def cks (rk : Kd) (lo : List Bool) : CSs → List Bool → Option (List Bool)
  | .nil, ow => some ow
  | .cons s ss, ow => match ck rk lo s ow with
    | some o => cks rk lo ss o
    | none => none
end
end
end Itp

namespace Itp
open PySem PySem.Spec PyProof.Rows L2

theorem _root_.L2.PS.weak {X : Cx} {e : Stmt} {t t' : TS} (h : PS X e t) (hw : ∀ D σ H, t' D σ H → t D σ H) : PS X e t' := ⟨fun pins s σ H D I q => h.run pins s σ H D I (hw D σ H q)⟩
theorem _root_.L2.PSs.weak {X : Cx} {e : List Stmt} {t t' : TS} (h : PSs X e t) (hw : ∀ D σ H, t' D σ H → t D σ H) : PSs X e t' := ⟨fun pins s σ H D I q => h.run pins s σ H D I (hw D σ H q)⟩
theorem leB_of : ∀ {a b : List Bool}, leB a b = true → a.length = b.length ∧ ∀ i, a.getD i false = true → b.getD i false = true
  | [], [], _ => ⟨rfl, fun _ h => h⟩
  | [], _ :: _, h => by simp [leB] at h
  | _ :: _, [], h => by simp [leB] at h
  | a :: as, b :: bs, h => by
    simp only [leB, Bool.and_eq_true] at h
    obtain ⟨h1, h2⟩ := leB_of h.2
    refine ⟨by simp [h1], fun i hi => ?_⟩
    cases i with
    | zero =>
      simp only [List.getD_cons_zero] at hi ⊢
      cases b with
      | true => rfl
      | false => subst hi; simp at h
    | succ i =>
      simp only [List.getD_cons_succ] at hi ⊢
      exact h2 i hi
structure GoodS (R : Res) (F : List (FS R.S)) (N : List Str) (T : Tb) (X : Cx) : Prop where
  good : Good R F N T X
  kind : X.env.scope.kind = .function
  fn : ∀ x, X.fn x = true
  pass : PassesOwn (model X.prog X.w) X.A X.env X.xe

section
variable {R : Res} {K : PySem.W.Frag} {A0 : Addr → Prop} {H0 H Hs : Hp} {ow ow' : List Bool} {M M0 : Nat → Option Addr} {env env0 : Env} {s s0 : R.S} {σ σ0 : L2.St}
theorem SRel.le (r : SRel R K A0 H0 ow M env s σ H) (h : leB ow' ow = true) : ∃ M', SRel R K A0 H0 ow' M' env s σ H := r.freeze (leB_of h).1 (leB_of h).2
open Classical in
/-- what stands at a loop's start but the owned lists -/
noncomputable def base1 (M : Nat → Option Addr) (H : Hp) : Hp := fun b => if ∃ i, M i = some b then none else H b
theorem base1_some {b : Addr} {o : HO} (h : base1 M H b = some o) : H b = some o ∧ ∀ i, M i ≠ some b := by
  unfold base1 at h
  split at h
  · cases h
  · rename_i hn
    exact ⟨h, fun i z => hn ⟨i, z⟩⟩
theorem base1_of {b : Addr} {o : HO} (h : H b = some o) (hn : ∀ i, M i ≠ some b) : base1 M H b = some o := by
  unfold base1
  rw [if_neg (fun ⟨i, z⟩ => hn i z)]
  exact h
theorem base1_none {b : Addr} (h : base1 M H b = none) : H b = none ∨ ∃ i, M i = some b := by
  unfold base1 at h
  split at h
  · exact .inr (by assumption)
  · exact .inl h
theorem SRel.rebase (r : SRel R K A0 H0 ow M env s σ H) : SRel R K A0 (base1 M H) ow M env s σ H := by
  refine ⟨r.inv, r.len, r.ol, r.fa, r.al, r.na, fun b o h _ => (base1_some h).1, fun i a h => ?_, r.inj, r.slots, r.has⟩
  · obtain ⟨h1, h2, h3⟩ := r.own i a h
    refine ⟨h1, ?_, h3⟩
    unfold base1
    rw [if_pos ⟨i, h⟩]
theorem ext_back (r0 : SRel R K A0 H0 ow M0 env0 s0 σ0 Hs) (e : Ext R (base1 M0 Hs) H) : Ext R H0 H := fun b o hb hn => by
  refine e b o (base1_of (r0.ext b o hb hn) fun i z => ?_) hn
  rw [(r0.own i b z).2.1] at hb
  cases hb
theorem none_back (r0 : SRel R K A0 H0 ow M0 env0 s0 σ0 Hs) {a : Addr} (h : base1 M0 Hs a = none) : H0 a = none := by
  rcases base1_none h with h | ⟨i, h⟩
  · exact fresh_back r0.inv r0.ext h
  · exact (r0.own i a h).2.1
theorem SRel.back (r0 : SRel R K A0 H0 ow M0 env0 s0 σ0 Hs) (r : SRel R K A0 (base1 M0 Hs) ow' M env s σ H) : SRel R K A0 H0 ow' M env s σ H :=
  ⟨r.inv, r.len, r.ol, r.fa, r.al, r.na, ext_back r0 r.ext, fun i a h => let ⟨h1, h2, h3⟩ := r.own i a h; ⟨h1, none_back r0 h2, h3⟩, r.inj, r.slots, r.has⟩

def RetOk (R : Res) (K : PySem.W.Frag) (A0 : Addr → Prop) (H0 : Hp) (rk : Kd) (v : Val) (s : R.S) (w : V) (H : Hp) : Prop := Ext R H0 H ∧ R.inv s H ∧ Rep R.tok K A0 H v w ∧ (rk = .fresh → FreshTop H0 v w)
def Post (R : Res) (K : PySem.W.Frag) (ow lo : List Bool) (rk : Kd) (A0 : Addr → Prop) (H0 : Hp) (o : Out) (env : Env) (s : R.S) (D : Ends) : Prop :=
  match o with
  | .nx => ∀ M σ H, SRel R K A0 H0 ow M env s σ H → D.nx σ H
  | .bk => ∀ M σ H, SRel R K A0 H0 lo M env s σ H → D.bk σ H
  | .ct => ∀ M σ H, SRel R K A0 H0 lo M env s σ H → D.ct σ H
  | .rt v => ∀ w H, RetOk R K A0 H0 rk v s w H → D.rt w H
end
section
variable {R : Res} (F : List (FS R.S)) (K : PySem.W.Frag) (n : Nat)
def rdS (ow ow' lo : List Bool) (rk : Kd) (c : CS) : TS := fun D σ H => ∃ A0 H0 M env s o env' s', SRel R K A0 H0 ow M env s σ H ∧ exS F n c env s = some (o, env', s') ∧ Post R K ow' lo rk A0 H0 o env' s' D
def rdSs (ow ow' lo : List Bool) (rk : Kd) (c : CSs) : TS := fun D σ H => ∃ A0 H0 M env s o env' s', SRel R K A0 H0 ow M env s σ H ∧ exSs F n c env s = some (o, env', s') ∧ Post R K ow' lo rk A0 H0 o env' s' D
end

section
variable {R : Res} {F : List (FS R.S)} {N : List Str} {T : Tb} {n : Nat}
theorem GoodS.tg {X : Cx} (g : GoodS R F N T X) : TgSc X X.env.scope := fun x h => ⟨h, .inl (g.fn x)⟩
theorem GoodS.loc {X : Cx} (g : GoodS R F N T X) {x : Str} (h : locB X.env.scope x = true) : Loc X.env.scope x ∧ (X.fn x = true ∨ X.env.scope.names.lookup x = some .local) := ⟨locB_of h, .inl (g.fn x)⟩
theorem fnone {H : Hp} {d : Val} {w : V} : (false = true → FreshTop H d w) := fun h => by cases h
/-- the slots of a target, stored -/
theorem names_st {K : PySem.W.Frag} {A0 : Addr → Prop} {H0 : Hp} : ∀ {is : List Nat} {ds : List Val} {ws : List V} {ow : List Bool} {M : Nat → Option Addr} {env env2 : Env} {s : R.S} {σ : L2.St} {H : Hp} {Q : L2.St → Hp → Prop}, SRel R K A0 H0 ow M env s σ H → Reps R.tok K (Avoid A0 M) H ds ws → setAll is ds env = some env2 →
    (∀ M' σ', SRel R K A0 H0 (setFs is ow) M' env2 s σ' H → (∀ a, Avoid A0 M' a → Avoid A0 M a) → Q σ' H) → gNames is ws σ H Q
  | [], [], ws, ow, M, env, env2, s, σ, H, Q, r, hr, hs, q => by
    simp only [Reps] at hr
    simp only [setAll, Option.some.injEq] at hs
    subst hs
    exact ⟨hr, q M σ r fun _ z => z⟩
  | i :: is, d :: ds, ws, ow, M, env, env2, s, σ, H, Q, r, hr, hs, q => by
    simp only [Reps] at hr
    obtain ⟨w, rr, rfl, h1, h2⟩ := hr
    simp only [setAll] at hs
    refine ⟨w, rr, rfl, ?_⟩
    obtain ⟨M1, r1, le⟩ := r.put0 (i := i) (b := false) h1 (.inl rfl)
    exact names_st r1 (h2.mono le) hs fun M' σ' r' le' => q M' σ' r' fun a z => le a (le' a z)
  | [], _ :: _, _, _, _, _, _, _, _, _, _, _, _, hs, _ => by simp [setAll] at hs
  | _ :: _, [], _, _, _, _, _, _, _, _, _, _, _, hs, _ => by simp [setAll] at hs
end
end Itp

namespace Itp
open PySem PySem.Spec PyProof.Rows L2

section
variable {R : Res} {F : List (FS R.S)} {N : List Str} {T : Tb} {n : Nat}
def SSt (R : Res) (F : List (FS R.S)) (N : List Str) (T : Tb) (n : Nat) (c : CS) : Prop := ∀ (X : Cx) (st : Stmt) (ow ow' lo : List Bool) (rk : Kd), GoodS R F N T X → chkS N T c X.env.scope st = true → ck (kds F) rk lo c ow = some ow' → PS X st (rdS F X.K n ow ow' lo rk c)
def SSs (R : Res) (F : List (FS R.S)) (N : List Str) (T : Tb) (n : Nat) (c : CSs) : Prop := ∀ (X : Cx) (st : List Stmt) (ow ow' lo : List Bool) (rk : Kd), GoodS R F N T X → chkSs N T c X.env.scope st = true → cks (kds F) rk lo c ow = some ow' → PSs X st (rdSs F X.K n ow ow' lo rk c)

theorem sw_ne {e : Expr} {t : Option Expr} {l : Nat} {env : PySem.Env} (h : ∀ a b c d, e ≠ .ListComp a b c d) (h2 : ∀ a b c d, e ≠ .SetComp a b c d) (h3 : ∀ a b c d f, e ≠ .DictComp a b c d f) : swapsWith e t l env = pure false := by
  cases e <;> first
    | rfl
    | exact absurd rfl (h _ _ _ _)
    | exact absurd rfl (h2 _ _ _ _)
    | exact absurd rfl (h3 _ _ _ _ _)
theorem chk_setc {ce : CE} {sc : Scope} {a b c d} : chkE N T ce sc (.SetComp a b c d) = false := by cases ce <;> simp [chkE]
theorem chk_dictc {ce : CE} {sc : Scope} {a b c d f} : chkE N T ce sc (.DictComp a b c d f) = false := by cases ce <;> simp [chkE]
theorem sw_two {e : Expr} {x : Str} {p : Pos} {l : Nat} {env : PySem.Env} : swapsWith e (some (.Name x p)) l env = pure true ∨ swapsWith e (some (.Name x p)) l env = pure false := by
  cases e <;> first
    | exact .inr rfl
    | (rename_i a b sc d
       cases h : (env.blockKind == .function && env.kindOf x == some .local && p.line == d.line && !(sc.names.any fun (n, k) => n == x && (k == .local || k == .cell)))
       · right
         unfold swapsWith
         simp only [Expr.pos]
         show (pure (env.blockKind == .function && env.kindOf x == some .local && p.line == d.line && !(sc.names.any fun (n, k) => n == x && (k == .local || k == .cell))) : Sem Bool) = pure false
         rw [h]
       · left
         unfold swapsWith
         simp only [Expr.pos]
         show (pure (env.blockKind == .function && env.kindOf x == some .local && p.line == d.line && !(sc.names.any fun (n, k) => n == x && (k == .local || k == .cell))) : Sem Bool) = pure true
         rw [h])
    | (rename_i a a' b sc d
       cases h : (env.blockKind == .function && env.kindOf x == some .local && p.line == d.line && !(sc.names.any fun (n, k) => n == x && (k == .local || k == .cell)))
       · right
         unfold swapsWith
         simp only [Expr.pos]
         show (pure (env.blockKind == .function && env.kindOf x == some .local && p.line == d.line && !(sc.names.any fun (n, k) => n == x && (k == .local || k == .cell))) : Sem Bool) = pure false
         rw [h]
       · left
         unfold swapsWith
         simp only [Expr.pos]
         show (pure (env.blockKind == .function && env.kindOf x == some .local && p.line == d.line && !(sc.names.any fun (n, k) => n == x && (k == .local || k == .cell))) : Sem Bool) = pure true
         rw [h])
theorem sw_loc {a : Expr} {b : List Comprehension} {sc : Scope} {d : Pos} {x : Str} {p : Pos} {l : Nat} {env : PySem.Env} (hk : env.scope.kind = .function) (h : swapsWith (.ListComp a b sc d) (some (.Name x p)) l env = pure true) : env.scope.names.lookup x = some .local := by
  by_cases hl : env.scope.names.lookup x = some .local
  · exact hl
  · exfalso
    have h1 : (env.kindOf x == some .local) = false := by
      show (env.scope.names.lookup x == some .local) = false
      simpa using hl
    unfold swapsWith at h
    simp only [Expr.pos, h1, Bool.and_false, Bool.false_and] at h
    have h' : (pure false : Sem Bool) = pure true := h
    injection h' with h'
    cases h'
/-- the value of an assignment of a name -/
theorem ss_asg (i : Nat) (e : CE) : SSt R F N T n (.asg i e) := fun X st ow ow' lo rk g hc hk => by
  unfold chkS at hc
  split at hc
  · rename_i x p v pos
    simp only [Bool.and_eq_true, decide_eq_true_eq] at hc
    obtain ⟨⟨c1, c2⟩, c3⟩ := hc
    simp only [ck] at hk
    split at hk
    · rename_i hk'
      cases hk
      simp only [Bool.and_eq_true, decide_eq_true_eq] at hk'
      obtain ⟨⟨k1, k2⟩, k3⟩ := hk'
      have l := g.loc c2
      have hN : X.N[i]? = some x := by rw [g.good.N]; exact c1
      have fin : ∀ (D : Ends) (σ : L2.St) (H : Hp), rdS F X.K n ow ((clr (kds F) e ow).set i (fresh (kds F) e)) lo rk (.asg i e) D σ H → rdE F X.K (clr (kds F) e ow) e σ H (fun x H1 => gName i x σ H1 D.nx) := by
        rintro D σ H ⟨A0, H0, M, env, s, o, env', s', r, ex, q⟩
        obtain ⟨M1, r1⟩ := r.le k2
        simp only [exS] at ex
        obtain ⟨d, s1, h1, ex⟩ := bnd_some ex
        cases ex
        refine ⟨_, env, s, d, _, r1.erel, h1, fun w H1 e1 i1 p1 f1 => ?_⟩
        obtain ⟨M2, r2⟩ := r1.store e1 i1 (i := i) p1 f1 (.inl (by rw [(leB_of k2).1]; exact k3))
        exact q M2 _ H1 r2
      rcases sw_two (e := v) (x := x) (p := p) (l := pos.line) (env := X.env) with hs | hs
      · -- a comprehension stored from its frame
        have key : ∃ a b c d, v = .ListComp a b c d := by
          cases v <;> first
            | exact ⟨_, _, _, _, rfl⟩
            | (rw [chk_setc] at c3; cases c3)
            | (rw [chk_dictc] at c3; cases c3)
            | (exfalso
               have h' : (pure false : Sem Bool) = pure true := hs
               injection h' with h'
               cases h')
        obtain ⟨elt, gs, scope, vp, rfl⟩ := key
        cases e <;> simp only [chkE] at c3 <;> try (cases c3; done)
        rename_i elt' tg it cond own
        split at c3
        · rename_i x2 g2 i2 ifs asy scope2 pos2 heq
          cases heq
          simp only [Bool.and_eq_true, decide_eq_true_eq, List.all_eq_true, List.contains_iff_mem] at c3
          obtain ⟨⟨⟨⟨⟨⟨⟨rfl, d1⟩, d2⟩, d3⟩, d4⟩, d5⟩, d6⟩, d7⟩ := c3
          have hv := k1
          simp only [okV, Bool.and_eq_true] at hv
          have bo := blkOk_by d2
          rw [← g.good.N] at bo
          refine (ps_setLc (te := rdE F X.K (wipeB (clr (kds F) (.lc elt' tg it cond own) ow) own) elt') (tt := rdC F X.K (wipeB (clr (kds F) (.lc elt' tg it cond own) ow) own) cond) (g := gT X.K tg) g.good.calm g.good.nd hN (sw_loc g.kind hs) hs (soundI it X _ _ (clr (kds F) (.lc elt' tg it cond own) ow) false g.good d3 (by simpa [okIm] using hv.1.1)) bo
            (fun s H C cl fp => tg_ok g.good.blk blk_tg d4) (fun s H C cl fp => soundC cond _ _ (wipeB (clr (kds F) (.lc elt' tg it cond own) ow) own) g.good.blk d6 hv.1.2) (fun s H C cl fp => (soundE elt' (X.blk s H _ (compEnvC _ cl C X.env) fp) _ (wipeB (clr (kds F) (.lc elt' tg it cond own) ow) own) g.good.blk d7).1 hv.2) (foldI d3 X.env)).weak fun D σ H h => ?_
          have z := lc_go (X := X) (by exact d5) (fin D σ H h)
          rw [g.good.N, d1]
          exact z
        · cases c3
      · exact (ps_set g.good.nd hN l.1 ((soundE e X v (clr (kds F) e ow) g.good c3).1 k1) hs l.2).weak fun D σ H h => fin D σ H h
    · cases hk
  · cases hc
theorem ss_aug (i : Nat) (op : BOp) (e : CE) : SSt R F N T n (.aug i op e) := fun X st ow ow' lo rk g hc hk => by
  unfold chkS at hc
  split at hc
  · rename_i x p o v pos
    simp only [Bool.and_eq_true, decide_eq_true_eq] at hc
    obtain ⟨⟨⟨c1, c2⟩, rfl⟩, c3⟩ := hc
    simp only [ck] at hk
    split at hk
    · rename_i hk'
      cases hk
      simp only [Bool.and_eq_true, decide_eq_true_eq] at hk'
      obtain ⟨k1, k2⟩ := hk'
      have l := g.loc c2
      have hN : X.N[i]? = some x := by rw [g.good.N]; exact c1
      have go : ∀ {f : Int → Int → Int} (hp : PIp X (pyOp op) (ipI f)) (hop : ∀ (env : Env) (s : R.S) (r : Out × Env × R.S), exS F n (.aug i op e) env s = some r → ∃ a b s1, getE env i = some (.int a) ∧ evE F e env s = some (.int b, s1) ∧ r = (.nx, env.set i (some (.int (f a b))), s1)),
          PS X (.AugAssign (.Name x p) (pyOp op) v pos) (rdS F X.K n ow ((clrP (kds F) e ow).set i false) lo rk (.aug i op e)) := fun {f} hp hop => by
        refine (ps_aug g.good.nd hN l.1 ((soundE e).pk g.good c3 k1) hp l.2).weak fun D σ H => ?_
        rintro ⟨A0, H0, M, env, s, o, env', s', r, ex, q⟩
        obtain ⟨M1, r1⟩ := r.le k2
        obtain ⟨a, b, s1, h1, h2, h3⟩ := hop env s _ ex
        cases h3
        obtain ⟨w, h4, h5, h6⟩ := r1.erel.slots i _ h1
        refine ⟨w, h4, _, env, s, _, _, r1.erel, h2, fun u H1 e1 i1 p1 => ⟨a, b, h5.int, p1.int, ?_⟩⟩
        obtain ⟨M2, r2⟩ := r1.store e1 i1 (i := i) (d := .int (f a b)) (w := .int (f a b)) (b := false) rep_int fnone (.inr rfl)
        exact q M2 _ H1 r2
      have nop : ∀ (env : Env) (s : R.S) (r : Out × Env × R.S), exS F n (.aug i op e) env s = some r → op = .add ∨ op = .sub := fun env s r h => by
        simp only [exS] at h
        split at h
        · obtain ⟨v, s1, h1, h⟩ := bnd_some h
          split at h
          · exact .inl rfl
          · exact .inr rfl
          · cases h
        · cases h
      cases op with
      | add =>
        refine go ip_add fun env s r h => ?_
        simp only [exS] at h
        split at h
        · rename_i a ha
          obtain ⟨v, s1, h1, h⟩ := bnd_some h
          split at h
          · cases h; exact ⟨a, _, s1, ha, h1, rfl⟩
          · exact absurd (show BOp.add = BOp.sub by assumption) (by decide)
          · cases h
        · cases h
      | sub =>
        refine go ip_sub fun env s r h => ?_
        simp only [exS] at h
        split at h
        · rename_i a ha
          obtain ⟨v, s1, h1, h⟩ := bnd_some h
          split at h
          · exact absurd (show BOp.sub = BOp.add by assumption) (by decide)
          · cases h; exact ⟨a, _, s1, ha, h1, rfl⟩
          · cases h
        · cases h
      | _ =>
        refine ⟨fun pins s σ H D I hq => ?_⟩
        obtain ⟨A0, H0, M, env, s, o, env', s', r, ex, q⟩ := hq
        rcases nop env s _ ex with z | z <;> cases z
    · cases hk
  · cases hc
theorem ss_ret (e : CE) : SSt R F N T n (.ret e) := fun X st ow ow' lo rk g hc hk => by
  unfold chkS at hc
  split at hc
  · rename_i v pos
    simp only [ck, Option.ite_none_right_eq_some, Option.some.injEq] at hk
    obtain ⟨hk', rfl⟩ := hk
    · simp only [Bool.and_eq_true, Bool.or_eq_true, bne_iff_ne, ne_eq] at hk'
      obtain ⟨⟨k1, k2⟩, k3⟩ := hk'
      by_cases hi : ∃ i, e = .var i
      · obtain ⟨i, rfl⟩ := hi
        cases v <;> simp only [chkE] at hc <;> try (cases hc; done)
        rename_i x xp
        simp only [Bool.and_eq_true, decide_eq_true_eq, okName] at hc
        refine (ps_ret (pe_var (i := i) (by rw [g.good.N]; exact hc.1.1) (visB_of hc.1.2) hc.2.1 hc.2.2)).weak fun D σ H => ?_
        rintro ⟨A0, H0, M, env, s, o, env', s', r, ex, q⟩
        obtain ⟨M1, r1⟩ := r.le k2
        simp only [exS, evE] at ex
        obtain ⟨d, s1, h1, ex⟩ := bnd_some ex
        cases ex
        simp only [Option.map_eq_some_iff] at h1
        obtain ⟨d', h2, h3⟩ := h1
        cases h3
        obtain ⟨w, h4, h5, h6⟩ := r1.erel.slots i _ h2
        refine ⟨w, h4, q w H ⟨r.ext, r.inv, (h6 (by simpa [okV] using k1)).mono fun a z => .inl z, fun hr l a z1 z2 => ?_⟩⟩
        subst z1 z2
        rcases k3 with (k3 | k3) | k3
        · exact absurd hr k3
        · simp [fresh] at k3
        · obtain ⟨b, hb⟩ := r.has i l k3 h2
          obtain ⟨_, h0, ds, vs, g1, g2, g3, _⟩ := r.own i b hb
          rw [h4] at g2
          cases g2
          exact h0
      · refine (ps_ret ((soundE e X v (clr (kds F) e ow) g.good hc).1 k1)).weak fun D σ H => ?_
        rintro ⟨A0, H0, M, env, s, o, env', s', r, ex, q⟩
        obtain ⟨M1, r1⟩ := r.le k2
        simp only [exS] at ex
        obtain ⟨d, s1, h1, ex⟩ := bnd_some ex
        cases ex
        refine ⟨_, env, s, d, _, r1.erel, h1, fun w H1 e1 i1 p1 f1 => q w H1 ⟨r.ext.trans e1, i1, p1.mono fun a z => .inl z, fun hr l a z1 z2 => ?_⟩⟩
        rcases k3 with (k3 | k3) | k3
        · exact absurd hr k3
        · exact fresh_back r.inv r.ext (f1 k3 l a z1 z2)
        · cases e <;> simp only [Bool.false_eq_true] at k3
          exact absurd ⟨_, rfl⟩ hi
  · cases hc
theorem ss_small : SSt R F N T n .retN ∧ SSt R F N T n .brk ∧ SSt R F N T n .cnt ∧ SSt R F N T n .pass ∧ SSt R F N T n .nev := by
  refine ⟨fun X st ow ow' lo rk g hc hk => ?_, fun X st ow ow' lo rk g hc hk => ?_, fun X st ow ow' lo rk g hc hk => ?_, fun X st ow ow' lo rk g hc hk => ?_, fun X st ow ow' lo rk g hc hk => ?_⟩
  · unfold chkS at hc
    split at hc
    · refine ps_retN.weak fun D σ H => ?_
      rintro ⟨A0, H0, M, env, s, o, env', s', r, ex, q⟩
      simp only [exS] at ex
      cases ex
      exact q _ H ⟨r.ext, r.inv, by simp only [Rep], fun _ l a z => by cases z⟩
    · cases hc
  · unfold chkS at hc
    split at hc
    · simp only [ck] at hk
      split at hk
      · rename_i k1
        refine ps_break.weak fun D σ H => ?_
        rintro ⟨A0, H0, M, env, s, o, env', s', r, ex, q⟩
        simp only [exS] at ex
        cases ex
        obtain ⟨M1, r1⟩ := r.le k1
        exact q M1 σ H r1
      · cases hk
    · cases hc
  · unfold chkS at hc
    split at hc
    · simp only [ck] at hk
      split at hk
      · rename_i k1
        refine ps_continue.weak fun D σ H => ?_
        rintro ⟨A0, H0, M, env, s, o, env', s', r, ex, q⟩
        simp only [exS] at ex
        cases ex
        obtain ⟨M1, r1⟩ := r.le k1
        exact q M1 σ H r1
      · cases hk
    · cases hc
  · unfold chkS at hc
    split at hc
    · simp only [ck] at hk
      cases hk
      refine ps_pass.weak fun D σ H => ?_
      rintro ⟨A0, H0, M, env, s, o, env', s', r, ex, q⟩
      simp only [exS] at ex
      cases ex
      exact q M σ H r
    · cases hc
  · refine ⟨fun pins s σ H D I hq => ?_⟩
    obtain ⟨A0, H0, M, env, s, o, env', s', r, ex, q⟩ := hq
    simp only [exS] at ex
    cases ex
/-- a list of one's own grows -/
theorem ss_app (i : Nat) (e : CE) : SSt R F N T n (.app i e) := fun X st ow ow' lo rk g hc hk => by
  unfold chkS at hc
  split at hc
  · rename_i x p1 nm apos v cpos pos
    simp only [Bool.and_eq_true, decide_eq_true_eq] at hc
    obtain ⟨⟨⟨rfl, c2⟩, c3⟩, c4⟩ := hc
    simp only [ck] at hk
    split at hk
    · rename_i hk'
      cases hk
      simp only [Bool.and_eq_true, decide_eq_true_eq] at hk'
      obtain ⟨⟨k1, k2⟩, k3⟩ := hk'
      have pv := pk_var (ow := clr (kds F) e ow) g.good c3
      have c3' := c3
      simp only [chkE, Bool.and_eq_true, decide_eq_true_eq, okName] at c3'
      have pn := pe_var (X := X) (i := i) (pos := p1) (by rw [g.good.N]; exact c3'.1.1) (visB_of c3'.1.2) c3'.2.1 c3'.2.2
      refine (ps_expr (pe_bm PySem.F.plainAttrs_list PySem.F.slot_list_append PySem.F.type_list_append mt_append pn (pa_cons ((soundE e X v (clr (kds F) e ow) g.good c4).1 k1) pa_nil (star_of c4 _ _)) rfl (by rw [star_of c4]; rfl) c2 (star_of c4 _ _) rfl)).weak fun D σ H => ?_
      rintro ⟨A0, H0, M, env, s, o, env', s', r, ex, q⟩
      obtain ⟨M1, r1⟩ := r.le k2
      simp only [exS] at ex
      obtain ⟨d, s1, h1, ex⟩ := bnd_some ex
      split at ex
      · rename_i xs hx
        split at ex
        · rename_i hlo
          cases ex
          obtain ⟨a, ha⟩ := r1.has i xs k3 hx
          obtain ⟨_, h0, ds, vs, g1, g2, g3, g4⟩ := r1.own i a ha
          rw [hx] at g1
          cases g1
          refine ⟨_, g2, .inl ⟨rfl, vs, SqL.of g3⟩, _, env, s, d, _, r1.erel, h1, fun w H1 e1 i1 q1 _ => ?_⟩
          have r2 := r1.exts e1 i1
          obtain ⟨_, _, ds', vs', g1', g2', g3', g4'⟩ := r2.own i a ha
          rw [hx] at g1'
          cases g1'
          have hvv : vs' = vs := by
            have z := e1 _ _ g3 fun z => r1.na i a ha (r1.fa a z)
            rw [g3'] at z
            cases z
            rfl
          subst hvv
          refine ⟨a, vs', w, rfl, rfl, g3', ?_, ?_⟩
          · rw [g4'.len]
            have := lenOk_iff hlo
            omega
          · exact q M1 σ _ (r2.change ha (g4'.app (Reps.cons q1 Reps.nil)))
        · cases ex
      · cases ex
    · cases hk
  · cases hc
theorem ss_ext (i : Nat) (e : CE) : SSt R F N T n (.ext i e) := fun X st ow ow' lo rk g hc hk => by
  unfold chkS at hc
  split at hc
  · rename_i x p1 nm apos v cpos pos
    simp only [Bool.and_eq_true, decide_eq_true_eq] at hc
    obtain ⟨⟨⟨rfl, c2⟩, c3⟩, c4⟩ := hc
    simp only [ck] at hk
    split at hk
    · rename_i hk'
      cases hk
      simp only [Bool.and_eq_true, decide_eq_true_eq] at hk'
      obtain ⟨⟨k1, k2⟩, k3⟩ := hk'
      have c3' := c3
      simp only [chkE, Bool.and_eq_true, decide_eq_true_eq, okName] at c3'
      have pn := pe_var (X := X) (i := i) (pos := p1) (by rw [g.good.N]; exact c3'.1.1) (visB_of c3'.1.2) c3'.2.1 c3'.2.2
      refine (ps_expr (pe_bm PySem.F.plainAttrs_list PySem.F.slot_list_extend PySem.F.type_list_extend mt_extend pn (pa_cons ((soundE e).pk g.good c4 k1) pa_nil (star_of c4 _ _)) rfl (by rw [star_of c4]; rfl) c2 (star_of c4 _ _) rfl)).weak fun D σ H => ?_
      rintro ⟨A0, H0, M, env, s, o, env', s', r, ex, q⟩
      obtain ⟨M1, r1⟩ := r.le k2
      simp only [exS] at ex
      obtain ⟨d, s1, h1, ex⟩ := bnd_some ex
      split at ex
      · rename_i xs ys hx
        split at ex
        · rename_i hlo
          cases ex
          obtain ⟨a, ha⟩ := r1.has i xs k3 hx
          obtain ⟨_, h0, ds, vs, g1, g2, g3, g4⟩ := r1.own i a ha
          rw [hx] at g1
          cases g1
          refine ⟨_, g2, .inl ⟨rfl, vs, SqL.of g3⟩, _, env, s, _, _, r1.erel, h1, fun w H1 e1 i1 q1 => ?_⟩
          have r2 := r1.exts e1 i1
          obtain ⟨_, _, ds', vs', g1', g2', g3', g4'⟩ := r2.own i a ha
          rw [hx] at g1'
          cases g1'
          have hvv : vs' = vs := by
            have z := e1 _ _ g3 fun z => r1.na i a ha (r1.fa a z)
            rw [g3'] at z
            cases z
            rfl
          subst hvv
          obtain ⟨b, us, rfl, hb, nb, hr⟩ := q1.lst r1.erel.fa
          refine ⟨a, b, vs', us, rfl, rfl, g3', hb, ?_, ?_⟩
          · rw [g4'.len, hr.len]
            exact lenOk_iff hlo
          · exact q M1 σ _ (r2.change ha (g4'.app hr))
        · cases ex
      · cases ex
    · cases hk
  · cases hc
end
end Itp

namespace Itp
open PySem PySem.Spec PyProof.Rows L2

section
variable {R : Res} {F : List (FS R.S)} {N : List Str} {T : Tb} {n : Nat}
theorem ss_asgT (is : List Nat) (e : CE) : SSt R F N T n (.asgT is e) := fun X st ow ow' lo rk g hc hk => by
  unfold chkS at hc
  split at hc
  · rename_i es kt tp v pos
    simp only [Bool.and_eq_true] at hc
    obtain ⟨⟨c1, c2⟩, c3⟩ := hc
    simp only [ck, Option.ite_none_right_eq_some, Option.some.injEq] at hk
    obtain ⟨hk', rfl⟩ := hk
    simp only [Bool.and_eq_true] at hk'
    obtain ⟨k1, k2⟩ := hk'
    obtain ⟨p1, p2, p3⟩ := tgs_ok g.good g.tg c1
    have hs : swapsWithSole [.Tuple es kt tp] v pos.line X.env = pure false := by
      show swapsWith v (some (.Tuple es kt tp)) pos.line X.env = pure false
      cases v <;> rfl
    have hw : swappedStores [.Tuple es kt tp] v X.env = pure none := by
      cases v <;> first
        | rfl
        | (simp at c3)
    refine (ps_asg ((soundE e X v (clr (kds F) e ow) g.good c2).1 k1) (pg_tup g.good.calm p1 p2 p3) hs hw).weak fun D σ H => ?_
    rintro ⟨A0, H0, M, env, s, o, env', s', r, ex, q⟩
    obtain ⟨M1, r1⟩ := r.le k2
    simp only [exS] at ex
    obtain ⟨d, s1, h1, ex⟩ := bnd_some ex
    refine ⟨_, env, s, d, _, r1.erel, h1, fun w H1 e1 i1 q1 _ => ?_⟩
    split at ex
    · rename_i vs
      simp only [Option.map_eq_some_iff] at ex
      obtain ⟨env2, h2, h3⟩ := ex
      cases h3
      simp only [Rep] at q1
      obtain ⟨a, us, rfl, ha, hr⟩ := q1
      have hl : ∀ {is : List Nat} {ds : List Val} {env : Env}, setAll is ds env = some env' → ds.length = is.length := by
        intro is
        induction is with
        | nil => intro ds env h; cases ds <;> simp [setAll] at h <;> rfl
        | cons i is ih => intro ds env h; cases ds with
          | nil => simp [setAll] at h
          | cons d ds => simp only [setAll] at h; simp [ih h]
      exact ⟨a, us, rfl, SqT.of ha, by rw [hr.len, hl h2], names_st (r1.exts e1 i1) hr h2 fun M' σ' r' _ => q M' σ' H1 r'⟩
    · cases ex
  · cases hc

/-! several names at once -/
theorem setFs_len : ∀ (is : List Nat) (ow : List Bool), (setFs is ow).length = ow.length
  | [], _ => rfl
  | i :: is, ow => by unfold setFs; rw [setFs_len is]; simp
theorem names_stF {K : PySem.W.Frag} {A0 : Addr → Prop} {H0 H H' : Hp} (fa : ∀ a, R.foot a → A0 a) : ∀ {is : List Nat} {ces : CEs} {ds : List Val} {ws : List V} {ow : List Bool} {M : Nat → Option Addr} {env env2 : Env} {s : R.S} {σ : L2.St} {U : Addr → Prop} {Q : L2.St → Hp → Prop},
    SRel R K (fun a => A0 a ∨ FrS F ces ds ws a) H0 ow M env s σ H' → (∀ a, Avoid A0 M a → U a) → RepsF F K H H' U ces ds ws → (∀ a, FrS F ces ds ws a → H0 a = none ∧ ¬ A0 a) → ltAll is ow.length = true → setAll is ds env = some env2 →
    (∀ M' σ', SRel R K A0 H0 (setFr (kds F) is ces ow) M' env2 s σ' H' → Q σ' H') → gNames is ws σ H' Q
  | [], ces, [], ws, ow, M, env, env2, s, σ, U, Q, r, hU, hr, hP, hl, hs, q => by
    cases ces with
    | cons e es => obtain ⟨d, ds', w, ws', e1, _⟩ := hr; cases e1
    | nil =>
      obtain ⟨_, rfl⟩ := hr
      simp only [setAll, Option.some.injEq] at hs
      subst hs
      exact ⟨rfl, q M σ (r.less (fun a z => .inl z) fa)⟩
  | i :: is, ces, d :: ds, ws, ow, M, env, env2, s, σ, U, Q, r, hU, hr, hP, hl, hs, q => by
    cases ces with
    | nil => obtain ⟨e1, _⟩ := hr; cases e1
    | cons e es =>
      obtain ⟨d', ds', w, ws', e1, rfl, h1, h2, h3⟩ := hr
      cases e1
      simp only [setAll] at hs
      simp only [ltAll, Bool.and_eq_true, decide_eq_true_eq] at hl
      refine ⟨w, ws', rfl, ?_⟩
      show gNames is ws' (σ.set i (some w)) H' Q
      by_cases hc : fresh (kds F) e = true ∧ d.isLst = true
      · obtain ⟨hf, hd⟩ := hc
        cases d <;> simp [Val.isLst] at hd
        rename_i l
        simp only [Rep] at h1
        obtain ⟨a, vs, rfl, hv, na, hrs⟩ := h1
        have hPa := hP a (.inl ⟨hf, rfl, rfl⟩)
        have el : ∀ c, FrS F (.cons e es) (.lst l :: ds) (.ref a :: ws') c → FrS F es ds ws' c ∨ c = a := fun c z => by
          rcases z with ⟨_, _, z⟩ | z
          · cases z; exact .inr rfl
          · exact .inl z
        obtain ⟨M', r', le⟩ := r.put (A0 := fun c => A0 c ∨ FrS F es ds ws' c) (i := i) (a := a) (ds := l) (vs := vs) (fun c z => by
            rcases z with z | z
            · exact .inl (.inl z)
            · exact (el c z).imp .inr id) (fun c z => z.imp id .inr) (.inr (.inl ⟨hf, rfl, rfl⟩)) (fun c z => .inl (fa c z)) (fun z => by
            rcases z with z | z
            · exact hPa.2 z
            · exact na (.inr z)) hPa.1 hv ((own_reps r.inv (fun c z => .inl (hU c (.inl (fa c z)))) hv hrs).mono fun c z => by
            rcases z with (z | z) | z
            · exact .inl (.inl (hU c (.inl z)))
            · rcases el c z with z | z
              · exact .inl (.inr z)
              · exact .inr z
            · exact .inl (.inl (hU c (.inr z)))) hl.1
        have hfr : ow.set i true = ow.set i (fresh (kds F) e) := by rw [hf]
        rw [hfr] at r'
        refine names_stF fa r' (fun c z => ?_) h3 (fun c z => hP c (.inr z)) (by rw [List.length_set]; exact hl.2) hs q
        rcases z with z | ⟨j, z⟩
        · exact .inl (hU c (.inl z))
        · have nn := r'.na j c z
          rcases le c (.inr ⟨j, z⟩) with (y | y) | y
          · exact absurd (.inl y) nn
          · rcases y with y | y
            · exact .inr y
            · exact absurd (.inr y) nn
          · exact .inl (hU c (.inr y))
      · have nf : ∀ c, ¬ (fresh (kds F) e = true ∧ d.isLst = true ∧ w = .ref c) := fun c z => hc ⟨z.1, z.2.1⟩
        have r0 : SRel R K (fun c => A0 c ∨ FrS F es ds ws' c) H0 ow M env s σ H' := r.less (fun c z => z.imp id .inr) fun c z => .inl (fa c z)
        obtain ⟨M', r', le⟩ := r0.put0 (i := i) (d := d) (w := w) (b := fresh (kds F) e) (h1.mono fun c z => by
            rcases z with (z | z) | z
            · exact .inl (hU c (.inl z))
            · exact .inr z
            · exact .inl (hU c (.inr z))) (by
            cases hf : fresh (kds F) e with
            | false => exact .inl rfl
            | true =>
              cases hd : d.isLst with
              | false => exact .inr rfl
              | true => exact absurd ⟨hf, hd⟩ hc)
        refine names_stF fa r' (fun c z => ?_) h3 (fun c z => hP c (.inr z)) (by rw [List.length_set]; exact hl.2) hs q
        rcases z with z | ⟨j, z⟩
        · exact .inl (hU c (.inl z))
        · have nn := r'.na j c z
          rcases le c (.inr ⟨j, z⟩) with (y | y) | y
          · exact absurd (.inl y) nn
          · exact absurd (.inr y) nn
          · exact .inl (hU c (.inr y))
  | [], _, _ :: _, _, _, _, _, _, _, _, _, _, _, _, _, _, _, hs, _ => by simp [setAll] at hs
  | _ :: _, _, [], _, _, _, _, _, _, _, _, _, _, _, _, _, _, hs, _ => by simp [setAll] at hs

theorem RepsF.same2 {K : PySem.W.Frag} {H H1 H2 : Hp} (sm : Same H1 H2) : ∀ {U : Addr → Prop} {ces : CEs} {ds : List Val} {ws : List V}, RepsF F K H H1 U ces ds ws → RepsF F K H H2 U ces ds ws
  | _, .nil, _, _, h => h
  | U, .cons e es, _, _, h => by
    obtain ⟨d, ds', w, ws', rfl, rfl, y1, y2, y3⟩ := h
    exact ⟨d, ds', w, ws', rfl, rfl, y1.same sm, y2, RepsF.same2 sm y3⟩
theorem par_go {X : Cx} {is : List Nat} {es : CEs} {ow lo : List Bool} {rk : Kd} {D : Ends} {σ : L2.St} {H : Hp} (k2 : leB (clrs (kds F) es ow) ow = true) (k3 : ltAll is ow.length = true)
    (h : rdS F X.K n ow (setFr (kds F) is es (clrs (kds F) es ow)) lo rk (.asgP is es) D σ H) : rdEs F X.K (clrs (kds F) es ow) es σ H (fun ws H1 => is.length = ws.length ∧ ∀ H2, Same H1 H2 → gNames is ws σ H2 D.nx) := by
  obtain ⟨A0, H0, M, env, s, o, env', s', r, ex, q⟩ := h
  obtain ⟨M1, r1⟩ := r.le k2
  simp only [exS] at ex
  obtain ⟨ds, s1, h1, ex⟩ := bnd_some ex
  simp only [Option.map_eq_some_iff] at ex
  obtain ⟨env2, h2, h3⟩ := ex
  cases h3
  refine ⟨_, env, s, ds, _, r1.erel, h1, fun ws H1 e1 i1 q1 => ?_⟩
  have hl : ∀ {is : List Nat} {ds : List Val} {env : Env}, setAll is ds env = some env' → ds.length = is.length := by
    intro is
    induction is with
    | nil => intro ds env h; cases ds <;> simp [setAll] at h <;> rfl
    | cons i is ih => intro ds env h; cases ds with
      | nil => simp [setAll] at h
      | cons d ds => simp only [setAll] at h; simp [ih h]
  refine ⟨by rw [(RepsF.reps F X.K q1).len, hl h2], fun H2 sm => ?_⟩
  have e2 : Ext R H H2 := e1.trans (Ext.of_same sm)
  have i2 := R.stay _ _ _ i1 fun b o _ z => sm b o z
  have q2 : RepsF F X.K H H2 (Avoid A0 M1) es ds ws := RepsF.same2 sm q1
  have rg := r1.grow e2 i2 (P := FrS F es ds ws) fun a z => ⟨RepsF.none F X.K q2 z, RepsF.lists F X.K q2 z⟩
  refine names_stF (H := H) r1.fa rg (fun a z => z) q2 (fun a z => ⟨fresh_back r1.inv r1.ext (RepsF.none F X.K q2 z), fun y => ?_⟩) (by rw [(leB_of k2).1]; exact k3) h2 fun M' σ' r' => q M' σ' H2 r'
  obtain ⟨xs, e⟩ := r1.al a y
  rw [RepsF.none F X.K q2 z] at e
  cases e
theorem nostarsB : ∀ {ces : CEs} {sc : Scope} {es : List Expr}, chkEs N T ces sc es = true → (es.any fun | .Starred .. => true | _ => false) = false
  | .nil, sc, es, h => by
    cases es with
    | nil => rfl
    | cons _ _ => simp [chkEs] at h
  | .cons c cs, sc, [], h => rfl
  | .cons c cs, sc, e :: es, h => by
    have h' : chkE N T c sc e = true ∧ chkEs N T cs sc es = true := by simpa [chkEs] using h
    rw [List.any_cons, nostarsB h'.2]
    cases e <;> first
      | rfl
      | (rw [chk_star] at h'; cases h'.1)
theorem stores_of {ts vs : List Expr} {k k2 : Nat} {p p2 : Pos} {env : PySem.Env} (hk : env.scope.kind = .function) (hst : (vs.any fun | .Starred .. => true | _ => false) = false) :
    (swB env.scope ts vs = false → swappedStores [.Tuple ts k p] (.Tuple vs k2 p2) env = pure none) ∧
    (swB env.scope ts vs = true → vs.all (constantsAlone 8) = false → swappedStores [.Tuple ts k p] (.Tuple vs k2 p2) env = pure (some (parNames env.scope ts))) := by
  have hb : (env.blockKind != .function) = false := by
    unfold Env.blockKind
    rw [hk]
    rfl
  have key : swappedStores [.Tuple ts k p] (.Tuple vs k2 p2) env = (if (!(ts.length == 2 || ts.length == 3) || vs.length != ts.length || env.blockKind != .function) = true then pure none else if (vs.any fun | .Starred .. => true | _ => false) = true then pure none else
      if ((parNames env.scope ts).length != ts.length || (parNames env.scope ts).eraseDups.length != (parNames env.scope ts).length) = true then pure none else if vs.all (foldedForSure 8) = true then pure none else
      if vs.all (constantsAlone 8) = true then (do
        unsupported "assign.tuple-of-constant-expressions:order-of-the-stores"
        pure (some (parNames env.scope ts))) else pure (some (parNames env.scope ts))) := rfl
  unfold swB
  rw [key, hb, hst]
  constructor
  · intro h
    cases h1 : (ts.length == 2 || ts.length == 3)
    · rfl
    · cases h2 : (vs.length == ts.length)
      · simp only [bne, h2]; rfl
      · cases h3 : ((parNames env.scope ts).length == ts.length)
        · simp only [bne, h2, h3]; rfl
        · cases h4 : ((parNames env.scope ts).eraseDups.length == (parNames env.scope ts).length)
          · simp only [bne, h2, h3, h4]; rfl
          · rw [h1, h2, h3, h4] at h
            have h5 : vs.all (foldedForSure 8) = true := by simpa using h
            simp only [bne, h2, h3, h4, h5]; rfl
  · intro h hc
    simp only [Bool.and_eq_true, Bool.not_eq_true'] at h
    obtain ⟨⟨⟨⟨h1, h2⟩, h3⟩, h4⟩, h5⟩ := h
    simp only [bne, h1, h2, h3, h4, h5, hc]
    rfl
end
end Itp

namespace Itp
open PySem PySem.Spec PyProof.Rows L2

section
variable {R : Res} {F : List (FS R.S)} {N : List Str} {T : Tb} {n : Nat}
theorem chkGs_len {sc : Scope} : ∀ {is : List Nat} {es : List Expr}, chkG.chkGs N sc is es = true → es.length = is.length
  | [], [], h => rfl
  | [], _ :: _, h => by simp [chkG.chkGs] at h
  | _ :: _, [], h => by simp [chkG.chkGs] at h
  | i :: is, e :: es, h => by
    cases e <;> simp only [chkG.chkGs] at h <;> try (cases h; done)
    simp only [Bool.and_eq_true] at h
    simp [chkGs_len h.2]
theorem parN_local {sc : Scope} {ts : List Expr} {x : Str} (h : x ∈ parNames sc ts) : sc.names.lookup x = some .local := by
  unfold parNames at h
  rw [List.mem_filterMap] at h
  obtain ⟨e, _, h⟩ := h
  split at h
  · split at h
    · rename_i hc
      cases h
      simp only [Bool.and_eq_true, beq_iff_eq] at hc
      exact hc.1
    · cases h
  · cases h
theorem ss_asgP (is : List Nat) (es : CEs) : SSt R F N T n (.asgP is es) := fun X st ow ow' lo rk g hc hk => by
  unfold chkS at hc
  split at hc
  · rename_i ts kt tp vs k2' p2' pos
    simp only [Bool.and_eq_true, decide_eq_true_eq] at hc
    obtain ⟨⟨⟨c1, nd, len⟩, c2⟩, c3⟩ := hc
    simp only [ck, Option.ite_none_right_eq_some, Option.some.injEq] at hk
    obtain ⟨hk', rfl⟩ := hk
    simp only [Bool.and_eq_true] at hk'
    obtain ⟨⟨k1, k2⟩, k3⟩ := hk'
    have pa := (soundEs es X vs (clrs (kds F) es ow) g.good c2).1 k1
    have st := stores_of (ts := ts) (vs := vs) (k := kt) (k2 := k2') (p := tp) (p2 := p2') (env := X.env) g.kind (nostarsB c2)
    have hs : swapsWithSole [.Tuple ts kt tp] (.Tuple vs k2' p2') pos.line X.env = pure false := rfl
    cases hsw : swB X.env.scope ts vs with
    | false =>
      obtain ⟨p1, p2, p3⟩ := tgs_ok g.good g.tg c1
      refine (ps_asg (pe_tup pa) (pg_tup g.good.calm p1 p2 p3) hs (st.1 hsw)).weak fun D σ H h => ?_
      obtain ⟨A, env, s, ds, s', er, ev, q⟩ := par_go k2 k3 h
      refine ⟨A, env, s, ds, s', er, ev, fun ws H1 e1 i1 r1 => ?_⟩
      obtain ⟨hl, q⟩ := q ws H1 e1 i1 r1
      refine ⟨by rw [← hl]; exact Nat.le_trans len (by decide), fun p hp => ⟨p, ws, rfl, SqT.of upd_same, hl.symm, q _ fun b o hb => ?_⟩⟩
      rw [upd_ne (ne_of_none hb hp)]
      exact hb
    | true =>
      rw [hsw] at c3
      simp only [if_true, Bool.and_eq_true, Bool.not_eq_true', decide_eq_true_eq] at c3
      have hw := st.2 hsw c3.1
      have hlen := chkGs_len c1
      have hsw' := hsw
      unfold swB at hsw'
      simp only [Bool.and_eq_true, Bool.or_eq_true, beq_iff_eq] at hsw'
      obtain ⟨⟨⟨⟨l1, l2⟩, _⟩, _⟩, _⟩ := hsw'
      have hN : ∀ i : Nat, X.N[i]? = N[i]? := fun i => by rw [g.good.N]
      have hloc : ∀ x ∈ is.map (fun (i : Nat) => (N[i]?).getD ("" : Str)), X.env.scope.names.lookup x = some .local := fun x hx => parN_local (by rw [c3.2]; exact hx)
      rw [c3.2] at hw
      rcases l1 with l1 | l1
      · match ts, vs, is, l1, hlen with
        | [a, b], vs, [i, j], _, _ =>
          cases a <;> simp only [chkG.chkGs] at c1 <;> try (cases c1; done)
          cases b <;> simp only [chkG.chkGs] at c1 <;> try (simp at c1; done)
          simp only [Bool.and_eq_true, decide_eq_true_eq] at c1
          obtain ⟨⟨n1, _⟩, ⟨n2, _⟩, _⟩ := c1
          match vs, l2 with
          | [a, b], _ =>
            simp only [List.map_cons, List.map_nil, n1, n2, Option.getD_some] at hw hloc
            refine (ps_par (i := i) (j := j) g.good.calm g.good.nd ((hN i).trans n1) ((hN j).trans n2) (by simpa using nd) (hloc _ (.head _)) (hloc _ (.tail _ (.head _))) pa hw hs).weak fun D σ H h => ?_
            obtain ⟨A, env, s, ds, s', er, ev, q⟩ := par_go k2 k3 h
            refine ⟨A, env, s, ds, s', er, ev, fun ws H1 e1 i1 r1 => ?_⟩
            obtain ⟨hl, q⟩ := q ws H1 e1 i1 r1
            obtain ⟨u, r, rfl, v, r', rfl, rfl, q9⟩ := q H1 (Same.refl _)
            exact ⟨u, v, rfl, q9⟩
      · match ts, vs, is, l1, hlen with
        | [a, b, c], vs, [i, j, l], _, _ =>
          cases a <;> simp only [chkG.chkGs] at c1 <;> try (cases c1; done)
          cases b <;> simp only [chkG.chkGs] at c1 <;> try (simp at c1; done)
          cases c <;> simp only [chkG.chkGs] at c1 <;> try (simp at c1; done)
          simp only [Bool.and_eq_true, decide_eq_true_eq] at c1
          obtain ⟨⟨n1, _⟩, ⟨n2, _⟩, ⟨n3, _⟩, _⟩ := c1
          match vs, l2 with
          | [a, b, c], _ =>
            simp only [List.map_cons, List.map_nil, n1, n2, n3, Option.getD_some] at hw hloc
            simp only [List.nodup_cons, List.mem_cons, List.not_mem_nil, or_false, not_or, not_false_eq_true, List.nodup_nil, and_true] at nd
            refine (ps_par3 (i := i) (j := j) (l := l) g.good.calm g.good.nd ((hN i).trans n1) ((hN j).trans n2) ((hN l).trans n3) nd.1.1 nd.1.2 nd.2 (hloc _ (.head _)) (hloc _ (.tail _ (.head _))) (hloc _ (.tail _ (.tail _ (.head _)))) pa hw hs).weak fun D σ H h => ?_
            obtain ⟨A, env, s, ds, s', er, ev, q⟩ := par_go k2 k3 h
            refine ⟨A, env, s, ds, s', er, ev, fun ws H1 e1 i1 r1 => ?_⟩
            obtain ⟨hl, q⟩ := q ws H1 e1 i1 r1
            obtain ⟨u, r, rfl, v, r', rfl, w, r'', rfl, rfl, q9⟩ := q H1 (Same.refl _)
            exact ⟨u, v, w, rfl, q9⟩
  · cases hc

/-! ### what holds others -/
theorem clrP_pt {ce : CE} {X : Cx} {e : Expr} {ow : List Bool} (g : Good R F N T X) (hc : chkE N T ce X.env.scope e = true) (ht : tOk ce = true) (hp : okP (kds F) ce ow = true) : PT X e (rdT F X.K ow ce) := (soundE ce X e ow g hc).2 hp ht
theorem meetB_len : ∀ (a b : List Bool), (meetB a b).length = min a.length b.length := fun a b => by unfold meetB; simp
theorem leB_meet : ∀ {a b : List Bool}, a.length = b.length → leB (meetB a b) a = true ∧ leB (meetB a b) b = true
  | [], [], _ => ⟨rfl, rfl⟩
  | [], _ :: _, h => by cases h
  | _ :: _, [], h => by cases h
  | a :: as, b :: bs, h => by
    obtain ⟨h1, h2⟩ := leB_meet (a := as) (b := bs) (by simpa using h)
    unfold meetB at h1 h2 ⊢
    rw [List.zipWith_cons_cons]
    simp only [leB, h1, h2]
    cases a <;> cases b <;> decide
theorem Post.le {K : PySem.W.Frag} {ow ow1 lo : List Bool} {rk : Kd} {A0 : Addr → Prop} {H0 : Hp} {o : Out} {env : Env} {s : R.S} {D : Ends} (h : leB ow1 ow = true) (p : Post R K ow1 lo rk A0 H0 o env s D) : Post R K ow lo rk A0 H0 o env s D := by
  cases o with
  | nx => exact fun M σ H r => let ⟨M', r'⟩ := r.le h; p M' σ H r'
  | _ => exact p
mutual
theorem ck_len {kd : List Kd} {rk : Kd} {lo : List Bool} : ∀ {c : CS} {ow ow' : List Bool}, ck kd rk lo c ow = some ow' → ow'.length = ow.length
  | .asg i e, ow, ow', h => by
    simp only [ck, Option.ite_none_right_eq_some, Option.some.injEq, Bool.and_eq_true] at h
    obtain ⟨⟨⟨_, h1⟩, _⟩, rfl⟩ := h
    rw [List.length_set, (leB_of h1).1]
  | .asgT is e, ow, ow', h => by
    simp only [ck, Option.ite_none_right_eq_some, Option.some.injEq, Bool.and_eq_true] at h
    obtain ⟨⟨_, h1⟩, rfl⟩ := h
    rw [setFs_len, (leB_of h1).1]
  | .asgP is e, ow, ow', h => by
    simp only [ck, Option.ite_none_right_eq_some, Option.some.injEq, Bool.and_eq_true] at h
    obtain ⟨⟨⟨_, h1⟩, _⟩, rfl⟩ := h
    have : ∀ (is : List Nat) (e : CEs) (o : List Bool), (setFr kd is e o).length = o.length := by
      intro is
      induction is with
      | nil => intro e o; rfl
      | cons i is ih => intro e o; cases e with
        | nil => rfl
        | cons e es => simp only [setFr]; rw [ih, List.length_set]
    rw [this, (leB_of h1).1]
  | .aug i op e, ow, ow', h => by
    simp only [ck, Option.ite_none_right_eq_some, Option.some.injEq, Bool.and_eq_true] at h
    obtain ⟨⟨_, h1⟩, rfl⟩ := h
    rw [List.length_set, (leB_of h1).1]
  | .app i e, ow, ow', h => by
    simp only [ck, Option.ite_none_right_eq_some, Option.some.injEq, Bool.and_eq_true] at h
    obtain ⟨⟨⟨_, h1⟩, _⟩, rfl⟩ := h
    exact (leB_of h1).1
  | .ext i e, ow, ow', h => by
    simp only [ck, Option.ite_none_right_eq_some, Option.some.injEq, Bool.and_eq_true] at h
    obtain ⟨⟨⟨_, h1⟩, _⟩, rfl⟩ := h
    exact (leB_of h1).1
  | .popS i, ow, ow', h => by
    simp only [ck, Option.ite_none_right_eq_some, Option.some.injEq] at h
    rw [h.2]
  | .appPop _ _ _, ow, ow', h => by simp [ck] at h
  | .asgPop _ _, ow, ow', h => by simp [ck] at h
  | .seti _ _ _, ow, ow', h => by simp [ck] at h
  | .ife c a b, ow, ow', h => by
    simp only [ck, Option.ite_none_right_eq_some, Bool.and_eq_true] at h
    obtain ⟨⟨_, h1⟩, h⟩ := h
    split at h
    · rename_i x y hx hy
      cases h
      rw [meetB_len, cks_len hx, cks_len hy, (leB_of h1).1, Nat.min_self]
    · cases h
  | .whl c b, ow, ow', h => by
    simp only [ck, Option.ite_none_right_eq_some, Bool.and_eq_true] at h
    obtain ⟨⟨⟨_, h1⟩, _⟩, h⟩ := h
    split at h
    · simp only [Option.ite_none_right_eq_some, Option.some.injEq] at h
      rw [← h.2, (leB_of h1).1]
    · cases h
  | .for tg it b, ow, ow', h => by
    simp only [ck, Option.ite_none_right_eq_some, Bool.and_eq_true] at h
    obtain ⟨⟨⟨⟨h0, _⟩, h1⟩, _⟩, h⟩ := h
    split at h
    · simp only [Option.ite_none_right_eq_some, Option.some.injEq] at h
      rw [← h.2, (leB_of h1).1, (leB_of h0).1]
    · cases h
  | .ret e, ow, ow', h => by
    simp only [ck, Option.ite_none_right_eq_some, Option.some.injEq] at h
    rw [← h.2, List.length_replicate]
  | .retN, ow, ow', h => by
    simp only [ck, Option.some.injEq] at h
    rw [← h, List.length_replicate]
  | .brk, ow, ow', h => by
    simp only [ck, Option.ite_none_right_eq_some, Option.some.injEq] at h
    rw [← h.2, List.length_replicate]
  | .cnt, ow, ow', h => by
    simp only [ck, Option.ite_none_right_eq_some, Option.some.injEq] at h
    rw [← h.2, List.length_replicate]
  | .pass, ow, ow', h => by
    simp only [ck, Option.some.injEq] at h
    rw [h]
  | .nev, ow, ow', h => by
    simp only [ck, Option.some.injEq] at h
    rw [← h, List.length_replicate]
theorem cks_len {kd : List Kd} {rk : Kd} {lo : List Bool} : ∀ {c : CSs} {ow ow' : List Bool}, cks kd rk lo c ow = some ow' → ow'.length = ow.length
  | .nil, ow, ow', h => by
    simp only [cks, Option.some.injEq] at h
    rw [h]
  | .cons c cs, ow, ow', h => by
    simp only [cks] at h
    split at h
    · rename_i o ho
      rw [cks_len h, ck_len ho]
    · cases h
end
theorem evT_some {c : CE} {env : Env} {s s2 : R.S} {b : Bool} (he : evT F c env s = some (b, s2)) : ∃ d, evE F c env s = some (d, s2) ∧ truthV d = some b := by
  unfold evT at he
  obtain ⟨d, s1, h3, h4⟩ := bnd_some he
  simp only [Option.map_eq_some_iff] at h4
  obtain ⟨b', h4, h5⟩ := h4
  cases h5
  exact ⟨d, h3, h4⟩
theorem ss_ife {c : CE} {a b : CSs} (ha : SSs R F N T n a) (hb : SSs R F N T n b) : SSt R F N T n (.ife c a b) := fun X st ow ow' lo rk g hc hk => by
  unfold chkS at hc
  split at hc
  · rename_i t x y pos
    simp only [Bool.and_eq_true] at hc
    obtain ⟨⟨⟨c1, c2⟩, c3⟩, c4⟩ := hc
    simp only [ck, Option.ite_none_right_eq_some, Bool.and_eq_true] at hk
    obtain ⟨⟨k1, k2⟩, hk⟩ := hk
    split at hk
    · rename_i o1 o2 h1 h2
      cases hk
      have hl : o1.length = o2.length := by rw [cks_len h1, cks_len h2]
      refine (ps_if (clrP_pt g.good c2 c1 k1) (ha X x _ _ lo rk g c3 h1) (hb X y _ _ lo rk g c4 h2)).weak fun D σ H => ?_
      rintro ⟨A0, H0, M, env, s, o, env', s', r, ex, q⟩
      obtain ⟨M1, r1⟩ := r.le k2
      simp only [exS] at ex
      cases he : evT F c env s with
      | none => rw [he] at ex; cases ex
      | some p =>
        obtain ⟨b', s2⟩ := p
        rw [he] at ex
        obtain ⟨d, h3, h4⟩ := evT_some he
        refine ⟨_, env, s, d, s2, b', r1.erel, h3, h4, fun H1 e1 i1 => ?_⟩
        cases b' with
        | true =>
          simp only at ex
          rw [if_pos rfl]
          exact ⟨A0, H0, M1, env, s2, o, env', s', r1.exts e1 i1, ex, q.le (leB_meet hl).1⟩
        | false =>
          simp only at ex
          rw [if_neg (by decide)]
          exact ⟨A0, H0, M1, env, s2, o, env', s', r1.exts e1 i1, ex, q.le (leB_meet hl).2⟩
    · cases hk
  · cases hc
end
end Itp

namespace Itp
open PySem PySem.Spec PyProof.Rows L2

section
variable {R : Res} {F : List (FS R.S)} {N : List Str} {T : Tb} {n : Nat}
theorem ss_whl {c : CE} {b : CSs} (hb : SSs R F N T n b) : SSt R F N T n (.whl c b) := fun X st ow ow' lo rk g hc hk => by
  unfold chkS at hc
  split at hc
  · rename_i t x pos
    simp only [Bool.and_eq_true] at hc
    obtain ⟨⟨c1, c2⟩, c3⟩ := hc
    simp only [ck, Option.ite_none_right_eq_some, Bool.and_eq_true] at hk
    obtain ⟨⟨⟨k1, k2⟩, k3⟩, hk⟩ := hk
    split at hk
    · rename_i o1 ho1
      simp only [Option.ite_none_right_eq_some, Option.some.injEq, Bool.and_eq_true] at hk
      obtain ⟨⟨k4, k5⟩, hk⟩ := hk
      rw [hk] at k1 k2 k3 k4 k5 ho1
      refine (ps_while g.pass (clrP_pt g.good c2 c1 k1) (hb X x _ _ ow' rk g c3 ho1)).weak fun D σ H => ?_
      rintro ⟨A0, H0, M, env, s, o, env', s', r, ex, q⟩
      obtain ⟨M1, r1⟩ := r.le k2
      simp only [exS] at ex
      refine ⟨fun m σ H => ∃ M env s, SRel R X.K A0 H0 ow' M env s σ H ∧ whlGo (evT F c) (fun env s => exSs F n b env s) m env s = some (o, env', s'), ⟨n, M1, env, s, r1, ex⟩, ?_⟩
      rintro m σ H ⟨M, env, s, r, ex⟩
      cases m with
      | zero => cases ex
      | succ m =>
        obtain ⟨M1, r1⟩ := r.le k3
        rw [whlGo] at ex
        cases he : evT F c env s with
        | none => rw [he] at ex; cases ex
        | some p =>
          obtain ⟨b', s2⟩ := p
          rw [he] at ex
          obtain ⟨d, h3, h4⟩ := evT_some he
          refine ⟨_, env, s, d, s2, b', r1.erel, h3, h4, fun H1 e1 i1 => ?_⟩
          have r2 := r1.exts e1 i1
          cases b' with
          | false =>
            simp only at ex
            simp only [Bool.false_eq_true, if_false]
            cases ex
            obtain ⟨M3, r3⟩ := r2.le k5
            exact q M3 _ _ r3
          | true =>
            simp only at ex
            simp only [if_true]
            refine ⟨fun σ' H' => ∃ M env s, SRel R X.K A0 H0 ow' M env s σ' H' ∧ whlGo (evT F c) (fun env s => exSs F n b env s) m env s = some (o, env', s'), fun σ' H' h => ⟨m, Nat.lt_succ_self m, h⟩, ?_⟩
            cases hx : exSs F n b env s2 with
            | none => rw [hx] at ex; cases ex
            | some p =>
              obtain ⟨o2, env2, s3⟩ := p
              rw [hx] at ex
              refine ⟨A0, H0, M1, env, s2, o2, env2, s3, r2, hx, ?_⟩
              cases o2 with
              | nx =>
                intro M σ H r
                obtain ⟨M4, r4⟩ := r.le k4
                exact ⟨M4, env2, s3, r4, ex⟩
              | ct =>
                intro M σ H r
                exact ⟨M, env2, s3, r, ex⟩
              | bk =>
                simp only at ex
                cases ex
                exact q
              | rt v =>
                simp only at ex
                cases ex
                exact q
    · cases hk
  · cases hc
theorem setFs_id : ∀ {is : List Nat} {o : List Bool}, is.all (fun i => !o.getD i false) = true → setFs is o = o
  | [], _, _ => rfl
  | i :: is, o, h => by
    rw [List.all_cons, Bool.and_eq_true] at h
    have : o.set i false = o := by
      have h1 : o.getD i false = false := by simpa using h.1
      by_cases hl : i < o.length
      · rw [List.getD_eq_getElem?_getD, List.getElem?_eq_getElem hl] at h1
        simp only [Option.getD_some] at h1
        conv => lhs; rw [← h1]
        exact List.set_getElem_self hl
      · exact List.set_eq_of_length_le (by omega)
    unfold setFs
    rw [this]
    exact setFs_id h.2
theorem setAll_len : ∀ {is : List Nat} {ds : List Val} {env env' : Env}, setAll is ds env = some env' → ds.length = is.length
  | [], [], _, _, _ => rfl
  | [], _ :: _, _, _, h => by simp [setAll] at h
  | _ :: _, [], _, _, h => by simp [setAll] at h
  | i :: is, d :: ds, env, env', h => by simp only [setAll] at h; simp [setAll_len h]
/-- a target takes an item -/
theorem tg_st {K : PySem.W.Frag} {A0 : Addr → Prop} {H0 H : Hp} {tg : Tg} {d : Val} {w : V} {ow : List Bool} {M : Nat → Option Addr} {env env2 : Env} {s : R.S} {σ : L2.St} {Q : L2.St → Hp → Prop} (r : SRel R K A0 H0 ow M env s σ H) (hr : Rep R.tok K (Avoid A0 M) H d w) (hs : setT tg d env = some env2)
    (q : ∀ M' σ', SRel R K A0 H0 (setFs (tgIs tg) ow) M' env2 s σ' H → Q σ' H) : gT K tg w σ H Q := by
  cases tg with
  | name i =>
    simp only [setT, Option.some.injEq] at hs
    subst hs
    obtain ⟨M1, r1, _⟩ := r.put0 (i := i) (b := false) hr (.inl rfl)
    exact q M1 _ r1
  | tup is =>
    simp only [setT] at hs
    split at hs
    · rename_i ds
      simp only [Rep] at hr
      obtain ⟨a, us, rfl, ha, hr⟩ := hr
      exact ⟨a, us, rfl, SqT.of ha, by rw [hr.len, setAll_len hs], names_st r hr hs fun M' σ' r' _ => q M' σ' r'⟩
    · cases hs
theorem ss_for {tg : Tg} {it : CI} {b : CSs} (hb : SSs R F N T n b) : SSt R F N T n (.for tg it b) := fun X st ow ow' lo rk g hc hk => by
  unfold chkS at hc
  split at hc
  · rename_i ge ie x pos
    simp only [Bool.and_eq_true] at hc
    obtain ⟨⟨c1, c2⟩, c3⟩ := hc
    simp only [ck, Option.ite_none_right_eq_some, Bool.and_eq_true] at hk
    generalize clrIm (kds F) it ow = oi at hk
    obtain ⟨⟨⟨⟨k1, k2⟩, k3⟩, k4⟩, hk⟩ := hk
    split at hk
    · rename_i o1 ho1
      simp only [Option.ite_none_right_eq_some, Option.some.injEq] at hk
      obtain ⟨k5, hk⟩ := hk
      rw [hk] at k3 k4 k5 ho1
      refine (ps_for g.pass g.good.calm (soundI it X ge ie oi true g.good c2 k2) (tg_ok g.good g.tg c1) (hb X x _ _ ow' rk g c3 ho1) (foldI c2 X.env)).weak fun D σ H => ?_
      rintro ⟨A0, H0, M, env, s, o, env', s', r, ex, q⟩
      obtain ⟨M1, r1⟩ := r.le k1
      simp only [exS] at ex
      obtain ⟨xs, s1, h1, ex⟩ := bnd_some ex
      refine ⟨_, env, s, xs, s1, r1.erel, h1, fun J H1 e1 i1 its => ?_⟩
      rw [if_pos rfl] at its
      have ra := r1.exts e1 i1
      have rb := ra.rebase
      obtain ⟨M2, r2⟩ := rb.le k3
      let body : Val → Env → R.S → Option (Out × Env × R.S) := fun x env s => match setT tg x env with
        | some env2 => exSs F n b env2 s
        | none => none
      refine ⟨fun i m σ H => m = xs.length - i ∧ i ≤ xs.length ∧ ∃ M env s, SRel R X.K A0 (base1 M1 H1) ow' M env s σ H ∧ forGo body (xs.drop i) env s = some (o, env', s'), ⟨xs.length, rfl, Nat.zero_le _, M2, env, s1, r2, ex⟩, ?_⟩
      rintro i m σ2 H2 ⟨rfl, hi, M, env2, s2, r3, ex3⟩
      obtain ⟨it1, it2⟩ := its i H2 (Avoid A0 M) (fun a z => by
          rcases z with z | ⟨j, z⟩
          · exact .inl (.inl z)
          · rcases base1_none (r3.own j a z).2.1 with y | ⟨j', y⟩
            · exact .inr y
            · exact .inl (.inr ⟨j', y⟩)) (fun b o hb hn => r3.ext b o (base1_of hb fun j z => hn (.inr ⟨j, z⟩)) fun z => hn (.inl (r3.fa b z)))
      by_cases hlt : i < xs.length
      · obtain ⟨j1, j2⟩ := it1 hlt
        refine .inr ⟨j1, fun σ' H' => ∃ M env s, SRel R X.K A0 (base1 M1 H1) ow' M env s σ' H' ∧ forGo body (xs.drop (i + 1)) env s = some (o, env', s'), fun σ' H' h => ⟨_, by omega, rfl, by omega, h⟩, fun w H' hy => ?_⟩
        obtain ⟨d, hd, sm, hr⟩ := j2 w H' hy
        have r4 := r3.exts (Ext.of_same sm) (R.stay _ _ _ r3.inv fun b o _ z => sm b o z)
        have hdr : xs.drop i = d :: xs.drop (i + 1) := by
          rw [List.drop_eq_getElem_cons hlt]
          rw [List.getElem?_eq_getElem hlt] at hd
          cases hd
          rfl
        rw [hdr, forGo] at ex3
        cases hs : setT tg d env2 with
        | none =>
          have : body d env2 s2 = none := by simp only [body, hs]
          rw [this] at ex3
          cases ex3
        | some env3 =>
          refine tg_st r4 hr hs fun M5 σ5 r5 => ?_
          rw [setFs_id k4] at r5
          have hbd : body d env2 s2 = exSs F n b env3 s2 := by simp only [body, hs]
          rw [hbd] at ex3
          cases hx : exSs F n b env3 s2 with
          | none => rw [hx] at ex3; cases ex3
          | some p =>
            obtain ⟨o6, env6, s6⟩ := p
            rw [hx] at ex3
            refine ⟨A0, base1 M1 H1, M5, env3, s2, o6, env6, s6, r5, hx, ?_⟩
            cases o6 with
            | nx =>
              intro M σ H r
              obtain ⟨M4, r4⟩ := r.le k5
              exact ⟨M4, env6, s6, r4, ex3⟩
            | ct =>
              intro M σ H r
              exact ⟨M, env6, s6, r, ex3⟩
            | bk =>
              simp only at ex3
              cases ex3
              exact fun M σ H r => q M σ H (ra.back r)
            | rt v =>
              simp only at ex3
              cases ex3
              exact fun w H ⟨t1, t2, t3, t4⟩ => q w H ⟨ext_back ra t1, t2, t3, fun z l a y1 y2 => none_back ra (t4 z l a y1 y2)⟩
      · have hge : xs.length ≤ i := by omega
        rw [List.drop_of_length_le hge] at ex3
        simp only [forGo] at ex3
        cases ex3
        exact .inl ⟨it2 hge, q M σ2 H2 (ra.back r3)⟩
    · cases hk
  · cases hc
theorem sss_nil : SSs R F N T n .nil := fun X st ow ow' lo rk g hc hk => by
  cases st with
  | cons _ _ => simp [chkSs] at hc
  | nil =>
    simp only [cks, Option.some.injEq] at hk
    subst hk
    refine pss_nil.weak fun D σ H => ?_
    rintro ⟨A0, H0, M, env, s, o, env', s', r, ex, q⟩
    simp only [exSs] at ex
    cases ex
    exact q M σ H r
theorem sss_cons {c : CS} {cs : CSs} (h1 : SSt R F N T n c) (h2 : SSs R F N T n cs) : SSs R F N T n (.cons c cs) := fun X st ow ow' lo rk g hc hk => by
  cases st with
  | nil => simp [chkSs] at hc
  | cons st sts =>
    have hc' : chkS N T c X.env.scope st = true ∧ chkSs N T cs X.env.scope sts = true := by simpa [chkSs] using hc
    simp only [cks] at hk
    split at hk
    · rename_i o1 ho1
      refine (pss_cons (h1 X st ow o1 lo rk g hc'.1 ho1) (h2 X sts o1 ow' lo rk g hc'.2 hk)).weak fun D σ H => ?_
      rintro ⟨A0, H0, M, env, s, o, env', s', r, ex, q⟩
      rw [exSs] at ex
      cases hx : exS F n c env s with
      | none => rw [hx] at ex; cases ex
      | some p =>
        obtain ⟨o2, env2, s2⟩ := p
        rw [hx] at ex
        refine ⟨A0, H0, M, env, s, o2, env2, s2, r, hx, ?_⟩
        cases o2 with
        | nx => exact fun M' σ' H' r' => ⟨A0, H0, M', env2, s2, o, env', s', r', ex, q⟩
        | _ =>
          simp only at ex
          cases ex
          exact q
    · cases hk
theorem sst_none {c : CS} (h : ∀ sc e, chkS N T c sc e = false) : SSt R F N T n c := fun X st ow ow' lo rk g hc hk => by rw [h] at hc; cases hc
mutual
theorem soundS : ∀ c : CS, SSt R F N T n c
  | .asg i e => ss_asg i e
  | .asgT is e => ss_asgT is e
  | .asgP is es => ss_asgP is es
  | .aug i op e => ss_aug i op e
  | .app i e => ss_app i e
  | .ext i e => ss_ext i e
  | .popS i => sst_none fun sc e => by simp [chkS]
  | .appPop _ _ _ => sst_none fun sc e => by simp [chkS]
  | .asgPop _ _ => sst_none fun sc e => by simp [chkS]
  | .seti _ _ _ => sst_none fun sc e => by simp [chkS]
  | .ife c a b => ss_ife (soundSs a) (soundSs b)
  | .whl c b => ss_whl (soundSs b)
  | .for tg it b => ss_for (soundSs b)
  | .ret e => ss_ret e
  | .retN => ss_small.1
  | .brk => ss_small.2.1
  | .cnt => ss_small.2.2.1
  | .pass => ss_small.2.2.2.1
  | .nev => ss_small.2.2.2.2
theorem soundSs : ∀ c : CSs, SSs R F N T n c
  | .nil => sss_nil
  | .cons c cs => sss_cons (soundS c) (soundSs cs)
end
end
end Itp

namespace Itp
open PySem PySem.Spec PyProof.Rows L2

/-! ### a def of the text -/
/-- what a name of the module stands for -/
structure FnG (R : Res) (P : Program) (w : World) (K : PySem.W.Frag) (mg : Str → Option Value) (base : Heap) (T : Tb) (k : Nat) (fs : FS R.S) (x : Str) : Prop where
  ok : ∃ n f fd ps, FnOk P w K mg base CX0 k f fd ps (spI R K n fs) ∧ mg x = some (.ref f) ∧ PySem.W.keepIn K (.ref f) = true ∧ Binds K fd ps [] ∧ (∀ ds s q, fs.run ds s = some q → ds.length = n) ∧ ∀ ks perm, (x, ks, perm) ∈ T.kw → KBd K fd ps ks perm
  pure : fs.kind = .pure → ∀ ds s r s', fs.run ds s = some (r, s') → r.noLst = true
/-- the names of the module that are used -/
structure Mg (mg : Str → Option Value) (T : Tb) : Prop where
  bi : ∀ b : Bi, (b = .isqrt ∨ b = .gcd) ∨ mg (biNm b) = none
  isqrt : ("isqrt" : Str) ∈ T.nm → mg "isqrt" = some (.builtin "math.isqrt")
  gcd : ("gcd" : Str) ∈ T.nm → mg "gcd" = some (.builtin "math.gcd")
  tys : ∀ t, mg (Str.ofString (tyStr t)) = none
  range : mg "range" = none
  enumerate : mg "enumerate" = none
structure Glob (R : Res) (P : Program) (w : World) (K : PySem.W.Frag) (mg : Str → Option Value) (base : Heap) (F : List (FS R.S)) (T : Tb) (k : Nat) : Prop where
  fn : ∀ (i : Nat) (fs : FS R.S) (x : Str), F[i]? = some fs → T.nm[i]? = some x → FnG R P w K mg base T k fs x
  mg : Mg mg T
section
variable {R : Res} {P : Program} {w : World} {K : PySem.W.Frag} {mg : Str → Option Value} {base : Heap} {F : List (FS R.S)} {T : Tb} {k : Nat}
theorem FnG.mono {fs : FS R.S} {x : Str} {j : Nat} (h : FnG R P w K mg base T k fs x) (l : k ≤ j) : FnG R P w K mg base T j fs x := by
  obtain ⟨n, f, fd, ps, h1, h2⟩ := h.ok
  exact ⟨⟨n, f, fd, ps, h1.mono l, h2⟩, h.pure⟩
theorem Glob.goodS (G : Glob R P w K mg base F T k) {N ps : List Str} {qual : Str} {scope : Scope} {f : Addr} {cd : Value} {A : Around} {outer : List PySem.Env} {s : Shared} {H : Hp} {E : XK} (S : FnScope N ps scope)
    (hr : Room k (A.deeper (envOfC qual scope s.heap.objs.size f cd))) : GoodS R F N T (cxOf CX0 P w K mg base N qual scope f cd A outer s H E).nox := by
  refine ⟨⟨rfl, S.nd, rfl, ?_, fun i fs x h1 h2 => ?_, G.mg.bi, G.mg.isqrt, G.mg.gcd, G.mg.tys, G.mg.range, G.mg.enumerate⟩, S.kind, fun _ => rfl, PassesOwn.never⟩
  · have := hr.un
    show (A.deeper _).units + 64 < cLine
    omega
  · have g := G.fn i fs x h1 h2
    obtain ⟨n, f', fd, ps', q1, q2, q3, q4, q5⟩ := g.ok
    exact ⟨⟨n, f', fd, ps', k, q1, hr, q2, q3, q4, q5⟩, g.pure⟩
theorem getE_start {ds : List Val} {m i : Nat} {d : Val} (h : getE (ds.map some ++ List.replicate m none) i = some d) : ds[i]? = some d := by
  unfold getE at h
  rw [List.getD_eq_getElem?_getD] at h
  by_cases hi : i < ds.length
  · rw [List.getElem?_append_left (by simpa using hi), List.getElem?_map, List.getElem?_eq_getElem hi] at h
    rw [List.getElem?_eq_getElem hi]
    simpa using h
  · rw [List.getElem?_append_right (by simpa using hi), List.getElem?_replicate] at h
    split at h <;> cases h
theorem getD_rep {m i : Nat} : (List.replicate m false).getD i false = false := by
  rw [List.getD_eq_getElem?_getD, List.getElem?_replicate]
  split <;> rfl
theorem srel_start {A : Addr → Prop} {H : Hp} {ds : List Val} {vs : List V} {s : R.S} {N : List Str} (fa : ∀ a, R.foot a → A a) (al : ∀ a, A a → ∃ xs, H a = some (.lst xs)) (hr : Reps R.tok K A H ds vs) (hi : R.inv s H) (hN : ds.length ≤ N.length) :
    SRel R K A H (List.replicate N.length false) (fun _ => none) (ds.map some ++ List.replicate (N.length - ds.length) none) s (L2.start N vs) H := by
  have hl : vs.length = ds.length := hr.len
  refine ⟨hi, by unfold L2.start; simp [hl], by simp; omega, fa, al, fun i a h => (by cases h), Ext.refl H, fun i a h => (by cases h), fun i j a h => (by cases h), fun i d h _ => ?_, fun i ds h => by rw [getD_rep] at h; cases h⟩
  have h1 := getE_start h
  obtain ⟨w, h2, h3⟩ := reps_get hr h1
  refine ⟨w, ?_, h3.mono fun a z => z.elim id fun ⟨_, z⟩ => by cases z⟩
  unfold L2.start
  have hi : i < vs.length := (List.getElem?_eq_some_iff.mp h2).1
  rw [List.getElem?_append_left (by simpa using hi), List.getElem?_map, h2]
  rfl
/-- a def whose text is as the own text says, does as the own text does -/
theorem fn_ok (G : Glob R P w K mg base F T k) {x qual : Str} {st : Stmt} {f : Addr} {fd : FuncData} {N ps : List Str} (Fu : Fun K x qual st f fd) (S : FnScope N ps (defScope st)) (body : CSs) (rk : Kd) (fs : FS R.S)
    (hc : chkSs N T body (defScope st) (defBody st) = true) (hk : (cks (kds F) rk [] body (List.replicate N.length false)).isSome = true) (hkd : fs.kind = .fresh → rk = .fresh)
    (hrun : ∀ ds s q, fs.run ds s = some q → ds.length = ps.length ∧ ∃ n, fnV F n N.length body ds s = some q) : FnOk P w K mg base CX0 (k + 1) f fd ps (spI R K ps.length fs) := by
  obtain ⟨ow', hk⟩ := Option.isSome_iff_exists.mp hk
  refine Fu.ok S (fun vs H Q E ⟨A, ds, s, r, s', _, _, hr, _, _, hl, _⟩ => by rw [hr.len, hl]) fun cdv A outer s H vs Q E hroom hsp => ?_
  obtain ⟨A0, ds, s0, r, s', fa, al, hr, hi, run, hl, q⟩ := hsp
  obtain ⟨_, n, hv⟩ := hrun _ _ _ run
  refine ⟨_, soundSs (n := n) body _ (defBody st) _ _ _ rk (G.goodS S hroom) hc hk, ?_⟩
  have hpl : ps.length ≤ N.length := by have := congrArg List.length S.pre; rw [List.length_take] at this; omega
  unfold fnV at hv
  split at hv
  · rename_i v env' s1 he
    cases hv
    refine ⟨A0, H, _, _, s0, _, _, _, srel_start fa al hr hi (by omega), he, fun w H' ⟨t1, t2, t3, t4⟩ => q w H' t1 t2 t3 fun z => t4 (hkd z)⟩
  · rename_i env' s1 he
    cases hv
    refine ⟨A0, H, _, _, s0, _, _, _, srel_start fa al hr hi (by omega), he, fun M σ H' r' => q .non H' r'.ext r'.inv (by simp only [Rep]) fun z l a z1 z2 => by cases z1⟩
  · cases hv
end
end Itp

namespace Itp
open PySem
/-! ### the same values by plain recursors, each case a name of its own (the kernel is quick at it) -/
section
variable {S : Type} (F : List (FS S))
abbrev KE (S : Type) := Itp.Env → S → Option (Val × S)
abbrev KO (S : Type) := Itp.Env → S → Option (Option Int × S)
abbrev KC (S : Type) := Itp.Env → S → Option (Bool × S)
abbrev KI (S : Type) := Itp.Env → S → Option (List Val × S)
structure KL (S : Type) where
  l : Itp.Env → S → Option (List Val × S)
  b : Bool → KE S
  nil : Bool
def kVar (i : Nat) : KE S := fun env s => (getE env i).map fun v => (v, s)
def kVal (v : Val) : KE S := fun _ s => some (v, s)
def kBin (op : BOp) (a b : KE S) : KE S := fun env s => bnd (a env s) fun x s1 => bnd (b env s1) fun y s2 => (bop op x y).map fun v => (v, s2)
def kNeg (a : KE S) : KE S := fun env s => bnd (a env s) fun x s1 => match x with
    | .int i => some (.int (-i), s1)
    | _ => none
def kNot (a : KE S) : KE S := fun env s => bnd (a env s) fun x s1 => (truthV x).map fun b => (.bl (!b), s1)
def kCmp (op : COp) (a b : KE S) : KE S := fun env s => bnd (a env s) fun x s1 => bnd (b env s1) fun y s2 => (cop op x y).map fun v => (.bl v, s2)
def kChain (op op' : COp) (a b c : KE S) : KE S := fun env s => bnd (a env s) fun x s1 => bnd (b env s1) fun y s2 => match cop op x y with
    | some true => bnd (c env s2) fun z s3 => (cop op' y z).map fun v => (.bl v, s3)
    | some false => some (.bl false, s2)
    | none => none
def kBool (isAnd : Bool) (es : KL S) : KE S := fun env s => es.b isAnd env s
def kIfe (c a b : KE S) : KE S := fun env s => bnd (c env s) fun x s1 => match truthV x with
    | some true => a env s1
    | some false => b env s1
    | none => none
def kTup (es : KL S) : KE S := fun env s => bnd (es.l env s) fun vs s1 => if lenOk vs.length then some (.tup vs, s1) else none
def kLst (es : KL S) : KE S := fun env s => bnd (es.l env s) fun vs s1 => if lenOk vs.length then some (.lst vs, s1) else none
def kCall (f : Nat) (es : KL S) : KE S := fun env s => match F[f]? with
    | some fs => bnd (es.l env s) fun vs s1 => fs.run vs s1
    | none => none
def kCallk (f : Nat) (perm : List Nat) (es ks : KL S) : KE S := fun env s => match F[f]? with
    | some fs => bnd (es.l env s) fun vs s1 => bnd (ks.l env s1) fun ws s2 => match permL (vs ++ ws) perm with
      | some us => fs.run us s2
      | none => none
    | none => none
def kBi (b : Bi) (es : KL S) : KE S := fun env s => bnd (es.l env s) fun vs s1 => (biV b vs).map fun v => (v, s1)
def kIx (a b : KE S) : KE S := fun env s => bnd (a env s) fun x s1 => bnd (b env s1) fun y s2 => (ixV x y).map fun v => (v, s2)
def kSl (a : KE S) (lo hi : KO S) : KE S := fun env s => bnd (a env s) fun x s1 => bnd (lo env s1) fun l s2 => bnd (hi env s2) fun h s3 => (slV x l h).map fun v => (v, s3)
def kRev (a : KE S) : KE S := fun env s => bnd (a env s) fun x s1 => (revV x).map fun v => (v, s1)
def kLcf (tg : Tg) (own : List Nat) (elt : KE S) (cond : KC S) (env : Itp.Env) : Val → S → Option (Option Val × S) := fun x s2 => match setT tg x (wipeE env own) with
        | some env2 => bnd (cond env2 s2) fun b s3 => if b = true then bnd (elt env2 s3) fun y s4 => some (some y, s4) else some (none, s3)
        | none => none
def kLc (tg : Tg) (own : List Nat) (elt : KE S) (it : KI S) (cond : KC S) : KE S := fun env s => bnd (it env s) fun items s1 =>
      bnd (lcGo (kLcf tg own elt cond env) items s1) fun ys s5 => some (.lst ys, s5)
def kLc2f (tg tg2 : Tg) (own : List Nat) (elt : KE S) (it2 : KI S) (cond : KC S) (env : Itp.Env) : Val → S → Option (List Val × S) := fun x s2 => match setT tg x (wipeE env own) with
        | some env2 => bnd (it2 env2 s2) fun items2 s3 => lcGo (fun x2 s4 => match setT tg2 x2 env2 with
          | some env3 => bnd (cond env3 s4) fun b s5 => if b = true then bnd (elt env3 s5) fun y s6 => some (some y, s6) else some (none, s5)
          | none => none) items2 s3
        | none => none
def kLc2 (tg tg2 : Tg) (own : List Nat) (elt : KE S) (it it2 : KI S) (cond : KC S) : KE S := fun env s => bnd (it env s) fun items s1 =>
      bnd (lcGo2 (kLc2f tg tg2 own elt it2 cond env) items s1) fun ys s5 => some (.lst ys, s5)
def kNil : KL S := ⟨fun _ s => some ([], s), fun _ _ _ => none, true⟩
def kCons (e : KE S) (es : KL S) : KL S := ⟨fun env s => bnd (e env s) fun v s1 => bnd (es.l env s1) fun vs s2 => some (v :: vs, s2),
  fun isAnd env s => match es.nil with
    | true => e env s
    | false => bnd (e env s) fun v s1 => match v with
      | .bl b => if b = isAnd then es.b isAnd env s1 else some (.bl b, s1)
      | _ => none, false⟩
structure KOC (S : Type) where
  o : KO S
  c : KC S
def kONone : KOC S := ⟨fun _ s => some (none, s), fun _ s => some (true, s)⟩
def kOSome (e : KE S) : KOC S := ⟨fun env s => bnd (e env s) fun v s1 => match v with
    | .int i => some (some i, s1)
    | _ => none, fun env s => bnd (e env s) fun v s1 => (truthV v).map fun b => (b, s1)⟩
def kSeq (e : KE S) : KI S := fun env s => bnd (e env s) fun v s1 => (seqV v).map fun xs => (xs, s1)
def kRng1 (a : KE S) : KI S := fun env s => bnd (a env s) fun v s1 => match v with
    | .int j => if rngOk j then some (rngL 0 j.toNat, s1) else none
    | _ => none
def kRng2 (a b : KE S) : KI S := fun env s => bnd (a env s) fun v s1 => bnd (b env s1) fun w s2 => match v, w with
    | .int i, .int j => if rngOk i && rngOk j then some (rngL i (j - i).toNat, s2) else none
    | _, _ => none
def kRng3 (c : Int) (a b : KE S) : KI S := fun env s => bnd (a env s) fun v s1 => bnd (b env s1) fun w s2 => match v, w with
    | .int i, .int j => if rngOk i && rngOk j && decide (0 < c) && decide (c < 2 ^ 30) then some ((List.range ((j - i + c - 1) / c).toNat).map fun (k : Nat) => Val.int (i + (k : Int) * c), s2)
        else if rngOk i && rngOk j && decide (c = -1) then some ((List.range (i - j).toNat).map fun (k : Nat) => Val.int (i - (k : Int)), s2) else none
    | _, _ => none
def kEnum (a : KE S) : KI S := fun env s => bnd (a env s) fun v s1 => (seqV v).map fun xs => (enumL 0 xs, s1)

noncomputable def qE (c : CE) : KE S :=
  @CE.rec (fun _ => KE S) (fun _ => KL S) (fun _ => KOC S) (fun _ => KI S)
    (fun i => kVar i) (fun z => kVal (.int z)) (fun b => kVal (.bl b)) (kVal .non) (fun x => kVal (.str x))
    (fun op _ _ a b => kBin op a b) (fun _ a => kNeg a) (fun _ a => kNot a)
    (fun op _ _ a b => kCmp op a b) (fun op op' _ _ _ a b c => kChain op op' a b c)
    (fun isAnd _ es => kBool isAnd es) (fun _ _ _ c a b => kIfe c a b)
    (fun _ es => kTup es) (fun _ es => kLst es)
    (fun f _ es => kCall F f es) (fun f _ _ perm es ks => kCallk F f perm es ks)
    (fun b _ es => kBi b es)
    (fun _ _ a b => kIx a b) (fun _ _ _ a lo hi => kSl a lo.o hi.o) (fun _ a => kRev a)
    (fun _ tg _ _ own elt it cond => kLc tg own elt it cond.c)
    (fun _ tg _ tg2 _ _ own elt it it2 cond => kLc2 tg tg2 own elt it it2 cond.c)
    kNil (fun _ _ e es => kCons e es)
    kONone (fun _ e => kOSome e)
    (fun _ e => kSeq e) (fun _ a => kRng1 a) (fun _ _ a b => kRng2 a b) (fun _ _ c a b => kRng3 c a b) (fun _ a => kEnum a) c
noncomputable def qEs (c : CEs) : KL S :=
  @CEs.rec (fun _ => KE S) (fun _ => KL S) (fun _ => KOC S) (fun _ => KI S)
    (fun i => kVar i) (fun z => kVal (.int z)) (fun b => kVal (.bl b)) (kVal .non) (fun x => kVal (.str x))
    (fun op _ _ a b => kBin op a b) (fun _ a => kNeg a) (fun _ a => kNot a)
    (fun op _ _ a b => kCmp op a b) (fun op op' _ _ _ a b c => kChain op op' a b c)
    (fun isAnd _ es => kBool isAnd es) (fun _ _ _ c a b => kIfe c a b)
    (fun _ es => kTup es) (fun _ es => kLst es)
    (fun f _ es => kCall F f es) (fun f _ _ perm es ks => kCallk F f perm es ks)
    (fun b _ es => kBi b es)
    (fun _ _ a b => kIx a b) (fun _ _ _ a lo hi => kSl a lo.o hi.o) (fun _ a => kRev a)
    (fun _ tg _ _ own elt it cond => kLc tg own elt it cond.c)
    (fun _ tg _ tg2 _ _ own elt it it2 cond => kLc2 tg tg2 own elt it it2 cond.c)
    kNil (fun _ _ e es => kCons e es)
    kONone (fun _ e => kOSome e)
    (fun _ e => kSeq e) (fun _ a => kRng1 a) (fun _ _ a b => kRng2 a b) (fun _ _ c a b => kRng3 c a b) (fun _ a => kEnum a) c
noncomputable def qO (c : CEo) : KOC S :=
  @CEo.rec (fun _ => KE S) (fun _ => KL S) (fun _ => KOC S) (fun _ => KI S)
    (fun i => kVar i) (fun z => kVal (.int z)) (fun b => kVal (.bl b)) (kVal .non) (fun x => kVal (.str x))
    (fun op _ _ a b => kBin op a b) (fun _ a => kNeg a) (fun _ a => kNot a)
    (fun op _ _ a b => kCmp op a b) (fun op op' _ _ _ a b c => kChain op op' a b c)
    (fun isAnd _ es => kBool isAnd es) (fun _ _ _ c a b => kIfe c a b)
    (fun _ es => kTup es) (fun _ es => kLst es)
    (fun f _ es => kCall F f es) (fun f _ _ perm es ks => kCallk F f perm es ks)
    (fun b _ es => kBi b es)
    (fun _ _ a b => kIx a b) (fun _ _ _ a lo hi => kSl a lo.o hi.o) (fun _ a => kRev a)
    (fun _ tg _ _ own elt it cond => kLc tg own elt it cond.c)
    (fun _ tg _ tg2 _ _ own elt it it2 cond => kLc2 tg tg2 own elt it it2 cond.c)
    kNil (fun _ _ e es => kCons e es)
    kONone (fun _ e => kOSome e)
    (fun _ e => kSeq e) (fun _ a => kRng1 a) (fun _ _ a b => kRng2 a b) (fun _ _ c a b => kRng3 c a b) (fun _ a => kEnum a) c
noncomputable def qI (c : CI) : KI S :=
  @CI.rec (fun _ => KE S) (fun _ => KL S) (fun _ => KOC S) (fun _ => KI S)
    (fun i => kVar i) (fun z => kVal (.int z)) (fun b => kVal (.bl b)) (kVal .non) (fun x => kVal (.str x))
    (fun op _ _ a b => kBin op a b) (fun _ a => kNeg a) (fun _ a => kNot a)
    (fun op _ _ a b => kCmp op a b) (fun op op' _ _ _ a b c => kChain op op' a b c)
    (fun isAnd _ es => kBool isAnd es) (fun _ _ _ c a b => kIfe c a b)
    (fun _ es => kTup es) (fun _ es => kLst es)
    (fun f _ es => kCall F f es) (fun f _ _ perm es ks => kCallk F f perm es ks)
    (fun b _ es => kBi b es)
    (fun _ _ a b => kIx a b) (fun _ _ _ a lo hi => kSl a lo.o hi.o) (fun _ a => kRev a)
    (fun _ tg _ _ own elt it cond => kLc tg own elt it cond.c)
    (fun _ tg _ tg2 _ _ own elt it it2 cond => kLc2 tg tg2 own elt it it2 cond.c)
    kNil (fun _ _ e es => kCons e es)
    kONone (fun _ e => kOSome e)
    (fun _ e => kSeq e) (fun _ a => kRng1 a) (fun _ _ a b => kRng2 a b) (fun _ _ c a b => kRng3 c a b) (fun _ a => kEnum a) c
def isNilEs : CEs → Bool | .nil => true | _ => false
mutual
theorem qE_eq : ∀ c : CE, qE F c = evE F c
  | .var i => by funext env s; simp only [evE]; rfl
  | .int i => by funext env s; simp only [evE]; rfl
  | .bl i => by funext env s; simp only [evE]; rfl
  | .non => by funext env s; simp only [evE]; rfl
  | .str i => by funext env s; simp only [evE]; rfl
  | .bin op a b => by funext env s; simp only [evE]; rw [← qE_eq a, ← qE_eq b]; rfl
  | .neg a => by funext env s; simp only [evE]; rw [← qE_eq a]; rfl
  | .not a => by funext env s; simp only [evE]; rw [← qE_eq a]; rfl
  | .cmp op a b => by funext env s; simp only [evE]; rw [← qE_eq a, ← qE_eq b]; rfl
  | .chain op op' a b c => by funext env s; simp only [evE]; rw [← qE_eq a, ← qE_eq b, ← qE_eq c]; rfl
  | .bool isAnd es => by funext env s; simp only [evE]; rw [← (qEs_eq es).2.1 isAnd]; rfl
  | .ife c a b => by funext env s; simp only [evE]; rw [← qE_eq a, ← qE_eq b, ← qE_eq c]; rfl
  | .tup es => by funext env s; simp only [evE]; rw [← (qEs_eq es).1]; rfl
  | .lst es => by funext env s; simp only [evE]; rw [← (qEs_eq es).1]; rfl
  | .call f es => by funext env s; simp only [evE]; rw [← (qEs_eq es).1]; rfl
  | .callk f es ks p => by funext env s; simp only [evE]; rw [← (qEs_eq es).1, ← (qEs_eq ks).1]; rfl
  | .bi b es => by funext env s; simp only [evE]; rw [← (qEs_eq es).1]; rfl
  | .ix a b => by funext env s; simp only [evE]; rw [← qE_eq a, ← qE_eq b]; rfl
  | .sl a lo hi => by funext env s; simp only [evE]; rw [← qE_eq a, ← (qO_eq lo).1, ← (qO_eq hi).1]; rfl
  | .rev a => by funext env s; simp only [evE]; rw [← qE_eq a]; rfl
  | .lc elt tg it cond own => by funext env s; simp only [evE]; rw [← qE_eq elt, ← qI_eq it, ← (qO_eq cond).2]; rfl
  | .lc2 elt tg it tg2 it2 cond own => by funext env s; simp only [evE]; rw [← qE_eq elt, ← qI_eq it, ← qI_eq it2, ← (qO_eq cond).2]; rfl
theorem qEs_eq : ∀ c : CEs, (qEs F c).l = evEs F c ∧ (∀ b, (qEs F c).b b = evB F b c) ∧ (qEs F c).nil = isNilEs c
  | .nil => ⟨by funext env s; simp only [evEs]; rfl, fun b => by funext env s; simp only [evB]; rfl, rfl⟩
  | .cons e es => by
    obtain ⟨h1, h2, h3⟩ := qEs_eq es
    refine ⟨by funext env s; simp only [evEs]; rw [← qE_eq e, ← h1]; rfl, fun b => ?_, rfl⟩
    funext env s
    cases es with
    | nil => simp only [evB]; rw [← qE_eq e]; rfl
    | cons e2 es2 => simp only [evB]; rw [← qE_eq e, ← h2 b]; rfl
theorem qO_eq : ∀ c : CEo, (qO F c).o = evO F c ∧ (qO F c).c = evC F c
  | .none => ⟨by funext env s; simp only [evO]; rfl, by funext env s; simp only [evC]; rfl⟩
  | .some e => ⟨by funext env s; simp only [evO]; rw [← qE_eq e]; rfl, by funext env s; simp only [evC]; rw [← qE_eq e]; rfl⟩
theorem qI_eq : ∀ c : CI, qI F c = evI F c
  | .seq e => by funext env s; simp only [evI]; rw [← qE_eq e]; rfl
  | .rng1 e => by funext env s; simp only [evI]; rw [← qE_eq e]; rfl
  | .rng2 a b => by funext env s; simp only [evI]; rw [← qE_eq a, ← qE_eq b]; rfl
  | .rng3 a b c => by funext env s; simp only [evI]; rw [← qE_eq a, ← qE_eq b]; rfl
  | .enum e => by funext env s; simp only [evI]; rw [← qE_eq e]; rfl
end
end
end Itp

namespace Itp
open PySem
section
variable {S : Type} (F : List (FS S)) (n : Nat)
abbrev KS (S : Type) := Itp.Env → S → Option (Out × Itp.Env × S)
def zAsg (i : Nat) (e : KE S) : KS S := fun env s => bnd (e env s) fun v s1 => some (.nx, env.set i (some v), s1)
def zAsgT (is : List Nat) (e : KE S) : KS S := fun env s => bnd (e env s) fun v s1 => match v with
    | .tup vs => (setAll is vs env).map fun env2 => (.nx, env2, s1)
    | _ => none
def zAsgP (is : List Nat) (es : KL S) : KS S := fun env s => bnd (es.l env s) fun vs s1 => (setAll is vs env).map fun env2 => (.nx, env2, s1)
def zAug (i : Nat) (op : BOp) (e : KE S) : KS S := fun env s => match getE env i with
    | some (.int a) => bnd (e env s) fun v s1 => match v, op with
      | .int b, .add => some (.nx, env.set i (some (.int (a + b))), s1)
      | .int b, .sub => some (.nx, env.set i (some (.int (a - b))), s1)
      | _, _ => none
    | _ => none
def zApp (i : Nat) (e : KE S) : KS S := fun env s => bnd (e env s) fun v s1 => match getE env i with
    | some (.lst xs) => if lenOk (xs.length + 1) then some (.nx, env.set i (some (.lst (xs ++ [v]))), s1) else none
    | _ => none
def zExt (i : Nat) (e : KE S) : KS S := fun env s => bnd (e env s) fun v s1 => match getE env i, v with
    | some (.lst xs), .lst ys => if lenOk (xs.length + ys.length) then some (.nx, env.set i (some (.lst (xs ++ ys))), s1) else none
    | _, _ => none
def zPopS (i : Nat) : KS S := fun env s => match getE env i with
    | some (.lst xs) => if xs.isEmpty then none else some (.nx, env.set i (some (.lst xs.dropLast)), s)
    | _ => none
def zAppPop (i j : Nat) (e : KE S) : KS S := fun env s => match getE env j with
    | some (.lst ys) => bnd (e env s) fun v s1 => match v with
      | .int k => match ys[k.toNat]? with
        | some y => match getE env i with
          | some (.lst xs) => if decide (0 ≤ k) && lenOk (xs.length + 1) then some (.nx, (env.set j (some (.lst (ys.eraseIdx k.toNat)))).set i (some (.lst (xs ++ [y]))), s1) else none
          | _ => none
        | none => none
      | _ => none
    | _ => none
def zAsgPop (i j : Nat) : KS S := fun env s => match getE env j with
    | some (.lst ys) => match ys.getLast? with
      | some y => some (.nx, (env.set j (some (.lst ys.dropLast))).set i (some y), s)
      | none => none
    | _ => none
def zSeti (i : Nat) (k e : KE S) : KS S := fun env s => bnd (e env s) fun v s1 => bnd (k env s1) fun kv s2 => match getE env i, kv with
    | some (.lst xs), .int k => if decide (0 ≤ k) && decide (k.toNat < xs.length) then some (.nx, env.set i (some (.lst (xs.set k.toNat v))), s2) else none
    | _, _ => none
def zT (c : KE S) : Itp.Env → S → Option (Bool × S) := fun env s => bnd (c env s) fun v s1 => (truthV v).map fun b => (b, s1)
def zIfe (c : KE S) (a b : KS S) : KS S := fun env s => match zT c env s with
    | some (true, s1) => a env s1
    | some (false, s1) => b env s1
    | none => none
def zWhl (n : Nat) (c : KE S) (b : KS S) : KS S := fun env s => whlGo (zT c) b n env s
def zForf (tg : Tg) (b : KS S) : Val → Itp.Env → S → Option (Out × Itp.Env × S) := fun x env s => match setT tg x env with
        | some env2 => b env2 s
        | none => none
def zFor (tg : Tg) (it : KI S) (b : KS S) : KS S := fun env s => bnd (it env s) fun items s1 => forGo (zForf tg b) items env s1
def zRet (e : KE S) : KS S := fun env s => bnd (e env s) fun v s1 => some (.rt v, env, s1)
def zOut (o : Out) : KS S := fun env s => some (o, env, s)
def zNev : KS S := fun _ _ => none
def zSq (c cs : KS S) : KS S := fun env s => match c env s with
    | some (.nx, env1, s1) => cs env1 s1
    | r => r
noncomputable def qS (c : CS) : KS S :=
  @CS.rec (fun _ => KS S) (fun _ => KS S)
    (fun i e => zAsg i (qE F e)) (fun is e => zAsgT is (qE F e)) (fun is es => zAsgP is (qEs F es)) (fun i op e => zAug i op (qE F e))
    (fun i e => zApp i (qE F e)) (fun i e => zExt i (qE F e)) (fun i => zPopS i) (fun i j e => zAppPop i j (qE F e)) (fun i j => zAsgPop i j) (fun i k e => zSeti i (qE F k) (qE F e))
    (fun c _ _ a b => zIfe (qE F c) a b) (fun c _ b => zWhl n (qE F c) b) (fun tg it _ b => zFor tg (qI F it) b)
    (fun e => zRet (qE F e)) (zOut (.rt .non)) (zOut .bk) (zOut .ct) (zOut .nx) zNev
    (zOut .nx) (fun _ _ c cs => zSq c cs) c
noncomputable def qSs (c : CSs) : KS S :=
  @CSs.rec (fun _ => KS S) (fun _ => KS S)
    (fun i e => zAsg i (qE F e)) (fun is e => zAsgT is (qE F e)) (fun is es => zAsgP is (qEs F es)) (fun i op e => zAug i op (qE F e))
    (fun i e => zApp i (qE F e)) (fun i e => zExt i (qE F e)) (fun i => zPopS i) (fun i j e => zAppPop i j (qE F e)) (fun i j => zAsgPop i j) (fun i k e => zSeti i (qE F k) (qE F e))
    (fun c _ _ a b => zIfe (qE F c) a b) (fun c _ b => zWhl n (qE F c) b) (fun tg it _ b => zFor tg (qI F it) b)
    (fun e => zRet (qE F e)) (zOut (.rt .non)) (zOut .bk) (zOut .ct) (zOut .nx) zNev
    (zOut .nx) (fun _ _ c cs => zSq c cs) c
theorem zT_eq (c : CE) : zT (qE F c) = evT F c := by funext env s; unfold zT evT; rw [qE_eq]
mutual
theorem qS_eq : ∀ c : CS, qS F n c = exS F n c
  | .asg i e => by funext env s; simp only [exS]; rw [← qE_eq]; rfl
  | .asgT i e => by funext env s; simp only [exS]; rw [← qE_eq]; rfl
  | .asgP i e => by funext env s; simp only [exS]; rw [← (qEs_eq F e).1]; rfl
  | .aug i op e => by funext env s; simp only [exS]; rw [← qE_eq]; rfl
  | .app i e => by funext env s; simp only [exS]; rw [← qE_eq]; rfl
  | .ext i e => by funext env s; simp only [exS]; rw [← qE_eq]; rfl
  | .popS i => by funext env s; simp only [exS]; rfl
  | .appPop i j e => by funext env s; simp only [exS]; rw [← qE_eq]; rfl
  | .asgPop i j => by funext env s; simp only [exS]; rfl
  | .seti i k e => by funext env s; simp only [exS]; rw [← qE_eq, ← qE_eq]; rfl
  | .ife c a b => by funext env s; simp only [exS]; rw [← zT_eq, ← qSs_eq a, ← qSs_eq b]; rfl
  | .whl c b => by funext env s; simp only [exS]; rw [← zT_eq, ← qSs_eq b]; rfl
  | .for tg it b => by funext env s; simp only [exS]; rw [← qI_eq, ← qSs_eq b]; rfl
  | .ret e => by funext env s; simp only [exS]; rw [← qE_eq]; rfl
  | .retN => by funext env s; simp only [exS]; rfl
  | .brk => by funext env s; simp only [exS]; rfl
  | .cnt => by funext env s; simp only [exS]; rfl
  | .pass => by funext env s; simp only [exS]; rfl
  | .nev => by funext env s; simp only [exS]; rfl
theorem qSs_eq : ∀ c : CSs, qSs F n c = exSs F n c
  | .nil => by funext env s; simp only [exSs]; rfl
  | .cons c cs => by funext env s; simp only [exSs]; rw [← qS_eq c, ← qSs_eq cs]; rfl
end
/-- a def's value -/
noncomputable def fnQ (m : Nat) (body : CSs) (args : List Val) (s : S) : Option (Val × S) :=
  match qSs F n body (args.map some ++ List.replicate (m - args.length) none) s with
  | some (.rt v, _, s1) => some (v, s1)
  | some (.nx, _, s1) => some (.non, s1)
  | _ => none
theorem fnQ_eq (m : Nat) (body : CSs) (args : List Val) (s : S) : fnQ F n m body args s = fnV F n m body args s := by
  unfold fnQ fnV
  rw [qSs_eq] <;> rfl
end
end Itp

namespace Itp
open PySem PySem.Spec PyProof.Rows L2

/-! ### no resource -/
abbrev R0 : Res where
  S := Unit
  foot := fun _ => False
  tok := .non
  inv := fun _ _ => True
  stay := fun _ _ _ _ _ => trivial
  lists := fun _ _ _ _ h => h.elim
  tokf := fun a h => by cases h
mutual
theorem Rep.tokc {tok tok' : V} {K : PySem.W.Frag} {A : Addr → Prop} {H : Hp} : ∀ (d : Val) {w : V}, d.noTok = true → Rep tok K A H d w → Rep tok' K A H d w
  | .non, w, _, h => by simp only [Rep] at h ⊢; exact h
  | .bl _, w, _, h => by simp only [Rep] at h ⊢; exact h
  | .int _, w, _, h => by simp only [Rep] at h ⊢; exact h
  | .str _, w, _, h => by simp only [Rep] at h ⊢; exact h
  | .tup ds, w, n, h => by
    simp only [Rep] at h ⊢
    obtain ⟨a, vs, e, h1, h2⟩ := h
    exact ⟨a, vs, e, h1, Reps.tokc ds (by simpa [Val.noTok] using n) h2⟩
  | .lst ds, w, n, h => by
    simp only [Rep] at h ⊢
    obtain ⟨a, vs, e, h1, h2, h3⟩ := h
    exact ⟨a, vs, e, h1, h2, Reps.tokc ds (by simpa [Val.noTok] using n) h3⟩
  | .tok, w, n, h => by simp [Val.noTok] at n
theorem Reps.tokc {tok tok' : V} {K : PySem.W.Frag} {A : Addr → Prop} {H : Hp} : ∀ (d : List Val) {w : List V}, Val.noToks d = true → Reps tok K A H d w → Reps tok' K A H d w
  | [], w, _, h => by simp only [Reps] at h ⊢; exact h
  | d :: ds, w, n, h => by
    simp only [Reps] at h ⊢
    simp only [Val.noToks, Bool.and_eq_true] at n
    obtain ⟨v, r, e, h1, h2⟩ := h
    exact ⟨v, r, e, Rep.tokc d n.1 h1, Reps.tokc ds n.2 h2⟩
end
/-- a function of values alone -/
def fsP (k : Kd) (p : List Val → Option Val) (S : Type) : FS S := ⟨fun ds s => if Val.noToks ds then match p ds with
  | some r => if r.noTok then some (r, s) else none
  | none => none
  else none, k⟩
theorem fsP_some {k : Kd} {p : List Val → Option Val} {S : Type} {ds : List Val} {s : S} {q : Val × S} (h : (fsP k p S).run ds s = some q) : Val.noToks ds = true ∧ p ds = some q.1 ∧ q.1.noTok = true ∧ q.2 = s := by
  simp only [fsP] at h
  split at h
  · split at h
    · split at h
      · cases h
        exact ⟨by assumption, by assumption, by assumption, rfl⟩
      · cases h
    · cases h
  · cases h
theorem fsP_run {k : Kd} {p : List Val → Option Val} {S : Type} {ds : List Val} {s : S} {r : Val} (h1 : Val.noToks ds = true) (h2 : p ds = some r) (h3 : r.noTok = true) : (fsP k p S).run ds s = some (r, s) := by
  simp only [fsP, h1, h2, h3, if_true]
section
variable {R : Res} {P : Program} {w : World} {K : PySem.W.Frag} {mg : Str → Option Value} {base : Heap} {F : List (FS R.S)} {T : Tb} {k : Nat}
theorem FnG.lift {kd : Kd} {p : List Val → Option Val} {x : Str} (h : FnG R0 P w K mg base T k (fsP kd p Unit) x) : FnG R P w K mg base T k (fsP kd p R.S) x := by
  obtain ⟨n, f, fd, ps, ok, h1, h2, h3, h4, h5⟩ := h.ok
  refine ⟨⟨n, f, fd, ps, ok.imp fun vs H Q E hq => ?_, h1, h2, h3, fun ds s q hr => ?_, h5⟩, fun hk ds s r s' hr => ?_⟩
  · obtain ⟨A, ds, s, r, s', fa, al, hr, hi, run, hl, q⟩ := hq
    obtain ⟨n1, n2, n3, n4⟩ := fsP_some run
    refine ⟨A, ds, (), r, (), fun a z => z.elim, al, Reps.tokc ds n1 hr, trivial, fsP_run n1 n2 n3, hl, fun w H' e i p f => ?_⟩
    exact q w H' (fun b o hb _ => e b o hb fun z => z) (by rw [show s' = s from n4]; exact R.stay _ _ _ hi fun b o _ hb => e b o hb fun z => z) (Rep.tokc r n3 p) f
  · obtain ⟨n1, n2, n3, n4⟩ := fsP_some hr
    exact h4 ds () _ (fsP_run n1 n2 n3)
  · obtain ⟨n1, n2, n3, n4⟩ := fsP_some hr
    exact h.pure hk ds () _ _ (fsP_run n1 n2 n3)
theorem Glob.nil (m : Mg mg T) : Glob R P w K mg base ([] : List (FS R.S)) T k := ⟨fun i fs x h => by simp at h, m⟩
theorem Glob.mono {j : Nat} (G : Glob R P w K mg base F T k) (h : k ≤ j) : Glob R P w K mg base F T j := ⟨fun i fs x h1 h2 => (G.fn i fs x h1 h2).mono h, G.mg⟩
theorem Glob.snoc (G : Glob R P w K mg base F T k) {fs : FS R.S} {x : Str} (hx : T.nm[F.length]? = some x) (h : FnG R P w K mg base T k fs x) : Glob R P w K mg base (F ++ [fs]) T k := by
  refine ⟨fun i f y h1 h2 => ?_, G.mg⟩
  by_cases hi : i < F.length
  · rw [List.getElem?_append_left hi] at h1
    exact G.fn i f y h1 h2
  · rw [List.getElem?_append_right (by omega)] at h1
    have : i - F.length = 0 := by
      cases hj : i - F.length with
      | zero => rfl
      | succ j => rw [hj] at h1; simp at h1
    rw [this] at h1
    have e : i = F.length := by omega
    subst e
    rw [hx] at h2
    cases h2
    simp at h1
    rw [← h1]
    exact h
/-- all of them, lifted -/
theorem Glob.lift {ps : List (Kd × (List Val → Option Val))} (G : Glob R0 P w K mg base (ps.map fun p => fsP p.1 p.2 Unit) T k) : Glob R P w K mg base (ps.map fun p => fsP p.1 p.2 R.S) T k := by
  refine ⟨fun i fs x h1 h2 => ?_, G.mg⟩
  rw [List.getElem?_map, Option.map_eq_some_iff] at h1
  obtain ⟨p, h3, rfl⟩ := h1
  exact (G.fn i (fsP p.1 p.2 Unit) x (by show (List.map (fun p => fsP p.1 p.2 Unit) ps : List (FS Unit))[i]? = _; rw [List.getElem?_map, h3]; rfl) h2).lift
def AllKw (K : PySem.W.Frag) (fd : FuncData) (ps : List Str) (x : Str) : List (Str × List Str × List Nat) → Prop
  | [] => True
  | p :: r => (p.1 = x → KBd K fd ps p.2.1 p.2.2) ∧ AllKw K fd ps x r
theorem AllKw.get {fd : FuncData} {ps : List Str} {x : Str} : ∀ {l : List (Str × List Str × List Nat)}, AllKw K fd ps x l → ∀ ks perm, (x, ks, perm) ∈ l → KBd K fd ps ks perm
  | [], _, _, _, h => by cases h
  | p :: r, h, ks, perm, hm => by
    rcases List.mem_cons.mp hm with e | hm
    · have := h.1 (by rw [← e])
      rw [← e] at this
      exact this
    · exact AllKw.get h.2 ks perm hm
/-- a def of the text that the module's name stands for -/
structure Has (K : PySem.W.Frag) (mg : Str → Option Value) (T : Tb) (x : Str) (st : Stmt) (ps : List Str) : Prop where
  ok : ∃ f fd, Fun K x x st f fd ∧ mg x = some (.ref f) ∧ Binds K fd ps [] ∧ AllKw K fd ps x T.kw
theorem FnG.mk' (G : Glob R P w K mg base F T k) {x : Str} {st : Stmt} {N ps : List Str} (h : Has K mg T x st ps) (S : FnScope N ps (defScope st)) (body : CSs) (rk : Kd) (fs : FS R.S)
    (hc : chkSs N T body (defScope st) (defBody st) = true) (hk : (cks (kds F) rk [] body (List.replicate N.length false)).isSome = true) (hkd : fs.kind = .fresh → rk = .fresh)
    (hrun : ∀ ds s q, fs.run ds s = some q → ds.length = ps.length ∧ ∃ n, fnV F n N.length body ds s = some q) (hp : fs.kind = .pure → ∀ ds s r s', fs.run ds s = some (r, s') → r.noLst = true) : FnG R P w K mg base T (k + 1) fs x := by
  obtain ⟨f, fd, Fu, h1, h2, h3⟩ := h.ok
  exact ⟨⟨ps.length, f, fd, ps, fn_ok G Fu S body rk fs hc hk hkd hrun, h1, Fu.kp, h2, fun ds s q hq => (hrun ds s q hq).1, h3.get⟩, hp⟩
end
/-- the same for a function of values alone -/
theorem FnG.mkP {P : Program} {w : World} {K : PySem.W.Frag} {mg : Str → Option Value} {base : Heap} {F : List (FS Unit)} {T : Tb} {k : Nat} (G : Glob R0 P w K mg base F T k) {x : Str} {st : Stmt} {N ps : List Str} (h : Has K mg T x st ps) (S : FnScope N ps (defScope st)) (body : CSs) (rk : Kd) (kd : Kd) (p : List Val → Option Val)
    (hc : chkSs N T body (defScope st) (defBody st) = true) (hk : (cks (kds (R := R0) F) rk [] body (List.replicate N.length false)).isSome = true) (hkd : kd = .fresh → rk = .fresh)
    (hrun : ∀ ds r, p ds = some r → ds.length = ps.length ∧ ∃ n, fnV F n N.length body ds () = some (r, ())) (hp : kd = .pure → ∀ ds r, p ds = some r → r.noLst = true) : FnG R0 P w K mg base T (k + 1) (fsP kd p Unit) x := by
  refine FnG.mk' (R := R0) G h S body rk (fsP kd p Unit) hc hk hkd (fun ds s q hq => ?_) fun hkk ds s r s' hq => ?_
  · obtain ⟨n1, n2, n3, n4⟩ := fsP_some hq
    obtain ⟨h1, n, h2⟩ := hrun ds _ n2
    exact ⟨h1, n, h2⟩
  · obtain ⟨n1, n2, n3, n4⟩ := fsP_some hq
    exact hp hkk ds _ n2
end Itp

namespace Itp
open PySem
section
variable {S : Type} {F : List (FS S)}
theorem lenOk_of {n : Nat} (h : n ≤ 16777216) : lenOk n = true := by unfold lenOk; exact decide_eq_true h
theorem lcGo_map {f : Val → S → Option (Option Val × S)} {g : Val → Option Val} {s : S} : ∀ {l : List Val}, (∀ x ∈ l, f x s = some (g x, s)) → l.length ≤ 16777216 → lcGo f l s = some (l.filterMap g, s)
  | [], _, _ => rfl
  | x :: r, h, hl => by
    have ih := lcGo_map (l := r) (fun y hy => h y (.tail _ hy)) (by simp at hl; omega)
    have hz : (r.filterMap g).length + 1 ≤ 16777216 := by
      have := List.length_filterMap_le g r
      simp at hl
      omega
    simp only [lcGo, h x (.head _), bnd_eq, ih, List.filterMap_cons]
    cases g x with
    | none => rfl
    | some y => simp only [lenOk_of hz, if_true]
theorem ev_lc {elt : CE} {tg : Tg} {it : CI} {cond : CEo} {own : List Nat} {env : Itp.Env} {s : S} {items : List Val} {g : Val → Option Val} (h1 : evI F it env s = some (items, s))
    (h2 : ∀ x ∈ items, ∃ env2, setT tg x (wipeE env own) = some env2 ∧ ((evC F cond env2 s = some (true, s) ∧ ∃ y, g x = some y ∧ evE F elt env2 s = some (y, s)) ∨ (evC F cond env2 s = some (false, s) ∧ g x = none)))
    (h3 : items.length ≤ 16777216) : evE F (.lc elt tg it cond own) env s = some (.lst (items.filterMap g), s) := by
  simp only [evE, h1, bnd_eq]
  rw [lcGo_map (g := g) (fun x hx => ?_) h3]
  · rfl
  · obtain ⟨env2, e1, e2⟩ := h2 x hx
    simp only [e1]
    rcases e2 with ⟨e2, y, e3, e4⟩ | ⟨e2, e3⟩
    · simp only [e2, bnd_eq, if_true, e4, e3]
    · simp only [e2, bnd_eq, Bool.false_eq_true, if_false, e3]
theorem ev_lcI {elt : CE} {j : Nat} {it : CI} {cond : CEo} {own : List Nat} {env : Itp.Env} {s : S} {xs : List Int} {p : Int → Bool} {h : Int → Val} (h1 : evI F it env s = some (xs.map .int, s))
    (h2 : ∀ x ∈ xs, evC F cond ((wipeE env own).set j (some (.int x))) s = some (p x, s)) (h3 : ∀ x ∈ xs, p x = true → evE F elt ((wipeE env own).set j (some (.int x))) s = some (h x, s))
    (h4 : xs.length ≤ 16777216) : evE F (.lc elt (.name j) it cond own) env s = some (.lst ((xs.filter p).map h), s) := by
  rw [ev_lc (g := fun v => match v with | .int x => if p x then some (h x) else none | _ => none) h1 (fun x hx => ?_) (by simpa using h4)]
  · congr 3
    rw [List.filterMap_map]
    clear h1 h2 h3 h4
    induction xs with
    | nil => rfl
    | cons x xs ih =>
      rw [List.filterMap_cons, List.filter_cons]
      cases hp : p x with
      | true => simp [hp]; simpa using ih
      | false => simp [hp]; simpa using ih
  · obtain ⟨x, hq, rfl⟩ := List.mem_map.mp hx
    refine ⟨_, rfl, ?_⟩
    cases hp : p x with
    | true => exact .inl ⟨by rw [h2 x hq, hp], h x, by simp [hp], h3 x hq hp⟩
    | false => exact .inr ⟨by rw [h2 x hq, hp], by simp [hp]⟩
/-- no condition -/
theorem ev_lcN {elt : CE} {j : Nat} {it : CI} {own : List Nat} {env : Itp.Env} {s : S} {xs : List Int} {h : Int → Val} (h1 : evI F it env s = some (xs.map .int, s))
    (h3 : ∀ x ∈ xs, evE F elt ((wipeE env own).set j (some (.int x))) s = some (h x, s)) (h4 : xs.length ≤ 16777216) : evE F (.lc elt (.name j) it .none own) env s = some (.lst (xs.map h), s) := by
  have := ev_lcI (F := F) (elt := elt) (j := j) (it := it) (cond := .none) (own := own) (env := env) (s := s) (p := fun _ => true) (h := h) h1 (fun x _ => by simp only [evC]) (fun x hx _ => h3 x hx) h4
  rw [this, List.filter_eq_self.mpr (fun _ _ => rfl)]
theorem forGo_inv {α : Type} {body : Val → Itp.Env → S → Option (Out × Itp.Env × S)} {c : α → Val} (I : List α → Itp.Env → S → Prop) : ∀ (xs pre : List α) (env : Itp.Env) (s : S), I pre env s →
    (∀ pre' x post env s, pre ++ xs = pre' ++ x :: post → I pre' env s → ∃ env' s', body (c x) env s = some (.nx, env', s') ∧ I (pre' ++ [x]) env' s') →
    ∃ env' s', forGo body (xs.map c) env s = some (.nx, env', s') ∧ I (pre ++ xs) env' s'
  | [], pre, env, s, h, _ => ⟨env, s, rfl, by rw [List.append_nil]; exact h⟩
  | x :: xs, pre, env, s, h, st => by
    obtain ⟨env1, s1, h1, h2⟩ := st pre x xs env s rfl h
    obtain ⟨env2, s2, h3, h4⟩ := forGo_inv I xs (pre ++ [x]) env1 s1 h2 (fun pre' y post env s e => st pre' y post env s (by rw [← e]; simp))
    refine ⟨env2, s2, ?_, by simpa using h4⟩
    rw [List.map_cons]
    simp only [forGo, h1]
    exact h3
theorem asInts_map : ∀ l : List Int, asInts (l.map .int) = some l
  | [] => rfl
  | x :: l => by simp only [List.map_cons, asInts, asInts_map l, Option.map_some]
theorem asRows_map : ∀ l : List (List Int), asRows (l.map ofRow) = some l
  | [] => rfl
  | x :: l => by rw [List.map_cons]; show (match asInts (x.map .int), asRows (l.map ofRow) with | some l, some m => some (l :: m) | _, _ => none) = _; rw [asInts_map, asRows_map l]
theorem sortV_rows {l : List (List Int)} (h : ∀ x ∈ l, x ≠ []) : sortV (l.map ofRow) = some ((sortL l).map ofRow) := by
  cases l with
  | nil => rfl
  | cons x l =>
    unfold sortV
    have e1 : asInts ((x :: l).map ofRow) = none := rfl
    rw [e1, asRows_map]
    have : (x :: l).all (fun l => !l.isEmpty) = true := by
      rw [List.all_eq_true]
      intro y hy
      have := h y hy
      cases y with
      | nil => exact absurd rfl this
      | cons _ _ => rfl
    simp only [this, if_true]
theorem noToks_map {α : Type} {f : α → Val} (h : ∀ x, (f x).noTok = true) : ∀ l : List α, Val.noToks (l.map f) = true
  | [] => rfl
  | x :: l => by simp only [List.map_cons, Val.noToks, h, noToks_map h l, Bool.and_self]
theorem noTok_row (l : List Int) : (ofRow l).noTok = true := by
  simp only [ofRow, Val.noTok]
  exact noToks_map (fun _ => rfl) l
theorem noLsts_map {α : Type} {f : α → Val} (h : ∀ x, (f x).noLst = true) : ∀ l : List α, Val.noLsts (l.map f) = true
  | [] => rfl
  | x :: l => by simp only [List.map_cons, Val.noLsts, h, noLsts_map h l, Bool.and_self]
theorem noLst_row (l : List Int) : (ofRow l).noLst = true := by
  simp only [ofRow, Val.noLst]
  exact noLsts_map (fun _ => rfl) l
/-- the numbers lo .. -/
def rngI (lo : Int) (n : Nat) : List Int := (List.range n).map fun (i : Nat) => lo + (i : Int)
theorem rngL_eq (lo : Int) (n : Nat) : rngL lo n = (rngI lo n).map .int := by unfold rngL rngI; rw [List.map_map]; rfl
end
/-- a def as the own text says it -/
def pI (n : Nat) (F : List (FS Unit)) (m : Nat) (b : CSs) : List Val → Option Val := fun ds => if ds.length = n then (fnV F 1000 m b ds ()).map (·.1) else none
theorem pI_run {n : Nat} {F : List (FS Unit)} {m : Nat} {b : CSs} (ds : List Val) (r : Val) (h : pI n F m b ds = some r) : ds.length = n ∧ ∃ k, fnV F k m b ds () = some (r, ()) := by
  unfold pI at h
  split at h
  · rename_i hl
    rw [Option.map_eq_some_iff] at h
    obtain ⟨a, h1, h2⟩ := h
    exact ⟨hl, 1000, by rw [h1, ← h2]⟩
  · cases h
end Itp

namespace Itp
open PySem PySem.Spec PyProof.Rows L2
mutual
def beqV : Val → Val → Bool
  | .non, .non => true
  | .bl a, .bl b => a == b
  | .int a, .int b => decide (a = b)
  | .str a, .str b => decide (a = b)
  | .tup xs, .tup ys => beqVs xs ys
  | .lst xs, .lst ys => beqVs xs ys
  | .tok, .tok => true
  | _, _ => false
def beqVs : List Val → List Val → Bool
  | [], [] => true
  | x :: xs, y :: ys => beqV x y && beqVs xs ys
  | _, _ => false
end
mutual
theorem beqV_of : ∀ {a b : Val}, beqV a b = true → a = b
  | .non, b, h => by cases b <;> simp [beqV] at h <;> rfl
  | .bl x, b, h => by cases b <;> simp [beqV] at h <;> simp [h]
  | .int x, b, h => by cases b <;> simp [beqV] at h <;> simp [h]
  | .str x, b, h => by cases b <;> simp [beqV] at h <;> simp [h]
  | .tup xs, b, h => by
    cases b <;> simp [beqV] at h
    rw [beqVs_of h]
  | .lst xs, b, h => by
    cases b <;> simp [beqV] at h
    rw [beqVs_of h]
  | .tok, b, h => by cases b <;> simp [beqV] at h <;> rfl
theorem beqVs_of : ∀ {a b : List Val}, beqVs a b = true → a = b
  | [], b, h => by cases b <;> simp [beqVs] at h <;> rfl
  | x :: xs, b, h => by
    cases b <;> simp [beqVs] at h
    rw [beqV_of h.1, beqVs_of h.2]
end
def isV (o : Option (Val × Unit)) (v : Val) : Bool := match o with
  | some (r, _) => beqV r v
  | none => false
theorem isV_of {o : Option (Val × Unit)} {v : Val} (h : isV o v = true) : o = some (v, ()) := by
  unfold isV at h
  split at h
  · rw [beqV_of h]
  · cases h
noncomputable def pQ (n : Nat) (F : List (FS Unit)) (m : Nat) (b : CSs) : List Val → Option Val := fun ds => if ds.length = n then (fnQ F 1000 m b ds ()).map (·.1) else none
theorem pQ_run {n : Nat} {F : List (FS Unit)} {m : Nat} {b : CSs} (ds : List Val) (r : Val) (h : pQ n F m b ds = some r) : ds.length = n ∧ ∃ k, fnV F k m b ds () = some (r, ()) := by
  unfold pQ at h
  split at h
  · rename_i hl
    rw [Option.map_eq_some_iff] at h
    obtain ⟨a, h1, h2⟩ := h
    exact ⟨hl, 1000, by rw [← fnQ_eq, h1, ← h2]⟩
  · cases h
def mkF (l : List (Kd × (List Val → Option Val))) : List (FS Unit) := l.map fun p => fsP p.1 p.2 Unit
theorem stage {P : Program} {w : World} {K : PySem.W.Frag} {mg : Str → Option Value} {base : Heap} {l : List (Kd × (List Val → Option Val))} {T : Tb} {k : Nat} (G : Glob R0 P w K mg base (mkF l) T k) {x : Str} {st : Stmt} {N ps : List Str} (h : Has K mg T x st ps) (S : FnScope N ps (defScope st)) (body : CSs) (rk : Kd) (kd : Kd) (p : List Val → Option Val)
    (hx : T.nm[l.length]? = some x)
    (hc : chkSs N T body (defScope st) (defBody st) = true) (hk : (cks (l.map (·.1)) rk [] body (List.replicate N.length false)).isSome = true) (hkd : kd = .fresh → rk = .fresh)
    (hrun : ∀ ds r, p ds = some r → ds.length = ps.length ∧ ∃ n, fnV (mkF l) n N.length body ds () = some (r, ())) (hp : kd = .pure → ∀ ds r, p ds = some r → r.noLst = true) : Glob R0 P w K mg base (mkF (l ++ [(kd, p)])) T (k + 1) := by
  have hkk : kds (R := R0) (mkF l) = l.map (·.1) := by
    unfold kds mkF
    rw [List.map_map]
    rfl
  have e := FnG.mkP G h S body rk kd p hc (by rw [hkk]; exact hk) hkd hrun hp
  have := (G.mono (Nat.le_succ k)).snoc (fs := fsP kd p Unit) (x := x) (by unfold mkF; rw [List.length_map]; exact hx) e
  unfold mkF at this ⊢
  rw [List.map_append]
  exact this
theorem finA {n : Nat} {f : Nat → Bool} (h : (List.range n).all f = true) {i : Nat} (hi : i < n) : f i = true := List.all_eq_true.mp h i (List.mem_range.mpr hi)
end Itp

namespace Itp
open PySem
section
variable {S : Type} {F : List (FS S)} {n : Nat}
theorem ss_nx {c : CS} {cs : CSs} {env env1 : Itp.Env} {s s1 : S} {r : Option (Out × Itp.Env × S)} (h : exS F n c env s = some (.nx, env1, s1)) (h2 : exSs F n cs env1 s1 = r) : exSs F n (.cons c cs) env s = r := by
  rw [exSs, h]; exact h2
theorem ss_rt {c : CS} {cs : CSs} {env env1 : Itp.Env} {s s1 : S} {v : Val} (h : exS F n c env s = some (.rt v, env1, s1)) : exSs F n (.cons c cs) env s = some (.rt v, env1, s1) := by
  rw [exSs, h]
theorem ss_end {env : Itp.Env} {s : S} : exSs F n .nil env s = some (.nx, env, s) := by rw [exSs]
theorem ex_asg {i : Nat} {e : CE} {v : Val} {env : Itp.Env} {s s1 : S} (h : evE F e env s = some (v, s1)) : exS F n (.asg i e) env s = some (.nx, env.set i (some v), s1) := by
  rw [exS, h]; rfl
theorem ex_ret {e : CE} {v : Val} {env : Itp.Env} {s s1 : S} (h : evE F e env s = some (v, s1)) : exS F n (.ret e) env s = some (.rt v, env, s1) := by
  rw [exS, h]; rfl
theorem ex_app {i : Nat} {e : CE} {v : Val} {xs : List Val} {env : Itp.Env} {s s1 : S} (h : evE F e env s = some (v, s1)) (h1 : getE env i = some (.lst xs)) (h2 : xs.length + 1 ≤ 16777216) : exS F n (.app i e) env s = some (.nx, env.set i (some (.lst (xs ++ [v]))), s1) := by
  rw [exS, h]; simp only [bnd_eq, h1, lenOk_of h2, if_true]
theorem ex_ext {i : Nat} {e : CE} {ys xs : List Val} {env : Itp.Env} {s s1 : S} (h : evE F e env s = some (.lst ys, s1)) (h1 : getE env i = some (.lst xs)) (h2 : xs.length + ys.length ≤ 16777216) : exS F n (.ext i e) env s = some (.nx, env.set i (some (.lst (xs ++ ys))), s1) := by
  rw [exS, h]; simp only [bnd_eq, h1, lenOk_of h2, if_true]
theorem ev_T {e : CE} {v : Val} {b : Bool} {env : Itp.Env} {s s1 : S} (h : evE F e env s = some (v, s1)) (h2 : truthV v = some b) : evT F e env s = some (b, s1) := by
  unfold evT; rw [h, bnd_eq, h2]; rfl
theorem ex_ifT {c : CE} {a b : CSs} {env : Itp.Env} {s s1 : S} (h : evT F c env s = some (true, s1)) : exS F n (.ife c a b) env s = exSs F n a env s1 := by
  rw [exS, h]
theorem ex_ifF {c : CE} {a b : CSs} {env : Itp.Env} {s s1 : S} (h : evT F c env s = some (false, s1)) : exS F n (.ife c a b) env s = exSs F n b env s1 := by
  rw [exS, h]
theorem fnV_rt {m : Nat} {body : CSs} {args : List Val} {v : Val} {env1 : Itp.Env} {s s1 : S} (h : exSs F n body (args.map some ++ List.replicate (m - args.length) none) s = some (.rt v, env1, s1)) : fnV F n m body args s = some (v, s1) := by
  unfold fnV; rw [h]
theorem ex_for {tg : Tg} {it : CI} {b : CSs} {items : List Val} {env : Itp.Env} {s s1 : S} {r : Option (Out × Itp.Env × S)} (h : evI F it env s = some (items, s1)) (h2 : forGo (fun x env s => match setT tg x env with
        | some env2 => exSs F n b env2 s
        | none => none) items env s1 = r) : exS F n (.for tg it b) env s = r := by
  rw [exS, h]; exact h2
theorem ev_call {f : Nat} {es : CEs} {fs : FS S} {vs : List Val} {env : Itp.Env} {s s1 : S} {r : Option (Val × S)} (hf : F[f]? = some fs) (h : evEs F es env s = some (vs, s1)) (h2 : fs.run vs s1 = r) : evE F (.call f es) env s = r := by
  rw [evE, hf]; simp only [h, bnd_eq]; exact h2
theorem ev_bi {b : Bi} {es : CEs} {vs : List Val} {v : Val} {env : Itp.Env} {s s1 : S} (h : evEs F es env s = some (vs, s1)) (h2 : biV b vs = some v) : evE F (.bi b es) env s = some (v, s1) := by
  rw [evE, h]; simp only [bnd_eq, h2, Option.map_some]
theorem evs_1 {e : CE} {v : Val} {env : Itp.Env} {s s1 : S} (h : evE F e env s = some (v, s1)) : evEs F (.cons e .nil) env s = some ([v], s1) := by
  simp only [evEs, h, bnd_eq]
theorem evs_2 {e e' : CE} {v v' : Val} {env : Itp.Env} {s s1 s2 : S} (h : evE F e env s = some (v, s1)) (h2 : evE F e' env s1 = some (v', s2)) : evEs F (.cons e (.cons e' .nil)) env s = some ([v, v'], s2) := by
  simp only [evEs, h, bnd_eq, h2]
theorem ev_var {i : Nat} {env : Itp.Env} {s : S} {v : Val} (h : getE env i = some v) : evE F (.var i) env s = some (v, s) := by
  rw [evE, h]; rfl
theorem ev_bin {op : BOp} {a b : CE} {x y v : Val} {env : Itp.Env} {s s1 s2 : S} (h1 : evE F a env s = some (x, s1)) (h2 : evE F b env s1 = some (y, s2)) (h3 : bop op x y = some v) : evE F (.bin op a b) env s = some (v, s2) := by
  rw [evE, h1]; simp only [bnd_eq, h2, h3, Option.map_some]
theorem ev_cmp {op : COp} {a b : CE} {x y : Val} {v : Bool} {env : Itp.Env} {s s1 s2 : S} (h1 : evE F a env s = some (x, s1)) (h2 : evE F b env s1 = some (y, s2)) (h3 : cop op x y = some v) : evE F (.cmp op a b) env s = some (.bl v, s2) := by
  rw [evE, h1]; simp only [bnd_eq, h2, h3, Option.map_some]
theorem ev_int {z : Int} {env : Itp.Env} {s : S} : evE F (.int z) env s = some (.int z, s) := by rw [evE]
theorem ev_tup2 {e e' : CE} {v v' : Val} {env : Itp.Env} {s s1 s2 : S} (h : evE F e env s = some (v, s1)) (h2 : evE F e' env s1 = some (v', s2)) : evE F (.tup (.cons e (.cons e' .nil))) env s = some (.tup [v, v'], s2) := by
  rw [evE, evs_2 h h2]; rfl
theorem ev_not {e : CE} {v : Val} {b : Bool} {env : Itp.Env} {s s1 : S} (h : evE F e env s = some (v, s1)) (h2 : (truthV v).map not = some b) : evE F (.not e) env s = some (.bl b, s1) := by
  rw [evE, h]; simp only [bnd_eq]; cases hv : truthV v with
  | none => rw [hv] at h2; cases h2
  | some c => rw [hv] at h2; cases h2; rfl
theorem ev_ix {a b : CE} {x y v : Val} {env : Itp.Env} {s s1 s2 : S} (h1 : evE F a env s = some (x, s1)) (h2 : evE F b env s1 = some (y, s2)) (h3 : ixV x y = some v) : evE F (.ix a b) env s = some (v, s2) := by
  rw [evE, h1]; simp only [bnd_eq, h2, h3, Option.map_some]
theorem ev_C {e : CE} {v : Val} {b : Bool} {env : Itp.Env} {s s1 : S} (h : evE F e env s = some (v, s1)) (h2 : truthV v = some b) : evC F (.some e) env s = some (b, s1) := by
  rw [evC, h]; simp only [bnd_eq, h2, Option.map_some]
theorem evi_rng1 {e : CE} {j : Int} {env : Itp.Env} {s s1 : S} (h : evE F e env s = some (.int j, s1)) (h2 : rngOk j = true) : evI F (.rng1 e) env s = some ((rngI 0 j.toNat).map .int, s1) := by
  rw [evI, h]; simp only [bnd_eq]; rw [if_pos h2, rngL_eq]
theorem evi_rng2 {e e' : CE} {i j : Int} {env : Itp.Env} {s s1 s2 : S} (h : evE F e env s = some (.int i, s1)) (h' : evE F e' env s1 = some (.int j, s2)) (h2 : (rngOk i && rngOk j) = true) : evI F (.rng2 e e') env s = some ((rngI i (j - i).toNat).map .int, s2) := by
  rw [evI, h]; simp only [bnd_eq, h']; rw [if_pos h2, rngL_eq]
theorem rngOk_of {j : Int} (h1 : -4611686018427387904 ≤ j) (h2 : j < 4611686018427387904) : rngOk j = true := by
  unfold rngOk
  rw [Bool.and_eq_true, decide_eq_true_eq, decide_eq_true_eq]
  exact ⟨h1, h2⟩
theorem evi_seq {e : CE} {v : Val} {xs : List Val} {env : Itp.Env} {s s1 : S} (h : evE F e env s = some (v, s1)) (h2 : seqV v = some xs) : evI F (.seq e) env s = some (xs, s1) := by
  rw [evI, h]; simp only [bnd_eq, h2, Option.map_some]
theorem biV_sum {l : List Int} {v : Val} (h : seqV v = some (l.map .int)) : biV .sum [v] = some (.int l.sum) := by
  simp only [biV, h, asInts_map, Option.map_some]
end
end Itp

namespace Itp
open PySem PySem.Spec PyProof.Rows L2
def hb_deal : CSs :=
(.cons (.asg 2 (.bin .mul (.bin .mul (.bin .mul (.bin .mul (.bin .mul (.bin .pow (.int 10) (.int 64)) (.bin .pow (.int 10) (.int 64))) (.bin .pow (.int 10) (.int 64))) (.bin .pow (.int 10) (.int 64))) (.bin .pow (.int 10) (.int 64))) (.bin .pow (.int 10) (.int 64))))
(.cons (.asg 3 (.lc (.bin .mod (.bi .int (.cons (.bi .abs (.cons (.bi .int (.cons (.var 4) .nil)) .nil)) .nil)) (.var 2)) (.name 4) (.seq (.sl (.var 0) .none (.some (.int 63)))) .none [4]))
(.cons (.asg 5 (.bin .add (.int 70001) (.bin .mul (.int 7919) (.var 1))))
(.cons (.for (.name 4) (.seq (.var 3))
(.cons (.asg 5 (.bin .mod (.bi .int (.cons (.bin .add (.bin .add (.bin .mul (.var 5) (.int 69621)) (.bin .mod (.bi .int (.cons (.var 4) .nil)) (.int 2147483563))) (.int 23)) .nil)) (.int 2147483647)))
.nil))
(.cons (.ret (.lst (.cons (.rev (.lc (.var 4) (.name 4) (.seq (.var 3)) (.some (.cmp .ge (.var 4) (.bin .pow (.int 10) (.int 18)))) [4])) (.cons (.var 5) .nil))))
.nil)))))
def hb_same : CSs :=
(.cons (.ife (.bi (.isin .tuple) (.cons (.var 1) .nil))
(.cons (.ife (.bool false (.cons (.not (.bi (.isin .tuple) (.cons (.var 0) .nil))) (.cons (.cmp .ne (.bi .len (.cons (.var 0) .nil)) (.bi .len (.cons (.var 1) .nil))) .nil)))
(.cons (.ret (.bl false))
.nil) .nil)
(.cons (.ret (.cmp .eq (.bi .len (.cons (.lc (.var 2) (.name 2) (.rng1 (.bi .len (.cons (.var 1) .nil))) (.some (.not (.call 1 (.cons (.ix (.var 0) (.var 2)) (.cons (.ix (.var 1) (.var 2)) .nil))))) [2]) .nil)) (.int 0)))
.nil)) .nil)
(.cons (.ife (.cmp .is (.var 1) .non)
(.cons (.ret (.cmp .is (.var 0) .non))
.nil) .nil)
(.cons (.ife (.bool false (.cons (.cmp .is (.var 1) (.bl true)) (.cons (.cmp .is (.var 1) (.bl false)) .nil)))
(.cons (.ret (.ife (.var 1) (.cmp .is (.var 0) (.bl true)) (.cmp .is (.var 0) (.bl false))))
.nil) .nil)
(.cons (.ife (.bi (.isin .str) (.cons (.var 1) .nil))
(.cons (.ret (.bool true (.cons (.bi (.isin .str) (.cons (.var 0) .nil)) (.cons (.cmp .eq (.var 0) (.var 1)) .nil))))
.nil) .nil)
(.cons (.ret (.bool true (.cons (.bi (.isin .int) (.cons (.var 0) .nil)) (.cons (.not (.bi (.isin .bool) (.cons (.var 0) .nil))) (.cons (.cmp .eq (.var 0) (.var 1)) .nil)))))
.nil)))))
def hb_all : CSs :=
(.cons (.ret (.cmp .eq (.bi .len (.cons (.lc (.var 1) (.tup [1, 2]) (.seq (.var 0)) (.some (.not (.call 1 (.cons (.var 1) (.cons (.var 2) .nil))))) [1, 2]) .nil)) (.int 0)))
.nil)

def okSame : Nat → Val → Bool
  | 0, _ => false
  | n + 1, .int _ => true
  | n + 1, .bl _ => true
  | n + 1, .non => true
  | n + 1, .tup xs => decide (xs.length ≤ 1000000) && xs.all (okSame n)
  | _, _ => false
def sameN (n : Nat) : List Val → Option Val
  | [v, w] => if beqV v w && okSame n v then some (.bl true) else none
  | _ => none
theorem okSame_noTok : ∀ (n : Nat) (v : Val), okSame n v = true → v.noTok = true
  | 0, v, h => by simp [okSame] at h
  | n + 1, .int _, _ => rfl
  | n + 1, .bl _, _ => rfl
  | n + 1, .non, _ => rfl
  | n + 1, .tup xs, h => by
    simp only [okSame, Bool.and_eq_true, List.all_eq_true] at h
    simp only [Val.noTok]
    exact go n xs h.2
  | n + 1, .str _, h => by simp [okSame] at h
  | n + 1, .lst _, h => by simp [okSame] at h
  | n + 1, .tok, h => by simp [okSame] at h
where
  go (n : Nat) : ∀ xs : List Val, (∀ x ∈ xs, okSame n x = true) → Val.noToks xs = true
  | [], _ => rfl
  | x :: xs, h => by
    simp only [Val.noToks, Bool.and_eq_true]
    exact ⟨okSame_noTok n x (h x (.head _)), go n xs fun y hy => h y (.tail _ hy)⟩
mutual
theorem beqV_refl : ∀ a : Val, beqV a a = true
  | .non => rfl
  | .bl x => by simp [beqV]
  | .int x => by simp [beqV]
  | .str x => by simp [beqV]
  | .tup xs => by simp [beqV, beqVs_refl xs]
  | .lst xs => by simp [beqV, beqVs_refl xs]
  | .tok => rfl
theorem beqVs_refl : ∀ a : List Val, beqVs a a = true
  | [] => rfl
  | x :: xs => by simp [beqVs, beqV_refl x, beqVs_refl xs]
end
theorem r_same {S : Type} {n : Nat} {v : Val} {s : S} (h : okSame n v = true) : (fsP .pure (sameN n) S).run [v, v] s = some (.bl true, s) := by
  have nt := okSame_noTok n v h
  exact fsP_run (by simp [Val.noToks, nt]) (by simp [sameN, beqV_refl, h]) rfl
theorem atI_map {xs : List Val} {i : Int} (h0 : 0 ≤ i) (h : i.toNat < xs.length) : L2.atI xs i = some xs[i.toNat] := by
  have e : i = ((i.toNat : Nat) : Int) := by omega
  have := atI_nat (xs := xs) (j := i.toNat) (List.getElem?_eq_getElem h)
  rw [← e] at this
  exact this
theorem same_int {F : List (FS Unit)} (i : Int) : fnV F 0 3 hb_same [.int i, .int i] () = some (.bl true, ()) := by
  have t : fnQ F 0 3 hb_same [.int i, .int i] () = some (.bl (i == i), ()) := rfl
  rw [← fnQ_eq, t, beq_self_eq_true]
theorem same_bl {F : List (FS Unit)} (i : Bool) : fnV F 0 3 hb_same [.bl i, .bl i] () = some (.bl true, ()) := by
  rw [← fnQ_eq]
  cases i <;> rfl
theorem same_non {F : List (FS Unit)} : fnV F 0 3 hb_same [.non, .non] () = some (.bl true, ()) := by
  rw [← fnQ_eq]
  rfl
theorem same_tup {F : List (FS Unit)} {n : Nat} (hF : F[1]? = some (fsP .pure (sameN n) Unit)) (xs : List Val) (h1 : xs.length ≤ 1000000) (h2 : ∀ x ∈ xs, okSame n x = true) : fnV F 0 3 hb_same [.tup xs, .tup xs] () = some (.bl true, ()) := by
  have t1 : evT F (.bi (.isin .tuple) (.cons (.var 1) .nil)) [some (.tup xs), some (.tup xs), none] () = some (true, ()) := ev_T (ev_bi (evs_1 (ev_var rfl)) rfl) rfl
  have t2 : evT F (.bool false (.cons (.not (.bi (.isin .tuple) (.cons (.var 0) .nil))) (.cons (.cmp .ne (.bi .len (.cons (.var 0) .nil)) (.bi .len (.cons (.var 1) .nil))) .nil))) [some (.tup xs), some (.tup xs), none] () = some (false, ()) := by
    have e1 : evE F (.not (.bi (.isin .tuple) (.cons (.var 0) .nil))) [some (.tup xs), some (.tup xs), none] () = some (.bl false, ()) := ev_not (ev_bi (evs_1 (ev_var rfl)) rfl) rfl
    have e2 : evE F (.cmp .ne (.bi .len (.cons (.var 0) .nil)) (.bi .len (.cons (.var 1) .nil))) [some (.tup xs), some (.tup xs), none] () = some (.bl false, ()) :=
      ev_cmp (ev_bi (evs_1 (ev_var rfl)) rfl) (ev_bi (evs_1 (ev_var rfl)) rfl) (by simp [cop, Itp.eqV])
    refine ev_T (v := .bl false) ?_ rfl
    rw [evE, evB, e1]
    simp only [bnd_eq, if_true]
    rw [evB, e2]
  have hr : ∀ k ∈ rngI 0 xs.length, 0 ≤ k ∧ k.toNat < xs.length := fun k hk => by
    unfold rngI at hk
    simp only [List.mem_map, List.mem_range] at hk
    obtain ⟨i, hi, rfl⟩ := hk
    omega
  have lc := ev_lcI (F := F) (elt := .var 2) (j := 2) (it := .rng1 (.bi .len (.cons (.var 1) .nil))) (cond := .some (.not (.call 1 (.cons (.ix (.var 0) (.var 2)) (.cons (.ix (.var 1) (.var 2)) .nil))))) (own := [2])
    (env := [some (.tup xs), some (.tup xs), none]) (s := ()) (xs := rngI 0 xs.length) (p := fun _ => false) (h := Val.int)
    (by
      have := evi_rng1 (F := F) (ev_bi (b := .len) (es := .cons (.var 1) .nil) (env := [some (.tup xs), some (.tup xs), none]) (s := ()) (evs_1 (ev_var rfl)) (v := .int (xs.length : Int)) rfl) (rngOk_of (by omega) (by omega))
      rw [Int.toNat_natCast] at this
      exact this)
    (fun k hk => by
      obtain ⟨g1, g2⟩ := hr k hk
      have a := atI_map g1 g2
      exact ev_C (v := .bl false) (ev_not (v := .bl true) (ev_call hF (evs_2 (ev_ix (x := .tup xs) (y := .int k) (ev_var rfl) (ev_var rfl) a) (ev_ix (x := .tup xs) (y := .int k) (ev_var rfl) (ev_var rfl) a)) (r_same (h2 _ (List.getElem_mem g2)))) rfl) rfl)
    (fun k hk hp => by cases hp) (by unfold rngI; rw [List.length_map, List.length_range]; exact Nat.le_trans h1 (by decide))
  rw [List.filter_eq_nil_iff.mpr (fun _ _ => by simp), List.map_nil] at lc
  exact fnV_rt (ss_rt ((ex_ifT t1).trans (ss_nx ((ex_ifF t2).trans ss_end) (ss_rt (ex_ret (v := .bl true) (ev_cmp (ev_bi (v := .int 0) (evs_1 lc) rfl) ev_int rfl))))))
theorem run_same {F : List (FS Unit)} {n : Nat} (hF : F[1]? = some (fsP .pure (sameN n) Unit)) (ds : List Val) (r : Val) (h : sameN (n + 1) ds = some r) : ds.length = 2 ∧ ∃ k, fnV F k 3 hb_same ds () = some (r, ()) := by
  unfold sameN at h
  split at h
  · rename_i v w
    split at h
    · rename_i hd
      cases h
      simp only [Bool.and_eq_true] at hd
      obtain ⟨h1, h2⟩ := hd
      have e := beqV_of h1
      subst e
      refine ⟨rfl, 0, ?_⟩
      cases v with
      | int i => exact same_int i
      | bl i => exact same_bl i
      | non => exact same_non
      | str _ => simp [okSame] at h2
      | lst _ => simp [okSame] at h2
      | tok => simp [okSame] at h2
      | tup xs =>
        simp only [okSame, Bool.and_eq_true, decide_eq_true_eq, List.all_eq_true] at h2
        exact same_tup hF xs h2.1 h2.2
    · cases h
  · cases h
def allN (n : Nat) : List Val → Option Val
  | [.lst ps] => if decide (ps.length ≤ 1000000) && ps.all (fun p => match p with
    | .tup [v, w] => (sameN n [v, w]).isSome
    | _ => false) then some (.bl true) else none
  | _ => none
theorem run_all {F : List (FS Unit)} {n : Nat} (hF : F[1]? = some (fsP .pure (sameN n) Unit)) (ds : List Val) (r : Val) (h : allN n ds = some r) : ds.length = 1 ∧ ∃ k, fnV F k 3 hb_all ds () = some (r, ()) := by
  unfold allN at h
  split at h
  · rename_i ps
    split at h
    · rename_i hd
      cases h
      simp only [Bool.and_eq_true, decide_eq_true_eq, List.all_eq_true] at hd
      obtain ⟨h1, h2⟩ := hd
      refine ⟨rfl, 0, ?_⟩
      have lc := ev_lc (F := F) (elt := .var 1) (tg := .tup [1, 2]) (it := .seq (.var 0)) (cond := .some (.not (.call 1 (.cons (.var 1) (.cons (.var 2) .nil))))) (own := [1, 2]) (env := [some (.lst ps), none, none]) (s := ()) (items := ps) (g := fun _ => none)
        (evi_seq (ev_var rfl) rfl) (fun x hx => by
          have := h2 x hx
          split at this
          · rename_i v w
            rw [Option.isSome_iff_exists] at this
            obtain ⟨r, hr⟩ := this
            unfold sameN at hr
            simp only at hr
            split at hr
            · rename_i hq
              simp only [Bool.and_eq_true] at hq
              obtain ⟨e, hq⟩ := hq
              have e := beqV_of e
              subst e
              refine ⟨_, rfl, .inr ⟨?_, rfl⟩⟩
              have c : evE F (.call 1 (.cons (.var 1) (.cons (.var 2) .nil))) [some (.lst ps), some v, some v] () = some (.bl true, ()) := ev_call hF (evs_2 (ev_var rfl) (ev_var rfl)) (r_same hq)
              show evC F _ [some (.lst ps), some v, some v] () = _
              rw [evC, evE, c]
              rfl
            · cases hr
          · cases this) (by omega)
      have e0 : ps.filterMap (fun _ => (none : Option Val)) = [] := by simp
      rw [e0] at lc
      exact fnV_rt (ss_rt (ex_ret (v := .bl true) (ev_cmp (ev_bi (v := .int 0) (evs_1 lc) rfl) ev_int rfl)))
    · cases h
  · cases h
end Itp

namespace Itp
open PySem PySem.Spec PyProof.Rows L2
/-! ### the deal: a list of a list of digits and a number -/
abbrev DS := List Int × Int
def dropZ (l : List Int) : List Int := (l.reverse.dropWhile fun x => x == 0).reverse
def mixN (m : Int) : Int := (m * 48271 + 31).fmod 2147483647
def anyS (b : Int) (s : DS) : Int × DS := match (dropZ s.1).getLast? with
  | some r => (r.fmod b, ((dropZ s.1).dropLast ++ [r.fdiv b], s.2))
  | none => ((((mixN s.2).fdiv 64).fmod b), ([], mixN s.2))
theorem anyS_rng {b : Int} (h : 0 < b) (s : DS) : 0 ≤ (anyS b s).1 ∧ (anyS b s).1 < b := by
  unfold anyS
  split
  · exact ⟨Int.fmod_nonneg_of_pos _ h, Int.fmod_lt_of_pos _ h⟩
  · exact ⟨Int.fmod_nonneg_of_pos _ h, Int.fmod_lt_of_pos _ h⟩
theorem dropZ_snoc (l : List Int) (x : Int) : dropZ (l ++ [x]) = if x == 0 then dropZ l else l ++ [x] := by
  unfold dropZ
  rw [List.reverse_append]
  show (List.dropWhile (fun x => x == 0) (x :: l.reverse)).reverse = _
  rw [List.dropWhile_cons]
  cases h : (x == 0) with
  | true => simp
  | false => simp
theorem dropZ_len (l : List Int) : (dropZ l).length ≤ l.length := by
  unfold dropZ
  rw [List.length_reverse]
  refine Nat.le_trans (List.Sublist.length_le (List.dropWhile_sublist _)) ?_
  rw [List.length_reverse]
  exact Nat.le_refl _
structure DInv (aD aL : Addr) (s : DS) (H : Hp) : Prop where
  ne : aD ≠ aL
  d : H aD = some (.lst [.ref aL, .int s.2])
  l : H aL = some (.lst (s.1.map V.int))
  len : s.1.length ≤ 63
  lo : 0 ≤ s.2
  hi : s.2 < 2147483647
def dR (aD aL : Addr) : Res where
  S := DS
  foot := fun b => b = aD ∨ b = aL
  tok := .ref aD
  inv := DInv aD aL
  stay := fun s H H' h e => ⟨h.ne, e _ _ (.inl rfl) h.d, e _ _ (.inr rfl) h.l, h.len, h.lo, h.hi⟩
  lists := fun s H h b hb => by
    rcases hb with rfl | rfl
    · exact ⟨_, h.d⟩
    · exact ⟨_, h.l⟩
  tokf := fun a h => by cases h; exact .inl rfl
def anyFS : FS DS := ⟨fun ds s => match ds with
  | [.tok, .int b] => if decide (0 < b) && decide (b < 1073741824) then some (.int (anyS b s).1, (anyS b s).2) else none
  | _ => none, .any⟩
theorem mixN_rng (m : Int) : 0 ≤ mixN m ∧ mixN m < 2147483647 := ⟨Int.fmod_nonneg_of_pos _ (by decide), Int.fmod_lt_of_pos _ (by decide)⟩
section
variable {X : Cx}
theorem shaped_ints : ∀ ns : List Int, PyData.canLayAll0 (Val.toDs (ns.map .int)) = true ∧ PyData.depthAll (Val.toDs (ns.map .int)) = 0
  | [] => ⟨rfl, rfl⟩
  | n :: ns => by
    obtain ⟨h1, h2⟩ := shaped_ints ns
    rw [List.map_cons]
    simp only [Val.toDs, Val.toD, PyData.canLayAll0, PyData.canLay0, PyData.depthAll, PyData.depth, h1, h2]
    exact ⟨rfl, rfl⟩
theorem shapedV_ints (ns : List Int) : shapedV (.lst (ns.map .int)) = true := by
  obtain ⟨h1, h2⟩ := shaped_ints ns
  unfold shapedV SeqAt.shaped
  have h3 : Val.noTok (.lst (ns.map .int)) = true := by
    simp only [Val.noTok]
    exact noToks_map (fun _ => rfl) ns
  simp only [h3, Val.toD, PyData.canLay0, PyData.depth, h1, h2]
  rfl
theorem eqV_nil (ns : List Int) : Itp.eqV (.lst (ns.map .int)) (.lst []) = some ns.isEmpty := by
  have h1 := shapedV_ints ns
  have h2 := shapedV_ints []
  show (if (shapedV (.lst (ns.map .int)) && shapedV (.lst [])) = true then some (PyData.eqv (Val.toD (.lst (ns.map .int))) (Val.toD (.lst []))) else none) = _
  rw [h1, show shapedV (.lst []) = true from h2]
  cases ns with
  | nil => rfl
  | cons n ns => rfl
theorem reps_intsA {tok : V} {K : PySem.W.Frag} {A : Addr → Prop} {H : Hp} : ∀ ns : List Int, Reps tok K A H (ns.map .int) (ns.map V.int)
  | [] => by simp only [List.map_nil]; exact Reps.nil
  | n :: ns => by simp only [List.map_cons]; exact Reps.cons rep_int (reps_intsA ns)
theorem op_neNil (hu : X.A.units + 64 < cLine) : OpR X (compareOp .NotEq) (fun x y H Q => ∃ (a b : Addr) (ns : List Int), x = .ref a ∧ y = .ref b ∧ H a = some (.lst (ns.map V.int)) ∧ H b = some (.lst []) ∧ ∀ H', Same H H' → Q (.bl (!ns.isEmpty)) H') := by
  intro pins s σ H x y v u Q I rx ry h
  obtain ⟨a, b, ns, rfl, rfl, h1, h2, q⟩ := h
  refine op_cmpA (tok := .non) (F := fun _ => False) hu .ne pins s σ H _ _ v u Q I rx ry ⟨fun _ => False, .lst (ns.map .int), .lst [], .bl (!ns.isEmpty), fun _ z => z, fun _ z => z.elim, .inl ?_, .inl ?_, ?_, fun w H' sm r f => ?_⟩
  · simp only [Rep]
    exact ⟨a, _, rfl, h1, fun z => z, reps_intsA ns⟩
  · simp only [Rep, Reps]
    exact ⟨b, _, rfl, h2, fun z => z, rfl⟩
  · simp only [copV, cop, eqV_nil]
    rfl
  · simp only [Rep] at r
    rw [r]
    exact q H' sm
theorem cr_int1 : CallR X (.type "int") (fun xs H Q => ∃ i, xs = [V.int i] ∧ ∀ H', Same H H' → Q (.int i) H') := by
  intro pins s σ H xs us Q I r h
  obtain ⟨i, rfl, q⟩ := h
  refine cr_intA (tok := .non) (F := fun _ => False) pins s σ H _ us Q I r ⟨fun _ => False, [.int i], .int i, fun _ z => z, fun _ z => z.elim, ⟨_, _, rfl, .inl rep_int, rfl⟩, rfl, fun w H' sm r f => ?_⟩
  simp only [Rep] at r
  rw [r]
  exact q H' sm
end
end Itp

namespace Itp
open PySem PySem.Spec PyProof.Rows L2
def lits : List Int → CEs
  | [] => .nil
  | i :: l => .cons (.int i) (lits l)
section
variable {R : Res} {F : List (FS R.S)} {N : List Str} {T : Tb} {n : Nat}
theorem ev_lits {env : Env} {s : R.S} : ∀ l : List Int, evEs F (lits l) env s = some (l.map .int, s)
  | [] => by simp only [lits, evEs]; rfl
  | i :: l => by simp only [lits, evEs, evE, bnd_eq, ev_lits l]; rfl
/-- script[:63], where the script may be an object that nobody changes -/
theorem pi_script {X : Cx} {tgE iterE : Expr} {ow : List Bool} (g : Good R F N T X) (hc : chkI N T (.seq (.sl (.var 0) .none (.some (.int 63)))) X.env.scope iterE = true) (ns : List Int) (hl : ns.length ≤ 63) :
    PI X tgE iterE (fun σ H Q => (∃ a, σ[0]? = some (some (V.ref a)) ∧ SqL X.K H a (ns.map V.int)) ∧ rdI F X.K false ow (.seq (.lst (lits ns))) σ H Q) := by
  simp only [chkI] at hc
  unfold chkE at hc
  split at hc
  · rename_i e lo hi p1 p2
    simp only [Bool.and_eq_true] at hc
    obtain ⟨⟨h1, h2⟩, h3⟩ := hc
    cases e <;> simp only [chkE] at h1 <;> try (cases h1; done)
    rename_i x xp
    simp only [Bool.and_eq_true, decide_eq_true_eq, okName] at h1
    cases lo with
    | some _ => simp [chkO] at h2
    | none =>
      cases hi with
      | none => simp [chkO] at h3
      | some eh =>
        have h3 : chkE N T (.int 63) X.env.scope eh = true := by simpa [chkO] using h3
        cases eh <;> simp only [chkE] at h3 <;> try (cases h3; done)
        rename_i c k kp _
        have h3 : ∃ z, c = .int z ∧ z = 63 := by
          cases c <;> first
            | exact ⟨_, rfl, of_decide_eq_true h3⟩
            | cases h3
        obtain ⟨z, rfl, rfl⟩ := h3
        refine (pi_list (pe_slice sl_list (pe_var (i := 0) (by rw [g.N]; exact h1.1.1) (visB_of h1.1.2) h1.2.1 h1.2.2) po_none (po_some pe_int))).weak fun σ H Q => ?_
        rintro ⟨⟨a, e0, hS⟩, A, env, s, xs, s', er, ev, q⟩
        simp only [evI, evE, ev_lits, bnd_eq, List.length_map, lenOk_of (show ns.length ≤ 16777216 by omega), if_true, seqV, Option.map_some] at ev
        cases ev
        refine ⟨.ref a, e0, 63, rfl, a, _, rfl, hS, fun p hp => ⟨p, rfl, ⟨_, SqL.of upd_same⟩, q _ _ ?_ ?_ ?_⟩⟩
        · exact Ext.of_same (same_new hp)
        · exact R.stay _ _ _ er.inv fun b o _ hb => (same_new hp) _ _ hb
        · have hcut : cutV (ns.map V.int) none (some 63) = ns.map V.int := by
            unfold cutV
            rw [HT.sIx_none, show HT.sIx (ns.map V.int).length (ns.map V.int).length (some 63) = min 63 (ns.map V.int).length from HT.sIx_nat _ _ 63, List.drop_zero, List.take_of_length_le]
            rw [List.length_map]
            omega
          rw [hcut]
          have na : ¬ A p := fun z => by
            obtain ⟨xs, e⟩ := er.al p z
            rw [hp] at e
            cases e
          have er2 := er.ext (Ext.of_same (same_new (o := .lst (ns.map V.int)) hp)) (R.stay _ _ _ er.inv fun b o _ hb => (same_new hp) _ _ hb)
          exact items_list er.fa er2.al (fun z => na (er.fa _ z)) upd_same (reps_intsA ns)
  · cases hc
/-- name = [.. for .. in script[:63]] -/
theorem ss_script {X : Cx} {st : Stmt} {i : Nat} {elt : CE} {tg : Tg} {cond : CEo} {own : List Nat} {ow ow' lo : List Bool} {rk : Kd} (ns : List Int) (hl : ns.length ≤ 63) (g : GoodS R F N T X)
    (hc : chkS N T (.asg i (.lc elt tg (.seq (.sl (.var 0) .none (.some (.int 63)))) cond own)) X.env.scope st = true) (hk : ck (kds F) rk lo (.asg i (.lc elt tg (.seq (.lst (lits ns))) cond own)) ow = some ow') :
    PS X st (fun D σ H => (∃ a, σ[0]? = some (some (V.ref a)) ∧ SqL X.K H a (ns.map V.int)) ∧ rdS F X.K n ow ow' lo rk (.asg i (.lc elt tg (.seq (.lst (lits ns))) cond own)) D σ H) := by
  unfold chkS at hc
  split at hc
  · rename_i x p v pos
    simp only [Bool.and_eq_true, decide_eq_true_eq] at hc
    obtain ⟨⟨c1, c2⟩, c3⟩ := hc
    simp only [ck] at hk
    split at hk
    · rename_i hk'
      cases hk
      generalize he : (CE.lc elt tg (.seq (.lst (lits ns))) cond own) = e at hk' ⊢
      simp only [Bool.and_eq_true, decide_eq_true_eq] at hk'
      obtain ⟨⟨k1, k2⟩, k3⟩ := hk'
      have l := g.loc c2
      have hN : X.N[i]? = some x := by rw [g.good.N]; exact c1
      have fin : ∀ (D : Ends) (σ : L2.St) (H : Hp), rdS F X.K n ow ((clr (kds F) e ow).set i (fresh (kds F) e)) lo rk (.asg i e) D σ H → rdE F X.K (clr (kds F) e ow) e σ H (fun x H1 => gName i x σ H1 D.nx) := by
        rintro D σ H ⟨A0, H0, M, env, s, o, env', s', r, ex, q⟩
        obtain ⟨M1, r1⟩ := r.le k2
        simp only [exS] at ex
        obtain ⟨d, s1, h1, ex⟩ := bnd_some ex
        cases ex
        refine ⟨_, env, s, d, _, r1.erel, h1, fun w H1 e1 i1 p1 f1 => ?_⟩
        obtain ⟨M2, r2⟩ := r1.store e1 i1 (i := i) p1 f1 (.inl (by rw [(leB_of k2).1]; exact k3))
        exact q M2 _ H1 r2
      have hc' := c3
      unfold chkE at c3
      split at c3
      · rename_i x2 g2 i2 ifs asy scope2 pos2
        simp only [Bool.and_eq_true, decide_eq_true_eq, List.all_eq_true, List.contains_iff_mem] at c3
        obtain ⟨⟨⟨⟨⟨⟨⟨rfl, d1⟩, d2⟩, d3⟩, d4⟩, d5⟩, d6⟩, d7⟩ := c3
        have bo := blkOk_by d2
        rw [← g.good.N] at bo
        generalize clr (kds F) e ow = oc at fin k1 k2
        have hv := k1
        rw [← he] at hv
        simp only [okV, Bool.and_eq_true] at hv
        have fold := foldI d3 X.env
        rcases sw_two (e := .ListComp x2 [⟨g2, i2, ifs, 0⟩] scope2 pos2) (x := x) (p := p) (l := pos.line) (env := X.env) with hs | hs
        · refine (ps_setLc (te := rdE F X.K (wipeB oc own) elt) (tt := rdC F X.K (wipeB oc own) cond) (g := gT X.K tg) g.good.calm g.good.nd hN (sw_loc g.kind hs) hs (pi_script (ow := oc) g.good d3 ns hl) bo
            (fun s H C cl fp => tg_ok g.good.blk blk_tg d4) (fun s H C cl fp => soundC cond _ _ (wipeB oc own) g.good.blk d6 hv.1.2) (fun s H C cl fp => (soundE elt (X.blk s H _ (compEnvC _ cl C X.env) fp) _ (wipeB oc own) g.good.blk d7).1 hv.2) fold).weak fun D σ H h => ?_
          have f := fin D σ H h.2
          rw [← he] at f
          have z := lc_go (X := X) (by exact d5) f
          rw [g.good.N, d1]
          exact ⟨h.1, z⟩
        · refine (ps_set g.good.nd hN l.1 (pe_lc (te := rdE F X.K (wipeB oc own) elt) (tt := rdC F X.K (wipeB oc own) cond) (g := gT X.K tg) g.good.calm g.good.nd (pi_script (ow := oc) g.good d3 ns hl) bo
            (fun s H C cl fp => tg_ok g.good.blk blk_tg d4) (fun s H C cl fp => soundC cond _ _ (wipeB oc own) g.good.blk d6 hv.1.2) (fun s H C cl fp => (soundE elt (X.blk s H _ (compEnvC _ cl C X.env) fp) _ (wipeB oc own) g.good.blk d7).1 hv.2) fold) hs l.2).weak fun D σ H h => ?_
          have f := fin D σ H h.2
          rw [← he] at f
          have z := lc_go (X := X) (by exact d5) f
          rw [g.good.N, d1]
          exact ⟨h.1, z⟩
      · cases c3
    · cases hk
  · cases hc
end
end Itp

namespace Itp
open PySem PySem.Spec PyProof.Rows L2
def hdP : CE := .bin .pow (.int 10) (.int 64)
def hdM : CE := .bin .mul (.bin .mul (.bin .mul (.bin .mul (.bin .mul hdP hdP) hdP) hdP) hdP) hdP
def hdE : CE := .bin .mod (.bi .int (.cons (.bi .abs (.cons (.bi .int (.cons (.var 4) .nil)) .nil)) .nil)) (.var 2)
def hdB : CSs := .cons (.asg 5 (.bin .mod (.bi .int (.cons (.bin .add (.bin .add (.bin .mul (.var 5) (.int 69621)) (.bin .mod (.bi .int (.cons (.var 4) .nil)) (.int 2147483563))) (.int 23)) .nil)) (.int 2147483647))) .nil
def hdL : CE := .lc (.var 4) (.name 4) (.seq (.var 3)) (.some (.cmp .ge (.var 4) (.bin .pow (.int 10) (.int 18)))) [4]
def hdR : CSs := .cons (.asg 5 (.bin .add (.int 70001) (.bin .mul (.int 7919) (.var 1)))) (.cons (.for (.name 4) (.seq (.var 3)) hdB) (.cons (.ret (.lst (.cons (.rev hdL) (.cons (.var 5) .nil)))) .nil))
theorem hb_deal_eq : hb_deal = .cons (.asg 2 hdM) (.cons (.asg 3 (.lc hdE (.name 4) (.seq (.sl (.var 0) .none (.some (.int 63)))) .none [4])) hdR) := rfl
def p10 : Int := 10 ^ 64
def big : Int := p10 * p10 * p10 * p10 * p10 * p10
theorem big_ne : big ≠ 0 := by decide +kernel
theorem mul_ok1 : mulOk p10 p10 = true := by decide +kernel
theorem mul_ok2 : mulOk (p10 * p10) p10 = true := by decide +kernel
theorem mul_ok3 : mulOk (p10 * p10 * p10) p10 = true := by decide +kernel
theorem mul_ok4 : mulOk (p10 * p10 * p10 * p10) p10 = true := by decide +kernel
theorem mul_ok5 : mulOk (p10 * p10 * p10 * p10 * p10) p10 = true := by decide +kernel
def p18 : Int := 10 ^ 18
section
variable {S : Type} {F : List (FS S)} {env : Env} {s : S}
theorem pow10 (k : Int) (h : (decide (0 ≤ k) && decide (k ≤ 1000000) && decide ((10 : Int).natAbs < 2 ^ 64)) = true) : bop .pow (.int 10) (.int k) = some (.int (10 ^ k.toNat)) := by
  simp only [bop, bopI]
  rw [if_pos h]
theorem ev_p : evE F hdP env s = some (.int p10, s) := ev_bin ev_int ev_int (pow10 64 (by decide))
theorem ev_mul {a b : CE} {i j : Int} (h1 : evE F a env s = some (.int i, s)) (h2 : evE F b env s = some (.int j, s)) (h3 : mulOk i j = true) : evE F (.bin .mul a b) env s = some (.int (i * j), s) :=
  ev_bin h1 h2 (by simp only [bop, bopI, h3, if_true])
theorem ev_M : evE F hdM env s = some (.int big, s) :=
  ev_mul (ev_mul (ev_mul (ev_mul (ev_mul ev_p ev_p mul_ok1) ev_p mul_ok2) ev_p mul_ok3) ev_p mul_ok4) ev_p mul_ok5
theorem ev_mod {a b : CE} {i j : Int} (h1 : evE F a env s = some (.int i, s)) (h2 : evE F b env s = some (.int j, s)) (h3 : j ≠ 0) : evE F (.bin .mod a b) env s = some (.int (i.fmod j), s) :=
  ev_bin h1 h2 (by simp only [bop, bopI, bne_iff_ne, ne_eq, h3, not_false_eq_true, if_true])
theorem ev_add {a b : CE} {i j : Int} (h1 : evE F a env s = some (.int i, s)) (h2 : evE F b env s = some (.int j, s)) : evE F (.bin .add a b) env s = some (.int (i + j), s) := ev_bin h1 h2 rfl
theorem ev_toint {a : CE} {i : Int} (h1 : evE F a env s = some (.int i, s)) : evE F (.bi .int (.cons a .nil)) env s = some (.int i, s) := ev_bi (evs_1 h1) rfl
theorem mulOk_r {i j : Int} (h : j.natAbs < 2 ^ 64) : mulOk i j = true := by
  unfold mulOk
  rw [decide_eq_true h, Bool.or_true, Bool.true_or]
theorem mulOk_l {i j : Int} (h : i.natAbs < 2 ^ 64) : mulOk i j = true := by
  unfold mulOk
  rw [decide_eq_true h, Bool.true_or, Bool.true_or]
/-- the cells, the digits, the number -/
def cellsN (ns : List Int) : List Int := ns.map fun x => (if x < 0 then -x else x).fmod big
def digsN (ns : List Int) : List Int := ((cellsN ns).filter fun x => decide (p18 ≤ x)).reverse
theorem ev_cells {salt : Int} (ns : List Int) (hl : ns.length ≤ 63) : evE F (.lc hdE (.name 4) (.seq (.lst (lits ns))) .none [4]) [none, some (.int salt), some (.int big), none, none, none] s = some (.lst ((cellsN ns).map .int), s) := by
  have lc := ev_lcN (F := F) (elt := hdE) (j := 4) (it := .seq (.lst (lits ns))) (own := [4]) (env := [none, some (.int salt), some (.int big), none, none, none]) (s := s) (xs := ns) (h := fun x => .int ((if x < 0 then -x else x).fmod big))
    (evi_seq (v := .lst (ns.map .int)) (by rw [evE, show evEs F (lits ns) _ s = some (ns.map .int, s) from ev_lits' ns]; simp only [bnd_eq, List.length_map]; rw [if_pos (lenOk_of (by omega))]) rfl)
    (fun x hx => ev_mod (ev_toint (ev_bi (v := .int (if x < 0 then -x else x)) (evs_1 (ev_toint (ev_var rfl))) rfl)) (ev_var rfl) big_ne) (by omega)
  rw [show (fun x : Int => Val.int ((if x < 0 then -x else x).fmod big)) = Val.int ∘ (fun x => (if x < 0 then -x else x).fmod big) from rfl, ← List.map_map] at lc
  exact lc
where
  ev_lits' {env : Env} {s : S} : ∀ l : List Int, evEs F (lits l) env s = some (l.map .int, s)
  | [] => by simp only [lits, evEs]; rfl
  | i :: l => by simp only [lits, evEs, evE, bnd_eq, ev_lits' l]; rfl
theorem ex_rest {n : Nat} {salt : Int} (h0 : 0 ≤ salt) (h1 : salt ≤ 1000) (ns : List Int) (hl : ns.length ≤ 63) : ∃ m env', 0 ≤ m ∧ m < 2147483647 ∧
    exSs F n hdR [none, some (.int salt), some (.int big), some (.lst ((cellsN ns).map .int)), none, none] s = some (.rt (.lst [.lst ((digsN ns).map .int), .int m]), env', s) := by
  obtain ⟨env', s', g1, g2⟩ := forGo_inv (c := Val.int) (body := fun x env s => match setT (.name 4) x env with
        | some env2 => exSs F n hdB env2 s
        | none => none) (fun pre env s' => s' = s ∧ ∃ y m, env = [none, some (.int salt), some (.int big), some (.lst ((cellsN ns).map .int)), y, some (.int m)] ∧ 0 ≤ m ∧ m < 2147483647) (cellsN ns) []
      [none, some (.int salt), some (.int big), some (.lst ((cellsN ns).map .int)), none, some (.int (70001 + 7919 * salt))] s ⟨rfl, _, _, rfl, by omega, by omega⟩
      (fun pre x post env s' e ⟨es, y, m, he, m0, m1⟩ => by
        subst he es
        exact ⟨_, s', ss_nx (ex_asg (ev_mod (ev_toint (ev_add (ev_add (ev_mul (ev_var rfl) ev_int (mulOk_r (by decide))) (ev_mod (ev_toint (ev_var rfl)) ev_int (by decide))) ev_int)) ev_int (by decide))) ss_end, rfl, some (.int x), _, rfl, Int.fmod_nonneg_of_pos _ (by decide), Int.fmod_lt_of_pos _ (by decide)⟩)
  obtain ⟨es, y, m, rfl, m0, m1⟩ := g2
  subst es
  have lc := ev_lcI (F := F) (elt := .var 4) (j := 4) (it := .seq (.var 3)) (cond := .some (.cmp .ge (.var 4) (.bin .pow (.int 10) (.int 18)))) (own := [4])
    (env := [none, some (.int salt), some (.int big), some (.lst ((cellsN ns).map .int)), y, some (.int m)]) (s := s') (xs := cellsN ns) (p := fun x => decide (p18 ≤ x)) (h := Val.int)
    (evi_seq (ev_var rfl) rfl) (fun x hx => ev_C (v := .bl (decide (p18 ≤ x))) (ev_cmp (x := .int x) (y := .int p18) (ev_var rfl) (ev_bin ev_int ev_int (pow10 18 (by decide))) rfl) rfl) (fun x hx _ => ev_var rfl)
    (by unfold cellsN; rw [List.length_map]; omega)
  refine ⟨m, _, m0, m1, ss_nx (ex_asg (v := .int (70001 + 7919 * salt)) (ev_add ev_int (ev_mul ev_int (ev_var rfl) (mulOk_l (by decide))))) (ss_nx (ex_for (evi_seq (ev_var rfl) rfl) g1) (ss_rt (ex_ret ?_)))⟩
  have rv : evE F (.rev hdL) [none, some (.int salt), some (.int big), some (.lst ((cellsN ns).map .int)), y, some (.int m)] s' = some (.lst ((digsN ns).map .int), s') := by
    rw [evE, show evE F hdL _ s' = _ from lc]
    simp only [bnd_eq, revV, Option.map_some, digsN, List.map_reverse]
  rw [evE, evs_2 rv (ev_var rfl)]
  rfl
theorem digs_len (ns : List Int) : (digsN ns).length ≤ ns.length := by
  unfold digsN cellsN
  rw [List.length_reverse]
  refine Nat.le_trans (List.length_filter_le _ _) ?_
  rw [List.length_map]
  exact Nat.le_refl _
end
end Itp

namespace Itp
open PySem PySem.Spec PyProof.Rows L2
def spDeal (K : PySem.W.Frag) : Sp := fun vs H Q _ => ∃ (a : Addr) (ns : List Int) (salt : Int), vs = [.ref a, .int salt] ∧ SqL K H a (ns.map V.int) ∧ ns.length ≤ 63 ∧ 0 ≤ salt ∧ salt ≤ 1000 ∧
  ∀ (aD aL : Addr) (l : List Int) (m : Int) (H' : Hp), aD ≠ aL → H' aD = some (.lst [.ref aL, .int m]) → H' aL = some (.lst (l.map V.int)) → l.length ≤ 63 → 0 ≤ m → m < 2147483647 → Q (.ref aD) H'
theorem okVs_lits (kd : List Kd) (ow : List Bool) : ∀ ns : List Int, okVs kd (lits ns) ow = true ∧ clrs kd (lits ns) ow = ow
  | [] => ⟨rfl, rfl⟩
  | i :: l => by
    obtain ⟨h1, h2⟩ := okVs_lits kd ow l
    exact ⟨by simp only [lits, okVs, okV, h1, Bool.and_self], by simp only [lits, clrs, clr, h2]⟩
theorem reps_intsI {tok : V} {K : PySem.W.Frag} {A : Addr → Prop} {H : Hp} : ∀ (l : List Int) {vs : List V}, Reps tok K A H (l.map .int) vs → vs = l.map V.int
  | [], vs, h => by simpa only [List.map_nil, Reps] using h
  | i :: l, vs, h => by
    simp only [List.map_cons, Reps, Rep] at h
    obtain ⟨v, r, rfl, rfl, h2⟩ := h
    rw [reps_intsI l h2]
    rfl
section
variable {P : Program} {w : World} {K : PySem.W.Frag} {mg : Str → Option Value} {base : Heap} {T : Tb} {k : Nat}
abbrev N_deal : List Str := ["script", "salt", "most", "cells", "cell", "mix"]
theorem srel_deal {H H0 : Hp} {a : Addr} {salt : Int} {e2 : Option Val} {w2 : Option V} (h2 : ∀ d, e2 = some d → ∃ w, w2 = some w ∧ Rep R0.tok K (fun _ => False) H d w) : SRel R0 K (fun _ => False) H (List.replicate 6 false) (fun _ => none) [none, some (.int salt), e2, none, none, none] () [some (V.ref a), some (.int salt), w2, none, none, none] H := by
  refine ⟨trivial, rfl, rfl, fun a z => z.elim, fun a z => z.elim, fun i a h => (by cases h), Ext.refl H, fun i a h => (by cases h), fun i j a h => (by cases h), fun i d h _ => ?_, fun i ds h => by rw [getD_rep] at h; cases h⟩
  match i, h with
  | 0, h => cases h
  | 1, h => cases h; exact ⟨_, rfl, rep_int⟩
  | 2, h =>
    obtain ⟨w, e, r⟩ := h2 d h
    exact ⟨w, by rw [← e]; rfl, r.mono fun b z => z.elim id fun ⟨_, z⟩ => by cases z⟩
  | 3, h => cases h
  | 4, h => cases h
  | 5, h => cases h
  | i + 6, h => cases h
theorem ok_deal {st : Stmt} {f : Addr} {fd : FuncData} (G : Glob R0 P w K mg base ([] : List (FS Unit)) T k) (Fu : Fun K "_law_deal" "_law_deal" st f fd) (S : FnScope N_deal ["script", "salt"] (defScope st))
    (hc : chkSs N_deal T hb_deal (defScope st) (defBody st) = true) : FnOk P w K mg base CX0 (k + 1) f fd ["script", "salt"] (spDeal K) := by
  refine Fu.ok S (fun vs H Q E ⟨a, ns, salt, e, _⟩ => by rw [e]; rfl) fun cdv A outer s H vs Q E hroom hsp => ?_
  obtain ⟨a, ns, salt, rfl, hS, hl, hs0, hs1, q⟩ := hsp
  have gs : GoodS R0 [] N_deal T (cxOf CX0 P w K mg base N_deal "_law_deal" (defScope st) f cdv A outer s H E).nox := G.goodS S hroom
  rw [hb_deal_eq] at hc
  generalize defBody st = body at hc ⊢
  match body, hc with
  | [], hc => simp [chkSs] at hc
  | [_], hc => simp [chkSs] at hc
  | s1 :: s2 :: rest, hc =>
    have hc' : chkS N_deal T (.asg 2 hdM) (defScope st) s1 = true ∧ chkS N_deal T (.asg 3 (.lc hdE (.name 4) (.seq (.sl (.var 0) .none (.some (.int 63)))) .none [4])) (defScope st) s2 = true ∧ chkSs N_deal T hdR (defScope st) rest = true := by
      simpa only [chkSs, Bool.and_eq_true] using hc
    obtain ⟨c1, c2, c3⟩ := hc'
    -- most = ..
    have p1 : PS (cxOf CX0 P w K mg base N_deal "_law_deal" (defScope st) f cdv A outer s H E).nox s1 (tAsg (rdE (R := R0) [] K (List.replicate 6 false) hdM) (gName 2)) := by
      unfold chkS at c1
      split at c1
      · rename_i x p v pos
        simp only [Bool.and_eq_true, decide_eq_true_eq] at c1
        obtain ⟨⟨d1, d2⟩, d3⟩ := c1
        have l := gs.loc (x := x) d2
        refine ps_set (i := 2) gs.good.nd d1 l.1 ((soundE hdM _ v (List.replicate 6 false) gs.good d3).1 rfl) (sw_ne (fun a b c d e => ?_) (fun a b c d e => ?_) (fun a b c d f e => ?_)) l.2
        · subst e; simp [hdM, chkE] at d3
        · subst e; simp [hdM, chkE] at d3
        · subst e; simp [hdM, chkE] at d3
      · cases c1
    have ck2 : ck (kds (R := R0) []) .any [] (.asg 3 (.lc hdE (.name 4) (.seq (.lst (lits ns))) .none [4])) (List.replicate 6 false) = some [false, false, false, true, false, false] := by
      obtain ⟨h1, h2⟩ := okVs_lits (kds (R := R0) []) (List.replicate 6 false) ns
      have e1 : clr (kds (R := R0) []) (.lc hdE (.name 4) (.seq (.lst (lits ns))) .none [4]) (List.replicate 6 false) = List.replicate 6 false := by
        simp only [clr, clrI, isVar, Bool.false_eq_true, if_false, h2]
        rfl
      have e2 : okV (kds (R := R0) []) (.lc hdE (.name 4) (.seq (.lst (lits ns))) .none [4]) (List.replicate 6 false) = true := by
        simp only [okV, okI, isVar, Bool.false_or, h1]
        rfl
      simp only [ck, e1, e2]
      rfl
    have ck3 : ∃ o, cks (kds (R := R0) []) .any [] hdR [false, false, false, true, false, false] = some o := Option.isSome_iff_exists.mp (by decide +kernel)
    obtain ⟨o3, ck3⟩ := ck3
    refine ⟨_, pss_cons p1 (pss_cons (ss_script (n := 0) ns hl gs c2 ck2) (soundSs (n := 0) hdR _ rest _ _ [] .any gs c3 ck3)), ?_⟩
    show tSeq _ _ _ [some (V.ref a), some (V.int salt), none, none, none, none] H
    have r0 := srel_deal (K := K) (H0 := H) (H := H) (a := a) (salt := salt) (e2 := none) (w2 := none) (fun d h => by cases h)
    refine ⟨_, _, (), .int big, (), r0.erel, ev_M, fun w1 H1 e1 i1 q1 f1 => ?_⟩
    simp only [Rep] at q1
    subst q1
    have sm : Same H H1 := fun b o hb => e1 b o hb fun z => z
    refine ⟨⟨a, rfl, sm.seq hS⟩, (fun _ => False), H1, (fun _ => none), [none, some (.int salt), some (.int big), none, none, none], (), Out.nx, [none, some (.int salt), some (.int big), some (.lst ((cellsN ns).map .int)), none, none], (), srel_deal (K := K) (H0 := H1) (H := H1) (a := a) (salt := salt) (e2 := some (.int big)) (w2 := some (.int big)) (fun d h => by cases h; exact ⟨_, rfl, rep_int⟩), ?_, ?_⟩
    · rw [exS, ev_cells ns hl]
      rfl
    · intro M2 σ2 H2 r2
      obtain ⟨m, env', m0, m1, ex⟩ := ex_rest (F := ([] : List (FS Unit))) (n := 0) (s := ()) hs0 hs1 ns hl
      refine ⟨_, _, M2, _, (), _, env', (), r2, ex, ?_⟩
      intro w3 H3 ⟨t1, t2, t3, t4⟩
      simp only [Rep, Reps] at t3
      obtain ⟨aD, vs, rfl, hD, nA, v1, r1, rfl, ⟨aL, us, rfl, hL, _, hU⟩, v2, r2', rfl, rfl, rfl⟩ := t3
      have hU' := reps_intsI _ hU
      subst hU'
      refine q aD aL (digsN ns) m H3 (fun e => ?_) hD hL (Nat.le_trans (digs_len ns) hl) m0 m1
      subst e
      rw [hD] at hL
      have e3 := HO.lst.inj (Option.some.inj hL)
      cases hdg : digsN ns with
      | nil => rw [hdg] at e3; simp at e3
      | cons x l => rw [hdg] at e3; simp at e3
end
end Itp

namespace Itp
open PySem PySem.Spec PyProof.Rows L2
theorem same_stage {P : Program} {w : World} {K : PySem.W.Frag} {mg : Str → Option Value} {base : Heap} {F : List (FS Unit)} {T : Tb} {k : Nat} {st : Stmt} (G : Glob R0 P w K mg base F T k) (hl : F.length = 1) (hkd : kds (R := R0) F = [.fresh]) (h : Has K mg T "_law_same" st ["told", "due"])
    (S : FnScope ["told", "due", "at"] ["told", "due"] (defScope st)) (hx : T.nm[1]? = some ("_law_same" : Str)) (hc : chkSs ["told", "due", "at"] T hb_same (defScope st) (defBody st) = true) : ∀ n, FnG R0 P w K mg base T (k + n + 1) (fsP .pure (sameN n) Unit) "_law_same"
  | 0 => FnG.mkP G h S hb_same .any .pure (sameN 0) hc (by rw [hkd]; decide +kernel) (fun e => by cases e) (fun ds r hr => by
      unfold sameN at hr
      split at hr
      · simp [okSame] at hr
      · cases hr) (fun _ ds r hr => by
      unfold sameN at hr
      split at hr
      · split at hr
        · cases hr; rfl
        · cases hr
      · cases hr)
  | n + 1 => by
    have ih := same_stage G hl hkd h S hx hc n
    have G' := (G.mono (by omega : k ≤ k + n + 1)).snoc (by rw [hl]; exact hx) ih
    have hk2 : kds (R := R0) (F ++ [fsP .pure (sameN n) Unit]) = [.fresh, .pure] := by
      show List.map (·.kind) (F ++ [fsP .pure (sameN n) Unit]) = _
      rw [List.map_append, show List.map (·.kind) F = [.fresh] from hkd]
      rfl
    exact FnG.mkP G' h S hb_same .any .pure (sameN (n + 1)) hc (by rw [hk2]; decide +kernel) (fun e => by cases e) (fun ds r hr => run_same (by rw [List.getElem?_append_right (by omega), hl]; rfl) ds r hr) (fun _ ds r hr => by
      unfold sameN at hr
      split at hr
      · split at hr
        · cases hr; rfl
        · cases hr
      · cases hr)
theorem noLst_all {n : Nat} (ds : List Val) (r : Val) (h : allN n ds = some r) : r.noLst = true := by
  unfold allN at h
  split at h
  · split at h
    · cases h; rfl
    · cases h
  · cases h
theorem ev_callk1 {S : Type} {F : List (FS S)} {f : Nat} {e : CE} {fs : FS S} {v : Val} {env : Itp.Env} {s s1 : S} {r : Option (Val × S)} (hf : F[f]? = some fs) (h : evE F e env s = some (v, s1)) (h2 : fs.run [v] s1 = r) : evE F (.callk f .nil (.cons e .nil) [0]) env s = r := by
  rw [evE, hf]
  simp only [evEs, bnd_eq, h]
  exact h2
theorem r_all {S : Type} {n : Nat} {ps : List Val} {s : S} (h1 : ps.length ≤ 1000000) (h2 : ∀ p ∈ ps, ∃ v, okSame n v = true ∧ p = .tup [v, v]) : (fsP .pure (allN n) S).run [.lst ps] s = some (.bl true, s) := by
  have hnt : Val.noToks ps = true := by
    clear h1
    induction ps with
    | nil => rfl
    | cons p ps ih =>
      obtain ⟨v, hv, rfl⟩ := h2 p (.head _)
      have := okSame_noTok n v hv
      simp only [Val.noToks, Val.noTok, this, ih fun q hq => h2 q (.tail _ hq), Bool.and_self]
  refine fsP_run (by simp only [Val.noToks, Val.noTok, hnt, Bool.and_self]) ?_ rfl
  simp only [allN]
  rw [if_pos]
  simp only [Bool.and_eq_true, decide_eq_true_eq, List.all_eq_true]
  refine ⟨h1, fun p hp => ?_⟩
  obtain ⟨v, hv, rfl⟩ := h2 p hp
  simp only [sameN, beqV_refl, hv, Bool.and_self, if_true, Option.isSome_some]
theorem srel_law {K : PySem.W.Frag} {aD aL : Addr} {H : Hp} {s : DS} {m : Nat} {w0 : Option V} (hi : DInv aD aL s H) : SRel (dR aD aL) K (fun b => b = aD ∨ b = aL) H (List.replicate (m + 2) false) (fun _ => none) (none :: some .tok :: List.replicate m none) s (w0 :: some (V.ref aD) :: List.replicate m none) H := by
  refine ⟨hi, by simp, by simp, fun a z => z, fun a z => (dR aD aL).lists s H hi a z, fun i a h => (by cases h), Ext.refl H, fun i a h => (by cases h), fun i j a h => (by cases h), fun i d h _ => ?_, fun i ds h => by rw [getD_rep] at h; cases h⟩
  match i, h with
  | 0, h => cases h
  | 1, h => cases h; exact ⟨_, rfl, rfl⟩
  | i + 2, h =>
    have : getE (List.replicate m none) i = some d := h
    unfold getE at this
    rw [List.getD_eq_getElem?_getD, List.getElem?_replicate] at this
    split at this <;> cases this
def spLaw (K : PySem.W.Frag) : Sp := fun vs H Q _ => ∃ (a : Addr) (ns : List Int), vs = [.ref a] ∧ SqL K H a (ns.map V.int) ∧ ns.length ≤ 63 ∧ ∀ H', Q (.bl true) H'
theorem Has.mk' {K : PySem.W.Frag} {mg : Str → Option Value} {T : Tb} {x : Str} {st : Stmt} {ps : List Str} {f : Addr} {fd : FuncData} (F : Fun K x x st f fd) (m : mg x = some (.ref f)) (b : Binds K fd ps []) (a : AllKw K fd ps x T.kw) : Has K mg T x st ps := ⟨f, fd, F, m, b, a⟩
theorem mg_mk {mg : Str → Option Value} {T : Tb} (z : ∀ y ∈ (["len", "sum", "sorted", "tuple", "list", "int", "abs", "min", "max", "isinstance", "bool", "str", "range", "enumerate"] : List Str), mg y = none) (hi : ("isqrt" : Str) ∈ T.nm → mg "isqrt" = some (.builtin "math.isqrt")) (hg : ("gcd" : Str) ∈ T.nm → mg "gcd" = some (.builtin "math.gcd")) : Mg mg T := by
  refine ⟨fun b => ?_, hi, hg, fun t => ?_, z _ (by decide), z _ (by decide)⟩
  · cases b <;> first
      | exact .inl (.inl rfl)
      | exact .inl (.inr rfl)
      | exact .inr (z _ (by simp only [biNm]; decide))
  · cases t <;> exact z _ (by decide +kernel)
end Itp

namespace K68
open PySem PySem.Spec PyProof.Rows L2 Itp
def topS (i : Nat) : Stmt := PySem.Challenge.pw_toldheights_k68_weighed_divisors_balance.main.body.getD i (.Pass ⟨0, 0, 0, 0⟩)
def T : Tb := ⟨["_law_deal", "_law_same", "_law_all", "_law_between", "middles", "outer_product", "factored", "divisors", "forms_between", "between_forms", "_law_root", "divisors_sum", "balance", "one_number", "_law_any", "_law_of", "_law_disc", "law", "isqrt"], [("balance", ["disc"], [0])]⟩
abbrev s_law_deal : Stmt := topS 14
abbrev N_law_deal : List Str := ["script", "salt", "most", "cells", "cell", "mix"]
theorem sc_law_deal : FnScope N_law_deal ["script", "salt"] (defScope s_law_deal) := ⟨rfl, rfl, rfl, by decide +kernel, rfl, by decide +kernel, by decide +kernel⟩
def b_law_deal : CSs :=
(.cons (.asg 2 (.bin .mul (.bin .mul (.bin .mul (.bin .mul (.bin .mul (.bin .pow (.int 10) (.int 64)) (.bin .pow (.int 10) (.int 64))) (.bin .pow (.int 10) (.int 64))) (.bin .pow (.int 10) (.int 64))) (.bin .pow (.int 10) (.int 64))) (.bin .pow (.int 10) (.int 64))))
(.cons (.asg 3 (.lc (.bin .mod (.bi .int (.cons (.bi .abs (.cons (.bi .int (.cons (.var 4) .nil)) .nil)) .nil)) (.var 2)) (.name 4) (.seq (.sl (.var 0) .none (.some (.int 63)))) .none [4]))
(.cons (.asg 5 (.bin .add (.int 70001) (.bin .mul (.int 7919) (.var 1))))
(.cons (.for (.name 4) (.seq (.var 3))
(.cons (.asg 5 (.bin .mod (.bi .int (.cons (.bin .add (.bin .add (.bin .mul (.var 5) (.int 69621)) (.bin .mod (.bi .int (.cons (.var 4) .nil)) (.int 2147483563))) (.int 23)) .nil)) (.int 2147483647)))
.nil))
(.cons (.ret (.lst (.cons (.rev (.lc (.var 4) (.name 4) (.seq (.var 3)) (.some (.cmp .ge (.var 4) (.bin .pow (.int 10) (.int 18)))) [4])) (.cons (.var 5) .nil))))
.nil)))))
theorem ch_law_deal : chkSs N_law_deal T b_law_deal (defScope s_law_deal) (defBody s_law_deal) = true := by decide +kernel
abbrev s_law_same : Stmt := topS 17
abbrev N_law_same : List Str := ["told", "due", "at"]
theorem sc_law_same : FnScope N_law_same ["told", "due"] (defScope s_law_same) := ⟨rfl, rfl, rfl, by decide +kernel, rfl, by decide +kernel, by decide +kernel⟩
def b_law_same : CSs :=
(.cons (.ife (.bi (.isin .tuple) (.cons (.var 1) .nil))
(.cons (.ife (.bool false (.cons (.not (.bi (.isin .tuple) (.cons (.var 0) .nil))) (.cons (.cmp .ne (.bi .len (.cons (.var 0) .nil)) (.bi .len (.cons (.var 1) .nil))) .nil)))
(.cons (.ret (.bl false))
.nil) .nil)
(.cons (.ret (.cmp .eq (.bi .len (.cons (.lc (.var 2) (.name 2) (.rng1 (.bi .len (.cons (.var 1) .nil))) (.some (.not (.call 1 (.cons (.ix (.var 0) (.var 2)) (.cons (.ix (.var 1) (.var 2)) .nil))))) [2]) .nil)) (.int 0)))
.nil)) .nil)
(.cons (.ife (.cmp .is (.var 1) .non)
(.cons (.ret (.cmp .is (.var 0) .non))
.nil) .nil)
(.cons (.ife (.bool false (.cons (.cmp .is (.var 1) (.bl true)) (.cons (.cmp .is (.var 1) (.bl false)) .nil)))
(.cons (.ret (.ife (.var 1) (.cmp .is (.var 0) (.bl true)) (.cmp .is (.var 0) (.bl false))))
.nil) .nil)
(.cons (.ife (.bi (.isin .str) (.cons (.var 1) .nil))
(.cons (.ret (.bool true (.cons (.bi (.isin .str) (.cons (.var 0) .nil)) (.cons (.cmp .eq (.var 0) (.var 1)) .nil))))
.nil) .nil)
(.cons (.ret (.bool true (.cons (.bi (.isin .int) (.cons (.var 0) .nil)) (.cons (.not (.bi (.isin .bool) (.cons (.var 0) .nil))) (.cons (.cmp .eq (.var 0) (.var 1)) .nil)))))
.nil)))))
theorem ch_law_same : chkSs N_law_same T b_law_same (defScope s_law_same) (defBody s_law_same) = true := by decide +kernel
abbrev s_law_all : Stmt := topS 18
abbrev N_law_all : List Str := ["pairs", "told", "due"]
theorem sc_law_all : FnScope N_law_all ["pairs"] (defScope s_law_all) := ⟨rfl, rfl, rfl, by decide +kernel, rfl, by decide +kernel, by decide +kernel⟩
def b_law_all : CSs :=
(.cons (.ret (.cmp .eq (.bi .len (.cons (.lc (.var 1) (.tup [1, 2]) (.seq (.var 0)) (.some (.not (.call 1 (.cons (.var 1) (.cons (.var 2) .nil))))) [1, 2]) .nil)) (.int 0)))
.nil)
theorem ch_law_all : chkSs N_law_all T b_law_all (defScope s_law_all) (defBody s_law_all) = true := by decide +kernel
abbrev s_law_between : Stmt := topS 21
abbrev N_law_between : List Str := ["delta", "found", "b", "n", "d"]
theorem sc_law_between : FnScope N_law_between ["delta"] (defScope s_law_between) := ⟨rfl, rfl, rfl, by decide +kernel, rfl, by decide +kernel, by decide +kernel⟩
def b_law_between : CSs :=
(.cons (.asg 1 (.lst .nil))
(.cons (.for (.name 2) (.rng2 (.neg (.int 19)) (.int 20))
(.cons (.ife (.bool true (.cons (.cmp .lt (.bin .mul (.var 2) (.var 2)) (.var 0)) (.cons (.cmp .eq (.bin .mod (.bi .int (.cons (.bin .sub (.var 0) (.var 2)) .nil)) (.int 2)) (.int 0)) .nil)))
(.cons (.asg 3 (.bin .fdiv (.bin .sub (.var 0) (.bin .mul (.var 2) (.var 2))) (.int 4)))
(.cons (.asg 1 (.bin .add (.var 1) (.lc (.tup (.cons (.neg (.var 4)) (.cons (.var 2) (.cons (.bin .fdiv (.var 3) (.var 4)) .nil)))) (.name 4) (.rng2 (.int 1) (.bin .add (.var 3) (.int 1))) (.some (.cmp .eq (.bin .mod (.bi .int (.cons (.var 3) .nil)) (.var 4)) (.int 0))) [4])))
.nil)) .nil)
.nil))
(.cons (.ret (.var 1))
.nil)))
theorem ch_law_between : chkSs N_law_between T b_law_between (defScope s_law_between) (defBody s_law_between) = true := by decide +kernel
abbrev s_middles : Stmt := topS 6
abbrev N_middles : List Str := ["disc", "most", "b"]
theorem sc_middles : FnScope N_middles ["disc"] (defScope s_middles) := ⟨rfl, rfl, rfl, by decide +kernel, rfl, by decide +kernel, by decide +kernel⟩
def b_middles : CSs :=
(.cons (.asg 1 (.bi .isqrt (.cons (.bin .sub (.var 0) (.int 1)) .nil)))
(.cons (.ret (.bi .tuple (.cons (.lc (.var 2) (.name 2) (.rng2 (.neg (.var 1)) (.bin .add (.var 1) (.int 1))) (.some (.cmp .eq (.bin .mod (.bin .sub (.var 0) (.var 2)) (.int 2)) (.int 0))) [2]) .nil)))
.nil))
theorem ch_middles : chkSs N_middles T b_middles (defScope s_middles) (defBody s_middles) = true := by decide +kernel
abbrev s_outer_product : Stmt := topS 7
abbrev N_outer_product : List Str := ["disc", "b"]
theorem sc_outer_product : FnScope N_outer_product ["disc", "b"] (defScope s_outer_product) := ⟨rfl, rfl, rfl, by decide +kernel, rfl, by decide +kernel, by decide +kernel⟩
def b_outer_product : CSs :=
(.cons (.ret (.bin .fdiv (.bin .sub (.var 0) (.bin .mul (.var 1) (.var 1))) (.int 4)))
.nil)
theorem ch_outer_product : chkSs N_outer_product T b_outer_product (defScope s_outer_product) (defBody s_outer_product) = true := by decide +kernel
abbrev s_factored : Stmt := topS 2
abbrev N_factored : List Str := ["number", "found", "left", "trial", "many"]
theorem sc_factored : FnScope N_factored ["number"] (defScope s_factored) := ⟨rfl, rfl, rfl, by decide +kernel, rfl, by decide +kernel, by decide +kernel⟩
def b_factored : CSs :=
(.cons (.asgP [1, 2, 3] (.cons (.lst .nil) (.cons (.var 0) (.cons (.int 2) .nil))))
(.cons (.whl (.cmp .le (.bin .mul (.var 3) (.var 3)) (.var 2))
(.cons (.asg 4 (.int 0))
(.cons (.whl (.cmp .eq (.bin .mod (.var 2) (.var 3)) (.int 0))
(.cons (.asgP [2, 4] (.cons (.bin .fdiv (.var 2) (.var 3)) (.cons (.bin .add (.var 4) (.int 1)) .nil)))
.nil))
(.cons (.ife (.cmp .gt (.var 4) (.int 0))
(.cons (.app 1 (.tup (.cons (.var 3) (.cons (.var 4) .nil))))
.nil) .nil)
(.cons (.asg 3 (.ife (.cmp .eq (.var 3) (.int 2)) (.bin .add (.var 3) (.int 1)) (.bin .add (.var 3) (.int 2))))
.nil)))))
(.cons (.ife (.cmp .gt (.var 2) (.int 1))
(.cons (.app 1 (.tup (.cons (.var 2) (.cons (.int 1) .nil))))
.nil) .nil)
(.cons (.ret (.bi .tuple (.cons (.var 1) .nil)))
.nil))))
theorem ch_factored : chkSs N_factored T b_factored (defScope s_factored) (defBody s_factored) = true := by decide +kernel
abbrev s_divisors : Stmt := topS 3
abbrev N_divisors : List Str := ["number", "found", "prime", "many", "power", "further", "times", "one"]
theorem sc_divisors : FnScope N_divisors ["number"] (defScope s_divisors) := ⟨rfl, rfl, rfl, by decide +kernel, rfl, by decide +kernel, by decide +kernel⟩
def b_divisors : CSs :=
(.cons (.asg 1 (.lst (.cons (.int 1) .nil)))
(.cons (.for (.tup [2, 3]) (.seq (.call 6 (.cons (.var 0) .nil)))
(.cons (.asgP [4, 5] (.cons (.int 1) (.cons (.lst .nil) .nil)))
(.cons (.for (.name 6) (.rng1 (.bin .add (.var 3) (.int 1)))
(.cons (.ext 5 (.lc (.bin .mul (.var 7) (.var 4)) (.name 7) (.seq (.var 1)) .none [7]))
(.cons (.asg 4 (.bin .mul (.var 4) (.var 2)))
.nil)))
(.cons (.asg 1 (.var 5))
.nil))))
(.cons (.ret (.bi .tuple (.cons (.bi .sorted (.cons (.var 1) .nil)) .nil)))
.nil)))
theorem ch_divisors : chkSs N_divisors T b_divisors (defScope s_divisors) (defBody s_divisors) = true := by decide +kernel
abbrev s_forms_between : Stmt := topS 9
abbrev N_forms_between : List Str := ["disc", "b", "product", "size"]
theorem sc_forms_between : FnScope N_forms_between ["disc", "b"] (defScope s_forms_between) := ⟨rfl, rfl, rfl, by decide +kernel, rfl, by decide +kernel, by decide +kernel⟩
def b_forms_between : CSs :=
(.cons (.asg 2 (.call 5 (.cons (.var 0) (.cons (.var 1) .nil))))
(.cons (.ret (.lc (.tup (.cons (.neg (.var 3)) (.cons (.var 1) (.cons (.bin .fdiv (.var 2) (.var 3)) .nil)))) (.name 3) (.seq (.call 7 (.cons (.var 2) .nil))) .none [3]))
.nil))
theorem ch_forms_between : chkSs N_forms_between T b_forms_between (defScope s_forms_between) (defBody s_forms_between) = true := by decide +kernel
abbrev s_between_forms : Stmt := topS 10
abbrev N_between_forms : List Str := ["disc", "found", "b"]
theorem sc_between_forms : FnScope N_between_forms ["disc"] (defScope s_between_forms) := ⟨rfl, rfl, rfl, by decide +kernel, rfl, by decide +kernel, by decide +kernel⟩
def b_between_forms : CSs :=
(.cons (.asg 1 (.lst .nil))
(.cons (.for (.name 2) (.seq (.call 4 (.cons (.var 0) .nil)))
(.cons (.ext 1 (.call 8 (.cons (.var 0) (.cons (.var 2) .nil))))
.nil))
(.cons (.ret (.bi .tuple (.cons (.bi .sorted (.cons (.var 1) .nil)) .nil)))
.nil)))
theorem ch_between_forms : chkSs N_between_forms T b_between_forms (defScope s_between_forms) (defBody s_between_forms) = true := by decide +kernel
abbrev s_law_root : Stmt := topS 20
abbrev N_law_root : List Str := ["delta", "k"]
theorem sc_law_root : FnScope N_law_root ["delta"] (defScope s_law_root) := ⟨rfl, rfl, rfl, by decide +kernel, rfl, by decide +kernel, by decide +kernel⟩
def b_law_root : CSs :=
(.cons (.ret (.bi .sum (.cons (.lc (.var 1) (.name 1) (.rng1 (.int 21)) (.some (.cmp .eq (.bin .mul (.var 1) (.var 1)) (.var 0))) [1]) .nil)))
.nil)
theorem ch_law_root : chkSs N_law_root T b_law_root (defScope s_law_root) (defBody s_law_root) = true := by decide +kernel
abbrev s_divisors_sum : Stmt := topS 4
abbrev N_divisors_sum : List Str := ["number"]
theorem sc_divisors_sum : FnScope N_divisors_sum ["number"] (defScope s_divisors_sum) := ⟨rfl, rfl, rfl, by decide +kernel, rfl, by decide +kernel, by decide +kernel⟩
def b_divisors_sum : CSs :=
(.cons (.ret (.bi .sum (.cons (.call 7 (.cons (.var 0) .nil)) .nil)))
.nil)
theorem ch_divisors_sum : chkSs N_divisors_sum T b_divisors_sum (defScope s_divisors_sum) (defBody s_divisors_sum) = true := by decide +kernel
abbrev s_balance : Stmt := topS 12
abbrev N_balance : List Str := ["disc", "b"]
theorem sc_balance : FnScope N_balance ["disc"] (defScope s_balance) := ⟨rfl, rfl, rfl, by decide +kernel, rfl, by decide +kernel, by decide +kernel⟩
def b_balance : CSs :=
(.cons (.ret (.bi .sum (.cons (.lc (.bin .mul (.bin .sub (.var 0) (.bin .mul (.bin .mul (.int 5) (.var 1)) (.var 1))) (.call 11 (.cons (.call 5 (.cons (.var 0) (.cons (.var 1) .nil))) .nil))) (.name 1) (.seq (.call 4 (.cons (.var 0) .nil))) .none [1]) .nil)))
.nil)
theorem ch_balance : chkSs N_balance T b_balance (defScope s_balance) (defBody s_balance) = true := by decide +kernel
abbrev s_one_number : Stmt := topS 11
abbrev N_one_number : List Str := ["disc", "b"]
theorem sc_one_number : FnScope N_one_number ["disc"] (defScope s_one_number) := ⟨rfl, rfl, rfl, by decide +kernel, rfl, by decide +kernel, by decide +kernel⟩
def b_one_number : CSs :=
(.cons (.ret (.bi .sum (.cons (.lc (.call 11 (.cons (.call 5 (.cons (.var 0) (.cons (.var 1) .nil))) .nil)) (.name 1) (.seq (.call 4 (.cons (.var 0) .nil))) .none [1]) .nil)))
.nil)
theorem ch_one_number : chkSs N_one_number T b_one_number (defScope s_one_number) (defBody s_one_number) = true := by decide +kernel
abbrev s_law_any : Stmt := topS 15
abbrev N_law_any : List Str := ["deal", "bound", "rest"]
theorem sc_law_any : FnScope N_law_any ["deal", "bound"] (defScope s_law_any) := ⟨rfl, rfl, rfl, by decide +kernel, rfl, by decide +kernel, by decide +kernel⟩
abbrev s_law_of : Stmt := topS 16
abbrev N_law_of : List Str := ["deal", "some"]
theorem sc_law_of : FnScope N_law_of ["deal", "some"] (defScope s_law_of) := ⟨rfl, rfl, rfl, by decide +kernel, rfl, by decide +kernel, by decide +kernel⟩
def b_law_of : CSs :=
(.cons (.ret (.ix (.var 1) (.call 14 (.cons (.var 0) (.cons (.bi .len (.cons (.var 1) .nil)) .nil)))))
.nil)
theorem ch_law_of : chkSs N_law_of T b_law_of (defScope s_law_of) (defBody s_law_of) = true := by decide +kernel
abbrev s_law_disc : Stmt := topS 19
abbrev N_law_disc : List Str := ["deal", "kind", "number"]
theorem sc_law_disc : FnScope N_law_disc ["deal"] (defScope s_law_disc) := ⟨rfl, rfl, rfl, by decide +kernel, rfl, by decide +kernel, by decide +kernel⟩
def b_law_disc : CSs :=
(.cons (.asgP [1, 2] (.cons (.call 14 (.cons (.var 0) (.cons (.int 6) .nil))) (.cons (.call 14 (.cons (.var 0) (.cons (.int 200) .nil))) .nil)))
(.cons (.ife (.cmp .eq (.var 1) (.int 0))
(.cons (.asg 2 (.bin .add (.bin .mod (.bi .int (.cons (.var 2) .nil)) (.int 20)) (.int 1)))
(.cons (.ret (.bin .mul (.var 2) (.var 2)))
.nil)) .nil)
(.cons (.ife (.cmp .eq (.var 1) (.int 1))
(.cons (.ret (.call 15 (.cons (.var 0) (.cons (.lst (.cons (.int 400) (.cons (.int 397) (.cons (.int 396) (.cons (.int 393) (.cons (.int 392) (.cons (.int 388) (.cons (.int 385) (.cons (.int 361) (.cons (.int 325) (.cons (.int 324) .nil))))))))))) .nil))))
.nil) .nil)
(.cons (.ife (.cmp .eq (.var 1) (.int 2))
(.cons (.ret (.call 15 (.cons (.var 0) (.cons (.lst (.cons (.int 20) (.cons (.int 45) (.cons (.int 32) (.cons (.int 72) (.cons (.int 125) (.cons (.int 180) (.cons (.int 245) (.cons (.int 288) (.cons (.int 384) (.cons (.int 320) (.cons (.int 200) (.cons (.int 300) (.cons (.int 252) (.cons (.int 392) .nil))))))))))))))) .nil))))
.nil) .nil)
(.cons (.ret (.bin .add (.bin .add (.bin .mul (.int 2) (.var 2)) (.int 1)) (.bin .mod (.bi .int (.cons (.var 2) .nil)) (.int 2))))
.nil)))))
theorem ch_law_disc : chkSs N_law_disc T b_law_disc (defScope s_law_disc) (defBody s_law_disc) = true := by decide +kernel
abbrev s_law : Stmt := topS 22
abbrev N_law : List Str := ["script", "deal", "pairs", "seen", "turn", "delta", "between", "due", "told", "a", "b", "c"]
theorem sc_law : FnScope N_law ["script"] (defScope s_law) := ⟨rfl, rfl, rfl, by decide +kernel, rfl, by decide +kernel, by decide +kernel⟩
def b_law : CSs :=
(.cons (.asg 1 (.call 0 (.cons (.var 0) (.cons (.int 68) .nil))))
(.cons (.asgP [2, 3] (.cons (.lst .nil) (.cons (.lst .nil) .nil)))
(.cons (.for (.name 4) (.rng1 (.int 6))
(.cons (.asg 5 (.call 16 (.cons (.var 1) .nil)))
(.cons (.asg 6 (.call 3 (.cons (.var 5) .nil)))
(.cons (.asg 7 (.ife (.cmp .eq (.call 10 (.cons (.var 5) .nil)) (.int 0)) (.int 0) (.bin .fdiv (.bin .sub (.bin .mul (.var 5) (.var 5)) (.var 5)) (.int 3))))
(.cons (.asg 8 (.call 9 (.cons (.var 5) .nil)))
(.cons (.ife (.not (.call 1 (.cons (.var 8) (.cons (.bi .tuple (.cons (.bi .sorted (.cons (.var 6) .nil)) .nil)) .nil))))
(.cons (.ret (.bl false))
.nil) .nil)
(.cons (.ife (.cmp .ne (.bi .sum (.cons (.lc (.bin .mul (.bin .sub (.var 5) (.bin .mul (.bin .mul (.int 5) (.var 10)) (.var 10))) (.var 11)) (.tup [9, 10, 11]) (.seq (.var 8)) .none [9, 10, 11]) .nil)) (.var 7))
(.cons (.ret (.bl false))
.nil) .nil)
(.cons (.asg 2 (.bin .add (.var 2) (.lst (.cons (.tup (.cons (.call 12 (.cons (.var 5) .nil)) (.cons (.var 7) .nil))) (.cons (.tup (.cons (.call 13 (.cons (.var 5) .nil)) (.cons (.bi .sum (.cons (.lc (.var 11) (.tup [9, 10, 11]) (.seq (.var 6)) .none [9, 10, 11]) .nil)) .nil))) .nil)))))
(.cons (.app 3 (.tup (.cons (.var 5) (.cons (.var 7) .nil))))
.nil)))))))))
(.cons (.for (.tup [5, 7]) (.seq (.rev (.var 3)))
(.cons (.app 2 (.tup (.cons (.callk 12 .nil (.cons (.var 5) .nil) [0]) (.cons (.var 7) .nil))))
.nil))
(.cons (.ret (.call 2 (.cons (.var 2) .nil)))
.nil)))))
theorem ch_law : chkSs N_law T b_law (defScope s_law) (defBody s_law) = true := by decide +kernel
end K68

namespace K68
open PySem PySem.Spec PyProof.Rows L2 Itp

/-! ### what is computed -/
def inD (d : Int) : Bool := decide (0 < d) && decide (d ≤ 400) && (decide (d % 4 = 0) || decide (d % 4 = 1))
def dvs (n : Int) : List Int := (rngI 1 n.toNat).filter fun k => n.fmod k == 0
def bs (d : Int) : List Int := (rngI (-19) 39).filter fun b => decide (b * b < d) && ((d - b).fmod 2 == 0)
def np (d b : Int) : Int := (d - b * b).fdiv 4
def rowB (d b : Int) : List (List Int) := (dvs (np d b)).map fun k => [-k, b, (np d b).fdiv k]
def rows (d : Int) : List (List Int) := (bs d).flatMap (rowB d)
def root (d : Int) : Int := ((rngI 0 21).filter fun k => k * k == d).sum
def due (d : Int) : Int := if root d == 0 then 0 else (d * d - d).fdiv 3
def bal (d : Int) : Int := ((bs d).map fun b => (d - 5 * b * b) * (dvs (np d b)).sum).sum
def one (d : Int) : Int := ((bs d).map fun b => (dvs (np d b)).sum).sum
theorem inD_iff {d : Int} (h : inD d = true) : d = ((d.toNat : Nat) : Int) ∧ d.toNat < 401 ∧ 0 < d ∧ d ≤ 400 := by
  simp only [inD, Bool.and_eq_true, decide_eq_true_eq] at h
  omega
theorem tab_np : (List.range 401).all (fun i => !inD (i : Int) || (bs (i : Int)).all fun b => decide (1 ≤ np i b) && decide (np i b ≤ 100)) = true := by decide +kernel
theorem np_ok {d b : Int} (h : inD d = true) (hb : b ∈ bs d) : 1 ≤ np d b ∧ np d b ≤ 100 := by
  obtain ⟨e, h1, _⟩ := inD_iff h
  have t := finA tab_np h1
  rw [← e, h] at t
  simp only [Bool.not_true, Bool.false_or, List.all_eq_true, Bool.and_eq_true, decide_eq_true_eq] at t
  exact t b hb
theorem bs_mem {d b : Int} (hb : b ∈ bs d) : -19 ≤ b ∧ b ≤ 19 ∧ b * b < d := by
  unfold bs rngI at hb
  simp only [List.mem_filter, List.mem_map, List.mem_range, Bool.and_eq_true, decide_eq_true_eq] at hb
  obtain ⟨⟨i, hi, rfl⟩, h, _⟩ := hb
  omega
theorem bs_len (d : Int) : (bs d).length ≤ 39 := by
  unfold bs
  refine Nat.le_trans (List.length_filter_le _ _) ?_
  simp [rngI]
theorem dvs_len (n : Int) : (dvs n).length ≤ n.toNat := by
  unfold dvs
  refine Nat.le_trans (List.length_filter_le _ _) ?_
  simp [rngI]
/-- the balance itself -/
theorem tab_bal : (List.range 401).all (fun i => !inD (i : Int) || decide (bal (i : Int) = due (i : Int))) = true := by decide +kernel
theorem bal_due {d : Int} (h : inD d = true) : bal d = due d := by
  obtain ⟨e, h1, _⟩ := inD_iff h
  have t := finA tab_bal h1
  rw [← e, h] at t
  simpa using t
theorem tab_co : (List.range 101).all (fun i => decide (((dvs (i : Int)).map fun k => (i : Int).fdiv k).sum = (dvs (i : Int)).sum)) = true := by decide +kernel
theorem co_sum {n : Int} (h1 : 1 ≤ n) (h2 : n ≤ 100) : ((dvs n).map fun k => n.fdiv k).sum = (dvs n).sum := by
  have t := finA tab_co (i := n.toNat) (by omega)
  rw [show ((n.toNat : Nat) : Int) = n by omega] at t
  simpa using t
/-! ### the defs as functions of values -/
noncomputable def p_deal : List Val → Option Val := pQ 2 (mkF []) 6 b_law_deal
def p_between : List Val → Option Val
  | [.int d] => if inD d then some (.lst ((rows d).map ofRow)) else none
  | _ => none
def p_middles : List Val → Option Val
  | [.int d] => if inD d then some (.tup ((bs d).map .int)) else none
  | _ => none
def p_outer : List Val → Option Val
  | [.int d, .int b] => if mulOk b b then some (.int (np d b)) else none
  | _ => none
def p_divisors : List Val → Option Val
  | [.int n] => if decide (1 ≤ n) && decide (n ≤ 100) then some (.tup ((dvs n).map .int)) else none
  | _ => none
def p_forms : List Val → Option Val
  | [.int d, .int b] => if mulOk b b && decide (1 ≤ np d b) && decide (np d b ≤ 100) then some (.lst ((rowB d b).map ofRow)) else none
  | _ => none
def p_bforms : List Val → Option Val
  | [.int d] => if inD d then some (.tup ((sortL (rows d)).map ofRow)) else none
  | _ => none
def p_root : List Val → Option Val
  | [.int d] => some (.int (root d))
  | _ => none
def p_dsum : List Val → Option Val
  | [.int n] => if decide (1 ≤ n) && decide (n ≤ 100) then some (.int (dvs n).sum) else none
  | _ => none
def p_balance : List Val → Option Val
  | [.int d] => if inD d then some (.int (bal d)) else none
  | _ => none
def p_one : List Val → Option Val
  | [.int d] => if inD d then some (.int (one d)) else none
  | _ => none
theorem tab_mid : (List.range 401).all (fun i => !inD (i : Int) || isV (fnQ (S := Unit) [] 1000 3 b_middles [.int i] ()) (.tup ((bs (i : Int)).map .int))) = true := by decide +kernel
noncomputable def fFac : FS Unit := fsP .pure (pQ 1 [] 5 b_factored) Unit
end K68

namespace K68
open PySem PySem.Spec PyProof.Rows L2 Itp
noncomputable abbrev l0 : List (Kd × (List Val → Option Val)) := []
noncomputable abbrev l1 := l0 ++ [(Kd.fresh, p_deal)]
noncomputable abbrev l2 := l1 ++ [(Kd.pure, sameN 3)]
noncomputable abbrev l3 := l2 ++ [(Kd.pure, allN 3)]
noncomputable abbrev l4 := l3 ++ [(Kd.fresh, p_between)]
noncomputable abbrev l5 := l4 ++ [(Kd.pure, p_middles)]
noncomputable abbrev l6 := l5 ++ [(Kd.pure, p_outer)]
noncomputable def p_fac : List Val → Option Val := pQ 1 (mkF l6) 5 b_factored
noncomputable abbrev l7 := l6 ++ [(Kd.any, p_fac)]
noncomputable abbrev l8 := l7 ++ [(Kd.pure, p_divisors)]
noncomputable abbrev l9 := l8 ++ [(Kd.fresh, p_forms)]
noncomputable abbrev l10 := l9 ++ [(Kd.pure, p_bforms)]
noncomputable abbrev l11 := l10 ++ [(Kd.pure, p_root)]
noncomputable abbrev l12 := l11 ++ [(Kd.pure, p_dsum)]
noncomputable abbrev l13 := l12 ++ [(Kd.pure, p_balance)]
noncomputable abbrev l14 := l13 ++ [(Kd.pure, p_one)]
theorem tab_dvs : (List.range 101).all (fun i => i == 0 || isV (fnQ (mkF l7) 1000 8 b_divisors [.int i] ()) (.tup ((dvs (i : Int)).map .int))) = true := by decide +kernel
theorem run_middles (ds : List Val) (r : Val) (h : p_middles ds = some r) : ds.length = 1 ∧ ∃ n, fnV (mkF l4) n 3 b_middles ds () = some (r, ()) := by
  unfold p_middles at h
  split at h
  · rename_i d
    split at h
    · rename_i hd
      cases h
      refine ⟨rfl, 1000, ?_⟩
      obtain ⟨e, h1, _⟩ := inD_iff hd
      have t := finA tab_mid h1
      rw [← e, hd] at t
      have := isV_of (by simpa using t)
      rw [← fnQ_eq]
      exact this
    · cases h
  · cases h
theorem run_outer (ds : List Val) (r : Val) (h : p_outer ds = some r) : ds.length = 2 ∧ ∃ n, fnV (mkF l5) n 2 b_outer_product ds () = some (r, ()) := by
  unfold p_outer at h
  split at h
  · rename_i d b
    split at h
    · rename_i hd
      cases h
      refine ⟨rfl, 0, ?_⟩
      have h4 : divOk 4 = true := by decide
      simp [fnV, b_outer_product, exSs, exS, evE, getE, bop, bopI, hd, h4, np]
    · cases h
  · cases h
theorem run_divisors (ds : List Val) (r : Val) (h : p_divisors ds = some r) : ds.length = 1 ∧ ∃ n, fnV (mkF l7) n 8 b_divisors ds () = some (r, ()) := by
  unfold p_divisors at h
  split at h
  · rename_i n
    split at h
    · rename_i hd
      cases h
      refine ⟨rfl, 1000, ?_⟩
      simp only [Bool.and_eq_true, decide_eq_true_eq] at hd
      have t := finA tab_dvs (i := n.toNat) (by omega)
      rw [show ((n.toNat : Nat) : Int) = n by omega] at t
      have h0 : (n.toNat == 0) = false := by
        have : n.toNat ≠ 0 := by omega
        simpa using this
      rw [h0, Bool.false_or] at t
      have := isV_of t
      rw [← fnQ_eq]
      exact this
    · cases h
  · cases h
theorem r_divisors {S : Type} {n : Int} {s : S} (h1 : 1 ≤ n) (h2 : n ≤ 100) : (fsP .pure p_divisors S).run [.int n] s = some (.tup ((dvs n).map .int), s) :=
  fsP_run rfl (by simp [p_divisors, h1, h2]) (by simp only [Val.noTok]; exact noToks_map (fun _ => rfl) _)
theorem r_outer {S : Type} {d b : Int} {s : S} (h : mulOk b b = true) : (fsP .pure p_outer S).run [.int d, .int b] s = some (.int (np d b), s) :=
  fsP_run rfl (by simp [p_outer, h]) rfl
theorem run_forms (ds : List Val) (r : Val) (h : p_forms ds = some r) : ds.length = 2 ∧ ∃ n, fnV (mkF l8) n 4 b_forms_between ds () = some (r, ()) := by
  unfold p_forms at h
  split at h
  · rename_i d b
    split at h
    · rename_i hd
      cases h
      simp only [Bool.and_eq_true, decide_eq_true_eq] at hd
      obtain ⟨⟨hm, h1⟩, h2⟩ := hd
      refine ⟨rfl, 0, ?_⟩
      have f5 : (mkF l8)[5]? = some (fsP .pure p_outer Unit) := rfl
      have f7 : (mkF l8)[7]? = some (fsP .pure p_divisors Unit) := rfl
      generalize mkF l8 = F at f5 f7
      have hn : ∀ k ∈ dvs (np d b), divOk k = true := fun k hk => by
        unfold dvs rngI at hk
        simp only [List.mem_filter, List.mem_map, List.mem_range] at hk
        obtain ⟨⟨i, hi, rfl⟩, _⟩ := hk
        unfold divOk
        simp only [Bool.and_eq_true, Bool.or_eq_true, bne_iff_ne, decide_eq_true_eq]
        exact ⟨by omega, .inl (by omega)⟩
      have lc := ev_lcN (F := F) (elt := (.tup (.cons (.neg (.var 3)) (.cons (.var 1) (.cons (.bin .fdiv (.var 2) (.var 3)) .nil))))) (j := 3) (it := .seq (.call 7 (.cons (.var 2) .nil))) (own := [3])
        (env := [some (.int d), some (.int b), some (.int (np d b)), none]) (s := ()) (xs := dvs (np d b)) (h := fun k => ofRow [-k, b, (np d b).fdiv k])
        (by simp [evI, evE, f7, evEs, getE, r_divisors h1 h2, seqV]) (fun k hk => by simp [evE, evEs, wipeE, getE, bop, bopI, hn k hk, lenOk, ofRow])
        (Nat.le_trans (dvs_len _) (by omega))
      have e : (dvs (np d b)).map (fun k => ofRow [-k, b, (np d b).fdiv k]) = (rowB d b).map ofRow := by unfold rowB; rw [List.map_map]; rfl
      rw [e] at lc
      exact fnV_rt (ss_nx (ex_asg (ev_call f5 (evs_2 (ev_var rfl) (ev_var rfl)) (r_outer hm))) (ss_rt (ex_ret lc)))
    · cases h
  · cases h
end K68

namespace K68
open PySem PySem.Spec PyProof.Rows L2 Itp
theorem mul_small {b : Int} (h1 : -19 ≤ b) (h2 : b ≤ 19) : mulOk b b = true := by
  unfold mulOk
  have : decide (b.natAbs < 2 ^ 64) = true := decide_eq_true (by omega)
  rw [this]; rfl
theorem r_middles {S : Type} {d : Int} {s : S} (h : inD d = true) : (fsP .pure p_middles S).run [.int d] s = some (.tup ((bs d).map .int), s) :=
  fsP_run rfl (by simp [p_middles, h]) (by simp only [Val.noTok]; exact noToks_map (fun _ => rfl) _)
theorem r_forms {S : Type} {d b : Int} {s : S} (hm : mulOk b b = true) (h1 : 1 ≤ np d b) (h2 : np d b ≤ 100) : (fsP .fresh p_forms S).run [.int d, .int b] s = some (.lst ((rowB d b).map ofRow), s) :=
  fsP_run rfl (by simp [p_forms, hm, h1, h2]) (by simp only [Val.noTok]; exact noToks_map noTok_row _)
theorem rowB_len {d b : Int} (h : np d b ≤ 100) : (rowB d b).length ≤ 100 := by
  unfold rowB
  rw [List.length_map]
  exact Nat.le_trans (dvs_len _) (by omega)
theorem flat_len : ∀ (l : List Int) (d : Int), (∀ b ∈ l, np d b ≤ 100) → (l.flatMap (rowB d)).length ≤ 100 * l.length
  | [], _, _ => by simp
  | b :: l, d, h => by
    have h1 := rowB_len (h b (.head _))
    have h2 := flat_len l d fun x hx => h x (.tail _ hx)
    rw [List.flatMap_cons, List.length_append, List.length_cons]
    omega
theorem rows_ne {d : Int} : ∀ x ∈ rows d, x ≠ [] := fun x hx => by
  unfold rows at hx
  obtain ⟨b, _, hx⟩ := List.mem_flatMap.mp hx
  unfold rowB at hx
  obtain ⟨k, _, rfl⟩ := List.mem_map.mp hx
  simp
theorem rows_len {d : Int} (h : inD d = true) : (rows d).length ≤ 3900 := by
  have h1 := flat_len (bs d) d fun b hb => (np_ok h hb).2
  have h2 := bs_len d
  unfold rows
  omega
theorem run_bforms (ds : List Val) (r : Val) (h : p_bforms ds = some r) : ds.length = 1 ∧ ∃ n, fnV (mkF l9) n 3 b_between_forms ds () = some (r, ()) := by
  unfold p_bforms at h
  split at h
  · rename_i d
    split at h
    · rename_i hd
      cases h
      refine ⟨rfl, 0, ?_⟩
      have f4 : (mkF l9)[4]? = some (fsP .pure p_middles Unit) := rfl
      have f8 : (mkF l9)[8]? = some (fsP .fresh p_forms Unit) := rfl
      generalize mkF l9 = F at f4 f8
      obtain ⟨env', s', h1, h2⟩ := forGo_inv (c := Val.int) (body := fun x env s => match setT (.name 2) x env with
        | some env2 => exSs F 0 (.cons (.ext 1 (.call 8 (.cons (.var 0) (.cons (.var 2) .nil)))) .nil) env2 s
        | none => none) (fun pre env (s : Unit) => ∃ y, env = [some (.int d), some (.lst ((pre.flatMap (rowB d)).map ofRow)), y]) (bs d) [] [some (.int d), some (.lst []), none] () ⟨_, rfl⟩
        (fun pre b post env s e ⟨y, he⟩ => by
          subst he
          have hb : b ∈ bs d := by rw [show bs d = pre ++ b :: post from e]; simp
          have hp : ∀ x ∈ pre, x ∈ bs d := fun x hx => by rw [show bs d = pre ++ b :: post from e]; simp [hx]
          obtain ⟨g1, g2⟩ := np_ok hd hb
          obtain ⟨g3, g4, _⟩ := bs_mem hb
          have lb := rowB_len g2
          have lp := flat_len pre d fun x hx => (np_ok hd (hp x hx)).2
          have ll : pre.length ≤ 39 := by
            have := bs_len d
            rw [show bs d = pre ++ b :: post from e, List.length_append] at this
            omega
          refine ⟨_, s, ss_nx (ex_ext (ev_call f8 (evs_2 (ev_var rfl) (ev_var rfl)) (r_forms (mul_small g3 g4) g1 g2)) rfl ?_) ss_end, some (.int b), ?_⟩
          · simp only [List.length_map]; omega
          · simp [List.flatMap_append])
      obtain ⟨y, rfl⟩ := h2
      rw [List.nil_append] at h1
      have hs : biV .sorted [.lst ((rows d).map ofRow)] = some (.lst ((sortL (rows d)).map ofRow)) := by
        simp only [biV, sortV_rows rows_ne, Option.map_some]
      exact fnV_rt (ss_nx (ex_asg (v := .lst []) (by simp [evE, evEs, lenOk])) (ss_nx (ex_for (evi_seq (ev_call f4 (evs_1 (ev_var rfl)) (r_middles hd)) rfl) h1) (ss_rt (ex_ret (ev_bi (evs_1 (ev_bi (evs_1 (ev_var rfl)) hs)) rfl)))))
    · cases h
  · cases h
theorem run_root (ds : List Val) (r : Val) (h : p_root ds = some r) : ds.length = 1 ∧ ∃ n, fnV (mkF l10) n 2 b_law_root ds () = some (r, ()) := by
  unfold p_root at h
  split at h
  · rename_i d
    cases h
    refine ⟨rfl, 0, ?_⟩
    generalize mkF l10 = F
    have lc := ev_lcI (F := F) (elt := .var 1) (j := 1) (it := .rng1 (.int 21)) (cond := .some (.cmp .eq (.bin .mul (.var 1) (.var 1)) (.var 0))) (own := [1]) (env := [some (.int d), none]) (s := ()) (xs := rngI 0 21) (p := fun k => k * k == d) (h := Val.int)
      (by simp [evI, evE, rngOk, rngL_eq]) (fun k hk => by
        have hm : mulOk k k = true := by
          unfold rngI at hk
          simp only [List.mem_map, List.mem_range] at hk
          obtain ⟨i, hi, rfl⟩ := hk
          unfold mulOk
          have : decide ((0 + (i : Int)).natAbs < 2 ^ 64) = true := decide_eq_true (by omega)
          rw [this]; rfl
        simp [evC, evE, wipeE, getE, bop, bopI, hm, cop, Itp.eqV, truthV]) (fun k hk _ => by simp [evE, wipeE, getE]) (by simp [rngI])
    exact fnV_rt (ss_rt (ex_ret (ev_bi (evs_1 lc) (biV_sum rfl))))
  · cases h
theorem run_dsum (ds : List Val) (r : Val) (h : p_dsum ds = some r) : ds.length = 1 ∧ ∃ n, fnV (mkF l11) n 1 b_divisors_sum ds () = some (r, ()) := by
  unfold p_dsum at h
  split at h
  · split at h
    · rename_i n hd
      cases h
      simp only [Bool.and_eq_true, decide_eq_true_eq] at hd
      refine ⟨rfl, 0, ?_⟩
      have f7 : (mkF l11)[7]? = some (fsP .pure p_divisors Unit) := rfl
      generalize mkF l11 = F at f7
      exact fnV_rt (ss_rt (ex_ret (ev_bi (evs_1 (ev_call f7 (evs_1 (ev_var rfl)) (r_divisors hd.1 hd.2))) (biV_sum rfl))))
    · cases h
  · cases h
theorem r_dsum {S : Type} {n : Int} {s : S} (h1 : 1 ≤ n) (h2 : n ≤ 100) : (fsP .pure p_dsum S).run [.int n] s = some (.int (dvs n).sum, s) :=
  fsP_run rfl (by simp [p_dsum, h1, h2]) rfl
theorem run_balance (ds : List Val) (r : Val) (h : p_balance ds = some r) : ds.length = 1 ∧ ∃ n, fnV (mkF l12) n 2 b_balance ds () = some (r, ()) := by
  unfold p_balance at h
  split at h
  · rename_i d
    split at h
    · rename_i hd
      cases h
      refine ⟨rfl, 0, ?_⟩
      have f4 : (mkF l12)[4]? = some (fsP .pure p_middles Unit) := rfl
      have f5 : (mkF l12)[5]? = some (fsP .pure p_outer Unit) := rfl
      have f11 : (mkF l12)[11]? = some (fsP .pure p_dsum Unit) := rfl
      generalize mkF l12 = F at f4 f5 f11
      have lc := ev_lcN (F := F) (elt := (.bin .mul (.bin .sub (.var 0) (.bin .mul (.bin .mul (.int 5) (.var 1)) (.var 1))) (.call 11 (.cons (.call 5 (.cons (.var 0) (.cons (.var 1) .nil))) .nil)))) (j := 1) (it := .seq (.call 4 (.cons (.var 0) .nil))) (own := [1])
        (env := [some (.int d), none]) (s := ()) (xs := bs d) (h := fun b => .int ((d - 5 * b * b) * (dvs (np d b)).sum)) (evi_seq (ev_call f4 (evs_1 (ev_var rfl)) (r_middles hd)) rfl) (fun b hb => by
          obtain ⟨g1, g2⟩ := np_ok hd hb
          obtain ⟨g3, g4, _⟩ := bs_mem hb
          obtain ⟨_, _, g5, g6⟩ := inD_iff hd
          have m1 : mulOk 5 b = true := rfl
          have m2 : mulOk (5 * b) b = true := by
            unfold mulOk
            have : decide ((5 * b).natAbs < 2 ^ 64) = true := decide_eq_true (by omega)
            rw [this]; rfl
          have g8 : 0 ≤ b * b ∧ b * b ≤ 400 := ⟨mul_self_nonneg' b, by omega⟩
          have m3 : mulOk (d - 5 * b * b) (dvs (np d b)).sum = true := by
            unfold mulOk
            have : decide ((d - 5 * b * b).natAbs < 2 ^ 64) = true := decide_eq_true (by
              have e : 5 * b * b = 5 * (b * b) := Int.mul_assoc ..
              omega)
            rw [this]; rfl
          exact ev_bin (ev_bin (ev_var rfl) (ev_bin (ev_bin (by rw [evE]) (ev_var rfl) (v := .int (5 * b)) (by simp [bop, bopI, m1])) (ev_var rfl) (v := .int (5 * b * b)) (by simp [bop, bopI, m2])) (v := .int (d - 5 * b * b)) rfl)
            (ev_call f11 (evs_1 (ev_call f5 (evs_2 (ev_var rfl) (ev_var rfl)) (r_outer (mul_small g3 g4)))) (r_dsum g1 g2)) (by simp [bop, bopI, m3])) (Nat.le_trans (bs_len d) (by decide))
      rw [show (fun b => Val.int ((d - 5 * b * b) * (dvs (np d b)).sum)) = Val.int ∘ (fun b => (d - 5 * b * b) * (dvs (np d b)).sum) from rfl, ← List.map_map] at lc
      exact fnV_rt (ss_rt (ex_ret (ev_bi (evs_1 lc) (biV_sum rfl))))
    · cases h
  · cases h
where
  mul_self_nonneg' (b : Int) : 0 ≤ b * b := by
    rcases Int.le_total 0 b with h | h
    · exact Int.mul_nonneg h h
    · exact Int.mul_nonneg_of_nonpos_of_nonpos h h
theorem run_one (ds : List Val) (r : Val) (h : p_one ds = some r) : ds.length = 1 ∧ ∃ n, fnV (mkF l13) n 2 b_one_number ds () = some (r, ()) := by
  unfold p_one at h
  split at h
  · rename_i d
    split at h
    · rename_i hd
      cases h
      refine ⟨rfl, 0, ?_⟩
      have f4 : (mkF l13)[4]? = some (fsP .pure p_middles Unit) := rfl
      have f5 : (mkF l13)[5]? = some (fsP .pure p_outer Unit) := rfl
      have f11 : (mkF l13)[11]? = some (fsP .pure p_dsum Unit) := rfl
      generalize mkF l13 = F at f4 f5 f11
      have lc := ev_lcN (F := F) (elt := (.call 11 (.cons (.call 5 (.cons (.var 0) (.cons (.var 1) .nil))) .nil))) (j := 1) (it := .seq (.call 4 (.cons (.var 0) .nil))) (own := [1])
        (env := [some (.int d), none]) (s := ()) (xs := bs d) (h := fun b => .int ((dvs (np d b)).sum)) (evi_seq (ev_call f4 (evs_1 (ev_var rfl)) (r_middles hd)) rfl) (fun b hb => by
          obtain ⟨g1, g2⟩ := np_ok hd hb
          obtain ⟨g3, g4, _⟩ := bs_mem hb
          exact ev_call f11 (evs_1 (ev_call f5 (evs_2 (ev_var rfl) (ev_var rfl)) (r_outer (mul_small g3 g4)))) (r_dsum g1 g2)) (Nat.le_trans (bs_len d) (by decide))
      rw [show (fun b => Val.int ((dvs (np d b)).sum)) = Val.int ∘ (fun b => (dvs (np d b)).sum) from rfl, ← List.map_map] at lc
      exact fnV_rt (ss_rt (ex_ret (ev_bi (evs_1 lc) (biV_sum rfl))))
    · cases h
  · cases h
end K68

namespace K68
open PySem PySem.Spec PyProof.Rows L2 Itp
/-- the law's own list: from the left -/
def pb (d b : Int) : Bool := decide (b * b < d) && ((d - b).fmod 2 == 0)
theorem rows_step (d b : Int) (pre : List Int) : ((pre ++ [b]).filter (pb d)).flatMap (rowB d) = (pre.filter (pb d)).flatMap (rowB d) ++ (if pb d b then rowB d b else []) := by
  rw [List.filter_append, List.flatMap_append]
  congr 1
  cases h : pb d b with
  | true => simp [h]
  | false => simp [h]
theorem ev_bool2 {S : Type} {F : List (FS S)} {e1 e2 : CE} {env : Itp.Env} {s : S} {b1 b2 : Bool} (h1 : evE F e1 env s = some (.bl b1, s)) (h2 : evE F e2 env s = some (.bl b2, s)) : evE F (.bool true (.cons e1 (.cons e2 .nil))) env s = some (.bl (b1 && b2), s) := by
  simp only [evE, evB, h1, bnd_eq]
  cases b1 with
  | true => simp [h2]
  | false => simp
theorem run_between (ds : List Val) (r : Val) (h : p_between ds = some r) : ds.length = 1 ∧ ∃ n, fnV (mkF l3) n 5 b_law_between ds () = some (r, ()) := by
  unfold p_between at h
  split at h
  · rename_i d
    split at h
    · rename_i hd
      cases h
      refine ⟨rfl, 0, ?_⟩
      generalize mkF l3 = F
      obtain ⟨env', s', h1, h2⟩ := forGo_inv (c := Val.int) (body := fun x env s => match setT (.name 2) x env with
        | some env2 => exSs F 0 (.cons (.ife (.bool true (.cons (.cmp .lt (.bin .mul (.var 2) (.var 2)) (.var 0)) (.cons (.cmp .eq (.bin .mod (.bi .int (.cons (.bin .sub (.var 0) (.var 2)) .nil)) (.int 2)) (.int 0)) .nil)))
(.cons (.asg 3 (.bin .fdiv (.bin .sub (.var 0) (.bin .mul (.var 2) (.var 2))) (.int 4)))
(.cons (.asg 1 (.bin .add (.var 1) (.lc (.tup (.cons (.neg (.var 4)) (.cons (.var 2) (.cons (.bin .fdiv (.var 3) (.var 4)) .nil)))) (.name 4) (.rng2 (.int 1) (.bin .add (.var 3) (.int 1))) (.some (.cmp .eq (.bin .mod (.bi .int (.cons (.var 3) .nil)) (.var 4)) (.int 0))) [4])))
.nil)) .nil) .nil) env2 s
        | none => none) (fun pre env (s : Unit) => ∃ y z, env = [some (.int d), some (.lst (((pre.filter (pb d)).flatMap (rowB d)).map ofRow)), y, z, none]) (rngI (-19) 39) [] [some (.int d), some (.lst []), none, none, none] () ⟨_, _, rfl⟩
        (fun pre b post env s e ⟨y, z, he⟩ => by
          subst he
          have hb : b ∈ rngI (-19) 39 := by rw [show rngI (-19) 39 = pre ++ b :: post from e]; simp
          have hp : ∀ x ∈ pre.filter (pb d), x ∈ bs d := fun x hx => by
            obtain ⟨x1, x2⟩ := List.mem_filter.mp hx
            exact List.mem_filter.mpr ⟨by rw [show rngI (-19) 39 = pre ++ b :: post from e]; simp [x1], x2⟩
          have g34 : -19 ≤ b ∧ b ≤ 19 := by
            unfold rngI at hb
            simp only [List.mem_map, List.mem_range] at hb
            obtain ⟨i, hi, rfl⟩ := hb
            omega
          have m := mul_small g34.1 g34.2
          have lp := flat_len (pre.filter (pb d)) d fun x hx => (np_ok hd (hp x hx)).2
          have ll : (pre.filter (pb d)).length ≤ 39 := by
            refine Nat.le_trans (List.length_filter_le _ _) ?_
            have : (rngI (-19) 39).length = 39 := by simp [rngI]
            rw [show rngI (-19) 39 = pre ++ b :: post from e, List.length_append] at this
            omega
          have tst : evT F (.bool true (.cons (.cmp .lt (.bin .mul (.var 2) (.var 2)) (.var 0)) (.cons (.cmp .eq (.bin .mod (.bi .int (.cons (.bin .sub (.var 0) (.var 2)) .nil)) (.int 2)) (.int 0)) .nil)))
              [some (.int d), some (.lst (((pre.filter (pb d)).flatMap (rowB d)).map ofRow)), some (.int b), z, none] s = some (pb d b, s) :=
            ev_T (ev_bool2 (b1 := decide (b * b < d)) (b2 := (d - b).fmod 2 == 0) (by simp [evE, getE, bop, bopI, m, cop]) (by simp [evE, evEs, getE, bop, bopI, biV, cop, Itp.eqV])) rfl
          cases hc : pb d b with
          | false =>
            rw [hc] at tst
            refine ⟨_, s, ss_nx ((ex_ifF tst).trans ss_end) ss_end, some (.int b), z, ?_⟩
            rw [rows_step, hc]
            simp
          | true =>
            rw [hc] at tst
            have hbb : b ∈ bs d := List.mem_filter.mpr ⟨hb, hc⟩
            obtain ⟨g1, g2⟩ := np_ok hd hbb
            have lb := rowB_len g2
            have hn : ∀ k ∈ rngI 1 (np d b).toNat, divOk k = true ∧ k ≠ 0 := fun k hk => by
              unfold rngI at hk
              simp only [List.mem_map, List.mem_range] at hk
              obtain ⟨i, hi, rfl⟩ := hk
              have hz : (1 + (i : Int) != 0) = true := by
                simp only [bne_iff_ne]
                omega
              refine ⟨?_, by omega⟩
              unfold divOk
              rw [hz]
              have : decide ((1 + (i : Int)).natAbs < 1073741824) = true := decide_eq_true (by omega)
              rw [this]
              rfl
            have n1 : np d b + 1 - 1 = np d b := by omega
            have lc := ev_lcI (F := F) (elt := (.tup (.cons (.neg (.var 4)) (.cons (.var 2) (.cons (.bin .fdiv (.var 3) (.var 4)) .nil))))) (j := 4) (it := (.rng2 (.int 1) (.bin .add (.var 3) (.int 1)))) (cond := (.some (.cmp .eq (.bin .mod (.bi .int (.cons (.var 3) .nil)) (.var 4)) (.int 0)))) (own := [4])
              (env := [some (.int d), some (.lst (((pre.filter (pb d)).flatMap (rowB d)).map ofRow)), some (.int b), some (.int (np d b)), none]) (s := s) (xs := rngI 1 (np d b).toNat) (p := fun k => (np d b).fmod k == 0) (h := fun k => ofRow [-k, b, (np d b).fdiv k])
              (by
                have r1 : rngOk (np d b + 1) = true := by
                  unfold rngOk
                  simp only [Bool.and_eq_true, decide_eq_true_eq]
                  omega
                simp [evI, evE, getE, bop, bopI, r1, rngL_eq, n1, show rngOk 1 = true from by decide]) (fun k hk => by simp [evC, evE, evEs, wipeE, getE, bop, bopI, biV, (hn k hk).2, cop, Itp.eqV, truthV]) (fun k hk _ => by simp [evE, evEs, wipeE, getE, bop, bopI, (hn k hk).1, lenOk, ofRow])
              (by simp [rngI]; omega)
            have e' : ((rngI 1 (np d b).toNat).filter fun k => (np d b).fmod k == 0).map (fun k => ofRow [-k, b, (np d b).fdiv k]) = (rowB d b).map ofRow := by unfold rowB dvs; rw [List.map_map]; rfl
            rw [e'] at lc
            refine ⟨_, s, ss_nx ((ex_ifT tst).trans (ss_nx (ex_asg (v := .int (np d b)) (ev_bin (ev_bin (ev_var rfl) (ev_bin (ev_var rfl) (ev_var rfl) (v := .int (b * b)) (by simp [bop, bopI, m])) (v := .int (d - b * b)) rfl) (by rw [evE]) (by simp [bop, bopI, np, show divOk 4 = true by decide]))) (ss_nx (ex_asg (ev_bin (ev_var rfl) lc (v := .lst (((pre.filter (pb d)).flatMap (rowB d)).map ofRow ++ (rowB d b).map ofRow)) (by
              simp only [bop]
              rw [if_pos]
              refine lenOk_of ?_
              simp only [List.length_map]
              omega))) ss_end))) ss_end, some (.int b), some (.int (np d b)), ?_⟩
            rw [rows_step, hc]
            simp [List.map_append])
      obtain ⟨y, z, rfl⟩ := h2
      rw [List.nil_append] at h1
      refine fnV_rt (ss_nx (ex_asg (v := .lst []) (s1 := ()) (by simp [evE, evEs, lenOk])) (ss_nx (ex_for (items := (rngI (-19) 39).map .int) (s1 := ()) ?_ h1) (ss_rt (ex_ret (ev_var rfl)))))
      simp [evI, evE, rngOk, rngL_eq]
    · cases h
  · cases h
end K68

namespace K68
open PySem PySem.Spec PyProof.Rows L2 Itp
/-- what stands but the deal -/
def Keeps (aD aL : Addr) (H H' : Hp) : Prop := ∀ b o, H b = some o → b ≠ aD → b ≠ aL → H' b = some o
theorem Keeps.same {aD aL : Addr} {H H1 H2 : Hp} (a : Keeps aD aL H H1) (b : Same H1 H2) : Keeps aD aL H H2 := fun c o h n1 n2 => b c o (a c o h n1 n2)
theorem Keeps.updL {aD aL : Addr} {H H1 : Hp} {o : HO} (a : Keeps aD aL H H1) : Keeps aD aL H (upd H1 aL o) := fun c o h n1 n2 => by rw [upd_ne n2]; exact a c o h n1 n2
theorem Keeps.updD {aD aL : Addr} {H H1 : Hp} {o : HO} (a : Keeps aD aL H H1) : Keeps aD aL H (upd H1 aD o) := fun c o h n1 n2 => by rw [upd_ne n1]; exact a c o h n1 n2
section
variable {P : Program} {w : World} {K : PySem.W.Frag} {mg : Str → Option Value} {base : Heap}
theorem atI_last' {ns : List Int} (h : ns ≠ []) : L2.atI (ns.map V.int) (-1) = some (.int (ns.getLast h)) := by
  have e : ns.map V.int = ns.dropLast.map V.int ++ [.int (ns.getLast h)] := by
    rw [← List.map_singleton, ← List.map_append, List.dropLast_concat_getLast]
  rw [e]
  exact atI_last _ _
theorem ok_any {f : Addr} {fd : FuncData} {k : Nat} (Fu : Fun K "_law_any" "_law_any" s_law_any f fd) (mi : mg "int" = none) (aD aL : Addr) : FnOk P w K mg base CX0 (k + 1) f fd ["deal", "bound"] (spI (dR aD aL) K 2 anyFS) := by
  refine Fu.ok sc_law_any (fun vs H Q E ⟨A, ds, s, r, s', _, _, hr, _, _, hl, _⟩ => by rw [hr.len, hl]; rfl) fun cdv A outer s H vs Q E hroom hsp => ?_
  have hu : (A.deeper (envOfC "_law_any" (defScope s_law_any) s.heap.objs.size f cdv)).units + 64 < cLine := by
    have := hroom.un
    omega
  obtain ⟨A0, ds, s0, r, s', fa, al, hr, hi, run, hl, q⟩ := hsp
  simp only [anyFS] at run
  split at run
  case h_2 => cases run
  rename_i b
  split at run
  case isFalse => cases run
  rename_i hb
  cases run
  simp only [Bool.and_eq_true, decide_eq_true_eq] at hb
  simp only [Reps, Rep] at hr
  obtain ⟨v1, r1, rfl, rfl, v2, r2, rfl, rfl, rfl⟩ := hr
  have hne : aD ≠ aL := hi.ne
  have hlo := hi.lo
  have hhi := hi.hi
  have hbn : (b != 0) = true := by simp only [bne_iff_ne]; omega
  have hdv : divOk b = true := by
    unfold divOk
    rw [hbn, show decide (b.natAbs < 1073741824) = true from decide_eq_true (by omega)]
    rfl
  obtain ⟨t2, h2, q2⟩ : ∃ t2, PSs (cxOf CX0 P w K mg base N_law_any "_law_any" (defScope s_law_any) f cdv A outer s H E).nox (List.tail (defBody s_law_any)) t2 ∧ ∀ (l : List Int) (H2 : Hp), dropZ s0.1 = l → l.length ≤ 63 → H2 aD = some (.lst [.ref aL, .int s0.2]) → H2 aL = some (.lst (l.map V.int)) → Keeps aD aL H H2 →
      t2 { nx := fun _ H' => Q .non H', rt := Q } [some (V.ref aD), some (V.int b), none] H2 := by
    refine ⟨_, pss_cons (ps_if (pt_cmpR (op_neNil hu) (pe_ix ix_list (pv 0) pe_int (fun _ _ => rfl)) (pe_lst pa_nil) (nomark _))
      (pss_cons (ps_set (i := 2) sc_law_any.nd rfl (.inl rfl) (pe_callTy cr_int1 (by rfl) mi boot_int' (pa_cons (pe_bm0 PySem.F.plainAttrs_list PySem.F.slot_list_pop PySem.F.type_list_pop mt_pop (pe_ix ix_list (pv 0) pe_int (fun _ _ => rfl))) pa_nil)))
      (pss_cons (ps_expr (pe_bm PySem.F.plainAttrs_list PySem.F.slot_list_append PySem.F.type_list_append mt_append (pe_ix ix_list (pv 0) pe_int (fun _ _ => rfl)) (pa_cons (pe_op (op_binI .fdiv) (pv 2) (pv 1)) pa_nil)))
      (pss_one (ps_ret (pe_op (op_binI .mod) (pv 2) (pv 1)))))) pss_nil)
    (pss_cons (ps_asg (pe_op (op_binI .mod) (pe_callTy cr_int1 (by rfl) mi boot_int' (pa_cons (pe_op (op_binI .add) (pe_op (op_binI .mul) (pe_ix ix_list (pv 0) pe_int (fun _ _ => rfl)) pe_int) pe_int) pa_nil)) pe_int) (pg_sub (pv 0) pe_int set_list))
    (pss_one (ps_ret (pe_op (op_binI .mod) (pe_callTy cr_int1 (by rfl) mi boot_int' (pa_cons (pe_op (op_binI .fdiv) (pe_ix ix_list (pv 0) pe_int (fun _ _ => rfl)) pe_int) pa_nil)) (pv 1))))), ?_⟩
    intro l H2 hdz hlen hD hL hK
    refine ⟨.ref aD, rfl, aD, _, 0, .ref aL, rfl, rfl, SqL.of hD, rfl, Nat.zero_le _, fun p hp => ⟨aL, p, l, rfl, rfl, (same_new hp) _ _ hL, upd_same, fun H3 sm3 => ⟨_, rfl, ?_⟩⟩⟩
    have sm : Same H2 H3 := (same_new hp).trans sm3
    have hD3 := sm _ _ hD
    have hL3 := sm _ _ hL
    have hK3 := hK.same sm
    by_cases hl0 : l = []
    · subst hl0
      have hs : anyS b s0 = ((((mixN s0.2).fdiv 64).fmod b), ([], mixN s0.2)) := by unfold anyS; rw [hdz]; rfl
      rw [hs] at q
      refine iteF ?_
      have m1 : mulOk s0.2 48271 = true := by
        unfold mulOk
        rw [show decide ((48271 : Int).natAbs < 2 ^ 64) = true by decide]
        simp
      refine ⟨.ref aD, rfl, aD, _, 1, .int s0.2, rfl, rfl, SqL.of hD3, rfl, s0.2, 48271, .int (s0.2 * 48271), rfl, rfl, by simp [bopI, m1], fun k1 e1 => ?_⟩
      cases e1
      refine ⟨s0.2 * 48271, 31, .int (s0.2 * 48271 + 31), rfl, rfl, rfl, fun k2 e2 => ?_⟩
      cases e2
      refine ⟨_, rfl, fun H4 sm4 => ⟨_, 2147483647, .int (mixN s0.2), rfl, rfl, rfl, fun k3 e3 => ?_⟩⟩
      cases e3
      refine ⟨.ref aD, rfl, aD, [.ref aL, .int s0.2], 1, 1, rfl, rfl, sm4 _ _ hD3, rfl, ?_⟩
      refine ⟨.ref aD, rfl, aD, [.ref aL, .int (mixN s0.2)], 1, .int (mixN s0.2), rfl, rfl, SqL.of upd_same, rfl, mixN s0.2, 64, .int ((mixN s0.2).fdiv 64), rfl, rfl, by simp [bopI, show divOk 64 = true by decide], fun k4 e4 => ?_⟩
      cases e4
      refine ⟨_, rfl, fun H5 sm5 => ⟨.int b, rfl, _, b, .int (((mixN s0.2).fdiv 64).fmod b), rfl, rfl, by simp only [bopI, hbn, if_true], fun k5 e5 => ?_⟩⟩
      cases e5
      have hkk : Keeps aD aL H H5 := ((hK3.same sm4).updD).same sm5
      refine q _ H5 (fun c o h n => hkk c o h (fun z => n (.inl z)) (fun z => n (.inr z))) ⟨hne, sm5 _ _ upd_same, sm5 _ _ (by rw [upd_ne hne.symm]; exact sm4 _ _ hL3), Nat.zero_le _, (mixN_rng _).1, (mixN_rng _).2⟩ rep_int (fun z => by cases z)
    · have hl1 : (!l.isEmpty) = true := by
        cases l with
        | nil => exact absurd rfl hl0
        | cons _ _ => rfl
      rw [hl1]
      refine iteT ?_
      have hgl : l.getLast? = some (l.getLast hl0) := List.getLast?_eq_getLast hl0
      have hs : anyS b s0 = ((l.getLast hl0).fmod b, (l.dropLast ++ [(l.getLast hl0).fdiv b], s0.2)) := by unfold anyS; rw [hdz, hgl]
      rw [hs] at q
      have hgv : (l.map V.int)[(l.map V.int).length - 1]? = some (.int (l.getLast hl0)) := by
        rw [← List.getLast?_eq_getElem?, List.getLast?_map, hgl]
        rfl
      refine ⟨.ref aD, rfl, aD, _, 0, .ref aL, rfl, rfl, SqL.of hD3, rfl, .inl ⟨rfl, _, SqL.of hL3⟩, aL, l.map V.int, _, rfl, rfl, hL3, hgv, _, rfl, fun H4 sm4 => ?_⟩
      have hD4 := sm4 aD _ (by rw [upd_ne hne]; exact hD3)
      have hL4 := sm4 aL _ upd_same
      refine ⟨.ref aD, rfl, aD, _, 0, .ref aL, rfl, rfl, SqL.of hD4, rfl, .inl ⟨rfl, _, SqL.of hL4⟩, .int (l.getLast hl0), rfl, .int b, rfl, _, b, .int ((l.getLast hl0).fdiv b), rfl, rfl, by simp only [bopI, hdv, if_true], fun k5 e5 => ?_⟩
      cases e5
      refine ⟨aL, _, _, rfl, rfl, hL4, ?_, ?_⟩
      · rw [List.length_dropLast, List.length_map]
        exact Nat.lt_of_le_of_lt (Nat.sub_le _ _) (Nat.lt_of_le_of_lt hlen (by decide))
      refine ⟨.int (l.getLast hl0), rfl, .int b, rfl, _, b, .int ((l.getLast hl0).fmod b), rfl, rfl, by simp only [bopI, hbn, if_true], fun k6 e6 => ?_⟩
      cases e6
      have hkk : Keeps aD aL H (upd H4 aL (.lst ((l.map V.int).dropLast ++ [.int ((l.getLast hl0).fdiv b)]))) := ((hK3.updL).same sm4).updL
      refine q _ _ (fun c o h n => hkk c o h (fun z => n (.inl z)) (fun z => n (.inr z))) ⟨hne, by rw [upd_ne hne]; exact hD4, ?_, ?_, hlo, hhi⟩ rep_int (fun z => by cases z)
      · rw [upd_same]
        simp
      · show (l.dropLast ++ [(l.getLast hl0).fdiv b]).length ≤ 63
        rw [List.length_append, List.length_dropLast]
        have : l.length ≠ 0 := fun z => hl0 (List.length_eq_zero_iff.mp z)
        show l.length - 1 + 1 ≤ 63
        omega
  refine ⟨_, pss_cons (ps_while PassesOwn.never (PW.pt (pw_and (pt_cmpR (op_neNil hu) (pe_ix ix_list (pv 0) pe_int (fun _ _ => rfl)) (pe_lst pa_nil) (nomark _))
        (pw_and1 (pt_cmpR op_eq (pe_ix ix_list (pe_ix ix_list (pv 0) pe_int (fun _ _ => rfl)) (pe_un un_neg pe_int) (fun _ _ => rfl)) pe_int (nomark _)))))
      (pss_one (ps_expr (pe_bm0 PySem.F.plainAttrs_list PySem.F.slot_list_pop PySem.F.type_list_pop mt_pop (pe_ix ix_list (pv 0) pe_int (fun _ _ => rfl)))))) h2, ?_⟩
  show tSeq _ _ _ [some (V.ref aD), some (V.int b), none] H
  refine ⟨fun m σ H1 => ∃ l, σ = [some (V.ref aD), some (V.int b), none] ∧ l.length = m ∧ dropZ l = dropZ s0.1 ∧ l.length ≤ 63 ∧ H1 aD = some (.lst [.ref aL, .int s0.2]) ∧ H1 aL = some (.lst (l.map V.int)) ∧ Keeps aD aL H H1, ⟨s0.1.length, s0.1, rfl, rfl, rfl, hi.len, hi.d, hi.l, fun c o h _ _ => h⟩, ?_⟩
  rintro m σ1 H1 ⟨l, rfl, rfl, hdz, hlen, hD, hL, hK⟩
  refine ⟨.ref aD, rfl, aD, _, 0, .ref aL, rfl, rfl, SqL.of hD, rfl, Nat.zero_le _, fun p hp => ⟨aL, p, l, rfl, rfl, (same_new hp) _ _ hL, upd_same, fun H2 sm2 => ⟨_, rfl, ?_⟩⟩⟩
  have sm : Same H1 H2 := (same_new hp).trans sm2
  have hD2 := sm _ _ hD
  have hL2 := sm _ _ hL
  have hK2 := hK.same sm
  by_cases hl0 : l = []
  · subst hl0
    refine iteF (iteF ?_)
    exact q2 [] H2 (by rw [← hdz]; rfl) (Nat.zero_le _) hD2 hL2 hK2
  · have hl1 : (!l.isEmpty) = true := by
      cases l with
      | nil => exact absurd rfl hl0
      | cons _ _ => rfl
    rw [hl1]
    refine iteT ?_
    have hsp : l = l.dropLast ++ [l.getLast hl0] := (List.dropLast_concat_getLast hl0).symm
    have hdl : dropZ l = if l.getLast hl0 == 0 then dropZ l.dropLast else l := by
      conv => lhs; rw [hsp]
      rw [dropZ_snoc, ← hsp]
    refine ⟨.ref aD, rfl, aD, _, 0, .ref aL, rfl, rfl, SqL.of hD2, rfl, 1, rfl, aL, l.map V.int, -1, .int (l.getLast hl0), rfl, rfl, SqL.of hL2, atI_last' hl0, rfl, ?_⟩
    rw [dec_int]
    refine ⟨_, rfl, ?_⟩
    cases hz : (l.getLast hl0 == 0) with
    | false =>
      rw [hz] at hdl
      refine iteF ?_
      exact q2 l H2 (by rw [← hdz, hdl]; rfl) hlen hD2 hL2 hK2
    | true =>
      rw [hz, if_pos rfl] at hdl
      refine iteT ⟨fun σ H1 => ∃ l', σ = [some (V.ref aD), some (V.int b), none] ∧ l'.length < l.length ∧ dropZ l' = dropZ s0.1 ∧ l'.length ≤ 63 ∧ H1 aD = some (.lst [.ref aL, .int s0.2]) ∧ H1 aL = some (.lst (l'.map V.int)) ∧ Keeps aD aL H H1, fun σ' H' ⟨l', e1, e2, e3⟩ => ⟨_, e2, l', e1, rfl, e3⟩, ?_⟩
      have hgv : (l.map V.int)[(l.map V.int).length - 1]? = some (.int (l.getLast hl0)) := by
        rw [← List.getLast?_eq_getElem?, List.getLast?_map, List.getLast?_eq_getLast hl0]
        rfl
      refine ⟨.ref aD, rfl, aD, _, 0, .ref aL, rfl, rfl, SqL.of hD2, rfl, .inl ⟨rfl, _, SqL.of hL2⟩, aL, l.map V.int, _, rfl, rfl, hL2, hgv, l.dropLast, rfl, ?_, ?_, ?_, ?_, ?_, hK2.updL⟩
      · rw [List.length_dropLast]
        have : l.length ≠ 0 := fun z => hl0 (List.length_eq_zero_iff.mp z)
        omega
      · rw [← hdz, hdl]
      · rw [List.length_dropLast]; omega
      · rw [upd_ne hne]; exact hD2
      · rw [upd_same, List.map_dropLast]
end
end K68

namespace K68
open PySem PySem.Spec PyProof.Rows L2 Itp
/-! ### sums -/
def fw (d : Int) : List Int → Int
  | [_, b, c] => (d - 5 * b * b) * c
  | _ => 0
def fc : List Int → Int
  | [_, _, c] => c
  | _ => 0
theorem perm_sum {l m : List Int} (h : l.Perm m) : l.sum = m.sum := by
  induction h with
  | nil => rfl
  | cons x _ ih => rw [List.sum_cons, List.sum_cons, ih]
  | swap x y l => simp only [List.sum_cons]; omega
  | trans _ _ h1 h2 => rw [h1, h2]
theorem flat_sum {f : List Int → Int} {g : Int → List (List Int)} : ∀ l : List Int, ((l.flatMap g).map f).sum = (l.map fun x => ((g x).map f).sum).sum
  | [] => rfl
  | x :: l => by rw [List.flatMap_cons, List.map_append, List.sum_append, List.map_cons, List.sum_cons, flat_sum l]
theorem mul_sum (a : Int) {f : Int → Int} : ∀ l : List Int, (l.map fun k => a * f k).sum = a * (l.map f).sum
  | [] => by simp
  | x :: l => by simp only [List.map_cons, List.sum_cons, mul_sum a l, Int.mul_add]
theorem map_sum {f g : Int → Int} : ∀ {l : List Int}, (∀ x ∈ l, f x = g x) → (l.map f).sum = (l.map g).sum
  | [], _ => rfl
  | x :: l, h => by rw [List.map_cons, List.map_cons, List.sum_cons, List.sum_cons, h x (.head _), map_sum fun y hy => h y (.tail _ hy)]
theorem sum_fw {d : Int} (h : inD d = true) : ((sortL (rows d)).map (fw d)).sum = due d := by
  rw [perm_sum ((sortL_perm (rows d)).map (fw d))]
  unfold rows
  rw [flat_sum, ← bal_due h]
  unfold bal
  refine map_sum fun b hb => ?_
  obtain ⟨g1, g2⟩ := np_ok h hb
  unfold rowB
  rw [List.map_map]
  show ((dvs (np d b)).map fun k => (d - 5 * b * b) * (np d b).fdiv k).sum = _
  rw [mul_sum, co_sum g1 g2]
theorem sum_fc {d : Int} (h : inD d = true) : ((rows d).map fc).sum = one d := by
  unfold rows
  rw [flat_sum]
  unfold one
  refine map_sum fun b hb => ?_
  obtain ⟨g1, g2⟩ := np_ok h hb
  unfold rowB
  rw [List.map_map]
  show ((dvs (np d b)).map fun k => (np d b).fdiv k).sum = _
  rw [co_sum g1 g2]
theorem row_of {d : Int} {r : List Int} (h : r ∈ rows d) : ∃ a b c, r = [a, b, c] ∧ -19 ≤ b ∧ b ≤ 19 ∧ b * b < d := by
  unfold rows at h
  obtain ⟨b, hb, h⟩ := List.mem_flatMap.mp h
  unfold rowB at h
  obtain ⟨k, _, rfl⟩ := List.mem_map.mp h
  obtain ⟨g1, g2, g3⟩ := bs_mem hb
  exact ⟨_, b, _, rfl, g1, g2, g3⟩
/-! ### the law's own defs -/
def mkFS (l : List (Kd × (List Val → Option Val))) : List (FS DS) := l.map fun p => fsP p.1 p.2 DS
noncomputable abbrev G0 : List (FS DS) := mkFS l14 ++ [anyFS]
noncomputable def ofFS : FS DS := ⟨fun ds s => if ds.length = 2 then fnV G0 0 2 b_law_of ds s else none, .any⟩
noncomputable abbrev G1 : List (FS DS) := G0 ++ [ofFS]
noncomputable def discFS : FS DS := ⟨fun ds s => if ds.length = 1 then fnV G1 0 3 b_law_disc ds s else none, .any⟩
noncomputable abbrev G2 : List (FS DS) := G1 ++ [discFS]
theorem any_run {b : Int} (h1 : 0 < b) (h2 : b < 1073741824) (s : DS) : anyFS.run [.tok, .int b] s = some (.int (anyS b s).1, (anyS b s).2) := by
  simp only [anyFS, decide_eq_true h1, decide_eq_true h2, Bool.and_self, if_true]
theorem of_val (xs : List Int) (h1 : 0 < xs.length) (h2 : xs.length ≤ 1000) (s : DS) : ∃ x s', x ∈ xs ∧ ofFS.run [.tok, .lst (xs.map .int)] s = some (.int x, s') := by
  have f14 : G0[14]? = some anyFS := rfl
  obtain ⟨g1, g2⟩ := anyS_rng (b := (xs.length : Int)) (by omega) s
  have hi : (anyS (xs.length : Int) s).1.toNat < xs.length := by omega
  refine ⟨xs[(anyS (xs.length : Int) s).1.toNat], (anyS (xs.length : Int) s).2, List.getElem_mem hi, ?_⟩
  have hix : ixV (.lst (xs.map .int)) (.int (anyS (xs.length : Int) s).1) = some (.int xs[(anyS (xs.length : Int) s).1.toNat]) := by
    have := atI_map (xs := xs.map Val.int) g1 (by rw [List.length_map]; exact hi)
    rw [List.getElem_map] at this
    exact this
  show (if [Val.tok, .lst (xs.map .int)].length = 2 then fnV G0 0 2 b_law_of [Val.tok, .lst (xs.map .int)] s else none) = _
  rw [if_pos (by rfl)]
  generalize G0 = F at f14
  exact fnV_rt (ss_rt (ex_ret (ev_ix (x := .lst (xs.map .int)) (ev_var rfl) (ev_call f14 (evs_2 (ev_var rfl) (ev_bi (v := .int (xs.length : Int)) (evs_1 (ev_var rfl)) (by simp only [biV, lenV, List.length_map]; rfl))) (any_run (by omega) (by omega) s)) hix)))
theorem tab_sq : (List.range 21).all (fun i => i == 0 || inD ((i : Int) * i)) = true := by decide +kernel
theorem ev_lst10 {S : Type} {F : List (FS S)} {env : Itp.Env} {s : S} (l : List Int) (h : l.length ≤ 1000) : evE F (.lst (lits l)) env s = some (.lst (l.map .int), s) := by
  rw [evE, show evEs F (lits l) env s = some (l.map .int, s) from ev_cells.ev_lits' l]
  simp only [bnd_eq, List.length_map]
  rw [if_pos (lenOk_of (by omega))]
def c1 : List Int := [400, 397, 396, 393, 392, 388, 385, 361, 325, 324]
def c2 : List Int := [20, 45, 32, 72, 125, 180, 245, 288, 384, 320, 200, 300, 252, 392]
theorem c1_ok : ∀ x ∈ c1, inD x = true := by decide
theorem c2_ok : ∀ x ∈ c2, inD x = true := by decide
theorem ev_eq {S : Type} {F : List (FS S)} {env : Itp.Env} {s : S} {a : CE} {i z : Int} (h : evE F a env s = some (.int i, s)) : evT F (.cmp .eq a (.int z)) env s = some (i == z, s) := ev_T (ev_cmp h ev_int rfl) rfl
theorem disc_val (s : DS) : ∃ d s', inD d = true ∧ discFS.run [.tok] s = some (.int d, s') := by
  have f14 : G1[14]? = some anyFS := rfl
  have f15 : G1[15]? = some ofFS := rfl
  have go : ∀ d s', inD d = true → fnV G1 0 3 b_law_disc [.tok] s = some (.int d, s') → ∃ d s', inD d = true ∧ discFS.run [.tok] s = some (.int d, s') := fun d s' h1 h2 => ⟨d, s', h1, by
    show (if [Val.tok].length = 1 then fnV G1 0 3 b_law_disc [Val.tok] s else none) = _
    rw [if_pos (by rfl), h2]⟩
  generalize G1 = F at f14 f15 go
  obtain ⟨a1, a2⟩ := anyS_rng (b := 6) (by decide) s
  obtain ⟨b1, b2⟩ := anyS_rng (b := 200) (by decide) (anyS 6 s).2
  have e1 : exS F 0 (.asgP [1, 2] (.cons (.call 14 (.cons (.var 0) (.cons (.int 6) .nil))) (.cons (.call 14 (.cons (.var 0) (.cons (.int 200) .nil))) .nil))) [some .tok, none, none] s = some (.nx, [some .tok, some (.int (anyS 6 s).1), some (.int (anyS 200 (anyS 6 s).2).1)], (anyS 200 (anyS 6 s).2).2) := by
    rw [exS, evs_2 (ev_call f14 (evs_2 (ev_var rfl) ev_int) (any_run (by decide) (by decide) s)) (ev_call f14 (evs_2 (ev_var rfl) ev_int) (any_run (by decide) (by decide) _))]
    rfl
  generalize (anyS 6 s).1 = kind at *
  generalize (anyS 200 (anyS 6 s).2).1 = num at *
  generalize (anyS 200 (anyS 6 s).2).2 = s2 at *
  by_cases k0 : kind = 0
  · have hm : (num.fmod 20 + 1) = (((num.fmod 20 + 1).toNat : Nat) : Int) ∧ (num.fmod 20 + 1).toNat < 21 ∧ (num.fmod 20 + 1).toNat ≠ 0 := by
      have h1 := Int.fmod_nonneg_of_pos num (b := 20) (by decide)
      have h2 := Int.fmod_lt_of_pos num (b := 20) (by decide)
      omega
    obtain ⟨h1, h2, h3⟩ := hm
    have t := finA tab_sq h2
    rw [show ((num.fmod 20 + 1).toNat == 0) = false by simpa using h3, Bool.false_or, ← h1] at t
    have m : mulOk (num.fmod 20 + 1) (num.fmod 20 + 1) = true := mulOk_l (by omega)
    refine go _ s2 t (fnV_rt (ss_nx e1 (ss_rt ((ex_ifT ((ev_eq (ev_var rfl)).trans (by rw [k0]; rfl))).trans (ss_nx (ex_asg (ev_add (ev_mod (ev_toint (ev_var rfl)) ev_int (by decide)) ev_int)) (ss_rt (ex_ret (ev_mul (ev_var rfl) (ev_var rfl) m))))))))
  · have t0 : evT F (.cmp .eq (.var 1) (.int 0)) [some .tok, some (.int kind), some (.int num)] s2 = some (false, s2) := (ev_eq (ev_var rfl)).trans (by rw [show (kind == 0) = false by simpa using k0])
    by_cases k1 : kind = 1
    · obtain ⟨x, s3, hx, hr⟩ := of_val c1 (by decide) (by decide) s2
      refine go x s3 (c1_ok x hx) (fnV_rt (ss_nx e1 (ss_nx ((ex_ifF t0).trans ss_end) (ss_rt ((ex_ifT ((ev_eq (ev_var rfl)).trans (by rw [k1]; rfl))).trans (ss_rt (ex_ret (ev_call f15 (evs_2 (ev_var rfl) (ev_lst10 c1 (by decide))) hr))))))))
    · have t1 : evT F (.cmp .eq (.var 1) (.int 1)) [some .tok, some (.int kind), some (.int num)] s2 = some (false, s2) := (ev_eq (ev_var rfl)).trans (by rw [show (kind == 1) = false by simpa using k1])
      by_cases k2 : kind = 2
      · obtain ⟨x, s3, hx, hr⟩ := of_val c2 (by decide) (by decide) s2
        refine go x s3 (c2_ok x hx) (fnV_rt (ss_nx e1 (ss_nx ((ex_ifF t0).trans ss_end) (ss_nx ((ex_ifF t1).trans ss_end) (ss_rt ((ex_ifT ((ev_eq (ev_var rfl)).trans (by rw [k2]; rfl))).trans (ss_rt (ex_ret (ev_call f15 (evs_2 (ev_var rfl) (ev_lst10 c2 (by decide))) hr)))))))))
      · have t2 : evT F (.cmp .eq (.var 1) (.int 2)) [some .tok, some (.int kind), some (.int num)] s2 = some (false, s2) := (ev_eq (ev_var rfl)).trans (by rw [show (kind == 2) = false by simpa using k2])
        refine go (2 * num + 1 + num.fmod 2) s2 ?_ (fnV_rt (ss_nx e1 (ss_nx ((ex_ifF t0).trans ss_end) (ss_nx ((ex_ifF t1).trans ss_end) (ss_nx ((ex_ifF t2).trans ss_end) (ss_rt (ex_ret (ev_add (ev_add (ev_mul ev_int (ev_var rfl) (mulOk_l (by decide))) ev_int) (ev_mod (ev_toint (ev_var rfl)) ev_int (by decide))))))))))
        have h1 : num.fmod 2 = num % 2 := Int.fmod_eq_emod_of_nonneg _ (by decide)
        rw [h1]
        unfold inD
        simp only [Bool.and_eq_true, Bool.or_eq_true, decide_eq_true_eq]
        rcases (by omega : num % 2 = 0 ∨ num % 2 = 1) with h | h <;> rw [h] <;> omega
end K68

namespace K68
open PySem PySem.Spec PyProof.Rows L2 Itp
def b_lawR : CSs :=
(.cons (.asgP [2, 3] (.cons (.lst .nil) (.cons (.lst .nil) .nil)))
(.cons (.for (.name 4) (.rng1 (.int 6))
(.cons (.asg 5 (.call 16 (.cons (.var 1) .nil)))
(.cons (.asg 6 (.call 3 (.cons (.var 5) .nil)))
(.cons (.asg 7 (.ife (.cmp .eq (.call 10 (.cons (.var 5) .nil)) (.int 0)) (.int 0) (.bin .fdiv (.bin .sub (.bin .mul (.var 5) (.var 5)) (.var 5)) (.int 3))))
(.cons (.asg 8 (.call 9 (.cons (.var 5) .nil)))
(.cons (.ife (.not (.call 1 (.cons (.var 8) (.cons (.bi .tuple (.cons (.bi .sorted (.cons (.var 6) .nil)) .nil)) .nil))))
(.cons (.ret (.bl false))
.nil) .nil)
(.cons (.ife (.cmp .ne (.bi .sum (.cons (.lc (.bin .mul (.bin .sub (.var 5) (.bin .mul (.bin .mul (.int 5) (.var 10)) (.var 10))) (.var 11)) (.tup [9, 10, 11]) (.seq (.var 8)) .none [9, 10, 11]) .nil)) (.var 7))
(.cons (.ret (.bl false))
.nil) .nil)
(.cons (.asg 2 (.bin .add (.var 2) (.lst (.cons (.tup (.cons (.call 12 (.cons (.var 5) .nil)) (.cons (.var 7) .nil))) (.cons (.tup (.cons (.call 13 (.cons (.var 5) .nil)) (.cons (.bi .sum (.cons (.lc (.var 11) (.tup [9, 10, 11]) (.seq (.var 6)) .none [9, 10, 11]) .nil)) .nil))) .nil)))))
(.cons (.app 3 (.tup (.cons (.var 5) (.cons (.var 7) .nil))))
.nil)))))))))
(.cons (.for (.tup [5, 7]) (.seq (.rev (.var 3)))
(.cons (.app 2 (.tup (.cons (.callk 12 .nil (.cons (.var 5) .nil) [0]) (.cons (.var 7) .nil))))
.nil))
(.cons (.ret (.call 2 (.cons (.var 2) .nil)))
.nil))))
def b_turn : CSs :=
(.cons (.asg 5 (.call 16 (.cons (.var 1) .nil)))
(.cons (.asg 6 (.call 3 (.cons (.var 5) .nil)))
(.cons (.asg 7 (.ife (.cmp .eq (.call 10 (.cons (.var 5) .nil)) (.int 0)) (.int 0) (.bin .fdiv (.bin .sub (.bin .mul (.var 5) (.var 5)) (.var 5)) (.int 3))))
(.cons (.asg 8 (.call 9 (.cons (.var 5) .nil)))
(.cons (.ife (.not (.call 1 (.cons (.var 8) (.cons (.bi .tuple (.cons (.bi .sorted (.cons (.var 6) .nil)) .nil)) .nil))))
(.cons (.ret (.bl false))
.nil) .nil)
(.cons (.ife (.cmp .ne (.bi .sum (.cons (.lc (.bin .mul (.bin .sub (.var 5) (.bin .mul (.bin .mul (.int 5) (.var 10)) (.var 10))) (.var 11)) (.tup [9, 10, 11]) (.seq (.var 8)) .none [9, 10, 11]) .nil)) (.var 7))
(.cons (.ret (.bl false))
.nil) .nil)
(.cons (.asg 2 (.bin .add (.var 2) (.lst (.cons (.tup (.cons (.call 12 (.cons (.var 5) .nil)) (.cons (.var 7) .nil))) (.cons (.tup (.cons (.call 13 (.cons (.var 5) .nil)) (.cons (.bi .sum (.cons (.lc (.var 11) (.tup [9, 10, 11]) (.seq (.var 6)) .none [9, 10, 11]) .nil)) .nil))) .nil)))))
(.cons (.app 3 (.tup (.cons (.var 5) (.cons (.var 7) .nil))))
.nil))))))))
theorem b_law_eq : b_law = .cons (.asg 1 (.call 0 (.cons (.var 0) (.cons (.int 68) .nil)))) b_lawR := rfl
theorem b_lawR_eq : b_lawR = .cons (.asgP [2, 3] (.cons (.lst .nil) (.cons (.lst .nil) .nil))) (.cons (.for (.name 4) (.rng1 (.int 6)) b_turn) (.cons (.for (.tup [5, 7]) (.seq (.rev (.var 3))) (.cons (.app 2 (.tup (.cons (.callk 12 .nil (.cons (.var 5) .nil) [0]) (.cons (.var 7) .nil)))) .nil)) (.cons (.ret (.call 2 (.cons (.var 2) .nil))) .nil))) := rfl

def good : Val → Bool
  | .tup [.int i, .int j] => i == j
  | _ => false
theorem r_betw {S : Type} {d : Int} {s : S} (h : inD d = true) : (fsP .fresh p_between S).run [.int d] s = some (.lst ((rows d).map ofRow), s) :=
  fsP_run rfl (by simp [p_between, h]) (by simp only [Val.noTok]; exact noToks_map noTok_row _)
theorem r_bf {S : Type} {d : Int} {s : S} (h : inD d = true) : (fsP .pure p_bforms S).run [.int d] s = some (.tup ((sortL (rows d)).map ofRow), s) :=
  fsP_run rfl (by simp [p_bforms, h]) (by simp only [Val.noTok]; exact noToks_map noTok_row _)
theorem r_root {S : Type} {d : Int} {s : S} : (fsP .pure p_root S).run [.int d] s = some (.int (root d), s) := fsP_run rfl rfl rfl
theorem r_bal {S : Type} {d : Int} {s : S} (h : inD d = true) : (fsP .pure p_balance S).run [.int d] s = some (.int (bal d), s) := fsP_run rfl (by simp [p_balance, h]) rfl
theorem r_one {S : Type} {d : Int} {s : S} (h : inD d = true) : (fsP .pure p_one S).run [.int d] s = some (.int (one d), s) := fsP_run rfl (by simp [p_one, h]) rfl
theorem ok_rows (l : List (List Int)) (h : l.length ≤ 1000000) (h2 : ∀ r ∈ l, r.length ≤ 3) : okSame 3 (.tup (l.map ofRow)) = true := by
  simp only [okSame, Bool.and_eq_true, decide_eq_true_eq, List.all_eq_true, List.length_map]
  refine ⟨h, fun x hx => ?_⟩
  obtain ⟨r, hr, rfl⟩ := List.mem_map.mp hx
  simp only [ofRow, okSame, Bool.and_eq_true, decide_eq_true_eq, List.all_eq_true, List.length_map]
  refine ⟨Nat.le_trans (h2 r hr) (by decide), fun x hx => ?_⟩
  obtain ⟨i, _, rfl⟩ := List.mem_map.mp hx
  rfl
/-- a sum over rows -/
theorem lc_rows {S : Type} {F : List (FS S)} {elt : CE} {it : CI} {env : Itp.Env} {s : S} {l : List (List Int)} {f : List Int → Int} (hl : l.length ≤ 16777216) (h1 : evI F it env s = some (l.map ofRow, s))
    (h2 : ∀ r ∈ l, ∃ env2, setT (.tup [9, 10, 11]) (ofRow r) (wipeE env [9, 10, 11]) = some env2 ∧ evE F elt env2 s = some (.int (f r), s)) :
    evE F (.bi .sum (.cons (.lc elt (.tup [9, 10, 11]) it .none [9, 10, 11]) .nil)) env s = some (.int ((l.map f).sum), s) := by
  have lc := ev_lc (F := F) (elt := elt) (tg := .tup [9, 10, 11]) (it := it) (cond := .none) (own := [9, 10, 11]) (env := env) (s := s) (items := l.map ofRow) (g := fun v => match v with | .tup xs => (asInts xs).map fun r => .int (f r) | _ => none) h1 (fun x hx => by
    obtain ⟨r, hr, rfl⟩ := List.mem_map.mp hx
    obtain ⟨env2, e1, e2⟩ := h2 r hr
    exact ⟨env2, e1, .inl ⟨by simp only [evC], .int (f r), by simp only [ofRow, asInts_map, Option.map_some], e2⟩⟩) (by rw [List.length_map]; exact hl)
  have e : (l.map ofRow).filterMap (fun v => match v with | .tup xs => (asInts xs).map fun r => Val.int (f r) | _ => none) = (l.map f).map .int := by
    rw [List.filterMap_map]
    clear h1 h2 hl lc
    induction l with
    | nil => rfl
    | cons r l ih =>
      rw [List.filterMap_cons]
      simp only [Function.comp, ofRow, asInts_map, Option.map_some, List.map_cons]
      rw [← ih]
  rw [e] at lc
  exact ev_bi (evs_1 lc) (biV_sum rfl)
theorem turn_ok {F : List (FS DS)} (f1 : F[1]? = some (fsP .pure (sameN 3) DS)) (f3 : F[3]? = some (fsP .fresh p_between DS)) (f9 : F[9]? = some (fsP .pure p_bforms DS)) (f10 : F[10]? = some (fsP .pure p_root DS)) (f12 : F[12]? = some (fsP .pure p_balance DS)) (f13 : F[13]? = some (fsP .pure p_one DS))
    (fd : ∀ s : DS, ∃ d s', inD d = true ∧ ∃ fs, F[16]? = some fs ∧ fs.run [.tok] s = some (.int d, s')) (ps ss : List Val) (hp : ps.length ≤ 100) (hs : ss.length ≤ 100) (y4 y5 y6 y7 y8 : Option Val) (s : DS) :
    ∃ d s' z6 z8, inD d = true ∧ exSs F 0 b_turn [none, some .tok, some (.lst ps), some (.lst ss), y4, y5, y6, y7, y8, none, none, none] s =
      some (.nx, [none, some .tok, some (.lst (ps ++ [.tup [.int (bal d), .int (due d)], .tup [.int (one d), .int (one d)]])), some (.lst (ss ++ [.tup [.int d, .int (due d)]])), y4, some (.int d), z6, some (.int (due d)), z8, none, none, none], s') := by
  obtain ⟨d, s1, hd, fs, f16, hr⟩ := fd s
  obtain ⟨_, _, d0, d4⟩ := inD_iff hd
  have hrl := rows_len hd
  have hsl : (sortL (rows d)).length ≤ 3900 := by rw [(sortL_perm (rows d)).length_eq]; exact hrl
  have hsm : ∀ r ∈ sortL (rows d), r ∈ rows d := fun r h => (sortL_perm (rows d)).mem_iff.mp h
  refine ⟨d, s1, some (.lst ((rows d).map ofRow)), some (.tup ((sortL (rows d)).map ofRow)), hd, ?_⟩
  have mdd : mulOk d d = true := mulOk_l (by omega)
  have e7 : ∀ (x y : Option Val), evE F (.ife (.cmp .eq (.call 10 (.cons (.var 5) .nil)) (.int 0)) (.int 0) (.bin .fdiv (.bin .sub (.bin .mul (.var 5) (.var 5)) (.var 5)) (.int 3))) [none, some .tok, some (.lst ps), some (.lst ss), y4, some (.int d), x, y7, y8, none, none, none] s1 = some (.int (due d), s1) := by
    intro x y
    have t : evE F (.cmp .eq (.call 10 (.cons (.var 5) .nil)) (.int 0)) [none, some .tok, some (.lst ps), some (.lst ss), y4, some (.int d), x, y7, y8, none, none, none] s1 = some (.bl (root d == 0), s1) := ev_cmp (ev_call f10 (evs_1 (ev_var rfl)) r_root) ev_int rfl
    rw [evE, t]
    unfold due
    cases root d == 0 with
    | true => simp only [bnd_eq, truthV, if_true]; exact ev_int
    | false =>
      simp only [bnd_eq, truthV, Bool.false_eq_true, if_false]
      exact ev_bin (ev_bin (ev_mul (ev_var rfl) (ev_var rfl) mdd) (ev_var rfl) (v := .int (d * d - d)) rfl) ev_int (by simp [bop, bopI, show divOk 3 = true by decide])
  have hsrt : biV .sorted [.lst ((rows d).map ofRow)] = some (.lst ((sortL (rows d)).map ofRow)) := by
    simp only [biV, sortV_rows rows_ne, Option.map_some]
  have t5 : evT F (.not (.call 1 (.cons (.var 8) (.cons (.bi .tuple (.cons (.bi .sorted (.cons (.var 6) .nil)) .nil)) .nil)))) [none, some .tok, some (.lst ps), some (.lst ss), y4, some (.int d), some (.lst ((rows d).map ofRow)), some (.int (due d)), some (.tup ((sortL (rows d)).map ofRow)), none, none, none] s1 = some (false, s1) :=
    ev_T (v := .bl false) (ev_not (v := .bl true) (ev_call f1 (evs_2 (ev_var rfl) (ev_bi (evs_1 (ev_bi (evs_1 (ev_var rfl)) hsrt)) rfl)) (r_same (ok_rows _ (by omega) (fun r h => by
      obtain ⟨a, b, c, rfl, _⟩ := row_of (hsm r h)
      exact Nat.le_refl 3)))) rfl) rfl
  have t6 : evT F (.cmp .ne (.bi .sum (.cons (.lc (.bin .mul (.bin .sub (.var 5) (.bin .mul (.bin .mul (.int 5) (.var 10)) (.var 10))) (.var 11)) (.tup [9, 10, 11]) (.seq (.var 8)) .none [9, 10, 11]) .nil)) (.var 7)) [none, some .tok, some (.lst ps), some (.lst ss), y4, some (.int d), some (.lst ((rows d).map ofRow)), some (.int (due d)), some (.tup ((sortL (rows d)).map ofRow)), none, none, none] s1 = some (false, s1) := by
    have h := lc_rows (F := F) (elt := (.bin .mul (.bin .sub (.var 5) (.bin .mul (.bin .mul (.int 5) (.var 10)) (.var 10))) (.var 11))) (it := .seq (.var 8)) (env := [none, some .tok, some (.lst ps), some (.lst ss), y4, some (.int d), some (.lst ((rows d).map ofRow)), some (.int (due d)), some (.tup ((sortL (rows d)).map ofRow)), none, none, none]) (s := s1) (l := sortL (rows d)) (f := fw d) (by omega) (evi_seq (ev_var rfl) rfl) (fun r h => by
      obtain ⟨a, b, c, rfl, g1, g2, g3⟩ := row_of (hsm r h)
      refine ⟨_, rfl, ?_⟩
      have g4 : 0 ≤ b * b := run_balance.mul_self_nonneg' b
      have e : 5 * b * b = 5 * (b * b) := Int.mul_assoc ..
      exact ev_mul (ev_bin (ev_var rfl) (ev_mul (ev_mul ev_int (ev_var rfl) (mulOk_l (by decide))) (ev_var rfl) (mulOk_l (by omega))) (v := .int (d - 5 * b * b)) rfl) (ev_var rfl) (mulOk_l (by omega)))
    rw [sum_fw hd] at h
    exact ev_T (ev_cmp h (ev_var rfl) (v := false) (by simp [cop, Itp.eqV])) rfl
  have e2 := lc_rows (F := F) (elt := .var 11) (it := .seq (.var 6)) (env := [none, some .tok, some (.lst ps), some (.lst ss), y4, some (.int d), some (.lst ((rows d).map ofRow)), some (.int (due d)), some (.tup ((sortL (rows d)).map ofRow)), none, none, none]) (s := s1) (l := rows d) (f := fc) (by omega) (evi_seq (ev_var rfl) rfl) (fun r h => by
      obtain ⟨a, b, c, rfl, _⟩ := row_of h
      exact ⟨_, rfl, ev_var rfl⟩)
  rw [sum_fc hd] at e2
  have e2b : evE F (.bin .add (.var 2) (.lst (.cons (.tup (.cons (.call 12 (.cons (.var 5) .nil)) (.cons (.var 7) .nil))) (.cons (.tup (.cons (.call 13 (.cons (.var 5) .nil)) (.cons (.bi .sum (.cons (.lc (.var 11) (.tup [9, 10, 11]) (.seq (.var 6)) .none [9, 10, 11]) .nil)) .nil))) .nil)))) [none, some .tok, some (.lst ps), some (.lst ss), y4, some (.int d), some (.lst ((rows d).map ofRow)), some (.int (due d)), some (.tup ((sortL (rows d)).map ofRow)), none, none, none] s1
      = some (.lst (ps ++ [.tup [.int (bal d), .int (due d)], .tup [.int (one d), .int (one d)]]), s1) := by
    refine ev_bin (y := .lst [.tup [.int (bal d), .int (due d)], .tup [.int (one d), .int (one d)]]) (ev_var rfl) ?_ (by
      simp only [bop, List.length_cons, List.length_nil]
      rw [if_pos (lenOk_of (by omega))])
    rw [evE, evs_2 (ev_tup2 (ev_call f12 (evs_1 (ev_var rfl)) (r_bal hd)) (ev_var rfl)) (ev_tup2 (ev_call f13 (evs_1 (ev_var rfl)) (r_one hd)) e2)]
    rfl
  exact ss_nx (ex_asg (ev_call f16 (evs_1 (ev_var rfl)) hr)) (ss_nx (ex_asg (ev_call f3 (evs_1 (ev_var rfl)) (r_betw hd))) (ss_nx (ex_asg (e7 _ y7)) (ss_nx (ex_asg (ev_call f9 (evs_1 (ev_var rfl)) (r_bf hd)))
    (ss_nx ((ex_ifF t5).trans ss_end) (ss_nx ((ex_ifF t6).trans ss_end) (ss_nx (ex_asg e2b) (ss_nx (ex_app (ev_tup2 (ev_var rfl) (ev_var rfl)) rfl (by omega)) ss_end)))))))
end K68

namespace K68
open PySem PySem.Spec PyProof.Rows L2 Itp
def sd (d : Int) : Val := .tup [.int d, .int (due d)]
def GoodP (p : Val) : Prop := ∃ i : Int, p = .tup [.int i, .int i]
theorem lawR_ok (s : DS) : ∃ env' s', exSs G2 0 b_lawR [none, some .tok, none, none, none, none, none, none, none, none, none, none] s = some (.rt (.bl true), env', s') := by
  have f1 : G2[1]? = some (fsP .pure (sameN 3) DS) := rfl
  have f2 : G2[2]? = some (fsP .pure (allN 3) DS) := rfl
  have f3 : G2[3]? = some (fsP .fresh p_between DS) := rfl
  have f9 : G2[9]? = some (fsP .pure p_bforms DS) := rfl
  have f10 : G2[10]? = some (fsP .pure p_root DS) := rfl
  have f12 : G2[12]? = some (fsP .pure p_balance DS) := rfl
  have f13 : G2[13]? = some (fsP .pure p_one DS) := rfl
  have fd : ∀ s : DS, ∃ d s', inD d = true ∧ ∃ fs, G2[16]? = some fs ∧ fs.run [.tok] s = some (.int d, s') := fun s => by
    obtain ⟨d, s', h1, h2⟩ := disc_val s
    exact ⟨d, s', h1, discFS, rfl, h2⟩
  generalize G2 = F at f1 f2 f3 f9 f10 f12 f13 fd
  rw [b_lawR_eq]
  obtain ⟨env1, s1, g1, ds, ps, y4, y5, y6, y7, y8, g2, g3, g4, g5, g6⟩ := forGo_inv (c := Val.int) (body := fun x env s => match setT (.name 4) x env with
      | some env2 => exSs F 0 b_turn env2 s
      | none => none) (fun pre env (s : DS) => ∃ ds ps y4 y5 y6 y7 y8, env = [none, some .tok, some (.lst ps), some (.lst (ds.map sd)), y4, y5, y6, y7, y8, none, none, none] ∧ ds.length = pre.length ∧ ps.length = 2 * pre.length ∧ (∀ p ∈ ps, GoodP p) ∧ ∀ d ∈ ds, inD d = true) (rngI 0 6) []
    [none, some .tok, some (.lst []), some (.lst []), none, none, none, none, none, none, none, none] s ⟨[], [], _, _, _, _, _, rfl, rfl, rfl, (fun p h => by cases h), (fun p h => by cases h)⟩
    (fun pre x post env s e ⟨ds, ps, y4, y5, y6, y7, y8, he, g2, g3, g4, g5⟩ => by
      subst he
      have hl : pre.length ≤ 6 := by
        have : (rngI 0 6).length = 6 := by simp [rngI]
        rw [show rngI 0 6 = pre ++ x :: post from e, List.length_append] at this
        omega
      obtain ⟨d, s', z6, z8, hd, ex⟩ := turn_ok f1 f3 f9 f10 f12 f13 fd ps (ds.map sd) (by omega) (by rw [List.length_map]; omega) (some (.int x)) y5 y6 y7 y8 s
      refine ⟨_, s', ex, ds ++ [d], _, _, _, _, _, _, by rw [List.map_append]; rfl, by simp [g2], by simp [g3]; omega, fun p hp => ?_, fun y hy => ?_⟩
      · rcases List.mem_append.mp hp with h | h
        · exact g4 p h
        · rcases List.mem_cons.mp h with rfl | h
          · exact ⟨due d, by rw [bal_due hd]⟩
          · rcases List.mem_cons.mp h with rfl | h
            · exact ⟨one d, rfl⟩
            · cases h
      · rcases List.mem_append.mp hy with h | h
        · exact g5 y h
        · rcases List.mem_cons.mp h with rfl | h
          · exact hd
          · cases h)
  subst g2
  have g3 : ds.length = 6 := by rw [g3]; simp [rngI]
  have g4 : ps.length = 12 := by rw [g4]; simp [rngI]
  obtain ⟨env2, s2, k1, hs2, ps2, y5', y7', k2, k3, k4⟩ := forGo_inv (c := sd) (body := fun x env s => match setT (.tup [5, 7]) x env with
      | some env2 => exSs F 0 (.cons (.app 2 (.tup (.cons (.callk 12 .nil (.cons (.var 5) .nil) [0]) (.cons (.var 7) .nil)))) .nil) env2 s
      | none => none) (fun pre env (s' : DS) => s' = s1 ∧ ∃ ps y5 y7, env = [none, some .tok, some (.lst ps), some (.lst (ds.map sd)), y4, y5, y6, y7, y8, none, none, none] ∧ ps.length = 12 + pre.length ∧ ∀ p ∈ ps, GoodP p) ds.reverse []
    [none, some .tok, some (.lst ps), some (.lst (ds.map sd)), y4, y5, y6, y7, y8, none, none, none] s1 ⟨rfl, ps, _, _, rfl, by simp [g4], g5⟩
    (fun pre x post env s' e ⟨es, ps, y5, y7, he, k3, k4⟩ => by
      subst he es
      have hx : x ∈ ds := by
        rw [← List.mem_reverse, show ds.reverse = pre ++ x :: post from e]
        simp
      have hl : pre.length ≤ 6 := by
        have : ds.reverse.length = 6 := by rw [List.length_reverse, g3]
        rw [show ds.reverse = pre ++ x :: post from e, List.length_append] at this
        omega
      have hd := g6 x hx
      refine ⟨_, s', ss_nx (ex_app (ev_tup2 (ev_callk1 f12 (ev_var rfl) (r_bal hd)) (ev_var rfl)) rfl (by omega)) ss_end, rfl, _, _, _, rfl, by simp [k3]; omega, fun p hp => ?_⟩
      rcases List.mem_append.mp hp with h | h
      · exact k4 p h
      · rcases List.mem_cons.mp h with rfl | h
        · exact ⟨due x, by rw [bal_due hd]⟩
        · cases h)
  subst k2 hs2
  have k3 : ps2.length = 18 := by rw [k3]; simp [g3]
  have e1 : exS F 0 (.asgP [2, 3] (.cons (.lst .nil) (.cons (.lst .nil) .nil))) [none, some .tok, none, none, none, none, none, none, none, none, none, none] s = some (.nx, [none, some .tok, some (.lst []), some (.lst []), none, none, none, none, none, none, none, none], s) := by
    rw [exS, evs_2 (v := .lst []) (v' := .lst []) (s1 := s) (s2 := s) (by simp [evE, evEs, lenOk]) (by simp [evE, evEs, lenOk])]
    rfl
  have e3 : evI F (.seq (.rev (.var 3))) [none, some .tok, some (.lst ps), some (.lst (ds.map sd)), y4, y5, y6, y7, y8, none, none, none] s2 = some (ds.reverse.map sd, s2) := by
    refine evi_seq (v := .lst (ds.map sd).reverse) ?_ (by rw [List.map_reverse]; rfl)
    rw [evE, ev_var (v := .lst (ds.map sd)) rfl]
    rfl
  refine ⟨_, s2, ss_nx e1 (ss_nx (ex_for (evi_rng1 ev_int (by decide)) g1) (ss_nx (ex_for e3 k1) (ss_rt (ex_ret (ev_call f2 (evs_1 (ev_var rfl)) (r_all (by omega) fun p hp => ?_))))))⟩
  obtain ⟨i, rfl⟩ := k4 p hp
  exact ⟨.int i, rfl, rfl⟩
theorem ch_lawR : chkSs N_law T b_lawR (defScope s_law) (List.tail (defBody s_law)) = true := by decide +kernel
theorem ow_lawR : (cks [.fresh, .pure, .pure, .fresh, .pure, .pure, .any, .pure, .fresh, .pure, .pure, .pure, .pure, .pure, .any, .any, .any] .any [] b_lawR (List.replicate 12 false)).isSome = true := by decide +kernel
theorem ow_of : (cks [.fresh, .pure, .pure, .fresh, .pure, .pure, .any, .pure, .fresh, .pure, .pure, .pure, .pure, .pure, .any] .any [] b_law_of (List.replicate 2 false)).isSome = true := by decide +kernel
theorem ow_disc : (cks [.fresh, .pure, .pure, .fresh, .pure, .pure, .any, .pure, .fresh, .pure, .pure, .pure, .pure, .pure, .any, .any] .any [] b_law_disc (List.replicate 3 false)).isSome = true := by decide +kernel
section
variable {P : Program} {w : World} {K : PySem.W.Frag} {mg : Str → Option Value} {base : Heap} {k : Nat}
theorem ok_law (G : ∀ aD aL, Glob (dR aD aL) P w K mg base G2 T k) {f : Addr} {fd : FuncData} (Fu : Fun K "law" "law" s_law f fd) {g : Addr} {gd : FuncData} (D : FnOk P w K mg base CX0 k g gd ["script", "salt"] (spDeal K)) (mgd : mg "_law_deal" = some (.ref g)) (kpd : PySem.W.keepIn K (.ref g) = true) (bd : Binds K gd ["script", "salt"] []) :
    FnOk P w K mg base CX0 (k + 1) f fd ["script"] (spLaw K) := by
  refine Fu.ok sc_law (fun vs H Q E ⟨a, ns, e, _⟩ => by rw [e]; rfl) fun cdv A outer s H vs Q E hroom hsp => ?_
  obtain ⟨a, ns, rfl, hS, hl, q⟩ := hsp
  obtain ⟨ow', hck⟩ := Option.isSome_iff_exists.mp ow_lawR
  have h2 : PSs (cxOf CX0 P w K mg base N_law "law" (defScope s_law) f cdv A outer s H E).nox (List.tail (defBody s_law)) (fun D σ H => ∃ aD aL, rdSs (R := dR aD aL) G2 K 0 (List.replicate 12 false) ow' [] .any b_lawR D σ H) :=
    ⟨fun pins s1 σ H1 D I ⟨aD, aL, h⟩ => (soundSs (R := dR aD aL) (F := G2) (n := 0) b_lawR _ (List.tail (defBody s_law)) _ _ [] .any ((G aD aL).goodS sc_law hroom) ch_lawR hck).run pins s1 σ H1 D I h⟩
  refine ⟨_, pss_cons (ps_set (i := 1) sc_law.nd rfl (.inl rfl) (pe_call D hroom (by rfl) mgd kpd bd .nil pass0 (pa_cons (pv 0) (pa_cons pe_int pa_nil)))) h2, ?_⟩
  refine ⟨.ref a, rfl, a, ns, 68, rfl, hS, hl, by decide, by decide, fun aD aL l m H' hne hD hL hlen m0 m1 => ?_⟩
  obtain ⟨env', s', ex⟩ := lawR_ok (l, m)
  refine ⟨aD, aL, (fun b => b = aD ∨ b = aL), H', (fun _ => none), _, (l, m), _, env', s', srel_law (m := 10) ⟨hne, hD, hL, hlen, m0, m1⟩, ex, fun w1 H1 ⟨t1, t2, t3, t4⟩ => ?_⟩
  simp only [Rep] at t3
  rw [t3]
  exact q H1
end
end K68

namespace K68
open PySem PySem.Spec PyProof.Rows L2 Itp
theorem all_mk {l : PySem.W.OpenLaw} {w : World} {K : PySem.W.Frag} {h : Heap} {mg : Str → Option Value} {fa : Addr} (X : K.In h) (G : h.Ns mainGlobals mg) (hfa : mg "law" = some (.ref fa))
    {f0 : Addr} {od0 an0 : Option Addr} {sl0 : Array (Option Value)} {oc0 kV0 dc0 pm0 cd0 ct0 : Value}
    (ya0 : PySem.W.nsIn K mainGlobals "_law_deal" = some (some (.ref f0))) (yl0 : K.lookup f0 = some ⟨oc0, od0, .func (PySem.W.fnOf "_law_deal" "_law_deal" (defArgs s_law_deal) (defBody s_law_deal) (defScope s_law_deal) .none kV0 dc0 pm0 an0 cd0 ct0), sl0⟩) (yc0 : PySem.W.codeIn K cd0 "_law_deal" = true) (yk0 : PySem.W.keepIn K (.ref f0) = true)
    {f1 : Addr} {od1 an1 : Option Addr} {sl1 : Array (Option Value)} {oc1 kV1 dc1 pm1 cd1 ct1 : Value}
    (ya1 : PySem.W.nsIn K mainGlobals "_law_same" = some (some (.ref f1))) (yl1 : K.lookup f1 = some ⟨oc1, od1, .func (PySem.W.fnOf "_law_same" "_law_same" (defArgs s_law_same) (defBody s_law_same) (defScope s_law_same) .none kV1 dc1 pm1 an1 cd1 ct1), sl1⟩) (yc1 : PySem.W.codeIn K cd1 "_law_same" = true) (yk1 : PySem.W.keepIn K (.ref f1) = true)
    {f2 : Addr} {od2 an2 : Option Addr} {sl2 : Array (Option Value)} {oc2 kV2 dc2 pm2 cd2 ct2 : Value}
    (ya2 : PySem.W.nsIn K mainGlobals "_law_all" = some (some (.ref f2))) (yl2 : K.lookup f2 = some ⟨oc2, od2, .func (PySem.W.fnOf "_law_all" "_law_all" (defArgs s_law_all) (defBody s_law_all) (defScope s_law_all) .none kV2 dc2 pm2 an2 cd2 ct2), sl2⟩) (yc2 : PySem.W.codeIn K cd2 "_law_all" = true) (yk2 : PySem.W.keepIn K (.ref f2) = true)
    {f3 : Addr} {od3 an3 : Option Addr} {sl3 : Array (Option Value)} {oc3 kV3 dc3 pm3 cd3 ct3 : Value}
    (ya3 : PySem.W.nsIn K mainGlobals "_law_between" = some (some (.ref f3))) (yl3 : K.lookup f3 = some ⟨oc3, od3, .func (PySem.W.fnOf "_law_between" "_law_between" (defArgs s_law_between) (defBody s_law_between) (defScope s_law_between) .none kV3 dc3 pm3 an3 cd3 ct3), sl3⟩) (yc3 : PySem.W.codeIn K cd3 "_law_between" = true) (yk3 : PySem.W.keepIn K (.ref f3) = true)
    {f4 : Addr} {od4 an4 : Option Addr} {sl4 : Array (Option Value)} {oc4 kV4 dc4 pm4 cd4 ct4 : Value}
    (ya4 : PySem.W.nsIn K mainGlobals "middles" = some (some (.ref f4))) (yl4 : K.lookup f4 = some ⟨oc4, od4, .func (PySem.W.fnOf "middles" "middles" (defArgs s_middles) (defBody s_middles) (defScope s_middles) .none kV4 dc4 pm4 an4 cd4 ct4), sl4⟩) (yc4 : PySem.W.codeIn K cd4 "middles" = true) (yk4 : PySem.W.keepIn K (.ref f4) = true)
    {f5 : Addr} {od5 an5 : Option Addr} {sl5 : Array (Option Value)} {oc5 kV5 dc5 pm5 cd5 ct5 : Value}
    (ya5 : PySem.W.nsIn K mainGlobals "outer_product" = some (some (.ref f5))) (yl5 : K.lookup f5 = some ⟨oc5, od5, .func (PySem.W.fnOf "outer_product" "outer_product" (defArgs s_outer_product) (defBody s_outer_product) (defScope s_outer_product) .none kV5 dc5 pm5 an5 cd5 ct5), sl5⟩) (yc5 : PySem.W.codeIn K cd5 "outer_product" = true) (yk5 : PySem.W.keepIn K (.ref f5) = true)
    {f6 : Addr} {od6 an6 : Option Addr} {sl6 : Array (Option Value)} {oc6 kV6 dc6 pm6 cd6 ct6 : Value}
    (ya6 : PySem.W.nsIn K mainGlobals "factored" = some (some (.ref f6))) (yl6 : K.lookup f6 = some ⟨oc6, od6, .func (PySem.W.fnOf "factored" "factored" (defArgs s_factored) (defBody s_factored) (defScope s_factored) .none kV6 dc6 pm6 an6 cd6 ct6), sl6⟩) (yc6 : PySem.W.codeIn K cd6 "factored" = true) (yk6 : PySem.W.keepIn K (.ref f6) = true)
    {f7 : Addr} {od7 an7 : Option Addr} {sl7 : Array (Option Value)} {oc7 kV7 dc7 pm7 cd7 ct7 : Value}
    (ya7 : PySem.W.nsIn K mainGlobals "divisors" = some (some (.ref f7))) (yl7 : K.lookup f7 = some ⟨oc7, od7, .func (PySem.W.fnOf "divisors" "divisors" (defArgs s_divisors) (defBody s_divisors) (defScope s_divisors) .none kV7 dc7 pm7 an7 cd7 ct7), sl7⟩) (yc7 : PySem.W.codeIn K cd7 "divisors" = true) (yk7 : PySem.W.keepIn K (.ref f7) = true)
    {f8 : Addr} {od8 an8 : Option Addr} {sl8 : Array (Option Value)} {oc8 kV8 dc8 pm8 cd8 ct8 : Value}
    (ya8 : PySem.W.nsIn K mainGlobals "forms_between" = some (some (.ref f8))) (yl8 : K.lookup f8 = some ⟨oc8, od8, .func (PySem.W.fnOf "forms_between" "forms_between" (defArgs s_forms_between) (defBody s_forms_between) (defScope s_forms_between) .none kV8 dc8 pm8 an8 cd8 ct8), sl8⟩) (yc8 : PySem.W.codeIn K cd8 "forms_between" = true) (yk8 : PySem.W.keepIn K (.ref f8) = true)
    {f9 : Addr} {od9 an9 : Option Addr} {sl9 : Array (Option Value)} {oc9 kV9 dc9 pm9 cd9 ct9 : Value}
    (ya9 : PySem.W.nsIn K mainGlobals "between_forms" = some (some (.ref f9))) (yl9 : K.lookup f9 = some ⟨oc9, od9, .func (PySem.W.fnOf "between_forms" "between_forms" (defArgs s_between_forms) (defBody s_between_forms) (defScope s_between_forms) .none kV9 dc9 pm9 an9 cd9 ct9), sl9⟩) (yc9 : PySem.W.codeIn K cd9 "between_forms" = true) (yk9 : PySem.W.keepIn K (.ref f9) = true)
    {f10 : Addr} {od10 an10 : Option Addr} {sl10 : Array (Option Value)} {oc10 kV10 dc10 pm10 cd10 ct10 : Value}
    (ya10 : PySem.W.nsIn K mainGlobals "_law_root" = some (some (.ref f10))) (yl10 : K.lookup f10 = some ⟨oc10, od10, .func (PySem.W.fnOf "_law_root" "_law_root" (defArgs s_law_root) (defBody s_law_root) (defScope s_law_root) .none kV10 dc10 pm10 an10 cd10 ct10), sl10⟩) (yc10 : PySem.W.codeIn K cd10 "_law_root" = true) (yk10 : PySem.W.keepIn K (.ref f10) = true)
    {f11 : Addr} {od11 an11 : Option Addr} {sl11 : Array (Option Value)} {oc11 kV11 dc11 pm11 cd11 ct11 : Value}
    (ya11 : PySem.W.nsIn K mainGlobals "divisors_sum" = some (some (.ref f11))) (yl11 : K.lookup f11 = some ⟨oc11, od11, .func (PySem.W.fnOf "divisors_sum" "divisors_sum" (defArgs s_divisors_sum) (defBody s_divisors_sum) (defScope s_divisors_sum) .none kV11 dc11 pm11 an11 cd11 ct11), sl11⟩) (yc11 : PySem.W.codeIn K cd11 "divisors_sum" = true) (yk11 : PySem.W.keepIn K (.ref f11) = true)
    {f12 : Addr} {od12 an12 : Option Addr} {sl12 : Array (Option Value)} {oc12 kV12 dc12 pm12 cd12 ct12 : Value}
    (ya12 : PySem.W.nsIn K mainGlobals "balance" = some (some (.ref f12))) (yl12 : K.lookup f12 = some ⟨oc12, od12, .func (PySem.W.fnOf "balance" "balance" (defArgs s_balance) (defBody s_balance) (defScope s_balance) .none kV12 dc12 pm12 an12 cd12 ct12), sl12⟩) (yc12 : PySem.W.codeIn K cd12 "balance" = true) (yk12 : PySem.W.keepIn K (.ref f12) = true)
    {f13 : Addr} {od13 an13 : Option Addr} {sl13 : Array (Option Value)} {oc13 kV13 dc13 pm13 cd13 ct13 : Value}
    (ya13 : PySem.W.nsIn K mainGlobals "one_number" = some (some (.ref f13))) (yl13 : K.lookup f13 = some ⟨oc13, od13, .func (PySem.W.fnOf "one_number" "one_number" (defArgs s_one_number) (defBody s_one_number) (defScope s_one_number) .none kV13 dc13 pm13 an13 cd13 ct13), sl13⟩) (yc13 : PySem.W.codeIn K cd13 "one_number" = true) (yk13 : PySem.W.keepIn K (.ref f13) = true)
    {f14 : Addr} {od14 an14 : Option Addr} {sl14 : Array (Option Value)} {oc14 kV14 dc14 pm14 cd14 ct14 : Value}
    (ya14 : PySem.W.nsIn K mainGlobals "_law_any" = some (some (.ref f14))) (yl14 : K.lookup f14 = some ⟨oc14, od14, .func (PySem.W.fnOf "_law_any" "_law_any" (defArgs s_law_any) (defBody s_law_any) (defScope s_law_any) .none kV14 dc14 pm14 an14 cd14 ct14), sl14⟩) (yc14 : PySem.W.codeIn K cd14 "_law_any" = true) (yk14 : PySem.W.keepIn K (.ref f14) = true)
    {f15 : Addr} {od15 an15 : Option Addr} {sl15 : Array (Option Value)} {oc15 kV15 dc15 pm15 cd15 ct15 : Value}
    (ya15 : PySem.W.nsIn K mainGlobals "_law_of" = some (some (.ref f15))) (yl15 : K.lookup f15 = some ⟨oc15, od15, .func (PySem.W.fnOf "_law_of" "_law_of" (defArgs s_law_of) (defBody s_law_of) (defScope s_law_of) .none kV15 dc15 pm15 an15 cd15 ct15), sl15⟩) (yc15 : PySem.W.codeIn K cd15 "_law_of" = true) (yk15 : PySem.W.keepIn K (.ref f15) = true)
    {f16 : Addr} {od16 an16 : Option Addr} {sl16 : Array (Option Value)} {oc16 kV16 dc16 pm16 cd16 ct16 : Value}
    (ya16 : PySem.W.nsIn K mainGlobals "_law_disc" = some (some (.ref f16))) (yl16 : K.lookup f16 = some ⟨oc16, od16, .func (PySem.W.fnOf "_law_disc" "_law_disc" (defArgs s_law_disc) (defBody s_law_disc) (defScope s_law_disc) .none kV16 dc16 pm16 an16 cd16 ct16), sl16⟩) (yc16 : PySem.W.codeIn K cd16 "_law_disc" = true) (yk16 : PySem.W.keepIn K (.ref f16) = true)
    {f17 : Addr} {od17 an17 : Option Addr} {sl17 : Array (Option Value)} {oc17 kV17 dc17 pm17 cd17 ct17 : Value}
    (ya17 : PySem.W.nsIn K mainGlobals "law" = some (some (.ref f17))) (yl17 : K.lookup f17 = some ⟨oc17, od17, .func (PySem.W.fnOf "law" "law" (defArgs s_law) (defBody s_law) (defScope s_law) .none kV17 dc17 pm17 an17 cd17 ct17), sl17⟩) (yc17 : PySem.W.codeIn K cd17 "law" = true) (yk17 : PySem.W.keepIn K (.ref f17) = true)
    (z0 : PySem.W.nsIn K mainGlobals "len" = some none)
    (z1 : PySem.W.nsIn K mainGlobals "sum" = some none)
    (z2 : PySem.W.nsIn K mainGlobals "sorted" = some none)
    (z3 : PySem.W.nsIn K mainGlobals "tuple" = some none)
    (z4 : PySem.W.nsIn K mainGlobals "list" = some none)
    (z5 : PySem.W.nsIn K mainGlobals "int" = some none)
    (z6 : PySem.W.nsIn K mainGlobals "abs" = some none)
    (z7 : PySem.W.nsIn K mainGlobals "min" = some none)
    (z8 : PySem.W.nsIn K mainGlobals "max" = some none)
    (z9 : PySem.W.nsIn K mainGlobals "isinstance" = some none)
    (z10 : PySem.W.nsIn K mainGlobals "bool" = some none)
    (z11 : PySem.W.nsIn K mainGlobals "str" = some none)
    (z12 : PySem.W.nsIn K mainGlobals "range" = some none)
    (z13 : PySem.W.nsIn K mainGlobals "enumerate" = some none)
    (xisqrt : PySem.W.nsIn K mainGlobals "isqrt" = some (some (.builtin "math.isqrt")))
    : ∃ fd : FuncData, (∀ (s : Shared) (v : Value), BindsTo s fd ⟨[v], []⟩ [("script", v)]) ∧ ∀ base : Heap, K.In base → base.Ns mainGlobals mg → FnOk l.prog w K mg base CX0 20 fa fd ["script"] (spLaw K) := by
  have m0 := PySem.W.mg_of X G ya0
  have F0 := fun_mk (st := s_law_deal) yl0 yc0 yk0
  have b0 := F0.binds (ps := ["script", "salt"]) fun _ _ _ _ _ _ us hl => match us, hl with | [_, _], _ => rfl
  have h0 : Has K mg T "_law_deal" s_law_deal ["script", "salt"] := Has.mk' F0 m0 b0 ⟨(fun e => absurd e (by decide +kernel)), trivial⟩
  have m1 := PySem.W.mg_of X G ya1
  have F1 := fun_mk (st := s_law_same) yl1 yc1 yk1
  have b1 := F1.binds (ps := ["told", "due"]) fun _ _ _ _ _ _ us hl => match us, hl with | [_, _], _ => rfl
  have h1 : Has K mg T "_law_same" s_law_same ["told", "due"] := Has.mk' F1 m1 b1 ⟨(fun e => absurd e (by decide +kernel)), trivial⟩
  have m2 := PySem.W.mg_of X G ya2
  have F2 := fun_mk (st := s_law_all) yl2 yc2 yk2
  have b2 := F2.binds (ps := ["pairs"]) fun _ _ _ _ _ _ us hl => match us, hl with | [_], _ => rfl
  have h2 : Has K mg T "_law_all" s_law_all ["pairs"] := Has.mk' F2 m2 b2 ⟨(fun e => absurd e (by decide +kernel)), trivial⟩
  have m3 := PySem.W.mg_of X G ya3
  have F3 := fun_mk (st := s_law_between) yl3 yc3 yk3
  have b3 := F3.binds (ps := ["delta"]) fun _ _ _ _ _ _ us hl => match us, hl with | [_], _ => rfl
  have h3 : Has K mg T "_law_between" s_law_between ["delta"] := Has.mk' F3 m3 b3 ⟨(fun e => absurd e (by decide +kernel)), trivial⟩
  have m4 := PySem.W.mg_of X G ya4
  have F4 := fun_mk (st := s_middles) yl4 yc4 yk4
  have b4 := F4.binds (ps := ["disc"]) fun _ _ _ _ _ _ us hl => match us, hl with | [_], _ => rfl
  have h4 : Has K mg T "middles" s_middles ["disc"] := Has.mk' F4 m4 b4 ⟨(fun e => absurd e (by decide +kernel)), trivial⟩
  have m5 := PySem.W.mg_of X G ya5
  have F5 := fun_mk (st := s_outer_product) yl5 yc5 yk5
  have b5 := F5.binds (ps := ["disc", "b"]) fun _ _ _ _ _ _ us hl => match us, hl with | [_, _], _ => rfl
  have h5 : Has K mg T "outer_product" s_outer_product ["disc", "b"] := Has.mk' F5 m5 b5 ⟨(fun e => absurd e (by decide +kernel)), trivial⟩
  have m6 := PySem.W.mg_of X G ya6
  have F6 := fun_mk (st := s_factored) yl6 yc6 yk6
  have b6 := F6.binds (ps := ["number"]) fun _ _ _ _ _ _ us hl => match us, hl with | [_], _ => rfl
  have h6 : Has K mg T "factored" s_factored ["number"] := Has.mk' F6 m6 b6 ⟨(fun e => absurd e (by decide +kernel)), trivial⟩
  have m7 := PySem.W.mg_of X G ya7
  have F7 := fun_mk (st := s_divisors) yl7 yc7 yk7
  have b7 := F7.binds (ps := ["number"]) fun _ _ _ _ _ _ us hl => match us, hl with | [_], _ => rfl
  have h7 : Has K mg T "divisors" s_divisors ["number"] := Has.mk' F7 m7 b7 ⟨(fun e => absurd e (by decide +kernel)), trivial⟩
  have m8 := PySem.W.mg_of X G ya8
  have F8 := fun_mk (st := s_forms_between) yl8 yc8 yk8
  have b8 := F8.binds (ps := ["disc", "b"]) fun _ _ _ _ _ _ us hl => match us, hl with | [_, _], _ => rfl
  have h8 : Has K mg T "forms_between" s_forms_between ["disc", "b"] := Has.mk' F8 m8 b8 ⟨(fun e => absurd e (by decide +kernel)), trivial⟩
  have m9 := PySem.W.mg_of X G ya9
  have F9 := fun_mk (st := s_between_forms) yl9 yc9 yk9
  have b9 := F9.binds (ps := ["disc"]) fun _ _ _ _ _ _ us hl => match us, hl with | [_], _ => rfl
  have h9 : Has K mg T "between_forms" s_between_forms ["disc"] := Has.mk' F9 m9 b9 ⟨(fun e => absurd e (by decide +kernel)), trivial⟩
  have m10 := PySem.W.mg_of X G ya10
  have F10 := fun_mk (st := s_law_root) yl10 yc10 yk10
  have b10 := F10.binds (ps := ["delta"]) fun _ _ _ _ _ _ us hl => match us, hl with | [_], _ => rfl
  have h10 : Has K mg T "_law_root" s_law_root ["delta"] := Has.mk' F10 m10 b10 ⟨(fun e => absurd e (by decide +kernel)), trivial⟩
  have m11 := PySem.W.mg_of X G ya11
  have F11 := fun_mk (st := s_divisors_sum) yl11 yc11 yk11
  have b11 := F11.binds (ps := ["number"]) fun _ _ _ _ _ _ us hl => match us, hl with | [_], _ => rfl
  have h11 : Has K mg T "divisors_sum" s_divisors_sum ["number"] := Has.mk' F11 m11 b11 ⟨(fun e => absurd e (by decide +kernel)), trivial⟩
  have m12 := PySem.W.mg_of X G ya12
  have F12 := fun_mk (st := s_balance) yl12 yc12 yk12
  have b12 := F12.binds (ps := ["disc"]) fun _ _ _ _ _ _ us hl => match us, hl with | [_], _ => rfl
  have h12 : Has K mg T "balance" s_balance ["disc"] := Has.mk' F12 m12 b12 ⟨(fun _ => fun s ws hl => match ws, hl with | [w0], _ => .of_eq rfl), trivial⟩
  have m13 := PySem.W.mg_of X G ya13
  have F13 := fun_mk (st := s_one_number) yl13 yc13 yk13
  have b13 := F13.binds (ps := ["disc"]) fun _ _ _ _ _ _ us hl => match us, hl with | [_], _ => rfl
  have h13 : Has K mg T "one_number" s_one_number ["disc"] := Has.mk' F13 m13 b13 ⟨(fun e => absurd e (by decide +kernel)), trivial⟩
  have m14 := PySem.W.mg_of X G ya14
  have F14 := fun_mk (st := s_law_any) yl14 yc14 yk14
  have b14 := F14.binds (ps := ["deal", "bound"]) fun _ _ _ _ _ _ us hl => match us, hl with | [_, _], _ => rfl
  have h14 : Has K mg T "_law_any" s_law_any ["deal", "bound"] := Has.mk' F14 m14 b14 ⟨(fun e => absurd e (by decide +kernel)), trivial⟩
  have m15 := PySem.W.mg_of X G ya15
  have F15 := fun_mk (st := s_law_of) yl15 yc15 yk15
  have b15 := F15.binds (ps := ["deal", "some"]) fun _ _ _ _ _ _ us hl => match us, hl with | [_, _], _ => rfl
  have h15 : Has K mg T "_law_of" s_law_of ["deal", "some"] := Has.mk' F15 m15 b15 ⟨(fun e => absurd e (by decide +kernel)), trivial⟩
  have m16 := PySem.W.mg_of X G ya16
  have F16 := fun_mk (st := s_law_disc) yl16 yc16 yk16
  have b16 := F16.binds (ps := ["deal"]) fun _ _ _ _ _ _ us hl => match us, hl with | [_], _ => rfl
  have h16 : Has K mg T "_law_disc" s_law_disc ["deal"] := Has.mk' F16 m16 b16 ⟨(fun e => absurd e (by decide +kernel)), trivial⟩
  have m17 := PySem.W.mg_of X G ya17
  have F17 := fun_mk (st := s_law) yl17 yc17 yk17
  have b17 := F17.binds (ps := ["script"]) fun _ _ _ _ _ _ us hl => match us, hl with | [_], _ => rfl
  have h17 : Has K mg T "law" s_law ["script"] := Has.mk' F17 m17 b17 ⟨(fun e => absurd e (by decide +kernel)), trivial⟩
  have mm : Mg mg T := mg_mk (fun y hy => by
    rcases List.mem_cons.mp hy with rfl | hy
    · exact PySem.W.mg_none_of X G z0
    rcases List.mem_cons.mp hy with rfl | hy
    · exact PySem.W.mg_none_of X G z1
    rcases List.mem_cons.mp hy with rfl | hy
    · exact PySem.W.mg_none_of X G z2
    rcases List.mem_cons.mp hy with rfl | hy
    · exact PySem.W.mg_none_of X G z3
    rcases List.mem_cons.mp hy with rfl | hy
    · exact PySem.W.mg_none_of X G z4
    rcases List.mem_cons.mp hy with rfl | hy
    · exact PySem.W.mg_none_of X G z5
    rcases List.mem_cons.mp hy with rfl | hy
    · exact PySem.W.mg_none_of X G z6
    rcases List.mem_cons.mp hy with rfl | hy
    · exact PySem.W.mg_none_of X G z7
    rcases List.mem_cons.mp hy with rfl | hy
    · exact PySem.W.mg_none_of X G z8
    rcases List.mem_cons.mp hy with rfl | hy
    · exact PySem.W.mg_none_of X G z9
    rcases List.mem_cons.mp hy with rfl | hy
    · exact PySem.W.mg_none_of X G z10
    rcases List.mem_cons.mp hy with rfl | hy
    · exact PySem.W.mg_none_of X G z11
    rcases List.mem_cons.mp hy with rfl | hy
    · exact PySem.W.mg_none_of X G z12
    rcases List.mem_cons.mp hy with rfl | hy
    · exact PySem.W.mg_none_of X G z13
    cases hy) (fun _ => PySem.W.mg_of X G xisqrt) (fun h => absurd h (by decide +kernel))
  have e := hfa.symm.trans m17
  cases e
  refine ⟨PySem.W.fnOf "law" "law" (defArgs s_law) (defBody s_law) (defScope s_law) .none kV17 dc17 pm17 an17 cd17 ct17, fun s v => .of_eq rfl, fun base _ _ => ?_⟩
  have g0 : Itp.Glob R0 l.prog w K mg base (mkF l0) T 0 := Glob.nil mm
  have D := ok_deal (T := T) (k := 18) (g0.mono (by omega)) F0 sc_law_deal ch_law_deal
  have g1 : Itp.Glob R0 l.prog w K mg base (mkF l1) T 1 := stage g0 h0 sc_law_deal b_law_deal .fresh .fresh p_deal rfl ch_law_deal (by decide +kernel) (fun _ => rfl) (pQ_run) (fun e => by cases e)
  have s1 := same_stage g1 rfl rfl h1 sc_law_same rfl ch_law_same 3
  have g2 : Itp.Glob R0 l.prog w K mg base (mkF l2) T 5 := (g1.mono (by omega)).snoc (x := "_law_same") rfl s1
  have g3 : Itp.Glob R0 l.prog w K mg base (mkF l3) T 6 := stage g2 h2 sc_law_all b_law_all .any .pure (allN 3) rfl ch_law_all (by decide +kernel) (fun e => by cases e) (fun ds r h => run_all rfl ds r h) (fun _ => noLst_all)
  have g4 : Itp.Glob R0 l.prog w K mg base (mkF l4) T 7 := stage g3 h3 sc_law_between b_law_between .fresh .fresh p_between rfl ch_law_between (by decide +kernel) (fun _ => rfl) run_between (fun e => by cases e)
  have g5 : Itp.Glob R0 l.prog w K mg base (mkF l5) T 8 := stage g4 h4 sc_middles b_middles .any .pure p_middles rfl ch_middles (by decide +kernel) (fun e => by cases e) run_middles (fun _ ds r h => by
    unfold p_middles at h
    split at h
    · split at h
      · cases h; simp only [Val.noLst]; exact noLsts_map (fun _ => rfl) _
      · cases h
    · cases h)
  have g6 : Itp.Glob R0 l.prog w K mg base (mkF l6) T 9 := stage g5 h5 sc_outer_product b_outer_product .any .pure p_outer rfl ch_outer_product (by decide +kernel) (fun e => by cases e) run_outer (fun _ ds r h => by
    unfold p_outer at h
    split at h
    · split at h
      · cases h; rfl
      · cases h
    · cases h)
  have g7 : Itp.Glob R0 l.prog w K mg base (mkF l7) T 10 := stage g6 h6 sc_factored b_factored .any .any p_fac rfl ch_factored (by decide +kernel) (fun e => by cases e) (pQ_run) (fun e => by cases e)
  have g8 : Itp.Glob R0 l.prog w K mg base (mkF l8) T 11 := stage g7 h7 sc_divisors b_divisors .any .pure p_divisors rfl ch_divisors (by decide +kernel) (fun e => by cases e) run_divisors (fun _ ds r h => by
    unfold p_divisors at h
    split at h
    · split at h
      · cases h; simp only [Val.noLst]; exact noLsts_map (fun _ => rfl) _
      · cases h
    · cases h)
  have g9 : Itp.Glob R0 l.prog w K mg base (mkF l9) T 12 := stage g8 h8 sc_forms_between b_forms_between .fresh .fresh p_forms rfl ch_forms_between (by decide +kernel) (fun _ => rfl) run_forms (fun e => by cases e)
  have g10 : Itp.Glob R0 l.prog w K mg base (mkF l10) T 13 := stage g9 h9 sc_between_forms b_between_forms .any .pure p_bforms rfl ch_between_forms (by decide +kernel) (fun e => by cases e) run_bforms (fun _ ds r h => by
    unfold p_bforms at h
    split at h
    · split at h
      · cases h; simp only [Val.noLst]; exact noLsts_map noLst_row _
      · cases h
    · cases h)
  have g11 : Itp.Glob R0 l.prog w K mg base (mkF l11) T 14 := stage g10 h10 sc_law_root b_law_root .any .pure p_root rfl ch_law_root (by decide +kernel) (fun e => by cases e) run_root (fun _ ds r h => by
    unfold p_root at h
    split at h
    · cases h; rfl
    · cases h)
  have g12 : Itp.Glob R0 l.prog w K mg base (mkF l12) T 15 := stage g11 h11 sc_divisors_sum b_divisors_sum .any .pure p_dsum rfl ch_divisors_sum (by decide +kernel) (fun e => by cases e) run_dsum (fun _ ds r h => by
    unfold p_dsum at h
    split at h
    · split at h
      · cases h; rfl
      · cases h
    · cases h)
  have g13 : Itp.Glob R0 l.prog w K mg base (mkF l13) T 16 := stage g12 h12 sc_balance b_balance .any .pure p_balance rfl ch_balance (by decide +kernel) (fun e => by cases e) run_balance (fun _ ds r h => by
    unfold p_balance at h
    split at h
    · split at h
      · cases h; rfl
      · cases h
    · cases h)
  have g14 : Itp.Glob R0 l.prog w K mg base (mkF l14) T 17 := stage g13 h13 sc_one_number b_one_number .any .pure p_one rfl ch_one_number (by decide +kernel) (fun e => by cases e) run_one (fun _ ds r h => by
    unfold p_one at h
    split at h
    · split at h
      · cases h; rfl
      · cases h
    · cases h)
  refine ok_law (k := 19) (fun aD aL => ?_) F17 D m0 F0.kp b0
  have gl : Itp.Glob (dR aD aL) l.prog w K mg base (mkFS l14) T 17 := g14.lift
  obtain ⟨fA, fdA, FA, mA, bA, kA⟩ := h14.ok
  have any : FnG (dR aD aL) l.prog w K mg base T 17 anyFS "_law_any" := ⟨⟨2, fA, fdA, ["deal", "bound"], (ok_any (k := 16) FA (mm.tys .int) aD aL), mA, FA.kp, bA, (fun ds s q hq => by
    simp only [anyFS] at hq
    split at hq
    · rfl
    · cases hq), kA.get⟩, fun e => by cases e⟩
  have q0 : Itp.Glob (dR aD aL) l.prog w K mg base G0 T 17 := gl.snoc (x := "_law_any") rfl any
  have q1 : Itp.Glob (dR aD aL) l.prog w K mg base G1 T 18 := (q0.mono (by omega)).snoc (x := "_law_of") rfl (FnG.mk' q0 h15 sc_law_of b_law_of .any ofFS ch_law_of ow_of (fun e => by cases e) (fun ds s q hq => by
    by_cases hl : ds.length = 2
    · exact ⟨hl, 0, by have h := hq; simp only [ofFS] at h; rw [if_pos hl] at h; exact h⟩
    · simp only [ofFS] at hq; rw [if_neg hl] at hq; cases hq) (fun e => by cases e))
  have q2 : Itp.Glob (dR aD aL) l.prog w K mg base G2 T 19 := (q1.mono (by omega)).snoc (x := "_law_disc") rfl (FnG.mk' q1 h16 sc_law_disc b_law_disc .any discFS ch_law_disc ow_disc (fun e => by cases e) (fun ds s q hq => by
    by_cases hl : ds.length = 1
    · exact ⟨hl, 0, by have h := hq; simp only [discFS] at h; rw [if_pos hl] at h; exact h⟩
    · simp only [discFS] at hq; rw [if_neg hl] at hq; cases hq) (fun e => by cases e))
  exact q2

end K68
open PySem PySem.W PyProof.Rows
set_option maxHeartbeats 0 in
theorem PySem.Challenge.cw_toldheights_k68_weighed_divisors_balance_holds : PySem.Challenge.rw_toldheights_k68_weighed_divisors_balance.Holds := by
  w_on; o_law; k_head; (case hw => w_witness2)
  k_fill
  refine L2.walk_of (l := PySem.Challenge.rw_toldheights_k68_weighed_divisors_balance) (n := 63) (k := 20) (x := "script") (CX := fun _ => L2.CX0) (sp := fun w => Itp.spLaw _) rfl (by decide) rfl ⟨rfl, by decide, by decide⟩ (fun w h Y => PySem.W.kIn_of Y) ?F (fun _ _ a ns hl _ hS => ⟨a, ns, rfl, hS, hl, fun _ => rfl⟩) (fun _ _ _ _ _ h => h)
  case F =>
    intro w mg fa h KX G hmg
    refine' K68.all_mk KX G hmg ?ya0 ?yl0 ?yc0 ?yk0 ?ya1 ?yl1 ?yc1 ?yk1 ?ya2 ?yl2 ?yc2 ?yk2 ?ya3 ?yl3 ?yc3 ?yk3 ?ya4 ?yl4 ?yc4 ?yk4 ?ya5 ?yl5 ?yc5 ?yk5 ?ya6 ?yl6 ?yc6 ?yk6 ?ya7 ?yl7 ?yc7 ?yk7 ?ya8 ?yl8 ?yc8 ?yk8 ?ya9 ?yl9 ?yc9 ?yk9 ?ya10 ?yl10 ?yc10 ?yk10 ?ya11 ?yl11 ?yc11 ?yk11 ?ya12 ?yl12 ?yc12 ?yk12 ?ya13 ?yl13 ?yc13 ?yk13 ?ya14 ?yl14 ?yc14 ?yk14 ?ya15 ?yl15 ?yc15 ?yk15 ?ya16 ?yl16 ?yc16 ?yk16 ?ya17 ?yl17 ?yc17 ?yk17 ?z0 ?z1 ?z2 ?z3 ?z4 ?z5 ?z6 ?z7 ?z8 ?z9 ?z10 ?z11 ?z12 ?z13 ?xisqrt
    (case ya0 => k_is); (case yl0 => k_is); (case yc0 => k_is); (case yk0 => k_is); (case ya1 => k_is); (case yl1 => k_is); (case yc1 => k_is); (case yk1 => k_is); (case ya2 => k_is); (case yl2 => k_is); (case yc2 => k_is); (case yk2 => k_is); (case ya3 => k_is); (case yl3 => k_is); (case yc3 => k_is); (case yk3 => k_is); (case ya4 => k_is); (case yl4 => k_is); (case yc4 => k_is); (case yk4 => k_is); (case ya5 => k_is); (case yl5 => k_is); (case yc5 => k_is); (case yk5 => k_is); (case ya6 => k_is); (case yl6 => k_is); (case yc6 => k_is); (case yk6 => k_is); (case ya7 => k_is); (case yl7 => k_is); (case yc7 => k_is); (case yk7 => k_is); (case ya8 => k_is); (case yl8 => k_is); (case yc8 => k_is); (case yk8 => k_is); (case ya9 => k_is); (case yl9 => k_is); (case yc9 => k_is); (case yk9 => k_is); (case ya10 => k_is); (case yl10 => k_is); (case yc10 => k_is); (case yk10 => k_is); (case ya11 => k_is); (case yl11 => k_is); (case yc11 => k_is); (case yk11 => k_is); (case ya12 => k_is); (case yl12 => k_is); (case yc12 => k_is); (case yk12 => k_is); (case ya13 => k_is); (case yl13 => k_is); (case yc13 => k_is); (case yk13 => k_is); (case ya14 => k_is); (case yl14 => k_is); (case yc14 => k_is); (case yk14 => k_is); (case ya15 => k_is); (case yl15 => k_is); (case yc15 => k_is); (case yk15 => k_is); (case ya16 => k_is); (case yl16 => k_is); (case yc16 => k_is); (case yk16 => k_is); (case ya17 => k_is); (case yl17 => k_is); (case yc17 => k_is); (case yk17 => k_is); (case z0 => k_is); (case z1 => k_is); (case z2 => k_is); (case z3 => k_is); (case z4 => k_is); (case z5 => k_is); (case z6 => k_is); (case z7 => k_is); (case z8 => k_is); (case z9 => k_is); (case z10 => k_is); (case z11 => k_is); (case z12 => k_is); (case z13 => k_is); (case xisqrt => k_is)
