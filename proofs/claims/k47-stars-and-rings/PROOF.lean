import PyProof.Rows.All
import HandS.ForMost
import HandS.IsInst
import HandS.TupAny
import HandS.Zip
import HandS.Wide
import HandS.Flow
import HandS.Sort
import HandS.Style
import HandS.Codes
import HandS.TupMul
import HandS.Iter
import HandS.NoneIn
import HandS.Words
import PySem.Challenge.RW_endsmeasured_k47_whole_stars_and_rings
import HandS.EndBits
set_option Elab.async false
set_option linter.all false
set_option maxRecDepth 100000
/-! A pure interpreter for the programs' common subset: values, expressions, statements. -/
namespace Ev
open PySem L2

/-- values: tuples and read-only lists by value; `ref n` is the n-th mutable cell; `rol` a list that is only read -/
inductive PV where
  | non | bl (b : Bool) | int (i : Int) | str (s : Str)
  | tup (xs : List PV) | lst (xs : List PV) | rol (xs : List PV) | ref (n : Nat)
deriving Inhabited

inductive Cell where
  | lst (xs : List PV)
  | dic (kvs : List (PV × PV))
deriving Inhabited

abbrev Mem := List Cell
abbrev Env := List (Option PV)

inductive Bop where | add | sub | mul | fdiv | mod | pow
inductive Cm where | eq | ne | lt | le | gt | ge | is | isn | isin | notin
inductive Ty where | int | bool | str | tuple | list
inductive Bl where | abs | int | list | tuple | len | sum | all | any | max | min

mutual
inductive E where
  | var (i : Nat) | cst (v : PV)
  | bin (o : Bop) (f : Bool) (a b : E) | neg (a : E) | not (a : E) | and (a b : E) | or (a b : E)
  | cmp (o : Cm) (a b : E) | chn (o o' : Cm) (a b c : E) | ite (c a b : E)
  | tup (es : Es) | lst (m : Bool) (es : Es)
  | idx (a b : E) | slc (a : E) (bl bh : Bool) (lo hi : E) | rev (a : E)
  | call (f : Nat) (es : Es) | blt (b : Bl) (m : Bool) (es : Es) | isi (a : E) (t : Ty)
  | app (a e : E)
  | lc (m : Bool) (w : List Nat) (t : T) (it : I) (cs : Es) (e : E)
inductive Es where | nil | cons (e : E) (es : Es)
inductive I where | seq (e : E) | rng (a b : E) | zip (a b : E) | enm (e : E)
inductive T where | nm (i : Nat) | tp (is : List Nat) | ls (is : List Nat)
end

mutual
inductive S where
  | set (i : Nat) (e : E) | par (i j : Nat) (a b : E) | asg (t : T) (e : E) | seti (o i e : E)
  | exp (e : E) | ite (c : E) (a b : Ss) | whl (c : E) (b : Ss) | for_ (t : T) (it : I) (b : Ss)
  | ret (e : E) | rais
inductive Ss where | nil | cons (s : S) (ss : Ss)
end

/-! ### the operations -/
def items (M : Mem) : PV → Option (List PV)
  | .lst xs | .rol xs => some xs
  | .ref n => match M[n]? with | some (.lst xs) => some xs | _ => none
  | _ => none
def itemsT (M : Mem) : PV → Option (List PV)
  | .tup xs => some xs
  | v => items M v

mutual
def toD : PV → Option PyData
  | .non => some .none
  | .bl b => some (.bool b)
  | .int i => some (.int i)
  | .str s => some (.str s)
  | .tup xs => (toDs xs).map .tuple
  | .lst xs | .rol xs => (toDs xs).map .list
  | .ref _ => none
def toDs : List PV → Option (List PyData)
  | [] => some []
  | x :: xs => match toD x, toDs xs with
    | some d, some ds => some (d :: ds)
    | _, _ => none
end
def toDM (M : Mem) : PV → Option PyData
  | .ref n => match M[n]? with | some (.lst xs) => (toDs xs).map .list | _ => none
  | v => toD v

def truthy (M : Mem) : PV → Option Bool
  | .non => some false
  | .bl b => some b
  | .int i => some (i != 0)
  | .str s => if s.length ≤ sizeLine then some ((s.length : Int) != 0) else none
  | .tup xs | .lst xs | .rol xs => some (!xs.isEmpty)
  | .ref n => match M[n]? with | some (.lst xs) => some (!xs.isEmpty) | _ => none

def iff' {α : Type} (b : Bool) (x : α) : Option α := match b with
  | true => some x
  | false => none
def mulOk (i j : Int) : Bool := decide ((-(2 ^ 64) < i ∧ i < 2 ^ 64) ∨ (-(2 ^ 64) < j ∧ j < 2 ^ 64)) || decide (i.natAbs.log2 + j.natAbs.log2 < 1000000)
def divOk (_i j : Int) : Bool := decide (j ≠ 0) && decide (j.natAbs.log2 < 9000)

/-- lists that may be joined: not the read-only ones -/
def itemsW (M : Mem) : PV → Option (List PV)
  | .lst xs => some xs
  | .ref n => match M[n]? with | some (.lst xs) => some xs | _ => none
  | _ => none

def addOp (M : Mem) (a b : PV) : Option PV := match a, b with
  | .int i, .int j => some (.int (i + j))
  | .tup xs, .tup ys => if decide (xs.length + ys.length ≤ sizeLine) then some (.tup (xs ++ ys)) else none
  | .str x, .str y => if decide (x.length + y.length ≤ sizeLine) then some (.str (x ++ y)) else none
  | a, b => match itemsW M a, itemsW M b with
    | some xs, some ys => if decide (xs.length + ys.length ≤ sizeLine) then some (.lst (xs ++ ys)) else none
    | _, _ => none
def subOp (a b : PV) : Option PV := match a, b with
  | .int i, .int j => some (.int (i - j))
  | _, _ => none
def mulOp (M : Mem) (a b : PV) : Option PV := match a, b with
  | .int i, .int j => if mulOk i j then some (.int (i * j)) else none
  | .tup xs, .int k => if !xs.isEmpty && decide (2 ≤ k) && decide (k ≤ 1000) && decide (xs.length ≤ 1000) then some (.tup (List.replicate k.toNat xs).flatten) else none
  | a, .int k => match itemsW M a with
    | some xs => if decide (-(2 ^ 63) ≤ k) && decide (k < 2 ^ 63) && decide (xs.length * k.toNat ≤ sizeLine) then some (.lst (List.replicate k.toNat xs).flatten) else none
    | _ => none
  | _, _ => none
def fdivOp (a b : PV) : Option PV := match a, b with
  | .int i, .int j => if divOk i j then some (.int (i.fdiv j)) else none
  | _, _ => none
def modOp (a b : PV) : Option PV := match a, b with
  | .int i, .int j => if decide (j ≠ 0) then some (.int (i.fmod j)) else none
  | _, _ => none
def powOp (a b : PV) : Option PV := match a, b with
  | .int i, .int j => if decide (0 ≤ j) && decide (j ≤ 1000000) && decide (i.natAbs < 2 ^ 64) then some (.int (i ^ j.toNat)) else none
  | _, _ => none
def binop (M : Mem) : Bop → PV → PV → Option PV
  | .add => addOp M
  | .sub => subOp
  | .mul => mulOp M
  | .fdiv => fdivOp
  | .mod => modOp
  | .pow => powOp

def eqD (M : Mem) (a b : PV) : Option Bool :=
  match toDM M a, toDM M b with
  | some d, some e => if SeqAt.shaped d && SeqAt.shaped e then some (PyData.eqv d e) else none
  | _, _ => none
/-- x in a list or a tuple of plain values -/
def flatP : PV → Bool
  | .non | .bl _ | .int _ | .str _ => true
  | _ => false
def pvToV : PV → V
  | .non => .non
  | .bl b => .bl b
  | .int i => .int i
  | .str s => .str s
  | _ => .non
def inOp (M : Mem) (a b : PV) : Option Bool :=
  match itemsT M b with
  | some xs => if flatP a && xs.all flatP && (flatV (pvToV a) && (xs.map pvToV).all flatV) then some (inV (pvToV a) (xs.map pvToV)) else none
  | none => none

def cmpI (p : Int → Int → Bool) (a b : PV) : Option Bool := match a, b with
  | .int i, .int j => some (p i j)
  | _, _ => none
def isNon : PV → Bool
  | .non => true
  | _ => false
def isOp (a b : PV) : Option Bool := match a, b with
  | a, .non => some (isNon a)
  | .bl a, .bl b => some (decide (a = b))
  | _, _ => none
def cmpop (M : Mem) : Cm → PV → PV → Option Bool
  | .eq => eqD M
  | .ne => fun a b => (eqD M a b).map (!·)
  | .lt => cmpI fun i j => decide (i < j)
  | .le => cmpI fun i j => decide (i ≤ j)
  | .gt => cmpI fun i j => decide (j < i)
  | .ge => cmpI fun i j => decide (j ≤ i)
  | .is => isOp
  | .isn => fun a b => (isOp a b).map (!·)
  | .isin => inOp M
  | .notin => fun a b => (inOp M a b).map (!·)

def idxOp (M : Mem) (a b : PV) : Option PV :=
  match b, itemsT M a with
  | .int i, some xs => atI xs i
  | _, _ => none
def cut (xs : List PV) (lo hi : Option Int) : List PV := (xs.drop (HT.sIx xs.length 0 lo)).take (HT.sIx xs.length xs.length hi - HT.sIx xs.length 0 lo)
def part : Bool → PV → Option (Option Int)
  | false, _ => some none
  | true, .int i => some (some i)
  | true, _ => none
def slcV (M : Mem) (a : PV) (l h : Option Int) : Option PV := match a with
  | .tup xs => some (.tup (cut xs l h))
  | _ => (items M a).map fun xs => .lst (cut xs l h)
def slcOp (M : Mem) (a : PV) (bl bh : Bool) (lo hi : PV) : Option PV :=
  (part bl lo).bind fun l => (part bh hi).bind fun h => slcV M a l h
def revOp (M : Mem) (a : PV) : Option PV :=
  match a with
  | .tup xs => some (.tup xs.reverse)
  | _ => (items M a).map fun xs => .lst xs.reverse

def intsOf : List PV → Option (List Int)
  | [] => some []
  | .int i :: xs => (intsOf xs).map (i :: ·)
  | _ :: _ => none
def boolsOf : List PV → Option (List Bool)
  | [] => some []
  | .bl b :: xs => (boolsOf xs).map (b :: ·)
  | _ :: _ => none

def absB (vs : List PV) : Option PV := match vs with
  | [.int i] => some (.int (if i < 0 then -i else i))
  | _ => none
def intB (vs : List PV) : Option PV := match vs with
  | [.int i] => some (.int i)
  | [.bl b] => some (.int (if b then 1 else 0))
  | _ => none
def listB (M : Mem) (vs : List PV) : Option PV := match vs with
  | [a] => (itemsT M a).map .lst
  | _ => none
def tupleB (M : Mem) (vs : List PV) : Option PV := match vs with
  | [.tup xs] => some (.tup xs)
  | [a] => (items M a).map .tup
  | _ => none
def lenB (M : Mem) (vs : List PV) : Option PV := match vs with
  | [.str s] => iff' (decide (s.length ≤ sizeLine)) (.int s.length)
  | [a] => (itemsT M a).map fun xs => .int xs.length
  | _ => none
def sumB (M : Mem) (vs : List PV) : Option PV := match vs with
  | [a] => (items M a).bind fun xs => (intsOf xs).map fun ns => .int ns.sum
  | _ => none
def allB (M : Mem) (vs : List PV) : Option PV := match vs with
  | [a] => (items M a).bind fun xs => (boolsOf xs).map fun bs => .bl (bs.all id)
  | _ => none
def anyB (M : Mem) (vs : List PV) : Option PV := match vs with
  | [a] => (items M a).bind fun xs => (boolsOf xs).map fun bs => .bl (bs.any id)
  | _ => none
def maxB (vs : List PV) : Option PV := match vs with
  | [.int i, .int j] => some (.int (if j > i then j else i))
  | _ => none
def minB (vs : List PV) : Option PV := match vs with
  | [.int i, .int j] => some (.int (if j < i then j else i))
  | _ => none
def bltOp (M : Mem) : Bl → List PV → Option PV
  | .abs => absB
  | .int => intB
  | .list => listB M
  | .tuple => tupleB M
  | .len => lenB M
  | .sum => sumB M
  | .all => allB M
  | .any => anyB M
  | .max => maxB
  | .min => minB

def isTy : Ty → PV → Bool
  | .int, .int _ | .int, .bl _ | .bool, .bl _ | .str, .str _ | .tuple, .tup _ => true
  | .list, .lst _ | .list, .rol _ | .list, .ref _ => true
  | _, _ => false

def setAt (xs : List PV) (i : Int) (v : PV) : Option (List PV) := (ixN xs.length i).map fun j => xs.set j v

mutual
def pbeq : PV → PV → Bool
  | .non, .non => true
  | .bl a, .bl b => a == b
  | .int a, .int b => decide (a = b)
  | .str a, .str b => decide (a = b)
  | .tup a, .tup b => pbeqs a b
  | .lst a, .lst b => pbeqs a b
  | .rol a, .rol b => pbeqs a b
  | .ref a, .ref b => Nat.beq a b
  | _, _ => false
def pbeqs : List PV → List PV → Bool
  | [], [] => true
  | x :: xs, y :: ys => pbeq x y && pbeqs xs ys
  | _, _ => false
end
mutual
theorem pbeq_eq : ∀ {a b : PV}, pbeq a b = true → a = b
  | .non, .non, _ => rfl
  | .bl a, .bl b, h => by rw [show a = b from eq_of_beq h]
  | .int a, .int b, h => by rw [show a = b from of_decide_eq_true h]
  | .str a, .str b, h => by rw [show a = b from of_decide_eq_true h]
  | .tup a, .tup b, h => by rw [pbeqs_eq (a := a) (b := b) h]
  | .lst a, .lst b, h => by rw [pbeqs_eq (a := a) (b := b) h]
  | .rol a, .rol b, h => by rw [pbeqs_eq (a := a) (b := b) h]
  | .ref a, .ref b, h => by rw [Nat.eq_of_beq_eq_true h]
theorem pbeqs_eq : ∀ {a b : List PV}, pbeqs a b = true → a = b
  | [], [], _ => rfl
  | x :: xs, y :: ys, h => by
    have h' : (pbeq x y && pbeqs xs ys) = true := h
    rw [Bool.and_eq_true] at h'
    rw [pbeq_eq h'.1, pbeqs_eq h'.2]
end
mutual
theorem pbeq_self : ∀ a : PV, pbeq a a = true
  | .non => rfl
  | .bl a => beq_self_eq_true a
  | .int a => decide_eq_true rfl
  | .str a => decide_eq_true rfl
  | .tup a => pbeqs_self a
  | .lst a => pbeqs_self a
  | .rol a => pbeqs_self a
  | .ref a => Nat.beq_refl a
theorem pbeqs_self : ∀ a : List PV, pbeqs a a = true
  | [] => rfl
  | x :: xs => by
    show (pbeq x x && pbeqs xs xs) = true
    rw [pbeq_self x, pbeqs_self xs]
    rfl
end
/-- mutable lists that are walked: they must stay -/
abbrev Gd := List (Nat × List PV)
def gOk : Gd → Mem → Bool
  | [], _ => true
  | (n, xs) :: g, M => (match M[n]? with
    | some (.lst ys) => pbeqs ys xs
    | _ => false) && gOk g M
/-- the items of a sequence that is walked: is it a tuple? the items, what must stay -/
def seqG (M : Mem) : PV → Option (Bool × List PV × Gd)
  | .tup xs => some (true, xs, [])
  | .lst xs => some (false, xs, [])
  | .rol xs => some (false, xs, [])
  | .ref n => match M[n]? with
    | some (.lst xs) => some (false, xs, [(n, xs)])
    | _ => none
  | _ => none

/-- bind a target -/
def setAll (env : Env) : List Nat → List PV → Env
  | i :: is, v :: vs => setAll (env.set i (some v)) is vs
  | _, _ => env
def bindT (t : T) (v : PV) (env : Env) : Option Env :=
  match t with
  | .nm i => some (env.set i (some v))
  | .tp is => match v with
    | .tup vs => if decide (vs.length = is.length) then some (setAll env is vs) else none
    | _ => none
  | .ls is => match v with
    | .lst vs => if decide (vs.length = is.length) then some (setAll env is vs) else none
    | _ => none

def wipeE (env : Env) : List Nat → Env
  | [] => env
  | v :: vs => (wipeE env vs).set v none

/-- a loop over items; the body may end the def -/
inductive R where | nx (env : Env) (M : Mem) | rt (v : PV) (M : Mem)
def forL (t : T) (g : Gd) (body : Env → Mem → Option R) : List PV → Env → Mem → Option R
  | [], env, M => match gOk g M with
    | true => some (.nx env M)
    | false => none
  | x :: xs, env, M => match gOk g M with
    | true => (match bindT t x env with
      | some env1 => (match body env1 M with
        | some (.nx env2 M2) => forL t g body xs env2 M2
        | r => r)
      | none => none)
    | false => none
def whlL (c : Env → Mem → Option (Bool × Mem)) (body : Env → Mem → Option R) : Nat → Env → Mem → Option R
  | 0, _, _ => none
  | n + 1, env, M => match c env M with
    | some (true, M1) => (match body env M1 with
      | some (.nx env2 M2) => whlL c body n env2 M2
      | r => r)
    | some (false, M1) => some (.nx env M1)
    | none => none
/-- a comprehension: acc in order -/
def lcL (t : T) (g : Gd) (cond : Env → Mem → Option (Bool × Mem)) (elt : Env → Mem → Option (PV × Mem)) (env : Env) : List PV → List PV → Mem → Option (List PV × Mem)
  | [], acc, M => match gOk g M with
    | true => some (acc, M)
    | false => none
  | x :: xs, acc, M => match gOk g M with
    | true => (match bindT t x env with
      | some env1 => (match cond env1 M with
        | some (true, M1) => (match elt env1 M1 with
          | some (v, M2) => lcL t g cond elt env xs (acc ++ [v]) M2
          | none => none)
        | some (false, M1) => lcL t g cond elt env xs acc M1
        | none => none)
      | none => none)
    | false => none
def rngI (a : Int) : Nat → List PV
  | 0 => []
  | n + 1 => .int a :: rngI (a + 1) n
def zipP : List PV → List PV → List PV
  | x :: xs, y :: ys => .tup [x, y] :: zipP xs ys
  | _, _ => []
def enmP : Nat → List PV → List PV
  | _, [] => []
  | n, x :: xs => .tup [.int n, x] :: enmP (n + 1) xs

/-- a new list: a mutable cell, or by value -/
def newL (m : Bool) (xs : List PV) (M : Mem) : PV × Mem := if m then (.ref M.length, M ++ [.lst xs]) else (.lst xs, M)
def asM (m : Bool) (v : PV) (M : Mem) : PV × Mem := match m, v with
  | true, .lst xs => (.ref M.length, M ++ [.lst xs])
  | _, _ => (v, M)

/-- a step, then the next with its value and the memory behind it -/
def bnd {α β : Type} (x : Option (α × Mem)) (f : α → Mem → Option β) : Option β := match x with
  | some (a, M) => f a M
  | none => none
def bifb {β : Type} (b : Option Bool) (x y : Option β) : Option β := match b with
  | some true => x
  | some false => y
  | none => none
def iff_ {β : Type} (b : Bool) (x : Option β) : Option β := match b with
  | true => x
  | false => none
def nxt (r : Option R) (f : Env → Mem → Option R) : Option R := match r with
  | some (.nx env M) => f env M
  | r => r
section
variable (call : Nat → List PV → Mem → Option (PV × Mem)) (W : Nat)
mutual
def eval : E → Env → Mem → Option (PV × Mem)
  | .var i, env, M => match env[i]? with | some (some v) => some (v, M) | _ => none
  | .cst v, _, M => some (v, M)
  | .bin o f a b, env, M => bnd (eval a env M) fun x M1 => bnd (eval b env M1) fun y M2 => (binop M2 o x y).map fun z => asM f z M2
  | .neg a, env, M => bnd (eval a env M) fun x M1 => match x with | .int i => some (.int (-i), M1) | _ => none
  | .not a, env, M => bnd (eval a env M) fun x M1 => (truthy M1 x).map fun b => (.bl (!b), M1)
  | .and a b, env, M => bnd (eval a env M) fun x M1 => bifb (truthy M1 x) (eval b env M1) (some (x, M1))
  | .or a b, env, M => bnd (eval a env M) fun x M1 => bifb (truthy M1 x) (some (x, M1)) (eval b env M1)
  | .cmp o a b, env, M => bnd (eval a env M) fun x M1 => bnd (eval b env M1) fun y M2 => (cmpop M2 o x y).map fun z => (.bl z, M2)
  | .chn o o' a b c, env, M => bnd (eval a env M) fun x M1 => bnd (eval b env M1) fun y M2 =>
      bifb (cmpop M2 o x y) (bnd (eval c env M2) fun z M3 => (cmpop M3 o' y z).map fun r => (.bl r, M3)) (some (.bl false, M2))
  | .ite c a b, env, M => bnd (eval c env M) fun x M1 => bifb (truthy M1 x) (eval a env M1) (eval b env M1)
  | .tup es, env, M => bnd (evals es env M) fun vs M1 => iff_ (decide (vs.length ≤ sizeLine)) (some (.tup vs, M1))
  | .lst m es, env, M => bnd (evals es env M) fun vs M1 => iff_ (decide (vs.length ≤ sizeLine)) (some (newL m vs M1))
  | .idx a b, env, M => bnd (eval a env M) fun x M1 => bnd (eval b env M1) fun y M2 => (idxOp M2 x y).map fun z => (z, M2)
  | .slc a bl bh lo hi, env, M => bnd (eval a env M) fun x M1 => bnd (eval lo env M1) fun l M2 => bnd (eval hi env M2) fun h M3 => (slcOp M3 x bl bh l h).map fun z => (z, M3)
  | .rev a, env, M => bnd (eval a env M) fun x M1 => (revOp M1 x).map fun z => (z, M1)
  | .call f es, env, M => bnd (evals es env M) fun vs M1 => call f vs M1
  | .blt b m es, env, M => bnd (evals es env M) fun vs M1 => (bltOp M1 b vs).map fun z => asM m z M1
  | .isi a t, env, M => bnd (eval a env M) fun x M1 => some (.bl (isTy t x), M1)
  | .app a e, env, M => bnd (eval a env M) fun x M1 => match x with
    | .ref n => bnd (eval e env M1) fun v M2 => (match M2[n]? with
        | some (.lst xs) => iff_ (decide (xs.length < sizeLine)) (some (.non, M2.set n (.lst (xs ++ [v]))))
        | _ => none)
    | _ => none
  | .lc m w t it cs e, env, M => bnd (evalI it env M) fun xg M1 => bnd (lcL t xg.2 (conds cs) (eval e) (wipeE env w) xg.1 [] M1) fun vs M2 => iff_ (decide (vs.length ≤ sizeLine)) (some (newL m vs M2))
def evals : Es → Env → Mem → Option (List PV × Mem)
  | .nil, _, M => some ([], M)
  | .cons e es, env, M => bnd (eval e env M) fun v M1 => bnd (evals es env M1) fun vs M2 => some (v :: vs, M2)
def conds : Es → Env → Mem → Option (Bool × Mem)
  | .nil, _, M => some (true, M)
  | .cons e es, env, M => bnd (eval e env M) fun v M1 => bifb (truthy M1 v) (conds es env M1) (some (false, M1))
def evalI : I → Env → Mem → Option ((List PV × Gd) × Mem)
  | .seq e, env, M => bnd (eval e env M) fun x M1 => (seqG M1 x).map fun s => (s.2, M1)
  | .rng a b, env, M => bnd (eval a env M) fun x M1 => bnd (eval b env M1) fun y M2 => match x, y with
    | .int i, .int j => iff_ (decide (-(2 ^ 62) ≤ i) && decide (i < 2 ^ 62) && decide (-(2 ^ 62) ≤ j) && decide (j < 2 ^ 62)) (some ((rngI i (j - i).toNat, []), M2))
    | _, _ => none
  | .zip a b, env, M => bnd (eval a env M) fun x M1 => bnd (eval b env M1) fun y M2 => match seqG M2 x, seqG M2 y with
    | some (k, xs, g), some (k', ys, g') => iff_ (k == k') (some ((zipP xs ys, g ++ g'), M2))
    | _, _ => none
  | .enm e, env, M => bnd (eval e env M) fun x M1 => match seqG M1 x with
    | some (k, xs, g) => iff_ (!k) (some ((enmP 0 xs, g), M1))
    | _ => none
end

mutual
def exec : S → Env → Mem → Option R
  | .set i e, env, M => bnd (eval call e env M) fun v M1 => some (.nx (env.set i (some v)) M1)
  | .par i j a b, env, M => bnd (eval call a env M) fun x M1 => bnd (eval call b env M1) fun y M2 => some (.nx ((env.set i (some x)).set j (some y)) M2)
  | .asg t e, env, M => bnd (eval call e env M) fun v M1 => (bindT t v env).map fun env1 => .nx env1 M1
  | .seti o i e, env, M => bnd (eval call e env M) fun v M1 => bnd (eval call o env M1) fun x M2 => match x with
    | .ref n => bnd (eval call i env M2) fun y M3 => (match y with
      | .int k => (match M3[n]? with
          | some (.lst xs) => (setAt xs k v).map fun ys => .nx env (M3.set n (.lst ys))
          | _ => none)
      | _ => none)
    | _ => none
  | .exp e, env, M => bnd (eval call e env M) fun _ M1 => some (.nx env M1)
  | .ite c a b, env, M => bnd (eval call c env M) fun x M1 => bifb (truthy M1 x) (execs a env M1) (execs b env M1)
  | .whl c b, env, M => whlL (fun env M => bnd (eval call c env M) fun x M1 => (truthy M1 x).map fun k => (k, M1)) (execs b) W env M
  | .for_ t it b, env, M => bnd (evalI call it env M) fun xg M1 => forL t xg.2 (execs b) xg.1 env M1
  | .ret e, env, M => bnd (eval call e env M) fun v M1 => some (.rt v M1)
  | .rais, _, _ => none
def execs : Ss → Env → Mem → Option R
  | .nil, env, M => some (.nx env M)
  | .cons s ss, env, M => nxt (exec s env M) fun env1 M1 => execs ss env1 M1
end
end

/-! ### calls: a def's new cells go when it is left, unless what it hands back is one (kept) -/
mutual
/-- no reference at or above n -/
def under (n : Nat) : PV → Bool
  | .tup xs | .lst xs | .rol xs => unders n xs
  | .ref k => decide (k < n)
  | _ => true
def unders (n : Nat) : List PV → Bool
  | [] => true
  | x :: xs => under n x && unders n xs
end
def cellUnder (n : Nat) : Cell → Bool
  | .lst xs => unders n xs
  | .dic kvs => unders n (kvs.map (·.1)) && unders n (kvs.map (·.2))
/-- behind a call from memory M0 -/
def leave (n : Nat) (v : PV) (M : Mem) : Option (PV × Mem) :=
  if M.length = n then some (v, M) else
  if (M.take n).all (cellUnder n) then
    (if under n v then some (v, M.take n) else match v with
      | .ref k => (match M[k]? with
        | some (.lst xs) => if unders n xs then some (.lst xs, M.take n) else none
        | _ => none)
      | _ => none)
  else none

structure Fn where
  slots : Nat        -- how many names
  params : Nat
  keep : Bool        -- the new cells stay (what is handed back is one)
  body : Ss

def runFn (call : Nat → List PV → Mem → Option (PV × Mem)) (W : Nat) (f : Fn) (vs : List PV) (M : Mem) : Option (PV × Mem) :=
  if vs.length = f.params then
    match execs call W f.body (vs.map some ++ List.replicate (f.slots - f.params) none) M with
    | some (.rt v M1) => if f.keep then some (v, M1) else leave M.length v M1
    | some (.nx _ M1) => if f.keep then some (.non, M1) else leave M.length .non M1
    | none => none
  else none

def callN (prog : List Fn) (W : Nat) : Nat → Nat → List PV → Mem → Option (PV × Mem)
  | 0, _, _, _ => none
  | k + 1, f, vs, M => match prog[f]? with
    | some fn => runFn (callN prog W k) W fn vs M
    | none => none
end Ev

/-! How the interpreter's values lie in the heap; what a step keeps. -/
namespace Ev
open PySem PySem.Spec PyProof.Rows L2

/-- the cells, by index; and lists that are being made -/
structure Ph where
  c : List Addr
  r : List Addr
def RolAt (K : PySem.W.Frag) (φ : Ph) (H : Hp) (a : Addr) (vs : List V) : Prop :=
  (∃ o, H a = some (.frz o (.lst vs))) ∨ (H a = some (.lst vs) ∧ a ∉ φ.c ∧ a ∉ φ.r) ∨
    ∃ (o : Obj) (its : Array Value) (n : Nat), K.lookup a = some o ∧ o.cls = .type "list" ∧ o.dict = none ∧ o.data = .seq its n ∧ its.size ≤ sizeLine ∧ Vals vs its.toList
theorem RolAt.sq {K : PySem.W.Frag} {φ : Ph} {H : Hp} {a : Addr} {vs : List V} (h : RolAt K φ H a vs) : SqL K H a vs := by
  rcases h with ⟨o, h⟩ | ⟨h, _⟩ | h
  · exact .inl (.inr ⟨o, h⟩)
  · exact .inl (.inl h)
  · exact .inr h
mutual
inductive Rp (K : PySem.W.Frag) (φ : Ph) (H : Hp) : PV → V → Prop
  | non : Rp K φ H .non .non
  | bl (b : Bool) : Rp K φ H (.bl b) (.bl b)
  | int (i : Int) : Rp K φ H (.int i) (.int i)
  | str (s : Str) : Rp K φ H (.str s) (.str s)
  | tup {a : Addr} {vs : List V} {xs : List PV} (h : SqT K H a vs) (r : Rps K φ H xs vs) : Rp K φ H (.tup xs) (.ref a)
  | lst {a : Addr} {vs : List V} {xs : List PV} (h : H a = some (.lst vs)) (n : a ∉ φ.c ∧ a ∉ φ.r) (r : Rps K φ H xs vs) : Rp K φ H (.lst xs) (.ref a)
  | rol {a : Addr} {vs : List V} {xs : List PV} (h : RolAt K φ H a vs) (r : Rps K φ H xs vs) : Rp K φ H (.rol xs) (.ref a)
  | ref {n : Nat} {a : Addr} (h : φ.c[n]? = some a) : Rp K φ H (.ref n) (.ref a)
inductive Rps (K : PySem.W.Frag) (φ : Ph) (H : Hp) : List PV → List V → Prop
  | nil : Rps K φ H [] []
  | cons {x : PV} {v : V} {xs : List PV} {vs : List V} (h : Rp K φ H x v) (r : Rps K φ H xs vs) : Rps K φ H (x :: xs) (v :: vs)
end

def isCell : HO → Bool
  | .lst _ | .dK _ | .dT _ => true
  | _ => false
structure Xt (φ : Ph) (H : Hp) (φ' : Ph) (H' : Hp) : Prop where
  pre : ∃ e, φ'.c = φ.c ++ e
  res : ∀ a, a ∈ φ.r → a ∈ φ'.r
  keep : ∀ a o, H a = some o → (a ∈ φ.c → isCell o = false) → H' a = some o
  fresh : ∀ a, a ∈ φ'.c → a ∉ φ.c → H a = none
  freshr : ∀ a, a ∈ φ'.r → a ∉ φ.r → H a = none
  there : ∀ a o, H a = some o → ∃ o', H' a = some o'
def CellOk (K : PySem.W.Frag) (φ : Ph) (H : Hp) (a : Addr) : Cell → Prop
  | .lst xs => ∃ vs, H a = some (.lst vs) ∧ Rps K φ H xs vs
  | .dic _ => False
structure RM (K : PySem.W.Frag) (φ : Ph) (H : Hp) (M : Mem) : Prop where
  len : φ.c.length = M.length
  nd : φ.c.Nodup
  res : ∀ a, a ∈ φ.r → ∃ o, H a = some o
  cells : ∀ (n : Nat) (a : Addr) (c : Cell), φ.c[n]? = some a → M[n]? = some c → CellOk K φ H a c
structure RE (K : PySem.W.Frag) (φ : Ph) (H : Hp) (env : Env) (σ : L2.St) : Prop where
  len : env.length ≤ σ.length
  at_ : ∀ (i : Nat) (v : PV), env[i]? = some (some v) → ∃ u, σ[i]? = some (some u) ∧ Rp K φ H v u

section
variable {K : PySem.W.Frag} {φ φ' φ2 : Ph} {H H' H2 : Hp} {M M' : Mem} {env : Env} {σ : L2.St}
theorem Xt.refl : Xt φ H φ H := ⟨⟨[], by simp⟩, fun _ h => h, fun _ _ h _ => h, fun _ h n => absurd h n, fun _ h n => absurd h n, fun _ o h => ⟨o, h⟩⟩
theorem Xt.back (x : Xt φ H φ' H') {a : Addr} (h : H' a = none) : H a = none := by
  cases e : H a with
  | none => rfl
  | some o =>
    obtain ⟨o', e'⟩ := x.there a o e
    rw [h] at e'; cases e'
theorem Xt.sub (x : Xt φ H φ' H') {a : Addr} (h : a ∈ φ.c) : a ∈ φ'.c := by
  obtain ⟨e, h2⟩ := x.pre
  rw [h2]
  exact List.mem_append_left _ h
theorem Xt.trans (x : Xt φ H φ' H') (y : Xt φ' H' φ2 H2) : Xt φ H φ2 H2 := by
  refine ⟨?_, fun a h => y.res a (x.res a h), fun a o h hc => ?_, fun a h n => ?_, fun a h n => ?_, fun a o h => ?_⟩
  · obtain ⟨e, h1⟩ := x.pre
    obtain ⟨e2, h2⟩ := y.pre
    exact ⟨e ++ e2, by rw [h2, h1, List.append_assoc]⟩
  · refine y.keep a o (x.keep a o h hc) fun h' => ?_
    by_cases k : a ∈ φ.c
    · exact hc k
    · have := x.fresh a h' k
      rw [h] at this; cases this
  · by_cases k : a ∈ φ'.c
    · exact x.fresh a k n
    · exact x.back (y.fresh a h k)
  · by_cases k : a ∈ φ'.r
    · exact x.freshr a k n
    · exact x.back (y.freshr a h k)
  · obtain ⟨o', h'⟩ := x.there a o h
    exact y.there a o' h'
theorem Xt.get (x : Xt φ H φ' H') {n : Nat} {a : Addr} (h : φ.c[n]? = some a) : φ'.c[n]? = some a := by
  obtain ⟨e, h2⟩ := x.pre
  have hl : n < φ.c.length := (List.getElem?_eq_some_iff.mp h).1
  rw [h2, List.getElem?_append_left hl]
  exact h
theorem Xt.tup (x : Xt φ H φ' H') {a : Addr} {vs : List V} (h : SqT K H a vs) : SqT K H' a vs := by
  rcases h with (h | ⟨o, h⟩) | h
  · exact .inl (.inl (x.keep _ _ h fun _ => rfl))
  · exact .inl (.inr ⟨o, x.keep _ _ h fun _ => rfl⟩)
  · exact .inr h
theorem Xt.notin (x : Xt φ H φ' H') {a : Addr} {o : HO} (h : H a = some o) (n : a ∉ φ.c) : a ∉ φ'.c := fun k => by
  have := x.fresh a k n
  rw [h] at this; cases this
theorem Xt.notin2 (x : Xt φ H φ' H') {a : Addr} {o : HO} (h : H a = some o) (n : a ∉ φ.c ∧ a ∉ φ.r) : a ∉ φ'.c ∧ a ∉ φ'.r := ⟨x.notin h n.1, fun k => by
  have := x.freshr a k n.2
  rw [h] at this; cases this⟩
theorem Xt.rol (x : Xt φ H φ' H') {a : Addr} {vs : List V} (h : RolAt K φ H a vs) : RolAt K φ' H' a vs := by
  rcases h with ⟨o, h⟩ | ⟨h, n⟩ | h
  · exact .inl ⟨o, x.keep _ _ h fun _ => rfl⟩
  · exact .inr (.inl ⟨x.keep _ _ h fun z => absurd z n.1, x.notin2 h n⟩)
  · exact .inr (.inr h)
mutual
theorem Rp.mono (x : Xt φ H φ' H') : ∀ {v : PV} {u : V}, Rp K φ H v u → Rp K φ' H' v u
  | _, _, .non => .non
  | _, _, .bl b => .bl b
  | _, _, .int i => .int i
  | _, _, .str s => .str s
  | _, _, .tup h r => .tup (x.tup h) (Rps.mono x r)
  | _, _, .lst h n r => .lst (x.keep _ _ h fun z => absurd z n.1) (x.notin2 h n) (Rps.mono x r)
  | _, _, .rol h r => .rol (x.rol h) (Rps.mono x r)
  | _, _, .ref h => .ref (x.get h)
theorem Rps.mono (x : Xt φ H φ' H') : ∀ {v : List PV} {u : List V}, Rps K φ H v u → Rps K φ' H' v u
  | _, _, .nil => .nil
  | _, _, .cons h r => .cons (Rp.mono x h) (Rps.mono x r)
end
theorem RE.mono (x : Xt φ H φ' H') (r : RE K φ H env σ) : RE K φ' H' env σ := ⟨r.len, fun i v h => by
  obtain ⟨u, h1, h2⟩ := r.at_ i v h
  exact ⟨u, h1, h2.mono x⟩⟩
theorem RE.set (r : RE K φ H env σ) {v : PV} {u : V} (h : Rp K φ H v u) (i : Nat) : RE K φ H (env.set i (some v)) (σ.set i (some u)) := by
  refine ⟨by simpa using r.len, fun j w e => ?_⟩
  by_cases k : i = j
  · subst k
    have hi : i < env.length := by
      have := (List.getElem?_eq_some_iff.mp e).1
      simpa using this
    rw [List.getElem?_set_self hi] at e
    cases e
    exact ⟨u, List.getElem?_set_self (Nat.lt_of_lt_of_le hi r.len), h⟩
  · rw [List.getElem?_set_ne k] at e
    obtain ⟨u', h1, h2⟩ := r.at_ j w e
    exact ⟨u', by rw [List.getElem?_set_ne k]; exact h1, h2⟩
theorem RM.at_ (r : RM K φ H M) {n : Nat} {c : Cell} (h : M[n]? = some c) : ∃ a, φ.c[n]? = some a ∧ CellOk K φ H a c := by
  have hn : n < φ.c.length := by rw [r.len]; exact (List.getElem?_eq_some_iff.mp h).1
  exact ⟨φ.c[n], List.getElem?_eq_getElem hn, r.cells n _ c (List.getElem?_eq_getElem hn) h⟩
theorem CellOk.some_ {a : Addr} {c : Cell} (h : CellOk K φ H a c) : ∃ o, H a = some o ∧ isCell o = true := by
  cases c with
  | lst xs => obtain ⟨vs, h, _⟩ := h; exact ⟨_, h, rfl⟩
  | dic k => exact h.elim
theorem RM.some_ (r : RM K φ H M) {a : Addr} (h : a ∈ φ.c) : ∃ o, H a = some o ∧ isCell o = true := by
  obtain ⟨n, hn, e⟩ := List.getElem_of_mem h
  have hm : n < M.length := by rw [← r.len]; exact hn
  exact (r.cells n a M[n] (by rw [List.getElem?_eq_getElem hn, e]) (List.getElem?_eq_getElem hm)).some_
theorem RM.notin (r : RM K φ H M) {p : Addr} (h : H p = none) : p ∉ φ.c := fun k => by
  obtain ⟨o, e, _⟩ := r.some_ k
  rw [h] at e; cases e
theorem RM.notin2 (r : RM K φ H M) {p : Addr} (h : H p = none) : p ∉ φ.c ∧ p ∉ φ.r := ⟨r.notin h, fun k => by
  obtain ⟨o, e⟩ := r.res p k
  rw [h] at e; cases e⟩
theorem xt_new {p : Addr} {o : HO} (h : H p = none) : Xt φ H φ (upd H p o) :=
  ⟨⟨[], by simp⟩, fun _ h => h, fun a u e _ => by rw [upd_ne (ne_of_none e h)]; exact e, fun _ a n => absurd a n, fun _ a n => absurd a n, fun a u e => ⟨u, by rw [upd_ne (ne_of_none e h)]; exact e⟩⟩
theorem CellOk.mono_same {a : Addr} {c : Cell} (x : Xt φ H φ' H') (k : ∀ o, H a = some o → H' a = some o) (h : CellOk K φ H a c) : CellOk K φ' H' a c := by
  cases c with
  | lst xs => obtain ⟨vs, h, r⟩ := h; exact ⟨vs, k _ h, r.mono x⟩
  | dic _ => exact h
theorem res_upd {p : Addr} {o : HO} (r : ∀ a, a ∈ φ.r → ∃ o, H a = some o) : ∀ a, a ∈ φ.r → ∃ o', upd H p o a = some o' := fun a h => by
  by_cases e : a = p
  · subst e; exact ⟨_, upd_same⟩
  · rw [upd_ne e]; exact r a h
theorem RM.new (r : RM K φ H M) {p : Addr} {o : HO} (h : H p = none) : RM K φ (upd H p o) M :=
  ⟨r.len, r.nd, res_upd r.res, fun n a c h1 h2 => (r.cells n a c h1 h2).mono_same (xt_new h) fun u e => by rw [upd_ne (ne_of_none e h)]; exact e⟩
/-- one cell more -/
def Ph.add (φ : Ph) (p : Addr) : Ph := ⟨φ.c ++ [p], φ.r⟩
theorem xt_cell {p : Addr} {o : HO} (h : H p = none) : Xt φ H (φ.add p) (upd H p o) :=
  ⟨⟨[p], rfl⟩, fun _ h => h, fun a u e _ => by rw [upd_ne (ne_of_none e h)]; exact e, fun a k n => by
    rcases List.mem_append.mp k with k | k
    · exact absurd k n
    · have : a = p := by simpa using k
      rw [this]; exact h, fun _ a n => absurd a n, fun a u e => ⟨u, by rw [upd_ne (ne_of_none e h)]; exact e⟩⟩
theorem RM.cell (r : RM K φ H M) {p : Addr} {xs : List PV} {vs : List V} (h : H p = none) (q : Rps K φ H xs vs) : RM K (φ.add p) (upd H p (.lst vs)) (M ++ [.lst xs]) := by
  refine ⟨by simp [r.len, Ph.add], ?_, res_upd r.res, fun n a c h1 h2 => ?_⟩
  · show (φ.c ++ [p]).Nodup
    rw [List.nodup_append]
    refine ⟨r.nd, by simp, fun a ha b hb e => ?_⟩
    have : b = p := by simpa using hb
    subst this
    exact r.notin h (e ▸ ha)
  · change (φ.c ++ [p])[n]? = some a at h1
    by_cases k : n < φ.c.length
    · rw [List.getElem?_append_left k] at h1
      rw [List.getElem?_append_left (by rw [← r.len]; exact k)] at h2
      exact (r.cells n a c h1 h2).mono_same (xt_cell h) fun u e => by rw [upd_ne (ne_of_none e h)]; exact e
    · have k2 : n = φ.c.length := by
        have := (List.getElem?_eq_some_iff.mp h1).1
        simp at this
        omega
      subst k2
      rw [List.getElem?_append_right (Nat.le_refl _)] at h1
      rw [r.len, List.getElem?_append_right (Nat.le_refl _)] at h2
      simp at h1 h2
      subst h1 h2
      exact ⟨vs, upd_same, q.mono (xt_cell h)⟩
theorem RM.eq_of (r : RM K φ H M) {m n : Nat} {a : Addr} (h : φ.c[m]? = some a) (h' : φ.c[n]? = some a) : m = n := by
  obtain ⟨h1, e1⟩ := List.getElem?_eq_some_iff.mp h
  obtain ⟨h2, e2⟩ := List.getElem?_eq_some_iff.mp h'
  exact (List.getElem_inj r.nd).mp (e1.trans e2.symm)
theorem xt_set (r : RM K φ H M) {n : Nat} {a : Addr} {o : HO} (h : φ.c[n]? = some a) : Xt φ H φ (upd H a o) := by
  refine ⟨⟨[], by simp⟩, fun _ h => h, fun b u e k => ?_, fun _ k n => absurd k n, fun _ k n => absurd k n, fun b u e => ?_⟩
  rotate_left
  · by_cases z : b = a
    · subst z; exact ⟨_, upd_same⟩
    · exact ⟨u, by rw [upd_ne z]; exact e⟩
  have hm : a ∈ φ.c := List.mem_of_getElem? h
  have ne : b ≠ a := fun z => by
    subst z
    obtain ⟨o', e', c⟩ := r.some_ hm
    rw [e] at e'; cases e'
    rw [k hm] at c; cases c
  rw [upd_ne ne]; exact e
theorem RM.set (r : RM K φ H M) {n : Nat} {a : Addr} {xs : List PV} {vs : List V} (h : φ.c[n]? = some a) (q : Rps K φ H xs vs) : RM K φ (upd H a (.lst vs)) (M.set n (.lst xs)) := by
  refine ⟨by simp [r.len], r.nd, res_upd r.res, fun m b c h1 h2 => ?_⟩
  by_cases k : n = m
  · subst k
    have hn : n < M.length := by rw [← r.len]; exact (List.getElem?_eq_some_iff.mp h).1
    rw [List.getElem?_set_self hn] at h2
    rw [h] at h1
    cases h1; cases h2
    exact ⟨vs, upd_same, q.mono (xt_set r h)⟩
  · rw [List.getElem?_set_ne k] at h2
    have ne : b ≠ a := fun z => by
      subst z
      exact k (r.eq_of h h1)
    exact (r.cells m b c h1 h2).mono_same (xt_set r h) fun u e => by rw [upd_ne ne]; exact e
/-! ### a list that is being made at D -/
theorem ne_mem {l : List Addr} {a D : Addr} (h : D ∈ l) (n : a ∉ l) : a ≠ D := fun z => n (by rw [z]; exact h)
def Ph.hide (φ : Ph) (D : Addr) : Ph := ⟨φ.c, D :: φ.r⟩
theorem xt_hide {D : Addr} {o : HO} (h : H D = none) : Xt φ H (φ.hide D) (upd H D o) :=
  ⟨⟨[], by simp [Ph.hide]⟩, fun _ k => List.mem_cons_of_mem _ k, fun a u e _ => by rw [upd_ne (ne_of_none e h)]; exact e, fun _ a n => absurd a n, fun a k n => by
    rcases List.mem_cons.mp k with k | k
    · rw [k]; exact h
    · exact absurd k n, fun a u e => ⟨u, by rw [upd_ne (ne_of_none e h)]; exact e⟩⟩
mutual
/-- what lies at a hidden place changes -/
theorem Rp.under {D : Addr} {ws : List V} {o : HO} (h : H D = some (.lst ws)) (hd : D ∈ φ.r) : ∀ {v : PV} {u : V}, Rp K φ H v u → Rp K φ (upd H D o) v u
  | _, _, .non => .non
  | _, _, .bl b => .bl b
  | _, _, .int i => .int i
  | _, _, .str s => .str s
  | _, _, .tup k r => .tup (by
      rcases k with (k | ⟨o, k⟩) | k
      · exact .inl (.inl (by rw [upd_ne (ne_of k h (by intro z; cases z))]; exact k))
      · exact .inl (.inr ⟨o, by rw [upd_ne (ne_of k h (by intro z; cases z))]; exact k⟩)
      · exact .inr k) (Rps.under h hd r)
  | _, _, .lst k n r => .lst (by rw [upd_ne (ne_mem hd n.2)]; exact k) n (Rps.under h hd r)
  | _, _, .rol k r => .rol (by
      rcases k with ⟨o, k⟩ | ⟨k, n⟩ | k
      · exact .inl ⟨o, by rw [upd_ne (ne_of k h (by intro z; cases z))]; exact k⟩
      · exact .inr (.inl ⟨by rw [upd_ne (ne_mem hd n.2)]; exact k, n⟩)
      · exact .inr (.inr k)) (Rps.under h hd r)
  | _, _, .ref k => .ref k
theorem Rps.under {D : Addr} {ws : List V} {o : HO} (h : H D = some (.lst ws)) (hd : D ∈ φ.r) : ∀ {v : List PV} {u : List V}, Rps K φ H v u → Rps K φ (upd H D o) v u
  | _, _, .nil => .nil
  | _, _, .cons k r => .cons (Rp.under h hd k) (Rps.under h hd r)
end
mutual
theorem Rp.less {l : List Addr} (s : ∀ a, a ∈ l → a ∈ φ.r) : ∀ {v : PV} {u : V}, Rp K φ H v u → Rp K ⟨φ.c, l⟩ H v u
  | _, _, .non => .non
  | _, _, .bl b => .bl b
  | _, _, .int i => .int i
  | _, _, .str s => .str s
  | _, _, .tup k r => .tup k (Rps.less s r)
  | _, _, .lst k n r => .lst k ⟨n.1, fun z => n.2 (s _ z)⟩ (Rps.less s r)
  | _, _, .rol k r => .rol (by
      rcases k with ⟨o, k⟩ | ⟨k, n⟩ | k
      · exact .inl ⟨o, k⟩
      · exact .inr (.inl ⟨k, n.1, fun z => n.2 (s _ z)⟩)
      · exact .inr (.inr k)) (Rps.less s r)
  | _, _, .ref k => .ref k
theorem Rps.less {l : List Addr} (s : ∀ a, a ∈ l → a ∈ φ.r) : ∀ {v : List PV} {u : List V}, Rps K φ H v u → Rps K ⟨φ.c, l⟩ H v u
  | _, _, .nil => .nil
  | _, _, .cons k r => .cons (Rp.less s k) (Rps.less s r)
end
mutual
/-- a hidden place becomes a cell -/
theorem Rp.shift {l : List Addr} {D : Addr} (s : ∀ a, a ∈ l → a ∈ φ.r) (hd : D ∈ φ.r) : ∀ {v : PV} {u : V}, Rp K φ H v u → Rp K (Ph.add ⟨φ.c, l⟩ D) H v u
  | _, _, .non => .non
  | _, _, .bl b => .bl b
  | _, _, .int i => .int i
  | _, _, .str s => .str s
  | _, _, .tup k r => .tup k (Rps.shift s hd r)
  | _, _, .lst k n r => .lst k ⟨fun z => (List.mem_append.mp z).elim n.1 fun z => n.2 (by rw [List.mem_singleton.mp z]; exact hd), fun z => n.2 (s _ z)⟩ (Rps.shift s hd r)
  | _, _, .rol k r => .rol (by
      rcases k with ⟨o, k⟩ | ⟨k, n⟩ | k
      · exact .inl ⟨o, k⟩
      · exact .inr (.inl ⟨k, fun z => (List.mem_append.mp z).elim n.1 fun z => n.2 (by rw [List.mem_singleton.mp z]; exact hd), fun z => n.2 (s _ z)⟩)
      · exact .inr (.inr k)) (Rps.shift s hd r)
  | _, _, .ref k => .ref (by
      have hl := (List.getElem?_eq_some_iff.mp k).1
      show (φ.c ++ [D])[_]? = _
      rw [List.getElem?_append_left hl]; exact k)
theorem Rps.shift {l : List Addr} {D : Addr} (s : ∀ a, a ∈ l → a ∈ φ.r) (hd : D ∈ φ.r) : ∀ {v : List PV} {u : List V}, Rps K φ H v u → Rps K (Ph.add ⟨φ.c, l⟩ D) H v u
  | _, _, .nil => .nil
  | _, _, .cons k r => .cons (Rp.shift s hd k) (Rps.shift s hd r)
end
theorem RM.enter (m : RM K φ H M) {D : Addr} {o : HO} (h : H D = none) : RM K (φ.hide D) (upd H D o) M :=
  ⟨m.len, m.nd, fun a k => by
    by_cases e : a = D
    · subst e; exact ⟨_, upd_same⟩
    · rw [upd_ne e]
      exact m.res a ((List.mem_cons.mp k).resolve_left e), fun n a c h1 h2 =>
    (m.cells n a c h1 h2).mono_same (xt_hide h) fun u e => by rw [upd_ne (ne_of_none e h)]; exact e⟩
theorem RM.under (m : RM K φ H M) {D : Addr} {ws : List V} {o : HO} (h : H D = some (.lst ws)) (hd : D ∈ φ.r) (hc : D ∉ φ.c) : RM K φ (upd H D o) M :=
  ⟨m.len, m.nd, res_upd m.res, fun n a c h1 h2 => by
    have k := m.cells n a c h1 h2
    have ne : a ≠ D := fun z => hc (z ▸ List.mem_of_getElem? h1)
    cases c with
    | lst xs =>
      obtain ⟨vs, h3, h4⟩ := k
      exact ⟨vs, by rw [upd_ne ne]; exact h3, h4.under h hd⟩
    | dic _ => exact k⟩
theorem RM.less (m : RM K φ H M) {l : List Addr} (s : ∀ a, a ∈ l → a ∈ φ.r) : RM K ⟨φ.c, l⟩ H M :=
  ⟨m.len, m.nd, fun a k => m.res a (s a k), fun n a c h1 h2 => by
    have k := m.cells n a c h1 h2
    cases c with
    | lst xs =>
      obtain ⟨vs, h3, h4⟩ := k
      exact ⟨vs, h3, h4.less s⟩
    | dic _ => exact k⟩

/-! ### lists of values -/
theorem Rps.length : ∀ {xs : List PV} {vs : List V}, Rps K φ H xs vs → xs.length = vs.length
  | _, _, .nil => rfl
  | _, _, .cons _ r => by simp [Rps.length r]
theorem Rps.append : ∀ {xs ys : List PV} {vs ws : List V}, Rps K φ H xs vs → Rps K φ H ys ws → Rps K φ H (xs ++ ys) (vs ++ ws)
  | _, _, _, _, .nil, q => q
  | _, _, _, _, .cons h r, q => .cons h (Rps.append r q)
theorem Rps.get : ∀ {xs : List PV} {vs : List V} {i : Nat} {x : PV}, Rps K φ H xs vs → xs[i]? = some x → ∃ v, vs[i]? = some v ∧ Rp K φ H x v
  | _, _, _, _, .nil, e => by simp at e
  | _, _, 0, _, .cons h _, e => by simp at e; subst e; exact ⟨_, rfl, h⟩
  | _, _, i + 1, _, .cons _ r, e => by
    obtain ⟨v, h1, h2⟩ := Rps.get (i := i) r (by simpa using e)
    exact ⟨v, by simpa using h1, h2⟩
theorem Rps.set : ∀ {xs : List PV} {vs : List V} (i : Nat) {x : PV} {v : V}, Rps K φ H xs vs → Rp K φ H x v → Rps K φ H (xs.set i x) (vs.set i v)
  | _, _, _, _, _, .nil, _ => .nil
  | _, _, 0, _, _, .cons _ r, q => .cons q r
  | _, _, i + 1, _, _, .cons h r, q => .cons h (Rps.set i r q)
theorem Rps.take : ∀ {xs : List PV} {vs : List V} (n : Nat), Rps K φ H xs vs → Rps K φ H (xs.take n) (vs.take n)
  | _, _, 0, _ => .nil
  | _, _, _ + 1, .nil => .nil
  | _, _, n + 1, .cons h r => .cons h (Rps.take n r)
theorem Rps.drop : ∀ {xs : List PV} {vs : List V} (n : Nat), Rps K φ H xs vs → Rps K φ H (xs.drop n) (vs.drop n)
  | _, _, 0, r => r
  | _, _, _ + 1, .nil => .nil
  | _, _, n + 1, .cons _ r => Rps.drop n r
theorem Rps.rev : ∀ {xs : List PV} {vs : List V}, Rps K φ H xs vs → Rps K φ H xs.reverse vs.reverse
  | _, _, .nil => .nil
  | _, _, .cons h r => by
    rw [List.reverse_cons, List.reverse_cons]
    exact (Rps.rev r).append (.cons h .nil)
theorem Rps.rep {xs : List PV} {vs : List V} (r : Rps K φ H xs vs) : ∀ n : Nat, Rps K φ H (List.replicate n xs).flatten (List.replicate n vs).flatten
  | 0 => .nil
  | n + 1 => by
    rw [List.replicate_succ, List.replicate_succ, List.flatten_cons, List.flatten_cons]
    exact r.append (Rps.rep r n)
theorem Rps.atI {xs : List PV} {vs : List V} {i : Int} {x : PV} (r : Rps K φ H xs vs) (h : atI xs i = some x) : ∃ v, L2.atI vs i = some v ∧ Rp K φ H x v := by
  unfold L2.atI at h ⊢
  rw [← r.length]
  cases e : ixN xs.length i with
  | none => rw [e] at h; cases h
  | some j =>
    rw [e] at h
    exact r.get (i := j) h
theorem Rps.isEmpty {xs : List PV} {vs : List V} (r : Rps K φ H xs vs) : xs.isEmpty = vs.isEmpty := by
  cases r <;> rfl
/-- the items of a list -/
theorem items_sq (m : RM K φ H M) {v : PV} {u : V} {xs : List PV} (r : Rp K φ H v u) (h : items M v = some xs) : ∃ a vs, u = .ref a ∧ SqL K H a vs ∧ Rps K φ H xs vs := by
  cases r with
  | lst h1 n r1 => cases h; exact ⟨_, _, rfl, .inl (.inl h1), r1⟩
  | rol h1 r1 => cases h; exact ⟨_, _, rfl, h1.sq, r1⟩
  | @ref n a h1 =>
    unfold items at h
    simp only at h
    split at h
    · rename_i ys e
      cases h
      obtain ⟨b, h2, vs, h3, h4⟩ := m.at_ e
      rw [h1] at h2; cases h2
      exact ⟨_, _, rfl, .inl (.inl h3), h4⟩
    · cases h
  | non | bl | int | str | tup => cases h
theorem itemsW_sq (m : RM K φ H M) {v : PV} {u : V} {xs : List PV} (r : Rp K φ H v u) (h : itemsW M v = some xs) : ∃ a vs, u = .ref a ∧ H a = some (.lst vs) ∧ Rps K φ H xs vs := by
  cases r with
  | lst h1 n r1 => cases h; exact ⟨_, _, rfl, h1, r1⟩
  | @ref n a h1 =>
    unfold itemsW at h
    simp only at h
    split at h
    · rename_i ys e
      cases h
      obtain ⟨b, h2, vs, h3, h4⟩ := m.at_ e
      rw [h1] at h2; cases h2
      exact ⟨_, _, rfl, h3, h4⟩
    · cases h
  | non | bl | int | str | tup | rol => cases h
theorem itemsT_sq (m : RM K φ H M) {v : PV} {u : V} {xs : List PV} (r : Rp K φ H v u) (h : itemsT M v = some xs) : ∃ a vs, u = .ref a ∧ (SqL K H a vs ∨ SqT K H a vs) ∧ Rps K φ H xs vs := by
  cases r with
  | tup h1 r1 => cases h; exact ⟨_, _, rfl, .inr h1, r1⟩
  | lst h1 n r1 =>
    obtain ⟨a, vs, e, h2, h3⟩ := items_sq m (.lst h1 n r1) h
    exact ⟨a, vs, e, .inl h2, h3⟩
  | rol h1 r1 =>
    obtain ⟨a, vs, e, h2, h3⟩ := items_sq m (.rol h1 r1) h
    exact ⟨a, vs, e, .inl h2, h3⟩
  | ref h1 =>
    obtain ⟨a, vs, e, h2, h3⟩ := items_sq m (.ref h1) h
    exact ⟨a, vs, e, .inl h2, h3⟩
  | non | bl | int | str => cases h
/-! ### data -/
mutual
theorem toD_dp : ∀ {v : PV} {u : V} {d : PyData}, Rp K φ H v u → toD v = some d → Dp K H u d
  | .non, _, _, .non, e => by cases e; exact .non
  | .bl b, _, _, .bl _, e => by cases e; exact .bl b
  | .int i, _, _, .int _, e => by cases e; exact .int i
  | .str s, _, _, .str _, e => by cases e; exact .str s
  | .tup xs, _, d, .tup h r, e => by
    unfold toD at e
    cases k : toDs xs with
    | none => rw [k] at e; cases e
    | some ds => rw [k] at e; cases e; exact .tup h (toDs_dp r k)
  | .lst xs, _, d, .lst h n r, e => by
    unfold toD at e
    cases k : toDs xs with
    | none => rw [k] at e; cases e
    | some ds => rw [k] at e; cases e; exact .lst (.inl (.inl h)) (toDs_dp r k)
  | .rol xs, _, d, .rol h r, e => by
    unfold toD at e
    cases k : toDs xs with
    | none => rw [k] at e; cases e
    | some ds => rw [k] at e; cases e; exact .lst h.sq (toDs_dp r k)
  | .ref n, _, _, .ref h, e => by cases e
theorem toDs_dp : ∀ {v : List PV} {u : List V} {d : List PyData}, Rps K φ H v u → toDs v = some d → DpAll K H u d
  | [], _, _, .nil, e => by cases e; exact .nil
  | x :: xs, _, d, .cons h r, e => by
    unfold toDs at e
    cases k1 : toD x with
    | none => rw [k1] at e; cases e
    | some d1 =>
      cases k2 : toDs xs with
      | none => rw [k1, k2] at e; cases e
      | some ds => rw [k1, k2] at e; cases e; exact .cons (toD_dp h k1) (toDs_dp r k2)
end
theorem toDM_dp (m : RM K φ H M) {v : PV} {u : V} {d : PyData} (r : Rp K φ H v u) (e : toDM M v = some d) : Dp K H u d := by
  cases r with
  | ref h1 =>
    unfold toDM at e
    simp only at e
    split at e
    · rename_i xs e1
      obtain ⟨b, h2, vs, h3, h4⟩ := m.at_ e1
      rw [h1] at h2; cases h2
      cases k : toDs xs with
      | none => rw [k] at e; cases e
      | some ds => rw [k] at e; cases e; exact .lst (.inl (.inl h3)) (toDs_dp h4 k)
    · cases e
  | non => exact toD_dp (φ := φ) .non e
  | bl b => exact toD_dp (φ := φ) (.bl b) e
  | int i => exact toD_dp (φ := φ) (.int i) e
  | str i => exact toD_dp (φ := φ) (.str i) e
  | tup h r => exact toD_dp (.tup h r) e
  | lst h n r => exact toD_dp (.lst h n r) e
  | rol h r => exact toD_dp (.rol h r) e
theorem truthy_tru (m : RM K φ H M) {v : PV} {u : V} {b : Bool} (r : Rp K φ H v u) (e : truthy M v = some b) : TruV K u H b := by
  cases r with
  | non => cases e; rfl
  | bl b => cases e; rfl
  | int i => cases e; rfl
  | str s =>
    unfold truthy at e
    simp only at e
    split at e
    · rename_i h; cases e; exact ⟨h, rfl⟩
    · cases e
  | tup h r => cases e; exact .inr (.inl ⟨_, h, by rw [r.isEmpty]⟩)
  | lst h n r => cases e; exact .inl ⟨_, .inl (.inl h), by rw [r.isEmpty]⟩
  | rol h r => cases e; exact .inl ⟨_, h.sq, by rw [r.isEmpty]⟩
  | ref h1 =>
    unfold truthy at e
    simp only at e
    split at e
    · rename_i xs e1
      cases e
      obtain ⟨b, h2, vs, h3, h4⟩ := m.at_ e1
      rw [h1] at h2; cases h2
      exact .inl ⟨_, .inl (.inl h3), by rw [h4.isEmpty]⟩
    · cases e
end
end Ev

/-! The operations on values, over the interpreter's. -/
namespace Ev
open PySem PySem.Spec PyProof.Rows L2
section
variable {K : PySem.W.Frag} {φ φ' φ2 : Ph} {H H' H2 : Hp} {M M' : Mem}
/-- what is wanted behind a step -/
def Pst (K : PySem.W.Frag) (φ : Ph) (H : Hp) (M : Mem) (z : PV) (Q : VK) : Prop := ∀ φ' H' u, Xt φ H φ' H' → RM K φ' H' M → Rp K φ' H' z u → Q u H'
theorem Pst.here {z : PV} {u : V} {Q : VK} (k : Pst K φ H M z Q) (m : RM K φ H M) (r : Rp K φ H z u) : Q u H := k φ H u .refl m r
theorem Pst.tup {xs : List PV} {vs : List V} {Q : VK} (k : Pst K φ H M (.tup xs) Q) (m : RM K φ H M) (r : Rps K φ H xs vs) {p : Addr} (h : H p = none) : Q (.ref p) (upd H p (.tup vs)) :=
  k φ _ _ (xt_new h) (m.new h) (.tup (.inl (.inl upd_same)) (r.mono (xt_new h)))
theorem Pst.lst {xs : List PV} {vs : List V} {Q : VK} (k : Pst K φ H M (.lst xs) Q) (m : RM K φ H M) (r : Rps K φ H xs vs) {p : Addr} (h : H p = none) : Q (.ref p) (upd H p (.lst vs)) :=
  k φ _ _ (xt_new h) (m.new h) (.lst upd_same (m.notin2 h) (r.mono (xt_new h)))
theorem Pst.cell {xs : List PV} {vs : List V} {Q : VK} (k : Pst K φ H (M ++ [.lst xs]) (.ref M.length) Q) (m : RM K φ H M) (r : Rps K φ H xs vs) {p : Addr} (h : H p = none) : Q (.ref p) (upd H p (.lst vs)) :=
  k (φ.add p) _ _ (xt_cell h) (m.cell h r) (.ref (by show (φ.c ++ [p])[M.length]? = some p; rw [← m.len, List.getElem?_append_right (Nat.le_refl _)]; simp))
theorem Pst.newL {b : Bool} {xs : List PV} {vs : List V} {Q : VK} (k : Pst K φ H (newL b xs M).2 (newL b xs M).1 Q) (m : RM K φ H M) (r : Rps K φ H xs vs) {p : Addr} (h : H p = none) : Q (.ref p) (upd H p (.lst vs)) := by
  cases b with
  | true => exact Pst.cell k m r h
  | false => exact Pst.lst k m r h
theorem Pst.asM {z : PV} {u : V} {Q : VK} {f : Bool} (k : Pst K φ H (Ev.asM f z M).2 (Ev.asM f z M).1 Q) (m : RM K φ H M) (r : Rp K φ H z u) (h : ∀ xs, z ≠ .lst xs := by intro _ h; cases h) : Q u H := by
  cases f with
  | false => exact k.here m r
  | true => cases z <;> first | exact k.here m r | exact absurd rfl (h _)
theorem Pst.asT {xs : List PV} {vs : List V} {Q : VK} {f : Bool} (k : Pst K φ H (Ev.asM f (.tup xs) M).2 (Ev.asM f (.tup xs) M).1 Q) (m : RM K φ H M) (r : Rps K φ H xs vs) {p : Addr} (h : H p = none) : Q (.ref p) (upd H p (.tup vs)) := by
  have k1 : Pst K φ H M (.tup xs) Q := by cases f <;> exact k
  exact k1.tup m r h
theorem Pst.asL {xs : List PV} {vs : List V} {Q : VK} {f : Bool} (k : Pst K φ H (Ev.asM f (.lst xs) M).2 (Ev.asM f (.lst xs) M).1 Q) (m : RM K φ H M) (r : Rps K φ H xs vs) {p : Addr} (h : H p = none) : Q (.ref p) (upd H p (.lst vs)) := by
  cases f with
  | false => exact Pst.lst k m r h
  | true => exact Pst.cell k m r h
def rB (K : PySem.W.Frag) (g : Bool) (f : Mem → PV → PV → Option PV) : R2 := fun x y H Q => ∃ φ M v w z, RM K φ H M ∧ Rp K φ H v x ∧ Rp K φ H w y ∧ f M v w = some z ∧ Pst K φ H (asM g z M).2 (asM g z M).1 Q
end
section
variable {X : Cx}
theorem op_fdivG : OpR X (binaryOp .FloorDiv) (L2.rI (fun i j => j ≠ 0 ∧ j.natAbs.log2 < 9000) fun i j => .int (i.fdiv j)) := opI fun i j _ _ _ _ _ hc q =>
  floordiv_int hc.1 q (.inl (PyProof.noPylong_of_log2 hc.2))
/-- () + t -/
theorem op_catT0 : OpR X (binaryOp .Add) (fun x y H Q => ∃ a b ys, x = .ref a ∧ y = .ref b ∧ SqT X.K H a [] ∧ SqT X.K H b ys ∧ Q (.ref b) H) := by
  intro pins s σ H x y v u Q I rx ry h
  obtain ⟨a, b, ys, rfl, rfl, ha, hb, q⟩ := h
  cases rx
  cases ry
  obtain ⟨its, r1, p1, _⟩ := I.tuple ha
  obtain ⟨its2, r2, p2, _⟩ := I.tuple hb
  cases r1
  obtain ⟨⟨cls, dd, data, sl⟩, ho, hc, n, hd⟩ := _root_.id p1
  obtain ⟨⟨cls2, dd2, data2, sl2⟩, ho2, hc2, n2, hd2⟩ := _root_.id p2
  simp only at hc hd hc2 hd2
  subst hc hd hc2 hd2
  exact concat_meets ⟨_, ho, rfl⟩ ⟨_, ho2, rfl⟩ noFill_tuple_add seq_tuple_add PySem.F.slot_tuple_add PySem.F.entry_tuple_add (PySem.F.args_tuple_add_2 _ _)
      (tuple_addW0 a b _ _ n n2 dd dd2 sl sl2 (by simp)) ⟨ho, ho2, ⟨.ref b, H, I, rfl, q⟩⟩
theorem orR {f : Value → Value → Sem Value} {r r' : R2} (h : OpR X f r) (h' : OpR X f r') : OpR X f (fun x y H Q => r x y H Q ∨ r' x y H Q) := OpR.or h h'
/-- a rule by another -/
theorem OpR.imp {f : Value → Value → Sem Value} {r r' : R2} (h : OpR X f r) (k : ∀ x y H Q, r' x y H Q → r x y H Q) : OpR X f r' :=
  fun pins s σ H x y v u Q I rx ry q => h pins s σ H x y v u Q I rx ry (k _ _ _ _ q)

theorem o_add {g : Bool} : OpR X (binaryOp .Add) (rB X.K g fun M => binop M .add) := by
  refine OpR.imp (orR op_add (orR op_catT (orR op_catT0 (orR op_add_str op_cat)))) fun x y H Q h => ?_
  obtain ⟨φ, M, v, w, z, m, r1, r2, e, k⟩ := h
  change addOp M v w = some z at e
  unfold addOp at e
  split at e
  · cases e; cases r1; cases r2
    exact .inl ⟨_, _, rfl, rfl, k.asM m (.int _)⟩
  · split at e
    · rename_i hz
      have hz := of_decide_eq_true hz
      cases e
      cases r1 with
      | tup h1 q1 =>
      cases r2 with
      | tup h2 q2 =>
      rename_i xs ys a vs b ws
      by_cases e0 : vs = []
      · subst e0
        cases q1
        exact .inr (.inr (.inl ⟨_, _, _, rfl, rfl, h1, h2, k.asM m (.tup h2 q2)⟩))
      · refine .inr (.inl ⟨_, _, _, _, rfl, rfl, h1, h2, e0, by rw [← q1.length, ← q2.length]; exact hz, fun e1 => ?_, fun _ p hp => k.asT m (q1.append q2) hp⟩)
        subst e1
        cases q2
        refine k.asM m (.tup h1 ?_)
        rw [List.append_nil]; exact q1
    · cases e
  · split at e
    · rename_i hz
      have hz := of_decide_eq_true hz
      cases e; cases r1; cases r2
      exact .inr (.inr (.inr (.inl ⟨_, _, rfl, rfl, hz, k.asM m (.str _)⟩)))
    · cases e
  · split at e
    · rename_i xs ys h1 h2
      split at e
      · rename_i hz
        have hz := of_decide_eq_true hz
        cases e
        obtain ⟨a, vs, rfl, ha, q1⟩ := itemsW_sq m r1 h1
        obtain ⟨b, ws, rfl, hb, q2⟩ := itemsW_sq m r2 h2
        exact .inr (.inr (.inr (.inr ⟨_, _, _, _, rfl, rfl, ha, hb, by rw [← q1.length, ← q2.length]; exact hz, fun p hp => k.asL m (q1.append q2) hp⟩)))
      · cases e
    · cases e
theorem o_sub {g : Bool} : OpR X (binaryOp .Sub) (rB X.K g fun M => binop M .sub) := by
  refine OpR.imp op_sub fun x y H Q h => ?_
  obtain ⟨φ, M, v, w, z, m, r1, r2, e, k⟩ := h
  change subOp v w = some z at e
  unfold subOp at e
  split at e
  · cases e; cases r1; cases r2
    exact ⟨_, _, rfl, rfl, k.asM m (.int _)⟩
  · cases e
theorem o_fdiv {g : Bool} : OpR X (binaryOp .FloorDiv) (rB X.K g fun M => binop M .fdiv) := by
  refine OpR.imp op_fdivG fun x y H Q h => ?_
  obtain ⟨φ, M, v, w, z, m, r1, r2, e, k⟩ := h
  change fdivOp v w = some z at e
  unfold fdivOp at e
  split at e
  · split at e
    · rename_i hz
      unfold divOk at hz
      rw [Bool.and_eq_true] at hz
      cases e; cases r1; cases r2
      exact ⟨_, _, rfl, rfl, ⟨of_decide_eq_true hz.1, of_decide_eq_true hz.2⟩, k.asM m (.int _)⟩
    · cases e
  · cases e
theorem o_mod {g : Bool} : OpR X (binaryOp .Mod) (rB X.K g fun M => binop M .mod) := by
  refine OpR.imp op_modN fun x y H Q h => ?_
  obtain ⟨φ, M, v, w, z, m, r1, r2, e, k⟩ := h
  change modOp v w = some z at e
  unfold modOp at e
  split at e
  · split at e
    · rename_i hz
      cases e; cases r1; cases r2
      exact ⟨_, _, rfl, rfl, of_decide_eq_true hz, k.asM m (.int _)⟩
    · cases e
  · cases e
theorem o_pow {g : Bool} : OpR X (binaryOp .Pow) (rB X.K g fun M => binop M .pow) := by
  refine OpR.imp op_pow fun x y H Q h => ?_
  obtain ⟨φ, M, v, w, z, m, r1, r2, e, k⟩ := h
  change powOp v w = some z at e
  unfold powOp at e
  split at e
  · split at e
    · rename_i hz
      rw [Bool.and_eq_true, Bool.and_eq_true] at hz
      cases e; cases r1; cases r2
      exact ⟨_, _, rfl, rfl, ⟨of_decide_eq_true hz.1.1, of_decide_eq_true hz.1.2, of_decide_eq_true hz.2⟩, k.asM m (.int _)⟩
    · cases e
  · cases e
theorem o_mul {g : Bool} : OpR X (binaryOp .Mult) (rB X.K g fun M => binop M .mul) := by
  refine OpR.imp (orR op_mul (orR op_mulW (orR op_repT op_rep))) fun x y H Q h => ?_
  obtain ⟨φ, M, v, w, z, m, r1, r2, e, k⟩ := h
  change mulOp M v w = some z at e
  unfold mulOp at e
  split at e
  · split at e
    · rename_i hz
      unfold mulOk at hz
      rw [Bool.or_eq_true] at hz
      cases e; cases r1; cases r2
      rcases hz with hz | hz
      · have hz' := of_decide_eq_true hz
        exact .inl ⟨_, _, rfl, rfl, hz', k.asM m (.int _)⟩
      · have hz' := of_decide_eq_true hz
        exact .inr (.inl ⟨_, _, rfl, rfl, hz', k.asM m (.int _)⟩)
    · cases e
  · split at e
    · rename_i hz
      rw [Bool.and_eq_true, Bool.and_eq_true, Bool.and_eq_true] at hz
      obtain ⟨⟨⟨h1, h2⟩, h3⟩, h4⟩ := hz
      cases e
      cases r2
      cases r1 with
      | tup ha q1 =>
      refine .inr (.inr (.inl ⟨_, _, _, rfl, rfl, ha, fun z => ?_, of_decide_eq_true h2, of_decide_eq_true h3, by rw [← q1.length]; exact of_decide_eq_true h4, fun p hp => k.asT m (q1.rep _) hp⟩))
      subst z
      cases q1
      simp at h1
    · cases e
  · split at e
    · rename_i xs h1
      split at e
      · rename_i hz
        rw [Bool.and_eq_true, Bool.and_eq_true] at hz
        cases e
        cases r2
        obtain ⟨a, vs, rfl, ha, q1⟩ := itemsW_sq m r1 h1
        exact .inr (.inr (.inr ⟨_, _, _, rfl, rfl, ha, of_decide_eq_true hz.1.1, of_decide_eq_true hz.1.2, by rw [← q1.length]; exact of_decide_eq_true hz.2, fun p hp => k.asL m (q1.rep _) hp⟩))
      · cases e
    · cases e
  · cases e
/-! ### comparisons -/
def rC (K : PySem.W.Frag) (f : Mem → PV → PV → Option Bool) : R2 := rB K false fun M v w => (f M v w).map .bl
theorem rC_get {f : Mem → PV → PV → Option Bool} {K : PySem.W.Frag} {x y : V} {H : Hp} {Q : VK} (h : rC K f x y H Q) : ∃ φ M v w b, RM K φ H M ∧ Rp K φ H v x ∧ Rp K φ H w y ∧ f M v w = some b ∧ Q (.bl b) H := by
  obtain ⟨φ, M, v, w, z, m, r1, r2, e, k⟩ := h
  cases e1 : f M v w with
  | none => simp only [e1] at e; cases e
  | some b =>
    simp only [e1] at e
    cases e
    exact ⟨φ, M, v, w, b, m, r1, r2, e1, k.here m (.bl b)⟩
theorem o_cmpI {op : CmpOp} {p : Int → Int → Bool} (h : OpR X (compareOp op) (rI0 fun i j => .bl (p i j))) : OpR X (compareOp op) (rC X.K fun _ => cmpI p) := by
  refine OpR.imp h fun x y H Q h => ?_
  obtain ⟨φ, M, v, w, b, m, r1, r2, e, k⟩ := rC_get h
  unfold cmpI at e
  split at e
  · cases e; cases r1; cases r2
    exact ⟨_, _, rfl, rfl, k⟩
  · cases e
theorem o_lt : OpR X (compareOp .Lt) (rC X.K fun M => cmpop M .lt) := o_cmpI op_lt
theorem o_le : OpR X (compareOp .LtE) (rC X.K fun M => cmpop M .le) := o_cmpI op_le
theorem o_gt : OpR X (compareOp .Gt) (rC X.K fun M => cmpop M .gt) := o_cmpI op_gt
theorem o_ge : OpR X (compareOp .GtE) (rC X.K fun M => cmpop M .ge) := o_cmpI op_ge
theorem eqD_get {K : PySem.W.Frag} {φ : Ph} {H : Hp} {M : Mem} {v w : PV} {x y : V} {b : Bool} (m : RM K φ H M) (r1 : Rp K φ H v x) (r2 : Rp K φ H w y) (e : eqD M v w = some b) :
    ∃ d f, Dp K H x d ∧ Dp K H y f ∧ SeqAt.shaped d = true ∧ SeqAt.shaped f = true ∧ PyData.eqv d f = b := by
  unfold eqD at e
  split at e
  · rename_i d f h1 h2
    split at e
    · rename_i hz
      rw [Bool.and_eq_true] at hz
      cases e
      exact ⟨d, f, toDM_dp m r1 h1, toDM_dp m r2 h2, hz.1, hz.2, rfl⟩
    · cases e
  · cases e
theorem o_eq (hu : X.A.units + 64 < cLine) : OpR X (compareOp .Eq) (rC X.K fun M => cmpop M .eq) := by
  refine OpR.imp (op_eqD hu) fun x y H Q h => ?_
  obtain ⟨φ, M, v, w, b, m, r1, r2, e, k⟩ := rC_get h
  obtain ⟨d, f, h1, h2, h3, h4, e⟩ := eqD_get m r1 r2 e
  subst e
  exact ⟨d, f, h1, h2, h3, h4, k⟩
theorem o_ne (hu : X.A.units + 64 < cLine) : OpR X (compareOp .NotEq) (rC X.K fun M => cmpop M .ne) := by
  refine OpR.imp (op_neD hu) fun x y H Q h => ?_
  obtain ⟨φ, M, v, w, b, m, r1, r2, e, k⟩ := rC_get h
  change (eqD M v w).map (!·) = some b at e
  cases e1 : eqD M v w with
  | none => rw [e1] at e; cases e
  | some b1 =>
    rw [e1] at e
    cases e
    obtain ⟨d, f, h1, h2, h3, h4, e⟩ := eqD_get m r1 r2 e1
    subst e
    exact ⟨d, f, h1, h2, h3, h4, k⟩
theorem isNon_eq {K : PySem.W.Frag} {φ : Ph} {H : Hp} {v : PV} {x : V} (r : Rp K φ H v x) : isNon v = decide (x = .non) := by
  cases r <;> rfl
theorem isOp_get {K : PySem.W.Frag} {φ : Ph} {H : Hp} {v w : PV} {x y : V} {b : Bool} (r1 : Rp K φ H v x) (r2 : Rp K φ H w y) (e : isOp v w = some b) :
    (y = .non ∧ b = decide (x = .non)) ∨ ∃ p q : Bool, x = .bl p ∧ y = .bl q ∧ b = decide (p = q) := by
  unfold isOp at e
  split at e
  · cases e; cases r2; exact .inl ⟨rfl, isNon_eq r1⟩
  · cases e; cases r1; cases r2; exact .inr ⟨_, _, rfl, rfl, rfl⟩
  · cases e
theorem o_is : OpR X (compareOp .Is) (rC X.K fun M => cmpop M .is) := by
  refine OpR.imp (orR op_isN op_isBl) fun x y H Q h => ?_
  obtain ⟨φ, M, v, w, b, m, r1, r2, e, k⟩ := rC_get h
  rcases isOp_get r1 r2 e with ⟨h1, rfl⟩ | ⟨p, q, h1, h2, rfl⟩
  · exact .inl ⟨h1, k⟩
  · exact .inr ⟨p, q, h1, h2, k⟩
theorem o_isn : OpR X (compareOp .IsNot) (rC X.K fun M => cmpop M .isn) := by
  refine OpR.imp (orR op_notN op_notBl) fun x y H Q h => ?_
  obtain ⟨φ, M, v, w, b, m, r1, r2, e, k⟩ := rC_get h
  change (isOp v w).map (!·) = some b at e
  cases e1 : isOp v w with
  | none => rw [e1] at e; cases e
  | some b1 =>
    rw [e1] at e
    cases e
    rcases isOp_get r1 r2 e1 with ⟨h1, rfl⟩ | ⟨p, q, h1, h2, rfl⟩
    · exact .inl ⟨h1, k⟩
    · exact .inr ⟨p, q, h1, h2, k⟩
theorem flat_pv {K : PySem.W.Frag} {φ : Ph} {H : Hp} {v : PV} {x : V} (r : Rp K φ H v x) (h : flatP v = true) : x = pvToV v := by
  cases r <;> first | rfl | cases h
theorem flat_pvs {K : PySem.W.Frag} {φ : Ph} {H : Hp} : ∀ {v : List PV} {x : List V}, Rps K φ H v x → v.all flatP = true → x = v.map pvToV
  | _, _, .nil, _ => rfl
  | _, _, .cons h r, e => by
    rw [List.all_cons, Bool.and_eq_true] at e
    rw [List.map_cons, flat_pv h e.1, flat_pvs r e.2]
theorem inOp_get {K : PySem.W.Frag} {φ : Ph} {H : Hp} {M : Mem} {v w : PV} {x y : V} {b : Bool} (m : RM K φ H M) (r1 : Rp K φ H v x) (r2 : Rp K φ H w y) (e : inOp M v w = some b) :
    ∃ p xs, y = .ref p ∧ (SqL K H p xs ∨ SqT K H p xs) ∧ flatV x = true ∧ xs.all flatV = true ∧ b = inV x xs := by
  unfold inOp at e
  split at e
  · rename_i xs h1
    split at e
    · rename_i hz
      cases e
      rw [Bool.and_eq_true, Bool.and_eq_true, Bool.and_eq_true] at hz
      obtain ⟨⟨h3, h4⟩, h5, h6⟩ := hz
      obtain ⟨a, vs, rfl, h7, h8⟩ := itemsT_sq m r2 h1
      have e1 := flat_pv r1 h3
      have e2 := flat_pvs h8 h4
      subst e1 e2
      exact ⟨a, _, rfl, h7, h5, h6, rfl⟩
    · cases e
  · cases e
theorem o_in : OpR X (compareOp .In) (rC X.K fun M => cmpop M .isin) := by
  refine OpR.imp op_in_seq fun x y H Q h => ?_
  obtain ⟨φ, M, v, w, b, m, r1, r2, e, k⟩ := rC_get h
  obtain ⟨p, xs, h1, h2, h3, h4, rfl⟩ := inOp_get m r1 r2 e
  exact ⟨p, xs, h1, h2, h3, h4, k⟩
theorem o_nin : OpR X (compareOp .NotIn) (rC X.K fun M => cmpop M .notin) := by
  refine OpR.imp op_notIn_seq fun x y H Q h => ?_
  obtain ⟨φ, M, v, w, b, m, r1, r2, e, k⟩ := rC_get h
  change (inOp M v w).map (!·) = some b at e
  cases e1 : inOp M v w with
  | none => rw [e1] at e; cases e
  | some b1 =>
    rw [e1] at e
    cases e
    obtain ⟨p, xs, h1, h2, h3, h4, rfl⟩ := inOp_get m r1 r2 e1
    exact ⟨p, xs, h1, h2, h3, h4, k⟩
end
end Ev

/-! Expressions: each construct's reading is the interpreter's. -/
namespace Ev
open PySem PySem.Spec PyProof.Rows L2
abbrev Cl := Nat → List PV → Mem → Option (PV × Mem)
section
variable (K : PySem.W.Frag) (call : Cl)
def tI (m : E) : TE := fun σ H Q => ∃ φ M env v M', RM K φ H M ∧ RE K φ H env σ ∧ Ev.eval call m env M = some (v, M') ∧ Pst K φ H M' v Q
def tIs (m : Es) : TA := fun σ H Q => ∃ φ M env vs M', RM K φ H M ∧ RE K φ H env σ ∧ Ev.evals call m env M = some (vs, M') ∧ ∀ φ' H' us, Xt φ H φ' H' → RM K φ' H' M' → Rps K φ' H' vs us → Q us H'
/-- as a test -/
def tT (m : E) : TT := fun σ H Q => ∃ φ M env v M' b, RM K φ H M ∧ RE K φ H env σ ∧ Ev.eval call m env M = some (v, M') ∧ truthy M' v = some b ∧ ∀ φ' H', Xt φ H φ' H' → RM K φ' H' M' → Q b H'
end
theorem _root_.L2.PE.imp {X : Cx} {e : Expr} {t t' : TE} (h : PE X e t) (k : ∀ σ H Q, t' σ H Q → t σ H Q) : PE X e t' := ⟨fun pins s σ H Q I q => h.run pins s σ H Q I (k _ _ _ q)⟩
theorem _root_.L2.PT.imp {X : Cx} {e : Expr} {t t' : TT} (h : PT X e t) (k : ∀ σ H Q, t' σ H Q → t σ H Q) : PT X e t' := ⟨fun pins s σ H Q I q => h.run pins s σ H Q I (k _ _ _ q)⟩
theorem _root_.L2.PW.imp {X : Cx} {e : Expr} {t t' : TT} (h : PW X e t) (k : ∀ σ H Q, t' σ H Q → t σ H Q) : PW X e t' := ⟨fun wh pins s σ H Q I q => h.run wh pins s σ H Q I (k _ _ _ q)⟩
theorem _root_.L2.PA.imp {X : Cx} {e : List Expr} {t t' : TA} (h : PA X e t) (k : ∀ σ H Q, t' σ H Q → t σ H Q) : PA X e t' := ⟨fun pos pins s σ H Q I q => h.run pos pins s σ H Q I (k _ _ _ q)⟩
section
variable {K : PySem.W.Frag} {call : Cl} {φ φ' φ1 : Ph} {H H' H1 : Hp} {M M' M1 : Mem} {env : Env} {σ : L2.St}
theorem Pst.mono {z : PV} {Q : VK} (x : Xt φ H φ1 H1) (k : Pst K φ H M z Q) : Pst K φ1 H1 M z Q := fun φ' H' u y => k φ' H' u (x.trans y)
/-- one part is run, then the rest -/
theorem tI.then_ {a : E} {v : PV} {Q : VK} (m : RM K φ H M) (r : RE K φ H env σ) (e : Ev.eval call a env M = some (v, M1))
    (k : ∀ φ1 H1 u, Xt φ H φ1 H1 → RM K φ1 H1 M1 → RE K φ1 H1 env σ → Rp K φ1 H1 v u → Q u H1) : tI K call a σ H Q :=
  ⟨φ, M, env, v, M1, m, r, e, fun φ' H' u x m' q => k φ' H' u x m' (r.mono x) q⟩
theorem tIs.then_ {a : Es} {v : List PV} {Q : List V → Hp → Prop} (m : RM K φ H M) (r : RE K φ H env σ) (e : Ev.evals call a env M = some (v, M1))
    (k : ∀ φ1 H1 u, Xt φ H φ1 H1 → RM K φ1 H1 M1 → RE K φ1 H1 env σ → Rps K φ1 H1 v u → Q u H1) : tIs K call a σ H Q :=
  ⟨φ, M, env, v, M1, m, r, e, fun φ' H' u x m' q => k φ' H' u x m' (r.mono x) q⟩
theorem tT.then_ {a : E} {v : PV} {b : Bool} {Q : Bool → Hp → Prop} (m : RM K φ H M) (r : RE K φ H env σ) (e : Ev.eval call a env M = some (v, M1)) (t : truthy M1 v = some b)
    (k : ∀ φ1 H1, Xt φ H φ1 H1 → RM K φ1 H1 M1 → RE K φ1 H1 env σ → Q b H1) : tT K call a σ H Q :=
  ⟨φ, M, env, v, M1, b, m, r, e, t, fun φ' H' x m' => k φ' H' x m' (r.mono x)⟩
/-- how an evaluation in two steps comes apart -/
theorem bindE {α β : Type} {x : Option (α × Mem)} {f : α → Mem → Option β} {y : β} (h : bnd x f = some y) : ∃ a, x = some a ∧ f a.1 a.2 = some y := by
  cases x with
  | none => cases h
  | some a => exact ⟨a, rfl, h⟩
theorem ifE {β : Type} {b : Bool} {x : Option β} {y : β} (h : iff_ b x = some y) : b = true ∧ x = some y := by
  cases b with
  | true => exact ⟨rfl, h⟩
  | false => cases h
theorem bifE {β : Type} {b : Option Bool} {x z : Option β} {y : β} (h : bifb b x z = some y) : (b = some true ∧ x = some y) ∨ (b = some false ∧ z = some y) := by
  cases b with
  | none => cases h
  | some b =>
    cases b with
    | true => exact .inl ⟨rfl, h⟩
    | false => exact .inr ⟨rfl, h⟩
theorem mapE {α β : Type} {x : Option α} {f : α → β} {y : β} (h : x.map f = some y) : ∃ a, x = some a ∧ f a = y := by
  cases x with
  | none => cases h
  | some a => exact ⟨a, rfl, Option.some.inj h⟩
end
section
variable {X : Cx} {call : Cl} {a b c : Expr} {ma mb mc : E} {pos : Pos}
theorem i_var {x : Str} (i : Nat) (hN : X.N[i]? = some x := by rfl) (hv : Vis X.env.scope x := by first | exact Or.inl rfl | exact Or.inr (Or.inl rfl) | exact Or.inr (Or.inr rfl)) (hd : (x == ("__debug__" : Str)) = false := by decide)
    (hcd : (x == ("__classdict__" : Str)) = false := by decide) : PE X (.Name x pos) (tI X.K call (.var i)) :=
  (pe_var hN hv hd hcd).imp fun σ H Q ⟨φ, M, env, v, M', m, r, e, k⟩ => by
    unfold Ev.eval at e
    split at e
    · rename_i w h
      cases e
      obtain ⟨u, h1, h2⟩ := r.at_ i _ h
      exact ⟨u, h1, k.here m h2⟩
    · cases e
theorem cst_of {v : PV} {t : TE} {e : Expr} (h : PE X e t) (k : ∀ σ H Q φ M, RM X.K φ H M → Pst X.K φ H M v Q → t σ H Q) : PE X e (tI X.K call (.cst v)) :=
  h.imp fun σ H Q ⟨φ, M, env, w, M', m, r, e, q⟩ => by
    unfold Ev.eval at e
    cases e
    exact k σ H Q φ M m q
theorem i_int {i : Int} {j} : PE X (.Constant (.int i) j pos) (tI X.K call (.cst (.int i))) := cst_of pe_int fun _ _ _ _ _ m k => k.here m (.int i)
theorem i_bl {b : Bool} {j} : PE X (.Constant (.bool b) j pos) (tI X.K call (.cst (.bl b))) := cst_of pe_bl fun _ _ _ _ _ m k => k.here m (.bl b)
theorem i_non {j} : PE X (.Constant .none j pos) (tI X.K call (.cst .non)) := cst_of pe_non fun _ _ _ _ _ m k => k.here m .non
theorem i_str {x : Str} {j} : PE X (.Constant (.str x) j pos) (tI X.K call (.cst (.str x))) := cst_of pe_str fun _ _ _ _ _ m k => k.here m (.str x)
/-- a module's constant -/
def Con (K : PySem.W.Frag) (v : PV) (u : V) : Prop := ∀ φ H, Rp K φ H v u
theorem i_glob {x : Str} {v : PV} {z : V} {u : Value} (hg : Gl X x) (hm : X.mg x = some u) (r : RelV z u) (c : Con X.K v z) (hd : (x == ("__debug__" : Str)) = false := by decide) : PE X (.Name x pos) (tI X.K call (.cst v)) :=
  cst_of (pe_glob hg hm r hd) fun _ _ _ _ _ m k => k.here m (c _ _)
theorem i_bin {op : Operator} {o : Bop} (g : Bool) (ho : OpR X (binaryOp op) (rB X.K g fun M => binop M o)) (ha : PE X a (tI X.K call ma)) (hb : PE X b (tI X.K call mb)) : PE X (.BinOp a op b pos) (tI X.K call (.bin o g ma mb)) :=
  (pe_op ho ha hb).imp fun σ H Q ⟨φ, M, env, v, M', m, r, e, k⟩ => by
    unfold Ev.eval at e
    obtain ⟨⟨x, M1⟩, e1, e⟩ := bindE e
    obtain ⟨⟨y, M2⟩, e2, e⟩ := bindE e
    obtain ⟨z, e3, e⟩ := mapE e
    refine tI.then_ m r e1 fun φ1 H1 u x1 m1 r1 q1 => tI.then_ m1 r1 e2 fun φ2 H2 w x2 m2 r2 q2 => ?_
    refine ⟨φ2, M2, x, y, z, m2, q1.mono x2, q2, e3, ?_⟩
    simp only at e
    rw [e]
    exact k.mono (x1.trans x2)
theorem i_neg (ha : PE X a (tI X.K call ma)) : PE X (.UnaryOp .USub a pos) (tI X.K call (.neg ma)) :=
  (pe_un un_neg ha).imp fun σ H Q ⟨φ, M, env, v, M', m, r, e, k⟩ => by
    unfold Ev.eval at e
    obtain ⟨⟨x, M1⟩, e1, e⟩ := bindE e
    simp only at e
    split at e
    · rename_i i
      cases e
      refine tI.then_ m r e1 fun φ1 H1 u x1 m1 r1 q1 => ?_
      cases q1
      exact ⟨i, rfl, k _ _ _ x1 m1 (.int _)⟩
    · cases e
/-! ### tests -/
theorem t_of (ha : PE X a (tI X.K call ma)) (he : ∀ whole, isTrue a X.env whole = (do let v ← whole; standAt a.pos; holding [v] (PySem.truthy v)) := by intro _; rfl) : PT X a (tT X.K call ma) :=
  (pt_truth ha he).imp fun σ H Q ⟨φ, M, env, v, M', b, m, r, e, t, k⟩ =>
    tI.then_ m r e fun φ1 H1 u x1 m1 r1 q1 => ⟨b, truthy_tru m1 q1 t, k _ _ x1 m1⟩
theorem t_not (ha : PT X a (tT X.K call ma)) : PT X (.UnaryOp .Not a pos) (tT X.K call (.not ma)) :=
  (pt_not ha).imp fun σ H Q ⟨φ, M, env, v, M', b, m, r, e, t, k⟩ => by
    unfold Ev.eval at e
    obtain ⟨⟨x, M1⟩, e1, e⟩ := bindE e
    obtain ⟨c, e2, e⟩ := mapE e
    cases e
    cases t
    exact tT.then_ m r e1 e2 fun φ1 H1 x1 m1 r1 => k _ _ x1 m1
theorem i_not (ha : PE X a (tI X.K call ma)) : PE X (.UnaryOp .Not a pos) (tI X.K call (.not ma)) :=
  (pe_notT ha).imp fun σ H Q ⟨φ, M, env, v, M', m, r, e, k⟩ => by
    unfold Ev.eval at e
    obtain ⟨⟨x, M1⟩, e1, e⟩ := bindE e
    obtain ⟨c, e2, e⟩ := mapE e
    cases e
    exact tI.then_ m r e1 fun φ1 H1 u x1 m1 r1 q1 => ⟨c, truthy_tru m1 q1 e2, k _ _ _ x1 m1 (.bl _)⟩
theorem i_and {rest : List Expr} (ha : PE X a (tI X.K call ma)) (hb : PE X (.BoolOp .And (b :: rest) pos) (tI X.K call mb)) : PE X (.BoolOp .And (a :: b :: rest) pos) (tI X.K call (.and ma mb)) :=
  (pe_andT ha hb).imp fun σ H Q ⟨φ, M, env, v, M', m, r, e, k⟩ => by
    unfold Ev.eval at e
    obtain ⟨⟨x, M1⟩, e1, e⟩ := bindE e
    refine tI.then_ m r e1 fun φ1 H1 u x1 m1 r1 q1 => ?_
    rcases bifE e with ⟨t, e⟩ | ⟨t, e⟩
    · exact ⟨true, truthy_tru m1 q1 t, by rw [if_pos rfl]; exact tI.then_ m1 r1 e fun φ2 H2 w x2 m2 r2 q2 => k _ _ _ (x1.trans x2) m2 q2⟩
    · cases e
      exact ⟨false, truthy_tru m1 q1 t, by rw [if_neg Bool.false_ne_true]; exact k _ _ _ x1 m1 q1⟩
theorem i_or {rest : List Expr} (ha : PE X a (tI X.K call ma)) (hb : PE X (.BoolOp .Or (b :: rest) pos) (tI X.K call mb)) : PE X (.BoolOp .Or (a :: b :: rest) pos) (tI X.K call (.or ma mb)) :=
  (pe_orT ha hb).imp fun σ H Q ⟨φ, M, env, v, M', m, r, e, k⟩ => by
    unfold Ev.eval at e
    obtain ⟨⟨x, M1⟩, e1, e⟩ := bindE e
    refine tI.then_ m r e1 fun φ1 H1 u x1 m1 r1 q1 => ?_
    rcases bifE e with ⟨t, e⟩ | ⟨t, e⟩
    · cases e
      exact ⟨true, truthy_tru m1 q1 t, by rw [if_pos rfl]; exact k _ _ _ x1 m1 q1⟩
    · exact ⟨false, truthy_tru m1 q1 t, by rw [if_neg Bool.false_ne_true]; exact tI.then_ m1 r1 e fun φ2 H2 w x2 m2 r2 q2 => k _ _ _ (x1.trans x2) m2 q2⟩
theorem i_one {op} (ha : PE X a (tI X.K call ma)) : PE X (.BoolOp op [a] pos) (tI X.K call ma) := pe_one ha
theorem w_and1 (ha : PT X a (tT X.K call ma)) : PW X (.BoolOp .And [a] pos) (tT X.K call ma) := pw_and1 ha
theorem w_or1 (ha : PT X a (tT X.K call ma)) : PW X (.BoolOp .Or [a] pos) (tT X.K call ma) := pw_or1 ha
theorem w_and {rest : List Expr} (ha : PT X a (tT X.K call ma)) (hb : PW X (.BoolOp .And (b :: rest) pos) (tT X.K call mb)) : PW X (.BoolOp .And (a :: b :: rest) pos) (tT X.K call (.and ma mb)) :=
  (pw_and ha hb).imp fun σ H Q ⟨φ, M, env, v, M', d, m, r, e, t, k⟩ => by
    unfold Ev.eval at e
    obtain ⟨⟨x, M1⟩, e1, e⟩ := bindE e
    rcases bifE e with ⟨t1, e⟩ | ⟨t1, e⟩
    · exact tT.then_ m r e1 t1 fun φ1 H1 x1 m1 r1 => by rw [if_pos rfl]; exact tT.then_ m1 r1 e t fun φ2 H2 x2 m2 r2 => k _ _ (x1.trans x2) m2
    · cases e
      rw [t1] at t
      cases t
      exact tT.then_ m r e1 t1 fun φ1 H1 x1 m1 r1 => by rw [if_neg Bool.false_ne_true]; exact k _ _ x1 m1
theorem w_or {rest : List Expr} (ha : PT X a (tT X.K call ma)) (hb : PW X (.BoolOp .Or (b :: rest) pos) (tT X.K call mb)) : PW X (.BoolOp .Or (a :: b :: rest) pos) (tT X.K call (.or ma mb)) :=
  (pw_or ha hb).imp fun σ H Q ⟨φ, M, env, v, M', d, m, r, e, t, k⟩ => by
    unfold Ev.eval at e
    obtain ⟨⟨x, M1⟩, e1, e⟩ := bindE e
    rcases bifE e with ⟨t1, e⟩ | ⟨t1, e⟩
    · cases e
      rw [t1] at t
      cases t
      exact tT.then_ m r e1 t1 fun φ1 H1 x1 m1 r1 => by rw [if_pos rfl]; exact k _ _ x1 m1
    · exact tT.then_ m r e1 t1 fun φ1 H1 x1 m1 r1 => by rw [if_neg Bool.false_ne_true]; exact tT.then_ m1 r1 e t fun φ2 H2 x2 m2 r2 => k _ _ (x1.trans x2) m2
theorem t_w (h : PW X a (tT X.K call ma)) : PT X a (tT X.K call ma) := h.pt
theorem cmp_rd {o : Cm} {σ : L2.St} {H : Hp} {Q : VK} (h : tI X.K call (.cmp o ma mb) σ H Q) : tOp (rC X.K fun M => cmpop M o) (tI X.K call ma) (tI X.K call mb) σ H Q := by
  obtain ⟨φ, M, env, v, M', m, r, e, k⟩ := h
  unfold Ev.eval at e
  obtain ⟨⟨x, M1⟩, e1, e⟩ := bindE e
  obtain ⟨⟨y, M2⟩, e2, e⟩ := bindE e
  obtain ⟨z, e3, e⟩ := mapE e
  cases e
  refine tI.then_ m r e1 fun φ1 H1 u x1 m1 r1 q1 => tI.then_ m1 r1 e2 fun φ2 H2 w x2 m2 r2 q2 => ?_
  exact ⟨φ2, M2, x, y, .bl z, m2, q1.mono x2, q2, by simp only [e3]; rfl, k.mono (x1.trans x2)⟩
theorem i_cmp {op : CmpOp} {o : Cm} (ho : OpR X (compareOp op) (rC X.K fun M => cmpop M o)) (ha : PE X a (tI X.K call ma)) (hb : PE X b (tI X.K call mb)) (hm : behindInMarks op b = false) :
    PE X (.Compare a [op] [b] pos) (tI X.K call (.cmp o ma mb)) :=
  (pe_cmpR ho ha hb hm).imp fun σ H Q h => cmp_rd h
theorem cmp_bl {o : Cm} {env : Env} {M M' : Mem} {v : PV} (e : Ev.eval call (.cmp o ma mb) env M = some (v, M')) : ∃ z, v = .bl z := by
  unfold Ev.eval at e
  obtain ⟨⟨x, M1⟩, e1, e⟩ := bindE e
  obtain ⟨⟨y, M2⟩, e2, e⟩ := bindE e
  obtain ⟨z, e3, e⟩ := mapE e
  cases e
  exact ⟨z, rfl⟩
theorem t_cmp {op : CmpOp} {o : Cm} (ho : OpR X (compareOp op) (rC X.K fun M => cmpop M o)) (ha : PE X a (tI X.K call ma)) (hb : PE X b (tI X.K call mb)) (hm : behindInMarks op b = false) :
    PT X (.Compare a [op] [b] pos) (tT X.K call (.cmp o ma mb)) :=
  (pt_cmpR ho ha hb hm).imp fun σ H Q ⟨φ, M, env, v, M', d, m, r, e, t, k⟩ => by
    obtain ⟨z, rfl⟩ := cmp_bl e
    obtain rfl : z = d := Option.some.inj t
    refine cmp_rd ⟨φ, M, env, .bl z, M', m, r, e, fun φ' H' u x m' q => ?_⟩
    cases q
    exact ⟨z, rfl, k _ _ x m'⟩
theorem chn_rd {o o' : Cm} {σ : L2.St} {H : Hp} {Q : VK} (h : tI X.K call (.chn o o' ma mb mc) σ H Q) :
    tChain (rC X.K fun M => cmpop M o) (rC X.K fun M => cmpop M o') (tI X.K call ma) (tI X.K call mb) (tI X.K call mc) σ H Q := by
  obtain ⟨φ, M, env, v, M', m, r, e, k⟩ := h
  unfold Ev.eval at e
  obtain ⟨⟨x, M1⟩, e1, e⟩ := bindE e
  obtain ⟨⟨y, M2⟩, e2, e⟩ := bindE e
  refine tI.then_ m r e1 fun φ1 H1 u x1 m1 r1 q1 => tI.then_ m1 r1 e2 fun φ2 H2 w x2 m2 r2 q2 => ?_
  rcases bifE e with ⟨e3, e⟩ | ⟨e3, e⟩
  · obtain ⟨⟨z, M3⟩, e4, e⟩ := bindE e
    obtain ⟨t, e5, e⟩ := mapE e
    cases e
    refine ⟨φ2, M2, x, y, .bl true, m2, q1.mono x2, q2, by simp only [e3]; rfl, fun φ3 H3 u3 x3 m3 q3 => ?_⟩
    cases q3
    refine ⟨true, rfl, ?_⟩
    rw [if_pos rfl]
    refine tI.then_ m3 (r2.mono x3) e4 fun φ4 H4 w4 x4 m4 r4 q4 => ?_
    exact ⟨φ4, M3, y, z, .bl t, m4, q2.mono (x3.trans x4), q4, by simp only [e5]; rfl, k.mono (x1.trans (x2.trans (x3.trans x4)))⟩
  · cases e
    refine ⟨φ2, M2, x, y, .bl false, m2, q1.mono x2, q2, by simp only [e3]; rfl, fun φ3 H3 u3 x3 m3 q3 => ?_⟩
    cases q3
    refine ⟨false, rfl, ?_⟩
    rw [if_neg Bool.false_ne_true]
    exact k _ _ _ (x1.trans (x2.trans x3)) m3 (.bl false)
theorem i_chn {op op' : CmpOp} {o o' : Cm} (ho : OpR X (compareOp op) (rC X.K fun M => cmpop M o)) (ho' : OpR X (compareOp op') (rC X.K fun M => cmpop M o')) (ha : PE X a (tI X.K call ma)) (hb : PE X b (tI X.K call mb)) (hc : PE X c (tI X.K call mc))
    (hm : lastMarks [op, op'] [b, c] = false := by with_unfolding_all rfl) : PE X (.Compare a [op, op'] [b, c] pos) (tI X.K call (.chn o o' ma mb mc)) :=
  (pe_chain ho ho' ha hb hc hm).imp fun σ H Q h => chn_rd h
theorem chn_bl {o o' : Cm} {env : Env} {M M' : Mem} {v : PV} (e : Ev.eval call (.chn o o' ma mb mc) env M = some (v, M')) : ∃ z, v = .bl z := by
  unfold Ev.eval at e
  obtain ⟨⟨x, M1⟩, e1, e⟩ := bindE e
  obtain ⟨⟨y, M2⟩, e2, e⟩ := bindE e
  rcases bifE e with ⟨e3, e⟩ | ⟨e3, e⟩
  · obtain ⟨⟨z, M3⟩, e4, e⟩ := bindE e
    obtain ⟨t, e5, e⟩ := mapE e
    cases e
    exact ⟨t, rfl⟩
  · cases e; exact ⟨false, rfl⟩
theorem t_chn {op op' : CmpOp} {o o' : Cm} (ho : OpR X (compareOp op) (rC X.K fun M => cmpop M o)) (ho' : OpR X (compareOp op') (rC X.K fun M => cmpop M o')) (ha : PE X a (tI X.K call ma)) (hb : PE X b (tI X.K call mb)) (hc : PE X c (tI X.K call mc))
    (hm : lastMarks [op, op'] [b, c] = false := by with_unfolding_all rfl) : PT X (.Compare a [op, op'] [b, c] pos) (tT X.K call (.chn o o' ma mb mc)) :=
  (pt_chain ho ho' ha hb hc hm).imp fun σ H Q ⟨φ, M, env, v, M', d, m, r, e, t, k⟩ => by
    obtain ⟨z, rfl⟩ := chn_bl e
    obtain rfl : z = d := Option.some.inj t
    refine chn_rd ⟨φ, M, env, .bl z, M', m, r, e, fun φ' H' u x m' q => ?_⟩
    cases q
    exact ⟨z, rfl, k _ _ x m'⟩
theorem i_ite (hc : PT X c (tT X.K call mc)) (ha : PE X a (tI X.K call ma)) (hb : PE X b (tI X.K call mb)) : PE X (.IfExp c a b pos) (tI X.K call (.ite mc ma mb)) :=
  (pe_ifExp hc ha hb).imp fun σ H Q ⟨φ, M, env, v, M', m, r, e, k⟩ => by
    unfold Ev.eval at e
    obtain ⟨⟨x, M1⟩, e1, e⟩ := bindE e
    rcases bifE e with ⟨t1, e⟩ | ⟨t1, e⟩
    · exact tT.then_ m r e1 t1 fun φ1 H1 x1 m1 r1 => by rw [if_pos rfl]; exact tI.then_ m1 r1 e fun φ2 H2 w x2 m2 r2 q2 => k _ _ _ (x1.trans x2) m2 q2
    · exact tT.then_ m r e1 t1 fun φ1 H1 x1 m1 r1 => by rw [if_neg Bool.false_ne_true]; exact tI.then_ m1 r1 e fun φ2 H2 w x2 m2 r2 q2 => k _ _ _ (x1.trans x2) m2 q2
/-! ### lists of expressions, displays -/
theorem is_nil : PA X [] (tIs X.K call .nil) := pa_nil.imp fun σ H Q ⟨φ, M, env, vs, M', m, r, e, k⟩ => by
  unfold Ev.evals at e
  cases e
  exact k _ _ _ .refl m .nil
theorem is_cons {es : List Expr} {ms : Es} (ha : PE X a (tI X.K call ma)) (hr : PA X es (tIs X.K call ms)) (hs : starEach (a :: es) X.env = (false, PySem.eval a X.env) :: starEach es X.env := by rfl) : PA X (a :: es) (tIs X.K call (.cons ma ms)) :=
  (pa_cons ha hr hs).imp fun σ H Q ⟨φ, M, env, vs, M', m, r, e, k⟩ => by
    unfold Ev.evals at e
    obtain ⟨⟨x, M1⟩, e1, e⟩ := bindE e
    obtain ⟨⟨y, M2⟩, e2, e⟩ := bindE e
    cases e
    refine tI.then_ m r e1 fun φ1 H1 u x1 m1 r1 q1 => tIs.then_ m1 r1 e2 fun φ2 H2 w x2 m2 r2 q2 => ?_
    exact k _ _ _ (x1.trans x2) m2 (.cons (q1.mono x2) q2)
theorem i_tup {es : List Expr} {ms : Es} {x1} (h : PA X es (tIs X.K call ms)) : PE X (.Tuple es x1 pos) (tI X.K call (.tup ms)) :=
  (pe_tup h).imp fun σ H Q ⟨φ, M, env, v, M', m, r, e, k⟩ => by
    unfold Ev.eval at e
    obtain ⟨⟨vs, M1⟩, e1, e⟩ := bindE e
    obtain ⟨hz, e⟩ := ifE e
    have hz := of_decide_eq_true hz
    cases e
    refine tIs.then_ m r e1 fun φ1 H1 u x1 m1 r1 q1 => ⟨by rw [← q1.length]; exact hz, fun p hp => ?_⟩
    exact (k.mono x1).tup m1 q1 hp
theorem i_lst {es : List Expr} {ms : Es} (b : Bool) (h : PA X es (tIs X.K call ms)) : PE X (.List es pos) (tI X.K call (.lst b ms)) :=
  (pe_lst h).imp fun σ H Q ⟨φ, M, env, v, M', m, r, e, k⟩ => by
    unfold Ev.eval at e
    obtain ⟨⟨vs, M1⟩, e1, e⟩ := bindE e
    obtain ⟨hz, e⟩ := ifE e
    have hz := of_decide_eq_true hz
    have e := Option.some.inj e
    refine tIs.then_ m r e1 fun φ1 H1 u x1 m1 r1 q1 => ⟨by rw [← q1.length]; exact hz, fun p hp => ?_⟩
    have k1 : Pst X.K φ1 H1 (newL b vs M1).2 (newL b vs M1).1 Q := by rw [e]; exact k.mono x1
    exact k1.newL m1 q1 hp
end
end Ev

/-! Subscripts, slices, calls, built-ins, targets, what a for walks. -/
namespace Ev
open PySem PySem.Spec PyProof.Rows L2
section
variable {prog : Program} {w : World} {A : Around} {E : Value → Shared → Prop} {s : Shared}
theorem places_back (n : Nat) : Builtin.Slice.sliceAdjust none none (-1) (n : Int) = ((n : Int) - 1, -1) := by
  unfold Builtin.Slice.sliceAdjust
  simp
theorem count_back (n : Nat) : Builtin.Slice.slicePlaces ((n : Int) - 1) (-1) (-1) = n := by
  unfold Builtin.Slice.slicePlaces
  have h1 : ¬ ((-1 : Int) > 0) := by omega
  have e : (- -1 : Int) = 1 := by decide
  simp only [h1, if_false, e, Int.ediv_one]
  split <;> omega
theorem fm_congr {α : Type} {f g : Nat → Option α} : ∀ (l : List Nat), (∀ m ∈ l, f m = g m) → l.filterMap f = l.filterMap g
  | [], _ => rfl
  | x :: xs, h => by
    rw [List.filterMap_cons, List.filterMap_cons, h x List.mem_cons_self, fm_congr xs fun m hm => h m (List.mem_cons_of_mem _ hm)]
theorem pick_back (items : Array Value) : ((List.range items.size).filterMap fun (m : Nat) => items[(((items.size : Int) - 1) + (m : Int) * (-1)).toNat]?).toArray = items.toList.reverse.toArray := by
  rw [← PySem.W.krv_pick]
  unfold PySem.slicePick
  rw [PySem.W.krv_bounds]
  show _ = ((PySem.sliceRange ((items.size : Int) - 1) (-1) (-1)).filterMap (items[·]?)).toArray
  rw [PySem.W.krv_sliceRange, List.filterMap_map]
  congr 1
  refine fm_congr _ fun m hm => ?_
  have := List.mem_range.mp hm
  have e : (((items.size : Int) - 1) + (m : Int) * (-1)).toNat = items.size - 1 - m := by omega
  rw [e]
  rfl
theorem getItem_tuple_rev {t sl : Addr} {items : Array Value} {k : Tok} {Q : Value → Shared → Prop} (ht : IsTup s.heap t items) (hs : s.heap.IsSliceOf sl .none .none (.int (-1) k))
    (h : Q (.ref s.heap.objs.size) { s with heap := s.heap.push { cls := .type "tuple", data := .seq items.toList.reverse.toArray } })
    (hsz : items.size ≤ sizeLine) : wpAny (model prog w) A (getItem (.ref t) (.ref sl)) Q E s := by
  have htake : sizeOk (.seq items.toList.reverse.toArray) := by
    show items.toList.reverse.toArray.size ≤ sizeLine
    rw [List.size_toArray, List.length_reverse, Array.length_toList]
    exact hsz
  obtain ⟨os, hos, hcs, hds⟩ := _root_.id hs
  have hTs : s.TypeIs (.ref sl) "slice" := ⟨os, hos, hcs⟩
  unfold getItem
  try with_reducible refine wpAny_holding ?_
  first | refine wpAny_bind (wpAny_pure ?_) | skip
  refine wpAny_bind (wpAny_sequenceKey ht.typeIs (by decide) ?_)
  refine wpAny_bind (wpAny_callSpecial?_slot (name := Str.ofString "__getitem__") ht.typeIs PyProof.Rows.slot_tuple_getitem
    (wpAny_call_entry PyProof.Rows.slot_tuple_getitem ht.typeIs entry_tuple_getitem ?_ (args_tuple_getitem _ _)))
  show wpAny _ _ (Builtin.Tuple.tupleItemsOf (.ref t) >>= _) _ _ s
  refine wpAny_bind (tupleItemsOf_ ht ?_)
  refine wpAny_bind (wpAny_typeOf hTs ?_)
  rw [if_pos (by decide)]
  refine wpAny_bind (m := Builtin.Slice.sliceApplied (.ref sl) (pure (items.size : Int))) ?_
  unfold Builtin.Slice.sliceApplied Builtin.Slice.sliceFields
  refine wpAny_bind (wpAny_bind (wpAny_field hos hds (x := .none) rfl (wpAny_bind (wpAny_field hos hds (x := .none) rfl (wpAny_bind (wpAny_field hos hds (x := .int (-1) k) rfl (wpAny_pure ?_)))))))
  refine wpAny_bind (slicePart_int ?_)
  show wpAny _ _ (if ((-1 : Int) == 0) = true then _ else _) _ _ s
  rw [if_neg (by decide)]
  refine wpAny_bind (HT.slicePart_ .none (wpAny_bind (HT.slicePart_ .none (wpAny_bind (wpAny_pure ?_)))))
  show wpAny _ _ (match Builtin.Slice.sliceAdjust none none (-1) (items.size : Int) with | (lo, hi) => pure (lo, (-1 : Int), Builtin.Slice.slicePlaces lo hi (-1))) _ _ s
  rw [places_back]
  show wpAny _ _ (pure (((items.size : Int) - 1), (-1 : Int), Builtin.Slice.slicePlaces ((items.size : Int) - 1) (-1) (-1))) _ _ s
  rw [count_back]
  refine wpAny_pure ?_
  show wpAny _ _ (if (((items.size : Int) - 1) == 0 && (-1 : Int) == 1 && items.size == items.size) = true then _ else _) _ _ s
  rw [if_neg (by rw [show ((-1 : Int) == 1) = false from rfl, Bool.and_false, Bool.false_and]; exact Bool.false_ne_true), pick_back]
  first
    | exact wpAny_bind (m := Builtin.Tuple.tupleExact _) (wpAny_newObj_type (wpAny_pure ⟨_, rfl, wpAny_pure h⟩) htake)
    | exact wpAny_bind (m := Builtin.Tuple.tupleExact _) (wpAny_newObj_type (wpAny_bind (wpAny_pure (wpAny_pure ⟨_, rfl, wpAny_pure h⟩))) htake)
    | exact wpAny_bind (wpAny_bind (m := Builtin.Tuple.tupleExact _) (wpAny_newObj_type (wpAny_pure (wpAny_pure ⟨_, rfl, wpAny_pure h⟩)) htake))
    | exact wpAny_bind (wpAny_bind (m := Builtin.Tuple.tupleExact _) (wpAny_newObj_type (wpAny_pure ⟨_, rfl, wpAny_pure h⟩) htake))
end
section
variable {X : Cx}
def tRevT (K : PySem.W.Frag) (te : TE) : TE := fun σ H Q => te σ H fun x H1 => ∃ a xs, x = .ref a ∧ SqT K H1 a xs ∧ ∀ p, H1 p = none → Q (.ref p) (upd H1 p (.tup xs.reverse))
theorem pe_revT {e : Expr} {te : TE} {k : Nat} {p1 p2 p3 pos : Pos} (he : PE X e te) : PE X (.Subscript e (.Slice none none (some (.UnaryOp .USub (.Constant (.int 1) k p1) p2)) p3) pos) (tRevT X.K te) := by
  refine ⟨fun pins s σ H Q I h => ?_⟩
  refine Subscript_ (thn (he.run pins s σ H _ I h) fun v s1 ⟨x, H1, I1, r1, q1⟩ => ?_)
  obtain ⟨a, xs, ex, hx, q⟩ := q1
  subst ex
  cases r1
  have hst : PO X (some (.UnaryOp .USub (.Constant (.int 1) k p1) p2)) (tPart (tUn (rU fun i => .int (-i)) (tC (.int 1)))) := po_some (pe_un un_neg pe_int)
  refine wpAny_Slice (thn (po_none.run pins s1 σ H1 (fun o H2 => o = none ∧ H2 = H1) I1 ⟨rfl, rfl⟩) fun vl s2 ⟨l, H2, I2, pl, el, e2⟩ => ?_)
  subst el e2
  refine thn (po_none.run pins s2 σ H2 (fun o H3 => o = none ∧ H3 = H2) I2 ⟨rfl, rfl⟩) fun vu s3 ⟨u, H3, I3, pu, eu, e3⟩ => ?_
  subst eu e3
  refine thn (hst.run pins s3 σ H3 (fun o H4 => o = some (-1) ∧ H4 = H3) I3 ⟨1, rfl, -1, rfl, rfl, rfl⟩) fun vs s4 ⟨o, H4, I4, ps, eo, e4⟩ => ?_
  subst eo e4
  cases pl
  cases pu
  cases ps with
  | int i tk =>
  have I5 : Inv X pins σ H4 { s4 with heap := s4.heap.push { cls := .type "slice", data := .fields #[.none, .none, .int (-1) tk] } } := I4.kept (t' := s4.toks) fun b ob q => Heap.get?_push_of_some _ q
  obtain ⟨its, r, ht, hz⟩ := I5.tuple hx
  have hlen := r.length
  show wpAny (model X.prog X.w) X.A (subscriptTail e (.Slice none none (some (.UnaryOp .USub (.Constant (.int 1) k p1) p2)) p3) (.ref a) (.ref s4.heap.objs.size)) (EP X pins σ Q) X.xe { s4 with heap := s4.heap.push { cls := .type "slice", data := .fields #[.none, .none, .int (-1) tk] } }
  refine tail_any (ops := [.ref a, .ref s4.heap.objs.size]) ht.typeIs (PyProof.Rows.slot_tuple_getitem.lookup) ?_ (by with_unfolding_all rfl)
  refine getItem_tuple_rev ht (Heap.IsSliceOf.new _ .none .none (.int (-1) tk)) ?_ (by rw [List.size_toArray]; omega)
  refine ⟨.ref _, _, I5.laid (t' := s4.toks) (o := .tup xs.reverse) (fun b ob q => Heap.get?_push_of_some _ q) (Nat.le_refl _) ?_, rfl, q _ (I5.hok.fresh (Nat.le_refl _))⟩
  exact ⟨by rw [List.length_reverse]; exact hz, _, r.reverse, IsTup.new _ _⟩
end
section
variable {X : Cx} {call : Cl} {a b c : Expr} {ma mb mc : E} {pos : Pos}
theorem revOp_get {M : Mem} {a z : PV} (e : revOp M a = some z) : (∃ xs, a = .tup xs ∧ z = .tup xs.reverse) ∨ ∃ xs, items M a = some xs ∧ z = .lst xs.reverse := by
  unfold revOp at e
  split at e
  · cases e; exact .inl ⟨_, rfl, rfl⟩
  · obtain ⟨xs, e5, e6⟩ := mapE e
    exact .inr ⟨xs, e5, e6.symm⟩
theorem i_rev {k : Nat} {p1 p2 p3 : Pos} (ha : PE X a (tI X.K call ma)) : PE X (.Subscript a (.Slice none none (some (.UnaryOp .USub (.Constant (.int 1) k p1) p2)) p3) pos) (tI X.K call (.rev ma)) := by
  refine ⟨fun pins s σ H Q I ⟨φ, M, env, v, M', m, r, e, k⟩ => ?_⟩
  unfold Ev.eval at e
  obtain ⟨⟨x, M1⟩, e1, e⟩ := bindE e
  obtain ⟨z, e2, e⟩ := mapE e
  cases e
  rcases revOp_get e2 with ⟨xs, rfl, rfl⟩ | ⟨xs, e3, rfl⟩
  · refine (pe_revT ha).run pins s σ H Q I (tI.then_ m r e1 fun φ1 H1 u x1 m1 r1 q1 => ?_)
    cases q1 with
    | tup h q =>
    exact ⟨_, _, rfl, h, fun p hp => (k.mono x1).tup m1 q.rev hp⟩
  · refine (pe_revL ha).run pins s σ H Q I (tI.then_ m r e1 fun φ1 H1 u x1 m1 r1 q1 => ?_)
    obtain ⟨a, vs, rfl, h, q⟩ := items_sq m1 q1 e3
    exact ⟨_, _, rfl, h, fun p hp => (k.mono x1).lst m1 q.rev hp⟩
theorem idxOp_get {M : Mem} {x y z : PV} (e : idxOp M x y = some z) : ∃ i xs, y = .int i ∧ itemsT M x = some xs ∧ L2.atI xs i = some z := by
  unfold idxOp at e
  split at e
  · rename_i i xs h
    exact ⟨_, _, rfl, h, e⟩
  · cases e
theorem i_idx (ha : PE X a (tI X.K call ma)) (hb : PE X b (tI X.K call mb)) (hs : PlainIx b := by intro _ _; rfl) : PE X (.Subscript a b pos) (tI X.K call (.idx ma mb)) :=
  (pe_ix (IxR.or ix_list ix_tup) ha hb hs).imp fun σ H Q ⟨φ, M, env, v, M', m, r, e, k⟩ => by
    unfold Ev.eval at e
    obtain ⟨⟨x, M1⟩, e1, e⟩ := bindE e
    obtain ⟨⟨y, M2⟩, e2, e⟩ := bindE e
    obtain ⟨z, e3, e⟩ := mapE e
    cases e
    refine tI.then_ m r e1 fun φ1 H1 u x1 m1 r1 q1 => tI.then_ m1 r1 e2 fun φ2 H2 w x2 m2 r2 q2 => ?_
    obtain ⟨i, xs, rfl, e4, e5⟩ := idxOp_get e3
    cases q2
    obtain ⟨p, vs, rfl, h, q⟩ := itemsT_sq m2 (q1.mono x2) e4
    obtain ⟨t, h1, h2⟩ := q.atI e5
    rcases h with h | h
    · exact .inl ⟨p, vs, _, t, rfl, rfl, h, h1, k _ _ _ (x1.trans x2) m2 h2⟩
    · exact .inr ⟨p, vs, _, t, rfl, rfl, h, h1, k _ _ _ (x1.trans x2) m2 h2⟩
/-- a slice's part -/
def tO (K : PySem.W.Frag) (call : Cl) (f : Bool) (m : E) : TO := fun σ H Q => ∃ φ M env v M' o, RM K φ H M ∧ RE K φ H env σ ∧ Ev.eval call m env M = some (v, M') ∧ part f v = some o ∧ ∀ φ' H', Xt φ H φ' H' → RM K φ' H' M' → Q o H'
theorem _root_.L2.PO.imp {X : Cx} {e : Option Expr} {t t' : TO} (h : PO X e t) (k : ∀ σ H Q, t' σ H Q → t σ H Q) : PO X e t' := ⟨fun pins s σ H Q I q => h.run pins s σ H Q I (k _ _ _ q)⟩
theorem o_none : PO X none (tO X.K call false (.cst .non)) := po_none.imp fun σ H Q ⟨φ, M, env, v, M', o, m, r, e, p, k⟩ => by
  unfold Ev.eval at e
  cases e; cases p
  exact k _ _ .refl m
theorem o_some (h : PE X a (tI X.K call ma)) : PO X (some a) (tO X.K call true ma) := (po_some h).imp fun σ H Q ⟨φ, M, env, v, M', o, m, r, e, p, k⟩ => by
  refine tI.then_ m r e fun φ1 H1 u x1 m1 r1 q1 => ?_
  cases q1 <;> try (cases p; done)
  cases p
  exact ⟨_, rfl, k _ _ x1 m1⟩
theorem cut_rps {K : PySem.W.Frag} {φ : Ph} {H : Hp} {xs : List PV} {vs : List V} (r : Rps K φ H xs vs) (l h : Option Int) : Rps K φ H (cut xs l h) (cutV vs l h) := by
  unfold cut cutV
  rw [r.length]
  exact (r.drop _).take _
theorem slcV_get {M : Mem} {a z : PV} {l h : Option Int} (e : slcV M a l h = some z) : (∃ xs, a = .tup xs ∧ z = .tup (cut xs l h)) ∨ ∃ xs, items M a = some xs ∧ z = .lst (cut xs l h) := by
  unfold slcV at e
  split at e
  · cases e; exact .inl ⟨_, rfl, rfl⟩
  · obtain ⟨xs, e5, e6⟩ := mapE e
    exact .inr ⟨xs, e5, e6.symm⟩
theorem i_slc {lo hi : Option Expr} {bl bh : Bool} {p2 : Pos} (ha : PE X a (tI X.K call ma)) (hl : PO X lo (tO X.K call bl mb)) (hh : PO X hi (tO X.K call bh mc)) : PE X (.Subscript a (.Slice lo hi none p2) pos) (tI X.K call (.slc ma bl bh mb mc)) :=
  (pe_slice (SlR.or sl_list sl_tupA) ha hl hh).imp fun σ H Q ⟨φ, M, env, v, M', m, r, e, k⟩ => by
    unfold Ev.eval at e
    obtain ⟨⟨x, M1⟩, e1, e⟩ := bindE e
    obtain ⟨⟨y, M2⟩, e2, e⟩ := bindE e
    obtain ⟨⟨y3, M3⟩, e3, e⟩ := bindE e
    obtain ⟨z, e4, e⟩ := mapE e
    cases e
    unfold slcOp at e4
    simp only at e4
    cases p1 : part bl y with
    | none => rw [p1] at e4; cases e4
    | some l =>
    cases p2 : part bh y3 with
    | none => rw [p1, p2] at e4; cases e4
    | some h =>
    rw [p1, p2] at e4
    change slcV M3 x l h = some _ at e4
    refine tI.then_ m r e1 fun φ1 H1 u x1 m1 r1 q1 => ⟨φ1, M1, env, y, M2, l, m1, r1, e2, p1, fun φ2 H2 x2 m2 => ⟨φ2, M2, env, y3, M3, h, m2, r1.mono x2, e3, p2, fun φ3 H3 x3 m3 => ?_⟩⟩
    have q3 := q1.mono (x2.trans x3)
    have k3 := k.mono (x1.trans (x2.trans x3))
    rcases slcV_get e4 with ⟨xs, rfl, rfl⟩ | ⟨xs, e5, rfl⟩
    · cases q3 with
      | tup h1 q =>
      refine .inr ⟨_, _, rfl, h1, fun ⟨w1, w2⟩ => ?_, fun _ p hp => k3.tup m3 (cut_rps q l h) hp⟩
      refine k3.here m3 (.tup h1 ?_)
      have := cut_rps q l h
      unfold cutV at this
      rw [w1, w2] at this
      simpa using this
    · obtain ⟨a, vs, rfl, h1, q⟩ := items_sq m3 q3 e5
      exact .inl ⟨_, _, rfl, h1, fun p hp => k3.lst m3 (cut_rps q l h) hp⟩
/-! ### calls -/
/-- a def that may be called by its name -/
structure Cal (P : Program) (w : World) (K : PySem.W.Frag) (mg : Str → Option Value) (base : Heap) (k : Nat) (x : Str) (sp : Sp) : Prop where
  ex : ∃ (f : Addr) (fd : FuncData) (ps : List Str), FnOk P w K mg base CX0 k f fd ps sp ∧ mg x = some (.ref f) ∧ PySem.W.keepIn K (.ref f) = true ∧ Binds K fd ps []
def spC (K : PySem.W.Frag) (call : Cl) (f : Nat) : Sp := fun vs H Q _ => ∃ φ M args v M', RM K φ H M ∧ Rps K φ H args vs ∧ call f args M = some (v, M') ∧ Pst K φ H M' v Q
theorem i_call {x : Str} {p : Pos} {k f : Nat} {es : List Expr} {ms : Es} (c : Cal X.prog X.w X.K X.mg X.base k x (spC X.K call f)) (hr : Room k X.A) (hg : Gl X x) (ha : PA X (a :: es) (tIs X.K call ms))
    (hdb : (x == ("__debug__" : Str)) = false := by decide) (he : starEach (a :: es) X.env = (false, PySem.eval a X.env) :: starEach es X.env := by rfl) (hpl : (backTo pos (starEach es X.env)).any (·.1) = false := by rfl) :
    PE X (.Call (.Name x p) (a :: es) [] pos) (tI X.K call (.call f ms)) := by
  obtain ⟨fa, fd, ps, F, hm, kp, b⟩ := c.ex
  refine (pe_call F hr hg hm kp b .nil (E := fun _ _ _ => False) pass0 ha hdb he hpl).imp fun σ H Q ⟨φ, M, env, v, M', m, r, e, k⟩ => ?_
  unfold Ev.eval at e
  obtain ⟨⟨vs, M1⟩, e1, e⟩ := bindE e
  refine tIs.then_ m r e1 fun φ1 H1 u x1 m1 r1 q1 => ?_
  rw [List.append_nil]
  exact ⟨φ1, M1, vs, v, M', m1, q1, e, k.mono x1⟩
theorem i_call0 {x : Str} {p : Pos} {k f : Nat} (c : Cal X.prog X.w X.K X.mg X.base k x (spC X.K call f)) (hr : Room k X.A) (hg : Gl X x)
    (hdb : (x == ("__debug__" : Str)) = false := by decide) : PE X (.Call (.Name x p) [] [] pos) (tI X.K call (.call f .nil)) := by
  obtain ⟨fa, fd, ps, F, hm, kp, b⟩ := c.ex
  refine (pe_call0 F hr hg hm kp b .nil (E := fun _ _ _ => False) pass0 hdb).imp fun σ H Q ⟨φ, M, env, v, M', m, r, e, k⟩ => ?_
  unfold Ev.eval at e
  obtain ⟨⟨vs, M1⟩, e1, e⟩ := bindE e
  unfold Ev.evals at e1
  cases e1
  exact ⟨φ, M, [], v, M', m, .nil, e, k⟩
/-! ### built-ins -/
def rBl (K : PySem.W.Frag) (b : Bl) (f : Bool) : List V → Hp → VK → Prop := fun xs H Q => ∃ φ M vs z, RM K φ H M ∧ Rps K φ H vs xs ∧ bltOp M b vs = some z ∧ Pst K φ H (asM f z M).2 (asM f z M).1 Q
theorem _root_.L2.CallR.imp {X : Cx} {f : Value} {r r' : List V → Hp → VK → Prop} (h : CallR X f r) (k : ∀ xs H Q, r' xs H Q → r xs H Q) : CallR X f r' := fun pins s σ H xs us Q I v q => h pins s σ H xs us Q I v (k _ _ _ q)
theorem blt_rd {bl : Bl} {f : Bool} {ms : Es} {σ : L2.St} {H : Hp} {Q : VK} (h : tI X.K call (.blt bl f ms) σ H Q) : tCB (rBl X.K bl f) (tIs X.K call ms) σ H Q := by
  obtain ⟨φ, M, env, v, M', m, r, e, k⟩ := h
  unfold Ev.eval at e
  obtain ⟨⟨vs, M1⟩, e1, e⟩ := bindE e
  obtain ⟨z, e2, e⟩ := mapE e
  refine tIs.then_ m r e1 fun φ1 H1 u x1 m1 r1 q1 => ⟨φ1, M1, vs, z, m1, q1, e2, ?_⟩
  simp only at e
  rw [e]
  exact k.mono x1
theorem i_bltB {x : Str} {p : Pos} {id : String} {bl : Bl} {f : Bool} {es : List Expr} {ms : Es} (hc : CallR X (.builtin id) (rBl X.K bl f)) (hg : Gl X x) (hm : X.mg x = none) (hv : bootBuiltins x = some (.builtin id)) (ha : PA X (a :: es) (tIs X.K call ms))
    (hn : x ≠ "__name__" := by decide) (hdb : (x == ("__debug__" : Str)) = false := by decide) (he : starEach (a :: es) X.env = (false, PySem.eval a X.env) :: starEach es X.env := by rfl) (hpl : (backTo pos (starEach es X.env)).any (·.1) = false := by rfl) :
    PE X (.Call (.Name x p) (a :: es) [] pos) (tI X.K call (.blt bl f ms)) := (pe_callB hc hg hm hv ha hn hdb he hpl).imp fun _ _ _ h => blt_rd h
theorem i_bltT {x : Str} {p : Pos} {T : String} {bl : Bl} {f : Bool} {es : List Expr} {ms : Es} (hc : CallR X (.type T) (rBl X.K bl f)) (hg : Gl X x) (hm : X.mg x = none) (hv : bootBuiltins x = some (.type T)) (ha : PA X (a :: es) (tIs X.K call ms))
    (hn : x ≠ "__name__" := by decide) (hdb : (x == ("__debug__" : Str)) = false := by decide) (he : starEach (a :: es) X.env = (false, PySem.eval a X.env) :: starEach es X.env := by rfl) (hpl : (backTo pos (starEach es X.env)).any (·.1) = false := by rfl) :
    PE X (.Call (.Name x p) (a :: es) [] pos) (tI X.K call (.blt bl f ms)) := (pe_callTy hc hg hm hv ha hn hdb he hpl).imp fun _ _ _ h => blt_rd h
theorem one_of {K : PySem.W.Frag} {φ : Ph} {H : Hp} {v : PV} {xs : List V} (r : Rps K φ H [v] xs) : ∃ u, xs = [u] ∧ Rp K φ H v u := by
  cases r with
  | cons h r => cases r; exact ⟨_, rfl, h⟩
theorem two_of {K : PySem.W.Frag} {φ : Ph} {H : Hp} {v w : PV} {xs : List V} (r : Rps K φ H [v, w] xs) : ∃ u t, xs = [u, t] ∧ Rp K φ H v u ∧ Rp K φ H w t := by
  cases r with
  | cons h r =>
    obtain ⟨t, rfl, h2⟩ := one_of r
    exact ⟨_, _, rfl, h, h2⟩
theorem c_abs {f : Bool} : CallR X (.builtin "abs") (rBl X.K .abs f) := call_abs.imp fun xs H Q ⟨φ, M, vs, z, m, r, e, k⟩ => by
  change absB vs = some z at e
  unfold absB at e
  split at e
  · cases e
    obtain ⟨u, rfl, h⟩ := one_of r
    cases h
    exact ⟨_, rfl, k.asM m (.int _) fun _ h => nomatch h⟩
  · cases e
theorem c_int {f : Bool} : CallR X (.type "int") (rBl X.K .int f) := call_int1.imp fun xs H Q ⟨φ, M, vs, z, m, r, e, k⟩ => by
  change intB vs = some z at e
  unfold intB at e
  split at e
  · cases e
    obtain ⟨u, rfl, h⟩ := one_of r
    cases h
    exact .inl ⟨_, rfl, k.asM m (.int _) fun _ h => nomatch h⟩
  · cases e
    obtain ⟨u, rfl, h⟩ := one_of r
    cases h
    exact .inr ⟨_, rfl, k.asM m (.int _) fun _ h => nomatch h⟩
  · cases e
theorem c_list {f : Bool} : CallR X (.type "list") (rBl X.K .list f) := call_list_of.imp fun xs H Q ⟨φ, M, vs, z, m, r, e, k⟩ => by
  change listB M vs = some z at e
  unfold listB at e
  split at e
  · obtain ⟨ys, e1, rfl⟩ := mapE e
    obtain ⟨u, rfl, h⟩ := one_of r
    obtain ⟨a, ws, rfl, h1, h2⟩ := itemsT_sq m h e1
    exact ⟨a, ws, rfl, h1, fun l hl => k.asL m h2 hl⟩
  · cases e
theorem c_tuple {f : Bool} : CallR X (.type "tuple") (rBl X.K .tuple f) := call_tuple_of.imp fun xs H Q ⟨φ, M, vs, z, m, r, e, k⟩ => by
  change tupleB M vs = some z at e
  unfold tupleB at e
  split at e
  · cases e
    obtain ⟨u, rfl, h⟩ := one_of r
    cases h with
    | tup h q => exact ⟨_, _, rfl, .inr ⟨h, k.asM m (.tup h q) fun _ h => nomatch h⟩⟩
  · obtain ⟨ys, e1, rfl⟩ := mapE e
    obtain ⟨u, rfl, h⟩ := one_of r
    obtain ⟨a, ws, rfl, h1, h2⟩ := items_sq m h e1
    refine ⟨a, ws, rfl, .inl ⟨h1, fun l hl => ?_⟩⟩
    have k1 : Pst X.K φ H M (.tup ys) Q := by cases f <;> exact k
    exact k1.tup m h2 hl
  · cases e
theorem c_len {f : Bool} : CallR X (.builtin "len") (rBl X.K .len f) := (CallR.or call_len_seq call_len_str).imp fun xs H Q ⟨φ, M, vs, z, m, r, e, k⟩ => by
  change lenB M vs = some z at e
  unfold lenB at e
  split at e
  · obtain ⟨u, rfl, h⟩ := one_of r
    cases h
    unfold iff' at e
    split at e
    · rename_i hz
      cases e
      exact .inr ⟨_, rfl, of_decide_eq_true hz, k.asM m (.int _) fun _ h => nomatch h⟩
    · cases e
  · obtain ⟨ys, e1, rfl⟩ := mapE e
    obtain ⟨u, rfl, h⟩ := one_of r
    obtain ⟨a, ws, rfl, h1, h2⟩ := itemsT_sq m h e1
    exact .inl ⟨a, ws, rfl, h1, by rw [← h2.length]; exact k.asM m (.int _) fun _ h => nomatch h⟩
  · cases e
theorem ints_rps {K : PySem.W.Frag} {φ : Ph} {H : Hp} : ∀ {xs : List PV} {vs : List V} {ns : List Int}, Rps K φ H xs vs → intsOf xs = some ns → vs = ns.map V.int
  | [], _, _, .nil, e => by cases e; rfl
  | x :: xs, _, ns, .cons h r, e => by
    cases h <;> first | (cases e; done) | skip
    obtain ⟨ms, e1, e2⟩ := mapE e
    subst e2
    rw [List.map_cons, ints_rps r e1]
theorem bools_rps {K : PySem.W.Frag} {φ : Ph} {H : Hp} : ∀ {xs : List PV} {vs : List V} {ns : List Bool}, Rps K φ H xs vs → boolsOf xs = some ns → vs = ns.map V.bl
  | [], _, _, .nil, e => by cases e; rfl
  | x :: xs, _, ns, .cons h r, e => by
    cases h <;> first | (cases e; done) | skip
    obtain ⟨ms, e1, e2⟩ := mapE e
    subst e2
    rw [List.map_cons, bools_rps r e1]
theorem obind {α β : Type} {x : Option α} {f : α → Option β} {y : β} (h : x.bind f = some y) : ∃ a, x = some a ∧ f a = some y := by
  cases x with
  | none => cases h
  | some a => exact ⟨a, rfl, h⟩
theorem c_sum (hc : X.calm = true) {f : Bool} : CallR X (.builtin "sum") (rBl X.K .sum f) := (cr_sum hc).imp fun xs H Q ⟨φ, M, vs, z, m, r, e, k⟩ => by
  change sumB M vs = some z at e
  unfold sumB at e
  split at e
  · obtain ⟨ys, e1, e⟩ := obind e
    obtain ⟨ns, e2, rfl⟩ := mapE e
    obtain ⟨u, rfl, h⟩ := one_of r
    obtain ⟨a, ws, rfl, h1, h2⟩ := items_sq m h e1
    exact ⟨a, ns, rfl, by rw [← ints_rps h2 e2]; exact h1, k.asM m (.int _) fun _ h => nomatch h⟩
  · cases e
theorem c_all (hc : X.calm = true) {f : Bool} : CallR X (.builtin "all") (rBl X.K .all f) := (cr_all hc).imp fun xs H Q ⟨φ, M, vs, z, m, r, e, k⟩ => by
  change allB M vs = some z at e
  unfold allB at e
  split at e
  · obtain ⟨ys, e1, e⟩ := obind e
    obtain ⟨ns, e2, rfl⟩ := mapE e
    obtain ⟨u, rfl, h⟩ := one_of r
    obtain ⟨a, ws, rfl, h1, h2⟩ := items_sq m h e1
    exact ⟨a, ns, rfl, by rw [← bools_rps h2 e2]; exact h1, k.asM m (.bl _) fun _ h => nomatch h⟩
  · cases e
theorem c_any (hc : X.calm = true) {f : Bool} : CallR X (.builtin "any") (rBl X.K .any f) := (cr_any hc).imp fun xs H Q ⟨φ, M, vs, z, m, r, e, k⟩ => by
  change anyB M vs = some z at e
  unfold anyB at e
  split at e
  · obtain ⟨ys, e1, e⟩ := obind e
    obtain ⟨ns, e2, rfl⟩ := mapE e
    obtain ⟨u, rfl, h⟩ := one_of r
    obtain ⟨a, ws, rfl, h1, h2⟩ := items_sq m h e1
    exact ⟨a, ns, rfl, by rw [← bools_rps h2 e2]; exact h1, k.asM m (.bl _) fun _ h => nomatch h⟩
  · cases e
theorem c_max (hc : X.calm = true) {f : Bool} : CallR X (.builtin "max") (rBl X.K .max f) := (call_max2 hc).imp fun xs H Q ⟨φ, M, vs, z, m, r, e, k⟩ => by
  change maxB vs = some z at e
  unfold maxB at e
  split at e
  · cases e
    obtain ⟨u, t, rfl, h, h'⟩ := two_of r
    cases h; cases h'
    exact ⟨_, _, rfl, k.asM m (.int _) fun _ h => nomatch h⟩
  · cases e
theorem c_min (hc : X.calm = true) {f : Bool} : CallR X (.builtin "min") (rBl X.K .min f) := (call_min2 hc).imp fun xs H Q ⟨φ, M, vs, z, m, r, e, k⟩ => by
  change minB vs = some z at e
  unfold minB at e
  split at e
  · cases e
    obtain ⟨u, t, rfl, h, h'⟩ := two_of r
    cases h; cases h'
    exact ⟨_, _, rfl, k.asM m (.int _) fun _ h => nomatch h⟩
  · cases e
/-! ### isinstance -/
def tyS : Ty → String
  | .int => "int" | .bool => "bool" | .str => "str" | .tuple => "tuple" | .list => "list"
theorem kt_non (t : Ty) : kitB "NoneType" (tyS t) = some false := by cases t <;> decide +kernel
theorem kt_bl (t : Ty) : kitB "bool" (tyS t) = some (match t with | .int => true | .bool => true | _ => false) := by cases t <;> decide +kernel
theorem kt_int (t : Ty) : kitB "int" (tyS t) = some (match t with | .int => true | _ => false) := by cases t <;> decide +kernel
theorem kt_str (t : Ty) : kitB "str" (tyS t) = some (match t with | .str => true | _ => false) := by cases t <;> decide +kernel
theorem kt_tup (t : Ty) : kitB "tuple" (tyS t) = some (match t with | .tuple => true | _ => false) := by cases t <;> decide +kernel
theorem kt_lst (t : Ty) : kitB "list" (tyS t) = some (match t with | .list => true | _ => false) := by cases t <;> decide +kernel
theorem ty_of {K : PySem.W.Frag} {φ : Ph} {H : Hp} {M : Mem} {v : PV} {u : V} (m : RM K φ H M) (r : Rp K φ H v u) (t : Ty) : ∃ s : String, TyX K H u (.type s) ∧ kitB s (tyS t) = some (isTy t v) := by
  cases r with
  | non => exact ⟨_, .base .non, (kt_non t).trans (by cases t <;> rfl)⟩
  | bl b => exact ⟨_, .base (.bl b), (kt_bl t).trans (by cases t <;> rfl)⟩
  | int i => exact ⟨_, .base (.int i), (kt_int t).trans (by cases t <;> rfl)⟩
  | str i => exact ⟨_, .base (.str i), (kt_str t).trans (by cases t <;> rfl)⟩
  | @tup a _ _ h q =>
    have : TyX K H (.ref a) (.type "tuple") := by
      rcases h with (h | ⟨o, h⟩) | ⟨o, its, n, h1, h2, h3⟩
      · exact .base (.tup h)
      · exact .fTuple h
      · exact .kTuple h1 h2
    exact ⟨_, this, (kt_tup t).trans (by cases t <;> rfl)⟩
  | lst h n q => exact ⟨_, .base (.lst h), (kt_lst t).trans (by cases t <;> rfl)⟩
  | @rol a _ _ h q =>
    have : TyX K H (.ref a) (.type "list") := by
      rcases h with ⟨o, h⟩ | ⟨h, _⟩ | ⟨o, its, n, h1, h2, h3⟩
      · exact .base (.frz h)
      · exact .base (.lst h)
      · exact .kList h1 h2
    exact ⟨_, this, (kt_lst t).trans (by cases t <;> rfl)⟩
  | @ref n a h1 =>
    have hn : n < M.length := by rw [← m.len]; exact (List.getElem?_eq_some_iff.mp h1).1
    have h3 := m.cells n a M[n] h1 (List.getElem?_eq_getElem hn)
    cases hc : M[n] with
    | lst xs =>
      rw [hc] at h3
      obtain ⟨vs, h4, _⟩ := h3
      exact ⟨_, .base (.lst h4), (kt_lst t).trans (by cases t <;> rfl)⟩
    | dic xs => rw [hc] at h3; exact h3.elim
theorem i_isi {p p2 : Pos} {x : Str} {T : Ty} (hg : Gl X "isinstance") (hm : X.mg "isinstance" = none) (hgT : Gl X x) (hmT : X.mg x = none) (hv : bootBuiltins x = some (.type (tyS T))) (ha : PE X a (tI X.K call ma))
    (hn : x ≠ "__name__" := by decide) (hd : (x == ("__debug__" : Str)) = false := by decide) (he : starEach [a, .Name x p2] X.env = (false, PySem.eval a X.env) :: starEach [.Name x p2] X.env := by rfl) (hpl : (backTo pos (starEach [.Name x p2] X.env)).any (·.1) = false := by rfl) :
    PE X (.Call (.Name "isinstance" p) [a, .Name x p2] [] pos) (tI X.K call (.isi ma T)) :=
  (pe_callB call_isi hg hm (by decide +kernel) (pa_cons ha (pa_cons (pe_bltn hgT hmT hv (v := .ty (tyS T)) rfl hn hd) pa_nil) he) (by decide) (by decide) he hpl).imp fun σ H Q ⟨φ, M, env, v, M', m, r, e, k⟩ => by
    unfold Ev.eval at e
    obtain ⟨⟨y, M1⟩, e1, e⟩ := bindE e
    cases e
    refine tI.then_ m r e1 fun φ1 H1 u x1 m1 r1 q1 => ?_
    obtain ⟨s, h1, h2⟩ := ty_of m1 q1 T
    exact ⟨u, .ty (tyS T), .type s, .type (tyS T), _, rfl, .ty _, h1, kit_ty h2, k _ _ _ x1 m1 (.bl _)⟩
/-! ### l.append(e) -/
theorem i_app {apos cpos : Pos} (ha : PE X a (tI X.K call ma)) (hb : PA X [b] (tIs X.K call (.cons mb .nil)))
    (hbase : attributeBase a "append" X.env (PySem.eval a X.env) = PySem.eval a X.env := by rfl)
    (hfew : ((backTo cpos (starEach [b] X.env)).all (fun x => !x.1) && (backToKw cpos (keywordEach [] X.env)).all (fun x => x.1.isSome)
      && decide (([b] : List Expr).length + ([] : List Keyword).length + (if ([] : List Keyword).isEmpty then 0 else 1) < 30)) = true := by rfl)
    (hline : (apos.endLine == cpos.line) = true := by rfl) (hs : starEach [b] X.env = (false, PySem.eval b X.env) :: starEach [] X.env := by rfl) (hplain : (backTo cpos (starEach [] X.env)).any (·.1) = false := by rfl) :
    PE X (.Call (.Attribute a "append" apos) [b] [] cpos) (tI X.K call (.app ma mb)) :=
  (pe_bm PySem.F.plainAttrs_list PySem.F.slot_list_append PySem.F.type_list_append mt_append ha hb hbase hfew hline hs hplain).imp fun σ H Q ⟨φ, M, env, v, M', m, r, e, k⟩ => by
    unfold Ev.eval at e
    obtain ⟨⟨y, M1⟩, e1, e⟩ := bindE e
    simp only at e
    split at e
    · rename_i n
      obtain ⟨⟨t, M2⟩, e2, e⟩ := bindE e
      simp only at e
      split at e
      · rename_i xs e3
        obtain ⟨hz, e⟩ := ifE e
        cases e
        refine tI.then_ m r e1 fun φ1 H1 u x1 m1 r1 q1 => ?_
        cases q1 with
        | @ref _ ad h1 =>
        have hn : n < M1.length := by rw [← m1.len]; exact (List.getElem?_eq_some_iff.mp h1).1
        have h3 := m1.cells n _ M1[n] h1 (List.getElem?_eq_getElem hn)
        have h4 : ∃ ys, H1 ad = some (.lst ys) := by
          cases hc : M1[n] with
          | lst xs => rw [hc] at h3; obtain ⟨vs, h4, _⟩ := h3; exact ⟨vs, h4⟩
          | dic xs => rw [hc] at h3; exact h3.elim
        obtain ⟨ys, h4⟩ := h4
        have ev : Ev.evals call (.cons mb .nil) env M1 = some ([t], M2) := by
          unfold Ev.evals
          rw [e2]
          unfold Ev.evals
          rfl
        refine ⟨.inl ⟨rfl, ys, .inl (.inl h4)⟩, tIs.then_ m1 r1 ev fun φ2 H2 w x2 m2 r2 q2 => ?_⟩
        obtain ⟨z, rfl, q3⟩ := one_of q2
        have h5 := x2.get h1
        obtain ⟨b, h6, vs, h7, h8⟩ := m2.at_ e3
        rw [h5] at h6
        cases h6
        refine ⟨_, vs, z, rfl, rfl, h7, by rw [← h8.length]; exact of_decide_eq_true hz, ?_⟩
        exact k _ _ _ (x1.trans (x2.trans (xt_set m2 h5))) (m2.set h5 (h8.append (.cons q3 .nil))) .non
      · cases e
    · cases e
end
end Ev

/-! Targets, what a for walks, comprehensions. -/
namespace Ev
open PySem PySem.Spec PyProof.Rows L2
section
variable {K : PySem.W.Frag} {φ φ' φ1 : Ph} {H H' H1 : Hp} {M M' M1 : Mem} {env : Env} {σ : L2.St}
def gNames : List Nat → TGs
  | [] => gNil
  | i :: is => gCons (gName i) (gNames is)
def gT (K : PySem.W.Frag) : T → TG
  | .nm i => gName i
  | .tp is => gTup K is.length (gNames is)
  | .ls is => gUnl K is.length (gNames is)
def T.ids : T → List Nat
  | .nm i => [i]
  | .tp is => is
  | .ls is => is
theorem wipe_get (σ : L2.St) (j : Nat) : ∀ vs : List Nat, (wipe σ vs)[j]? = if j ∈ vs then (if j < σ.length then some none else none) else σ[j]?
  | [] => by simp [wipe]
  | v :: vs => by
    unfold wipe
    by_cases e : v = j
    · subst e
      rw [if_pos (by simp), List.getElem?_set]
      simp [wipe_length]
    · rw [List.getElem?_set_ne e, wipe_get σ j vs]
      have : (j ∈ v :: vs) ↔ j ∈ vs := by
        constructor
        · intro h
          rcases List.mem_cons.mp h with h | h
          · exact absurd h.symm e
          · exact h
        · exact List.mem_cons_of_mem _
      by_cases k : j ∈ vs
      · rw [if_pos k, if_pos (this.mpr k)]
      · rw [if_neg k, if_neg fun z => k (this.mp z)]
theorem wipe_set {σ : L2.St} {i : Nat} {x : Option V} {vs : List Nat} (h : i ∈ vs) : wipe (σ.set i x) vs = wipe σ vs := by
  apply List.ext_getElem?
  intro j
  rw [wipe_get, wipe_get, List.length_set]
  by_cases k : j ∈ vs
  · rw [if_pos k, if_pos k]
  · rw [if_neg k, if_neg k, List.getElem?_set_ne (fun e => k (by rw [← e]; exact h))]
theorem wipeE_get (env : Env) (j : Nat) : ∀ vs : List Nat, ∀ v, (wipeE env vs)[j]? = some (some v) → j ∉ vs ∧ env[j]? = some (some v)
  | [], v, h => ⟨by simp, h⟩
  | w :: vs, v, h => by
    unfold wipeE at h
    by_cases e : w = j
    · subst e
      rw [List.getElem?_set] at h
      simp at h
    · rw [List.getElem?_set_ne e] at h
      obtain ⟨h1, h2⟩ := wipeE_get env j vs v h
      refine ⟨fun z => ?_, h2⟩
      rcases List.mem_cons.mp z with z | z
      · exact e z.symm
      · exact h1 z
theorem wipeE_len (env : Env) : ∀ vs : List Nat, (wipeE env vs).length = env.length
  | [] => rfl
  | _ :: vs => by unfold wipeE; rw [List.length_set, wipeE_len env vs]
theorem RE.wipe (r : RE K φ H env σ) (vs : List Nat) : RE K φ H (wipeE env vs) (L2.wipe σ vs) := by
  refine ⟨by rw [wipeE_len, wipe_length]; exact r.len, fun i v h => ?_⟩
  obtain ⟨h1, h2⟩ := wipeE_get env i vs v h
  obtain ⟨u, h3, h4⟩ := r.at_ i v h2
  exact ⟨u, by rw [wipe_get, if_neg h1]; exact h3, h4⟩
/-- the target's reading, from the interpreter's binding -/
theorem names_rd {Q : L2.St → Hp → Prop} (sub : List Nat) : ∀ (is : List Nat) (xs : List PV) (vs : List V) (env : Env) (σ : L2.St), Rps K φ H xs vs → xs.length = is.length → RE K φ H env σ → (∀ i ∈ is, i ∈ sub) →
    (∀ σ', RE K φ H (setAll env is xs) σ' → L2.wipe σ' sub = L2.wipe σ sub → Q σ' H) → gNames is vs σ H Q
  | [], xs, vs, env, σ, r, hl, re, hs, k => by
    cases r with
    | nil => exact ⟨rfl, k σ re rfl⟩
    | cons _ _ => cases hl
  | i :: is, xs, vs, env, σ, r, hl, re, hs, k => by
    cases r with
    | nil => cases hl
    | @cons x v xs vs h r =>
    refine ⟨v, vs, rfl, ?_⟩
    refine names_rd sub is xs vs (env.set i (some x)) (σ.set i (some v)) r (by simpa using hl) (re.set h i) (fun j hj => hs j (List.mem_cons_of_mem _ hj)) fun σ' r' e => k σ' r' ?_
    rw [e, wipe_set (hs i List.mem_cons_self)]
theorem gT_rd {t : T} {v : PV} {u : V} {env1 : Env} {Q : L2.St → Hp → Prop} (r : Rp K φ H v u) (re : RE K φ H env σ) (e : bindT t v env = some env1)
    (k : ∀ σ', RE K φ H env1 σ' → L2.wipe σ' t.ids = L2.wipe σ t.ids → Q σ' H) : gT K t u σ H Q := by
  cases t with
  | nm i =>
    cases e
    exact k _ (re.set r i) (wipe_set (by simp [T.ids]))
  | tp is =>
    unfold bindT at e
    simp only at e
    split at e
    · rename_i xs
      split at e
      · rename_i hz
        have hz := of_decide_eq_true hz
        cases e
        cases r with
        | tup h q =>
        exact ⟨_, _, rfl, h, by rw [← q.length]; exact hz, names_rd is is _ _ _ _ q hz re (fun _ h => h) k⟩
      · cases e
    · cases e
  | ls is =>
    unfold bindT at e
    simp only at e
    split at e
    · rename_i xs
      split at e
      · rename_i hz
        have hz := of_decide_eq_true hz
        cases e
        cases r with
        | lst h n q =>
        exact ⟨_, _, rfl, .inl (.inl h), by rw [← q.length]; exact hz, names_rd is is _ _ _ _ q hz re (fun _ h => h) k⟩
      · cases e
    · cases e
theorem wipe_more {σ σ' : L2.St} {a b : List Nat} (h : L2.wipe σ' a = L2.wipe σ a) (hs : ∀ i ∈ a, i ∈ b) (hl : σ'.length = σ.length) : L2.wipe σ' b = L2.wipe σ b := by
  apply List.ext_getElem?
  intro j
  rw [wipe_get, wipe_get, hl]
  by_cases k : j ∈ b
  · rw [if_pos k, if_pos k]
  · rw [if_neg k, if_neg k]
    have := congrArg (·[j]?) h
    simp only [wipe_get] at this
    rw [if_neg fun z => k (hs j z), if_neg fun z => k (hs j z)] at this
    exact this
theorem wipe_len_eq {σ σ' : L2.St} {a : List Nat} (h : L2.wipe σ' a = L2.wipe σ a) : σ'.length = σ.length := by
  have := congrArg List.length h
  rw [wipe_length, wipe_length] at this
  exact this

/-! ### what a for walks -/
/-- an iterator that gives the items xs, from any later heap -/
def ItOk (K : PySem.W.Frag) (φ : Ph) (H : Hp) (J : It) (g : Gd) (xs : List PV) : Prop := ∀ φ2 H2 M2, Xt φ H φ2 H2 → RM K φ2 H2 M2 → gOk g M2 = true →
  (∀ i, i < xs.length → J.go i H2) ∧ (∀ i, xs.length ≤ i → J.stop i H2) ∧
  ∀ i x H3, i < xs.length → J.yld i H2 x H3 → ∃ v, xs[i]? = some v ∧ Rp K φ2 H3 v x ∧ Xt φ2 H2 φ2 H3 ∧ ∀ M, RM K φ2 H2 M → RM K φ2 H3 M
def tIt (K : PySem.W.Frag) (call : Cl) (it : I) : TI := fun σ H R => ∃ φ M env xs M', RM K φ H M ∧ RE K φ H env σ ∧ Ev.evalI call it env M = some (xs, M') ∧
  ∀ φ' H' J, Xt φ H φ' H' → RM K φ' H' M' → ItOk K φ' H' J xs.2 xs.1 → R J H'
/-- the items of a tuple or of a list, as they lie -/
def SqK (K : PySem.W.Frag) (k : Bool) (H : Hp) (a : Addr) (vs : List V) : Prop := match k with
  | true => SqT K H a vs
  | false => SqL K H a vs
/-- they stay, while what must stay stays -/
def SAt (K : PySem.W.Frag) (k : Bool) (φ : Ph) (H : Hp) (g : Gd) (a : Addr) (xs : List PV) : Prop := ∀ φ2 H2 M2, Xt φ H φ2 H2 → RM K φ2 H2 M2 → gOk g M2 = true → ∃ vs, SqK K k H2 a vs ∧ Rps K φ2 H2 xs vs
theorem seq_at {v : PV} {u : V} {k : Bool} {xs : List PV} {g : Gd} (m : RM K φ H M) (r : Rp K φ H v u) (e : seqG M v = some (k, xs, g)) : ∃ a vs, u = .ref a ∧ SqK K k H a vs ∧ SAt K k φ H g a xs := by
  cases r with
  | tup h q => cases e; exact ⟨_, _, rfl, h, fun φ2 H2 M2 x _ _ => ⟨_, x.tup h, q.mono x⟩⟩
  | lst h n q => cases e; exact ⟨_, _, rfl, .inl (.inl h), fun φ2 H2 M2 x _ _ => ⟨_, .inl (.inl (x.keep _ _ h fun z => absurd z n.1)), q.mono x⟩⟩
  | rol h q => cases e; exact ⟨_, _, rfl, h.sq, fun φ2 H2 M2 x _ _ => ⟨_, (x.rol h).sq, q.mono x⟩⟩
  | @ref n a h =>
    unfold seqG at e
    simp only at e
    split at e
    · rename_i ys e1
      cases e
      obtain ⟨b, h2, vs, h3, h4⟩ := m.at_ e1
      rw [h] at h2
      cases h2
      refine ⟨_, vs, rfl, .inl (.inl h3), fun φ2 H2 M2 x m2 hg => ?_⟩
      unfold gOk at hg
      rw [Bool.and_eq_true] at hg
      have hg1 := hg.1
      split at hg1
      · rename_i zs e2
        have := pbeqs_eq hg1
        subst this
        obtain ⟨b, h5, ws, h6, h7⟩ := m2.at_ e2
        rw [x.get h] at h5
        cases h5
        exact ⟨ws, .inl (.inl h6), h7⟩
      · cases hg1
    · cases e
  | non | bl | int | str => cases e
theorem it_tup {a : Addr} {g : Gd} {xs : List PV} (h : SAt K true φ H g a xs) : ItOk K φ H (Itt K a) g xs := fun φ2 H2 M2 x m2 hg => by
  obtain ⟨vs, h2, q2⟩ := h φ2 H2 M2 x m2 hg
  change SqT K H2 a vs at h2
  refine ⟨fun i hi => ?_, fun i hi => ⟨vs, h2, by rw [← q2.length]; exact hi⟩, fun i y H3 hi ⟨e, f⟩ => ?_⟩
  · obtain ⟨v, e, _⟩ := q2.get (List.getElem?_eq_getElem hi)
    exact ⟨vs, v, h2, e⟩
  · subst e
    obtain ⟨v, e, r⟩ := q2.get (List.getElem?_eq_getElem hi)
    have e2 := (f vs h2).symm.trans e
    cases e2
    exact ⟨_, List.getElem?_eq_getElem hi, r, .refl, fun _ m => m⟩
theorem it_lst {a : Addr} {g : Gd} {xs : List PV} (h : SAt K false φ H g a xs) : ItOk K φ H (Itl K a) g xs := fun φ2 H2 M2 x m2 hg => by
  obtain ⟨vs, h2, q2⟩ := h φ2 H2 M2 x m2 hg
  change SqL K H2 a vs at h2
  refine ⟨fun i hi => ?_, fun i hi => ⟨vs, h2, by rw [← q2.length]; exact hi⟩, fun i y H3 hi ⟨e, f⟩ => ?_⟩
  · obtain ⟨v, e, _⟩ := q2.get (List.getElem?_eq_getElem hi)
    exact ⟨vs, v, h2, e⟩
  · subst e
    obtain ⟨v, e, r⟩ := q2.get (List.getElem?_eq_getElem hi)
    have e2 := (f vs h2).symm.trans e
    cases e2
    exact ⟨_, List.getElem?_eq_getElem hi, r, .refl, fun _ m => m⟩
theorem rng_len : ∀ (n : Nat) (a : Int), (rngI a n).length = n
  | 0, _ => rfl
  | n + 1, a => by unfold rngI; rw [List.length_cons, rng_len n]
theorem rng_get : ∀ (n : Nat) (a : Int) (i : Nat), i < n → (rngI a n)[i]? = some (.int (a + i))
  | 0, _, _, h => absurd h (by omega)
  | n + 1, a, 0, _ => by unfold rngI; simp
  | n + 1, a, i + 1, h => by
    unfold rngI
    rw [List.getElem?_cons_succ, rng_get n (a + 1) i (by omega)]
    congr 2
    omega
theorem it_rng (lo : Int) (n : Nat) : ItOk K φ H (Itr lo n) [] (rngI lo n) := fun φ2 H2 M2 x m2 hg => by
  refine ⟨fun i hi => by rw [rng_len] at hi; exact hi, fun i hi => by rw [rng_len] at hi; exact hi, fun i y H3 hi ⟨e, f⟩ => ?_⟩
  subst e f
  rw [rng_len] at hi
  exact ⟨_, rng_get n lo i hi, .int _, .refl, fun _ m => m⟩
theorem zip_get : ∀ (xs ys : List PV) (i : Nat) (x y : PV), xs[i]? = some x → ys[i]? = some y → (zipP xs ys)[i]? = some (.tup [x, y])
  | [], _, _, _, _, h, _ => by simp at h
  | _ :: _, [], _, _, _, _, h => by simp at h
  | a :: xs, b :: ys, 0, x, y, h1, h2 => by simp at h1 h2; subst h1 h2; rfl
  | a :: xs, b :: ys, i + 1, x, y, h1, h2 => by
    unfold zipP
    rw [List.getElem?_cons_succ]
    exact zip_get xs ys i x y (by simpa using h1) (by simpa using h2)
theorem zip_len : ∀ (xs ys : List PV), (zipP xs ys).length = min xs.length ys.length
  | [], _ => by simp [zipP]
  | _ :: _, [] => by simp [zipP]
  | a :: xs, b :: ys => by
    unfold zipP
    rw [List.length_cons, zip_len xs ys, List.length_cons, List.length_cons]
    omega
theorem gOk_app : ∀ {g g' : Gd} {M : Mem}, gOk (g ++ g') M = true → gOk g M = true ∧ gOk g' M = true
  | [], _, _, h => ⟨rfl, h⟩
  | (n, xs) :: g, g', M, h => by
    have h' : ((match M[n]? with | some (.lst ys) => pbeqs ys xs | _ => false) && gOk (g ++ g') M) = true := h
    rw [Bool.and_eq_true] at h'
    obtain ⟨h1, h2⟩ := gOk_app h'.2
    refine ⟨?_, h2⟩
    show ((match M[n]? with | some (.lst ys) => pbeqs ys xs | _ => false) && gOk g M) = true
    rw [Bool.and_eq_true]
    exact ⟨h'.1, h1⟩
theorem it_zipT {a b : Addr} {g g' : Gd} {xs ys : List PV} (h : SAt K true φ H g a xs) (h' : SAt K true φ H g' b ys) : ItOk K φ H (RZ.ItzT K a b) (g ++ g') (zipP xs ys) := fun φ2 H2 M2 x m2 hg => by
  obtain ⟨vs, h2, q2⟩ := h φ2 H2 M2 x m2 (gOk_app hg).1
  obtain ⟨ws, h2', q2'⟩ := h' φ2 H2 M2 x m2 (gOk_app hg).2
  change SqT K H2 a vs at h2
  change SqT K H2 b ws at h2'
  refine ⟨fun i hi => ?_, fun i hi => ⟨vs, ws, h2, h2', ?_⟩, fun i y H3 hi ⟨T, v1, v2, e, nT, eH, f1, f2⟩ => ?_⟩
  · rw [zip_len] at hi
    obtain ⟨v, e, _⟩ := q2.get (List.getElem?_eq_getElem (show i < xs.length by omega))
    obtain ⟨v', e', _⟩ := q2'.get (List.getElem?_eq_getElem (show i < ys.length by omega))
    exact ⟨vs, ws, v, v', h2, h2', e, e'⟩
  · rw [zip_len] at hi
    rw [← q2.length, ← q2'.length]
    omega
  · subst e eH
    rw [zip_len] at hi
    have k1 := List.getElem?_eq_getElem (show i < xs.length by omega)
    have k2 := List.getElem?_eq_getElem (show i < ys.length by omega)
    obtain ⟨v, e, r⟩ := q2.get k1
    obtain ⟨v', e', r'⟩ := q2'.get k2
    have z1 := (f1 vs h2).symm.trans e
    have z2 := (f2 ws h2').symm.trans e'
    cases z1; cases z2
    exact ⟨_, zip_get xs ys i _ _ k1 k2, .tup (.inl (.inl upd_same)) (.cons (r.mono (xt_new nT)) (.cons (r'.mono (xt_new nT)) .nil)), xt_new nT, fun _ m => m.new nT⟩
theorem it_zipL {a b : Addr} {g g' : Gd} {xs ys : List PV} (h : SAt K false φ H g a xs) (h' : SAt K false φ H g' b ys) : ItOk K φ H (Itz K a b) (g ++ g') (zipP xs ys) := fun φ2 H2 M2 x m2 hg => by
  obtain ⟨vs, h2, q2⟩ := h φ2 H2 M2 x m2 (gOk_app hg).1
  obtain ⟨ws, h2', q2'⟩ := h' φ2 H2 M2 x m2 (gOk_app hg).2
  change SqL K H2 a vs at h2
  change SqL K H2 b ws at h2'
  refine ⟨fun i hi => ?_, fun i hi => ⟨vs, ws, h2, h2', ?_⟩, fun i y H3 hi ⟨T, v1, v2, e, nT, eH, f1, f2⟩ => ?_⟩
  · rw [zip_len] at hi
    obtain ⟨v, e, _⟩ := q2.get (List.getElem?_eq_getElem (show i < xs.length by omega))
    obtain ⟨v', e', _⟩ := q2'.get (List.getElem?_eq_getElem (show i < ys.length by omega))
    exact ⟨vs, ws, v, v', h2, h2', e, e'⟩
  · rw [zip_len] at hi
    rw [← q2.length, ← q2'.length]
    omega
  · subst e eH
    rw [zip_len] at hi
    have k1 := List.getElem?_eq_getElem (show i < xs.length by omega)
    have k2 := List.getElem?_eq_getElem (show i < ys.length by omega)
    obtain ⟨v, e, r⟩ := q2.get k1
    obtain ⟨v', e', r'⟩ := q2'.get k2
    have z1 := (f1 vs h2).symm.trans e
    have z2 := (f2 ws h2').symm.trans e'
    cases z1; cases z2
    exact ⟨_, zip_get xs ys i _ _ k1 k2, .tup (.inl (.inl upd_same)) (.cons (r.mono (xt_new nT)) (.cons (r'.mono (xt_new nT)) .nil)), xt_new nT, fun _ m => m.new nT⟩
end
section
variable {X : Cx} {call : Cl} {a b c : Expr} {ma mb mc : E} {pos : Pos}
theorem it_seq {tg : Expr} (ha : PE X a (tI X.K call ma)) : PI X tg a (tIt X.K call (.seq ma)) := by
  refine ⟨fun pins s σ H R I ⟨φ, M, env, xs, M', m, r, e, k⟩ => ?_⟩
  unfold Ev.evalI at e
  obtain ⟨⟨y, M1⟩, e1, e⟩ := bindE e
  obtain ⟨⟨kd, ys, g⟩, e2, e⟩ := mapE e
  cases e
  cases kd with
  | true =>
    refine (pi_tup ha).run pins s σ H R I (tI.then_ m r e1 fun φ1 H1 u x1 m1 r1 q1 => ?_)
    obtain ⟨ad, vs, rfl, h, st⟩ := seq_at m1 q1 e2
    exact ⟨ad, rfl, ⟨vs, h⟩, k _ _ _ x1 m1 (it_tup st)⟩
  | false =>
    refine (pi_list ha).run pins s σ H R I (tI.then_ m r e1 fun φ1 H1 u x1 m1 r1 q1 => ?_)
    obtain ⟨ad, vs, rfl, h, st⟩ := seq_at m1 q1 e2
    exact ⟨ad, rfl, ⟨vs, h⟩, k _ _ _ x1 m1 (it_lst st)⟩
theorem rng_get2 {x y : PV} {M : Mem} {xs : List PV × Gd} {M' : Mem} (e : (match x, y with
    | .int i, .int j => iff_ (decide (-(2 ^ 62) ≤ i) && decide (i < 2 ^ 62) && decide (-(2 ^ 62) ≤ j) && decide (j < 2 ^ 62)) (some ((rngI i (j - i).toNat, []), M))
    | _, _ => none) = some (xs, M')) : ∃ i j : Int, x = .int i ∧ y = .int j ∧ -(2 ^ 62) ≤ i ∧ i < 2 ^ 62 ∧ -(2 ^ 62) ≤ j ∧ j < 2 ^ 62 ∧ xs = (rngI i (j - i).toNat, []) ∧ M' = M := by
  cases x <;> first | (cases e; done) | skip
  cases y <;> first | (cases e; done) | skip
  obtain ⟨hz, e⟩ := ifE e
  rw [Bool.and_eq_true, Bool.and_eq_true, Bool.and_eq_true] at hz
  cases e
  exact ⟨_, _, rfl, rfl, of_decide_eq_true hz.1.1.1, of_decide_eq_true hz.1.1.2, of_decide_eq_true hz.1.2, of_decide_eq_true hz.2, rfl, rfl⟩
theorem evs1 {env : Env} {M M1 : Mem} {v : PV} (e : Ev.eval call ma env M = some (v, M1)) : Ev.evals call (.cons ma .nil) env M = some (([v] : List PV), M1) := by
  unfold Ev.evals
  rw [e]
  unfold Ev.evals
  rfl
theorem evs2 {env : Env} {M M1 M2 : Mem} {v w : PV} (e : Ev.eval call ma env M = some (v, M1)) (e2 : Ev.eval call mb env M1 = some (w, M2)) : Ev.evals call (.cons ma (.cons mb .nil)) env M = some (([v, w] : List PV), M2) := by
  unfold Ev.evals
  rw [e]
  show bnd (Ev.evals call (.cons mb .nil) env M1) _ = _
  rw [evs1 e2]
  rfl
theorem it_rng1 {tg : Expr} {p : Pos} (hg : Gl X "range") (hm : X.mg "range" = none) (ha : PA X [a] (tIs X.K call (.cons ma .nil)))
    (hs : starEach [a] X.env = (false, PySem.eval a X.env) :: starEach [] X.env := by rfl) (hpl : (backTo pos (starEach [] X.env)).any (·.1) = false := by rfl) :
    PI X tg (.Call (.Name "range" p) [a] [] pos) (tIt X.K call (.rng (.cst (.int 0)) ma)) := by
  refine ⟨fun pins s σ H R I ⟨φ, M, env, xs, M', m, r, e, k⟩ => ?_⟩
  unfold Ev.evalI at e
  obtain ⟨⟨y, M1⟩, e1, e⟩ := bindE e
  unfold Ev.eval at e1
  cases e1
  obtain ⟨⟨y2, M2⟩, e2, e⟩ := bindE e
  obtain ⟨i, j, h1, h2, a1, a2, a3, a4, rfl, rfl⟩ := rng_get2 e
  cases h1
  cases h2
  refine (pi_range1 hg hm ha hs).run pins s σ H R I (tIs.then_ m r (evs1 e2) fun φ1 H1 u x1 m1 r1 q1 => ?_)
  obtain ⟨z, rfl, q⟩ := one_of q1
  cases q
  refine ⟨j, rfl, a3, a4, k _ _ _ x1 m1 ?_⟩
  show ItOk _ _ _ _ [] (rngI 0 (j - 0).toNat)
  rw [show j - 0 = j by omega]
  exact it_rng 0 _
theorem it_rng2 {tg : Expr} {p : Pos} (hg : Gl X "range") (hm : X.mg "range" = none) (ha : PA X [a, b] (tIs X.K call (.cons ma (.cons mb .nil))))
    (hs : starEach [a, b] X.env = (false, PySem.eval a X.env) :: starEach [b] X.env := by rfl) (hs2 : starEach [b] X.env = (false, PySem.eval b X.env) :: starEach [] X.env := by rfl) :
    PI X tg (.Call (.Name "range" p) [a, b] [] pos) (tIt X.K call (.rng ma mb)) := by
  refine ⟨fun pins s σ H R I ⟨φ, M, env, xs, M', m, r, e, k⟩ => ?_⟩
  unfold Ev.evalI at e
  obtain ⟨⟨y, M1⟩, e1, e⟩ := bindE e
  obtain ⟨⟨y2, M2⟩, e2, e⟩ := bindE e
  obtain ⟨i, j, h1, h2, a1, a2, a3, a4, rfl, rfl⟩ := rng_get2 e
  cases h1
  cases h2
  refine (pi_range2 hg hm ha (by rw [hs, hs2]; rfl) hs2).run pins s σ H R I (tIs.then_ m r (evs2 e1 e2) fun φ1 H1 u x1 m1 r1 q1 => ?_)
  obtain ⟨z, t, rfl, q, q'⟩ := two_of q1
  cases q; cases q'
  exact ⟨i, j, rfl, ⟨a1, a2, a3, a4⟩, k _ _ _ x1 m1 (it_rng _ _)⟩
theorem it_zip {elts : List Expr} {kk : Nat} {tpos p : Pos} (hg : Gl X "zip") (hm : X.mg "zip" = none) (ha : PA X [a, b] (tIs X.K call (.cons ma (.cons mb .nil))))
    (hs : starEach [a, b] X.env = (false, PySem.eval a X.env) :: starEach [b] X.env := by rfl) (hpl : (backTo pos (starEach [b] X.env)).any (·.1) = false := by rfl) :
    PI X (.Tuple elts kk tpos) (.Call (.Name "zip" p) [a, b] [] pos) (tIt X.K call (.zip ma mb)) := by
  refine ⟨fun pins s σ H R I ⟨φ, M, env, xs, M', m, r, e, k⟩ => ?_⟩
  unfold Ev.evalI at e
  obtain ⟨⟨y, M1⟩, e1, e⟩ := bindE e
  obtain ⟨⟨y2, M2⟩, e2, e⟩ := bindE e
  simp only at e
  cases s1 : seqG M2 y with
  | none => rw [s1] at e; cases e
  | some t1 =>
  cases s2 : seqG M2 y2 with
  | none => rw [s1, s2] at e; cases e
  | some t2 =>
  obtain ⟨k1, xs1, g1⟩ := t1
  obtain ⟨k2, xs2, g2⟩ := t2
  rw [s1, s2] at e
  obtain ⟨hk, e'⟩ := ifE e
  clear e
  have hk := eq_of_beq hk
  subst hk
  cases e'
  refine (RZ.pi_zipA hg hm ha hs hpl).run pins s σ H R I (tIs.then_ m r (evs2 e1 e2) fun φ1 H1 u x1 m1 r1 q1 => ?_)
  obtain ⟨z, t, rfl, q, q'⟩ := two_of q1
  obtain ⟨a1, v1, rfl, h1, t1⟩ := seq_at m1 q s1
  obtain ⟨a2, v2, rfl, h2, t2⟩ := seq_at m1 q' s2
  cases k1 with
  | true => exact ⟨_, _, _, _, rfl, .inr ⟨h1, h2, k _ _ _ x1 m1 (it_zipT t1 t2)⟩⟩
  | false => exact ⟨_, _, _, _, rfl, .inl ⟨h1, h2, k _ _ _ x1 m1 (it_zipL t1 t2)⟩⟩
/-! ### targets -/
theorem g_nm {x : Str} (i : Nat) (hN : X.N.Nodup) (hi : X.N[i]? = some x := by rfl) (hx : Loc X.env.scope x := by first | exact .inl rfl | exact .inr rfl) (hf : X.fn x = true ∨ X.env.scope.names.lookup x = some .local := by first | exact .inl rfl | exact .inr rfl | assumption) :
    PG X (.Name x pos) (gT X.K (.nm i)) := pg_name hN hi hx hf
theorem gs_nil : PGs X [] (gNames []) := pgs_nil
theorem gs_cons {x : Str} {es : List Expr} {is : List Nat} (i : Nat) (hN : X.N.Nodup) (h : PGs X es (gNames is)) (hi : X.N[i]? = some x := by rfl) (hx : Loc X.env.scope x := by first | exact .inl rfl | exact .inr rfl) (hf : X.fn x = true ∨ X.env.scope.names.lookup x = some .local := by first | exact .inl rfl | exact .inr rfl | assumption) :
    PGs X (.Name x pos :: es) (gNames (i :: is)) := pgs_cons (pg_name hN hi hx hf) h
theorem g_tp {es : List Expr} {is : List Nat} {kk : Nat} (hc : X.calm = true) (h : PGs X es (gNames is)) (hn : (assignEach es X.env).length = is.length := by rfl) (hst : (assignEach es X.env).findIdx? (·.1) = none := by rfl) :
    PG X (.Tuple es kk pos) (gT X.K (.tp is)) := pg_tup hc h hn hst
theorem g_ls {es : List Expr} {is : List Nat} {kk : Nat} (hc : X.calm = true) (h : PGs X es (gNames is)) (hn : (assignEach es X.env).length = is.length := by rfl) (hst : (assignEach es X.env).findIdx? (·.1) = none := by rfl) :
    PG X (.Tuple es kk pos) (gT X.K (.ls is)) := pg_unl hc h hn hst
/-! ### comprehensions -/
def tCs (K : PySem.W.Frag) (call : Cl) (cs : Es) : TT := fun σ H Q => ∃ φ M env b M', RM K φ H M ∧ RE K φ H env σ ∧ Ev.conds call cs env M = some (b, M') ∧ ∀ φ' H', Xt φ H φ' H' → RM K φ' H' M' → Q b H'
theorem cs_nil : PTs X [] (tCs X.K call .nil) := ⟨fun pins s σ H Q I ⟨φ, M, env, b, M', m, r, e, k⟩ => pts_nil.run pins s σ H Q I (by
  unfold Ev.conds at e
  cases e
  exact k _ _ .refl m)⟩
theorem cs_one (h : PT X a (tT X.K call ma)) : PTs X [a] (tCs X.K call (.cons ma .nil)) := ⟨fun pins s σ H Q I ⟨φ, M, env, b, M', m, r, e, k⟩ => (pts_one h).run pins s σ H Q I (by
  unfold Ev.conds at e
  obtain ⟨⟨y, M1⟩, e1, e⟩ := bindE e
  rcases bifE e with ⟨t, e⟩ | ⟨t, e⟩
  · unfold Ev.conds at e
    cases e
    exact tT.then_ m r e1 t fun φ1 H1 x1 m1 r1 => k _ _ x1 m1
  · cases e
    exact tT.then_ m r e1 t fun φ1 H1 x1 m1 r1 => k _ _ x1 m1)⟩
theorem lcL_len {t : T} {g : Gd} {cond : Env → Mem → Option (Bool × Mem)} {elt : Env → Mem → Option (PV × Mem)} {env : Env} : ∀ {xs acc : List PV} {M M' : Mem} {vs : List PV}, lcL t g cond elt env xs acc M = some (vs, M') → acc.length ≤ vs.length
  | [], acc, M, M', vs, h => by
    unfold lcL at h
    split at h
    · cases h; exact Nat.le_refl _
    · cases h
  | x :: xs, acc, M, M', vs, h => by
    unfold lcL at h
    split at h
    · split at h
      · split at h
        · split at h
          · have := lcL_len h
            rw [List.length_append] at this
            omega
          · cases h
        · exact lcL_len h
        · cases h
      · cases h
    · cases h
theorem lc_rd {it : I} {t : T} {cs : Es} {w : List Nat} {f : Bool} {σ : L2.St} {H : Hp} {Q : VK} (hw : ∀ i ∈ t.ids, i ∈ w) (h : tI X.K call (.lc f w t it cs ma) σ H Q) :
    tLc (tIt X.K call it) (gT X.K t) (tCs X.K call cs) (tI X.K call ma) w σ H Q := by
  obtain ⟨φ, M, env, v, M', m, r, e, k⟩ := h
  unfold Ev.eval at e
  obtain ⟨⟨⟨xs, g⟩, M1⟩, e1, e⟩ := bindE e
  obtain ⟨⟨vs, M2⟩, e2, e⟩ := bindE e
  obtain ⟨hz, e⟩ := ifE e
  have hz := of_decide_eq_true hz
  have e := Option.some.inj e
  simp only at e2 hz
  refine ⟨φ, M, env, (xs, g), M1, m, r, e1, fun φ1 H1 J x1 m1 ok => fun D hD => ?_⟩
  simp only at ok
  -- ahead of turn i: what is left makes the rest
  refine ⟨fun i n H3 => ∃ (φ3 : Ph) (M3 : Mem) (acc : List PV) (us : List V), i + n = xs.length ∧ Xt φ1 H1 φ3 H3 ∧ RM X.K φ3 H3 M3 ∧ D ∈ φ3.r ∧ D ∉ φ3.c ∧ H3 D = some (.lst us) ∧ Rps X.K φ3 H3 acc us ∧
    lcL t g (Ev.conds call cs) (Ev.eval call ma) (wipeE env w) (xs.drop i) acc M3 = some (vs, M2), ⟨xs.length, φ1.hide D, M1, [], [], by omega, xt_hide hD, m1.enter hD, List.mem_cons_self, m1.notin hD, upd_same, .nil, e2⟩, ?_⟩
  rintro i n H3 ⟨φ3, M3, acc, us, hn, x3, m3, hd, nD, eD, ra, e3⟩
  have hgd : gOk g M3 = true := by
    cases hg : gOk g M3 with
    | true => rfl
    | false =>
      cases hd : xs.drop i with
      | nil => rw [hd] at e3; unfold lcL at e3; rw [hg] at e3; cases e3
      | cons a l => rw [hd] at e3; unfold lcL at e3; rw [hg] at e3; cases e3
  obtain ⟨go, stop, yld⟩ := ok φ3 H3 M3 x3 m3 hgd
  by_cases hi : i < xs.length
  · refine .inr ⟨go i hi, ?_⟩
    rw [List.drop_eq_getElem_cons hi] at e3
    unfold lcL at e3
    rw [hgd] at e3
    simp only at e3
    split at e3
    · rename_i env1 eb
      refine ⟨fun H' => ∃ n', n' < n ∧ ∃ (φ4 : Ph) (M4 : Mem) (acc4 : List PV) (us4 : List V), i + 1 + n' = xs.length ∧ Xt φ1 H1 φ4 H' ∧ RM X.K φ4 H' M4 ∧ D ∈ φ4.r ∧ D ∉ φ4.c ∧ H' D = some (.lst us4) ∧ Rps X.K φ4 H' acc4 us4 ∧
        lcL t g (Ev.conds call cs) (Ev.eval call ma) (wipeE env w) (xs.drop (i + 1)) acc4 M4 = some (vs, M2), fun H' h => ?_, fun x H4 hy => ?_⟩
      · obtain ⟨n', h1, φ4, M4, acc4, us4, h2⟩ := h
        exact ⟨n', h1, φ4, M4, acc4, us4, h2⟩
      · obtain ⟨v0, ev0, rv0, x4, mm⟩ := yld i x H4 hi hy
        rw [List.getElem?_eq_getElem hi] at ev0
        cases ev0
        have m4 := mm M3 m3
        have eD4 : H4 D = some (.lst us) := x4.keep _ _ eD fun z => absurd z nD
        have re4 : RE X.K φ3 H4 (wipeE env w) (L2.wipe σ w) := (r.mono (x1.trans (x3.trans x4))).wipe w
        refine gT_rd rv0 re4 eb fun σ' re' ew => ?_
        have hl := wipe_len_eq ew
        refine ⟨?_, ?_⟩
        · have := wipe_more ew hw hl
          rw [this]
          apply List.ext_getElem?
          intro j
          rw [wipe_get, wipe_get, wipe_length]
          by_cases kj : j ∈ w
          · rw [if_pos kj, if_pos kj]
          · rw [if_neg kj]
        · split at e3
          · rename_i M5 ec
            refine ⟨φ3, M3, env1, true, M5, m4, re', ec, fun φ5 H5 x5 m5 => ?_⟩
            show (if true = true then _ else _)
            rw [if_pos rfl]
            split at e3
            · rename_i v6 M6 ee
              refine tI.then_ m5 (re'.mono x5) ee fun φ6 H6 u6 x6 m6 r6 q6 => ?_
              have x46 : Xt φ3 H4 φ6 H6 := x5.trans x6
              have x36 : Xt φ3 H3 φ6 H6 := x4.trans x46
              have eD6 : H6 D = some (.lst us) := x36.keep _ _ eD fun z => absurd z nD
              have nD6 : D ∉ φ6.c := x36.notin eD nD
              have hd6 : D ∈ φ6.r := x36.res _ hd
              have hlen := lcL_len e3
              rw [List.length_append, List.length_singleton] at hlen
              have xa : Xt φ1 H1 φ6 H6 := x3.trans x36
              refine ⟨us, eD6, by rw [← ra.length]; omega, n - 1, by omega, φ6, M6, acc ++ [v6], us ++ [u6], by omega, ⟨xa.pre, xa.res, fun a o ea hc => ?_, xa.fresh, xa.freshr, fun a o ea => ?_⟩, m6.under eD6 hd6 nD6, hd6, nD6, upd_same, (((ra.mono x36).under eD6 hd6).append (.cons (q6.under eD6 hd6) .nil)), e3⟩
              · rw [upd_ne (ne_of_none ea hD)]
                exact xa.keep a o ea hc
              · obtain ⟨o', e'⟩ := xa.there a o ea
                exact ⟨o', by rw [upd_ne (ne_of_none ea hD)]; exact e'⟩
            · cases e3
          · rename_i M5 ec
            refine ⟨φ3, M3, env1, false, M5, m4, re', ec, fun φ5 H5 x5 m5 => ?_⟩
            show (if false = true then _ else _)
            rw [if_neg Bool.false_ne_true]
            have x35 := x4.trans x5
            exact ⟨n - 1, by omega, φ5, M5, acc, us, by omega, x3.trans x35, m5, x35.res _ hd, x35.notin eD nD, x35.keep _ _ eD fun z => absurd z nD, ra.mono x35, e3⟩
          · cases e3
    · cases e3
  · refine .inl ⟨stop i (by omega), ?_⟩
    rw [List.drop_eq_nil_of_le (by omega)] at e3
    unfold lcL at e3
    rw [hgd] at e3
    cases e3
    have m4 := m3.less (l := φ1.r) x3.res
    have ra4 := ra.less (l := φ1.r) x3.res
    have nD2 : D ∉ φ1.r := (m1.notin2 hD).2
    have x4 : Xt φ1 H1 ⟨φ3.c, φ1.r⟩ H3 := ⟨x3.pre, fun _ h => h, x3.keep, x3.fresh, fun _ h n => absurd h n, x3.there⟩
    cases f with
    | false =>
      cases e
      exact k _ _ _ (x1.trans x4) m4 (.lst eD ⟨nD, nD2⟩ ra4)
    | true =>
      cases e
      -- the list becomes a cell
      have x5 : Xt φ1 H1 (Ph.add ⟨φ3.c, φ1.r⟩ D) H3 := ⟨by
        obtain ⟨e, h⟩ := x3.pre
        exact ⟨e ++ [D], by show φ3.c ++ [D] = _; rw [h, List.append_assoc]⟩, fun _ h => h, x3.keep, fun a h n => by
        rcases List.mem_append.mp h with h | h
        · exact x3.fresh a h n
        · have : a = D := by simpa using h
          rw [this]; exact hD, fun _ h n => absurd h n, x3.there⟩
      have up : ∀ {v : PV} {u : V}, Rp X.K φ3 H3 v u → Rp X.K (Ph.add ⟨φ3.c, φ1.r⟩ D) H3 v u := fun h => h.shift x3.res hd
      refine k (Ph.add ⟨φ3.c, φ1.r⟩ D) H3 _ (x1.trans x5) ?_ (.ref ?_)
      · refine ⟨by simp [Ph.add, m3.len], ?_, m4.res, fun n a c h1 h2 => ?_⟩
        · show (φ3.c ++ [D]).Nodup
          rw [List.nodup_append]
          refine ⟨m3.nd, by simp, fun a ha b hb e => ?_⟩
          have : b = D := by simpa using hb
          subst this
          exact nD (e ▸ ha)
        · change (φ3.c ++ [D])[n]? = some a at h1
          by_cases kk : n < φ3.c.length
          · rw [List.getElem?_append_left kk] at h1
            rw [List.getElem?_append_left (by rw [← m3.len]; exact kk)] at h2
            have h3 := m3.cells n a c h1 h2
            cases c with
            | lst ys =>
              obtain ⟨ws, h4, h5⟩ := h3
              exact ⟨ws, h4, h5.shift x3.res hd⟩
            | dic _ => exact h3
          · have k2 : n = φ3.c.length := by
              have := (List.getElem?_eq_some_iff.mp h1).1
              simp at this
              omega
            subst k2
            rw [List.getElem?_append_right (Nat.le_refl _)] at h1
            rw [m3.len, List.getElem?_append_right (Nat.le_refl _)] at h2
            simp at h1 h2
            subst h1 h2
            exact ⟨us, eD, ra.shift x3.res hd⟩
      · show (φ3.c ++ [D])[M2.length]? = some D
        rw [← m3.len, List.getElem?_append_right (Nat.le_refl _)]
        simp
theorem i_lc {elt tg iter : Expr} {ifs : List Expr} {scope : Scope} {own : List (Str × Nat)} {it : I} {t : T} {cs : Es} (f : Bool) (hc : X.calm = true) (hN : X.N.Nodup) (hi : PI X tg iter (tIt X.K call it)) (ok : blkC X.N X.env.scope scope own = true) (hw : (t.ids.all fun i => (own.map (·.2)).contains i) = true)
    (hg : ∀ (s : Shared) (H : Hp) (C : Addr) (cl : List (Str × Addr)) (fp : List Addr), PG (X.blk s H scope (compEnvC scope cl C X.env) fp) tg (gT X.K t)) (ht : ∀ (s : Shared) (H : Hp) (C : Addr) (cl : List (Str × Addr)) (fp : List Addr), PTs (X.blk s H scope (compEnvC scope cl C X.env) fp) ifs (tCs X.K call cs))
    (he : ∀ (s : Shared) (H : Hp) (C : Addr) (cl : List (Str × Addr)) (fp : List Addr), PE (X.blk s H scope (compEnvC scope cl C X.env) fp) elt (tI X.K call ma)) (hs : ∀ x, foldedSetIterable iter X.env x = pure x := by intro _; rfl) :
    PE X (.ListComp elt [⟨tg, iter, ifs, 0⟩] scope pos) (tI X.K call (.lc f (own.map (·.2)) t it cs ma)) :=
  (pe_lc hc hN hi (blkOk_by ok) hg ht he hs).imp fun _ _ _ h => lc_rd (fun i hi => by
    have := List.all_eq_true.mp hw i hi
    simpa using this) h
end
end Ev

/-! Statements, defs. -/
namespace Ev
open PySem PySem.Spec PyProof.Rows L2
/-- what is wanted behind a statement, by the interpreter's result -/
def RK (K : PySem.W.Frag) (φ : Ph) (H : Hp) (D : Ends) : R → Prop
  | .nx env' M' => ∀ φ' H' σ', Xt φ H φ' H' → RM K φ' H' M' → RE K φ' H' env' σ' → D.nx σ' H'
  | .rt v M' => ∀ φ' H' u, Xt φ H φ' H' → RM K φ' H' M' → Rp K φ' H' v u → D.rt u H'
def tS (K : PySem.W.Frag) (call : Cl) (W : Nat) (s : S) : TS := fun D σ H => ∃ φ M env r, RM K φ H M ∧ RE K φ H env σ ∧ Ev.exec call W s env M = some r ∧ RK K φ H D r
def tSs (K : PySem.W.Frag) (call : Cl) (W : Nat) (s : Ss) : TS := fun D σ H => ∃ φ M env r, RM K φ H M ∧ RE K φ H env σ ∧ Ev.execs call W s env M = some r ∧ RK K φ H D r
theorem _root_.L2.PS.imp {X : Cx} {e : Stmt} {t t' : TS} (h : PS X e t) (k : ∀ D σ H, t' D σ H → t D σ H) : PS X e t' := ⟨fun pins s σ H D I q => h.run pins s σ H D I (k _ _ _ q)⟩
theorem _root_.L2.PSs.imp {X : Cx} {e : List Stmt} {t t' : TS} (h : PSs X e t) (k : ∀ D σ H, t' D σ H → t D σ H) : PSs X e t' := ⟨fun pins s σ H D I q => h.run pins s σ H D I (k _ _ _ q)⟩
theorem RK.mono {K : PySem.W.Frag} {φ φ1 : Ph} {H H1 : Hp} {D : Ends} {r : R} (x : Xt φ H φ1 H1) (k : RK K φ H D r) : RK K φ1 H1 D r := by
  cases r with
  | nx env M => exact fun φ' H' σ' y => k φ' H' σ' (x.trans y)
  | rt v M => exact fun φ' H' u y => k φ' H' u (x.trans y)
section
variable {X : Cx} {call : Cl} {W : Nat} {a b c : Expr} {ma mb mc : E} {pos : Pos}
theorem s_set {x : Str} {pos' : Pos} (i : Nat) (hN : X.N.Nodup) (ha : PE X a (tI X.K call ma)) (hi : X.N[i]? = some x := by rfl) (hx : Loc X.env.scope x := by first | exact .inl rfl | exact .inr rfl) (hs : swapsWith a (some (.Name x pos')) pos.line X.env = pure false := by rfl)
    (hf : X.fn x = true ∨ X.env.scope.names.lookup x = some .local := by first | exact .inl rfl | exact .inr rfl | assumption) : PS X (.Assign [.Name x pos'] a pos) (tS X.K call W (.set i ma)) :=
  (ps_set hN hi hx ha hs hf).imp fun D σ H ⟨φ, M, env, r, m, re, e, k⟩ => by
    unfold Ev.exec at e
    obtain ⟨⟨v, M1⟩, e1, e⟩ := bindE e
    cases e
    exact tI.then_ m re e1 fun φ1 H1 u x1 m1 r1 q1 => k _ _ _ x1 m1 (r1.set q1 i)
theorem s_setLc {y : Str} {py : Pos} {elt tg iter : Expr} {ifs : List Expr} {scope : Scope} {own : List (Str × Nat)} {pos spos : Pos} {it : I} {t : T} {cs : Es} (i : Nat) (f : Bool) (hc : X.calm = true) (hN : X.N.Nodup) (hI : PI X tg iter (tIt X.K call it)) (ok : blkC X.N X.env.scope scope own = true) (hw : (t.ids.all fun i => (own.map (·.2)).contains i) = true)
    (hg : ∀ (s : Shared) (H : Hp) (C : Addr) (cl : List (Str × Addr)) (fp : List Addr), PG (X.blk s H scope (compEnvC scope cl C X.env) fp) tg (gT X.K t)) (ht : ∀ (s : Shared) (H : Hp) (C : Addr) (cl : List (Str × Addr)) (fp : List Addr), PTs (X.blk s H scope (compEnvC scope cl C X.env) fp) ifs (tCs X.K call cs))
    (he : ∀ (s : Shared) (H : Hp) (C : Addr) (cl : List (Str × Addr)) (fp : List Addr), PE (X.blk s H scope (compEnvC scope cl C X.env) fp) elt (tI X.K call ma))
    (hy : X.N[i]? = some y := by rfl) (hyl : X.env.scope.names.lookup y = some .local := by rfl)
    (hsw : swapsWith (.ListComp elt [⟨tg, iter, ifs, 0⟩] scope pos) (some (.Name y py)) spos.line X.env = pure true := by exact sw_true rfl rfl rfl (by decide +kernel)) (hs : ∀ x, foldedSetIterable iter X.env x = pure x := by intro _; rfl) :
    PS X (.Assign [.Name y py] (.ListComp elt [⟨tg, iter, ifs, 0⟩] scope pos) spos) (tS X.K call W (.set i (.lc f (own.map (·.2)) t it cs ma))) :=
  (ps_setLc hc hN hy hyl hsw hI (blkOk_by ok) hg ht he hs).imp fun D σ H ⟨φ, M, env, r, m, re, e, k⟩ => by
    unfold Ev.exec at e
    obtain ⟨⟨v, M1⟩, e1, e⟩ := bindE e
    cases e
    refine lc_rd (fun i hi => by
      have := List.all_eq_true.mp hw i hi
      simpa using this) (Q := fun x H1 => gName i x σ H1 D.nx) (tI.then_ m re e1 fun φ1 H1 u x1 m1 r1 q1 => ?_)
    exact k _ _ _ x1 m1 (r1.set q1 i)
theorem s_asg {tg : Expr} {t : T} (ha : PE X a (tI X.K call ma)) (hg : PG X tg (gT X.K t)) (hs : swapsWithSole [tg] a pos.line X.env = pure false := by rfl) (hw : swappedStores [tg] a X.env = pure none := by rfl)
    (h1 : (assignEach [tg] X.env).map (·.2) = [assign tg X.env] := by rfl) : PS X (.Assign [tg] a pos) (tS X.K call W (.asg t ma)) :=
  (ps_asg ha hg hs hw h1).imp fun D σ H ⟨φ, M, env, r, m, re, e, k⟩ => by
    unfold Ev.exec at e
    obtain ⟨⟨v, M1⟩, e1, e⟩ := bindE e
    obtain ⟨env1, e2, e⟩ := mapE e
    subst e
    exact tI.then_ m re e1 fun φ1 H1 u x1 m1 r1 q1 => gT_rd q1 r1 e2 fun σ' r' _ => k _ _ _ x1 m1 r'
theorem s_par {x y : Str} {px py pt : Pos} {kt k2 pt2} (i j : Nat) (hc : X.calm = true) (hN : X.N.Nodup) (ha : PA X [a, b] (tIs X.K call (.cons ma (.cons mb .nil)))) (hi : X.N[i]? = some x := by rfl) (hj : X.N[j]? = some y := by rfl) (hij : i ≠ j := by decide)
    (hx : X.env.scope.names.lookup x = some .local := by rfl) (hy : X.env.scope.names.lookup y = some .local := by rfl)
    (hw : swappedStores [.Tuple [.Name x px, .Name y py] kt pt] (.Tuple [a, b] k2 pt2) X.env = pure (some [x, y]) := by rfl)
    (hs : swapsWithSole [.Tuple [.Name x px, .Name y py] kt pt] (.Tuple [a, b] k2 pt2) pos.line X.env = pure false := by rfl) :
    PS X (.Assign [.Tuple [.Name x px, .Name y py] kt pt] (.Tuple [a, b] k2 pt2) pos) (tS X.K call W (.par i j ma mb)) :=
  (ps_par hc hN hi hj hij hx hy ha hw hs).imp fun D σ H ⟨φ, M, env, r, m, re, e, k⟩ => by
    unfold Ev.exec at e
    obtain ⟨⟨v, M1⟩, e1, e⟩ := bindE e
    obtain ⟨⟨w, M2⟩, e2, e⟩ := bindE e
    cases e
    have ev : Ev.evals call (.cons ma (.cons mb .nil)) env M = some ([v, w], M2) := by
      unfold Ev.evals
      rw [e1]
      show bnd (Ev.evals call (.cons mb .nil) env M1) _ = _
      unfold Ev.evals
      rw [e2]
      unfold Ev.evals
      rfl
    refine tIs.then_ m re ev fun φ1 H1 u x1 m1 r1 q1 => ?_
    obtain ⟨z, t, rfl, q, q'⟩ := two_of q1
    exact ⟨z, t, rfl, k _ _ _ x1 m1 ((r1.set q i).set q' j)⟩
theorem s_seti {i : Expr} {mi : E} {spos : Pos} (ha : PE X a (tI X.K call ma)) (hb : PE X b (tI X.K call mb)) (hi : PE X i (tI X.K call mi)) (hp : ∀ v, assign (.Subscript b i spos) X.env v = (do
      let ov ← holding [v] (PySem.eval b X.env)
      let iv ← holding [v, ov] (PySem.eval i X.env)
      standAt spos
      holding [v, ov, iv] (setItem ov iv v)
      release [v, ov, iv] []) := by intro _; rfl) (hs : swapsWithSole [.Subscript b i spos] a pos.line X.env = pure false := by rfl) (hw : swappedStores [.Subscript b i spos] a X.env = pure none := by rfl)
    (h1 : (assignEach [.Subscript b i spos] X.env).map (·.2) = [assign (.Subscript b i spos) X.env] := by rfl) : PS X (.Assign [.Subscript b i spos] a pos) (tS X.K call W (.seti mb mi ma)) :=
  (ps_asg ha (pg_sub hb hi set_list hp) hs hw h1).imp fun D σ H ⟨φ, M, env, r, m, re, e, k⟩ => by
    unfold Ev.exec at e
    obtain ⟨⟨v, M1⟩, e1, e⟩ := bindE e
    obtain ⟨⟨o, M2⟩, e2, e⟩ := bindE e
    cases o with
    | ref n =>
      obtain ⟨⟨y, M3⟩, e3, e⟩ := bindE e
      cases y with
      | int z =>
        simp only at e
        split at e
        · rename_i xs e4
          obtain ⟨ys, e5, e⟩ := mapE e
          subst e
          refine tI.then_ m re e1 fun φ1 H1 u x1 m1 r1 q1 => tI.then_ m1 r1 e2 fun φ2 H2 u2 x2 m2 r2 q2 => tI.then_ m2 r2 e3 fun φ3 H3 u3 x3 m3 r3 q3 => ?_
          cases q3
          cases q2 with
          | ref h2 =>
          have h3 := x3.get h2
          obtain ⟨ad, h6, vs, h7, h8⟩ := m3.at_ e4
          rw [h3] at h6
          cases h6
          obtain ⟨j, e6, e7⟩ := mapE e5
          subst e7
          refine ⟨_, vs, z, j, rfl, rfl, h7, by rw [← h8.length]; exact e6, ?_⟩
          have xs3 := xt_set (o := .lst (vs.set j u)) m3 h3
          exact k _ _ _ (x1.trans (x2.trans (x3.trans xs3))) (m3.set h3 (h8.set j (q1.mono (x2.trans x3)))) (r3.mono xs3)
        · cases e
      | non | bl | str | tup | lst | rol | ref => cases e
    | non | bl | int | str | tup | lst | rol => cases e
theorem s_exp (h : PS X (.Expr a pos) (tDrop (tI X.K call ma))) : PS X (.Expr a pos) (tS X.K call W (.exp ma)) :=
  h.imp fun D σ H ⟨φ, M, env, r, m, re, e, k⟩ => by
    unfold Ev.exec at e
    obtain ⟨⟨v, M1⟩, e1, e⟩ := bindE e
    cases e
    exact tI.then_ m re e1 fun φ1 H1 u x1 m1 r1 q1 => k _ _ _ x1 m1 r1
theorem s_ite {p q : List Stmt} {sp sq : Ss} (hc : PT X c (tT X.K call mc)) (hp : PSs X p (tSs X.K call W sp)) (hq : PSs X q (tSs X.K call W sq)) : PS X (.If c p q pos) (tS X.K call W (.ite mc sp sq)) :=
  (ps_if hc hp hq).imp fun D σ H ⟨φ, M, env, r, m, re, e, k⟩ => by
    unfold Ev.exec at e
    obtain ⟨⟨v, M1⟩, e1, e⟩ := bindE e
    rcases bifE e with ⟨t, e⟩ | ⟨t, e⟩
    · exact tT.then_ m re e1 t fun φ1 H1 x1 m1 r1 => by rw [if_pos rfl]; exact ⟨φ1, M1, env, r, m1, r1, e, k.mono x1⟩
    · exact tT.then_ m re e1 t fun φ1 H1 x1 m1 r1 => by rw [if_neg Bool.false_ne_true]; exact ⟨φ1, M1, env, r, m1, r1, e, k.mono x1⟩
theorem s_ret (ha : PE X a (tI X.K call ma)) : PS X (.Return (some a) pos) (tS X.K call W (.ret ma)) :=
  (ps_ret ha).imp fun D σ H ⟨φ, M, env, r, m, re, e, k⟩ => by
    unfold Ev.exec at e
    obtain ⟨⟨v, M1⟩, e1, e⟩ := bindE e
    cases e
    exact tI.then_ m re e1 fun φ1 H1 u x1 m1 r1 q1 => k _ _ _ x1 m1 q1
theorem s_rais {st : Stmt} : PS X st (tS X.K call W .rais) := ps_never.imp fun D σ H ⟨φ, M, env, r, m, re, e, k⟩ => by
  unfold Ev.exec at e
  cases e
theorem ss_nil : PSs X [] (tSs X.K call W .nil) := pss_nil.imp fun D σ H ⟨φ, M, env, r, m, re, e, k⟩ => by
  unfold Ev.execs at e
  cases e
  exact k _ _ _ .refl m re
theorem ss_cons {st : Stmt} {rest : List Stmt} {s : S} {ss : Ss} (h : PS X st (tS X.K call W s)) (hr : PSs X rest (tSs X.K call W ss)) : PSs X (st :: rest) (tSs X.K call W (.cons s ss)) :=
  (pss_cons h hr).imp fun D σ H ⟨φ, M, env, r, m, re, e, k⟩ => by
    unfold Ev.execs at e
    cases e1 : Ev.exec call W s env M with
    | none => rw [e1] at e; cases e
    | some r1 =>
      rw [e1] at e
      refine ⟨φ, M, env, r1, m, re, e1, ?_⟩
      cases r1 with
      | nx env1 M1 => exact fun φ' H' σ' x m' re' => ⟨φ', M1, env1, r, m', re', e, k.mono x⟩
      | rt v M1 =>
        cases e
        exact k
theorem s_for {tg iter : Expr} {body : List Stmt} {it : I} {t : T} {sb : Ss} (hp : PassesOwn (model X.prog X.w) X.A X.env X.xe) (hc : X.calm = true) (hi : PI X tg iter (tIt X.K call it)) (hg : PG X tg (gT X.K t)) (hb : PSs X body (tSs X.K call W sb))
    (hs : ∀ x, foldedSetIterable iter X.env x = pure x := by intro _; rfl) : PS X (.For tg iter body [] pos) (tS X.K call W (.for_ t it sb)) :=
  (ps_for hp hc hi hg hb hs).imp fun D σ H ⟨φ, M, env, r, m, re, e, k⟩ => by
    unfold Ev.exec at e
    obtain ⟨⟨⟨xs, g⟩, M1⟩, e1, e⟩ := bindE e
    refine ⟨φ, M, env, (xs, g), M1, m, re, e1, fun φ1 H1 J x1 m1 ok => ?_⟩
    simp only at ok e
    refine ⟨fun i n σ2 H2 => ∃ (φ2 : Ph) (M2 : Mem) (env2 : Env), i + n = xs.length ∧ Xt φ1 H1 φ2 H2 ∧ RM X.K φ2 H2 M2 ∧ RE X.K φ2 H2 env2 σ2 ∧ forL t g (Ev.execs call W sb) (xs.drop i) env2 M2 = some r,
      ⟨xs.length, φ1, M1, env, by omega, .refl, m1, re.mono x1, e⟩, ?_⟩
    rintro i n σ2 H2 ⟨φ2, M2, env2, hn, x2, m2, re2, e2⟩
    have hgd : gOk g M2 = true := by
      cases hg : gOk g M2 with
      | true => rfl
      | false =>
        cases hd : xs.drop i with
        | nil => rw [hd] at e2; unfold forL at e2; rw [hg] at e2; cases e2
        | cons a l => rw [hd] at e2; unfold forL at e2; rw [hg] at e2; cases e2
    obtain ⟨go, stop, yld⟩ := ok φ2 H2 M2 x2 m2 hgd
    by_cases hi : i < xs.length
    · refine .inr ⟨go i hi, ?_⟩
      rw [List.drop_eq_getElem_cons hi] at e2
      unfold forL at e2
      rw [hgd] at e2
      simp only at e2
      split at e2
      · rename_i env3 eb
        refine ⟨fun σ' H' => ∃ n', n' < n ∧ ∃ (φ4 : Ph) (M4 : Mem) (env4 : Env), i + 1 + n' = xs.length ∧ Xt φ1 H1 φ4 H' ∧ RM X.K φ4 H' M4 ∧ RE X.K φ4 H' env4 σ' ∧ forL t g (Ev.execs call W sb) (xs.drop (i + 1)) env4 M4 = some r, fun σ' H' h => h, fun x H3 hy => ?_⟩
        obtain ⟨v0, ev0, rv0, x3, mm⟩ := yld i x H3 hi hy
        rw [List.getElem?_eq_getElem hi] at ev0
        cases ev0
        have m3 := mm M2 m2
        refine gT_rd rv0 (re2.mono x3) eb fun σ' re' _ => ?_
        cases er : Ev.execs call W sb env3 M2 with
        | none => rw [er] at e2; cases e2
        | some r3 =>
          rw [er] at e2
          refine ⟨φ2, M2, env3, r3, m3, re', er, ?_⟩
          cases r3 with
          | nx env5 M5 => exact fun φ5 H5 σ5 x5 m5 re5 => ⟨n - 1, by omega, φ5, M5, env5, by omega, x2.trans (x3.trans x5), m5, re5, e2⟩
          | rt v M5 =>
            cases e2
            exact fun φ5 H5 u x5 m5 q5 => k _ _ _ (x1.trans (x2.trans (x3.trans x5))) m5 q5
      · cases e2
    · refine .inl ⟨stop i (by omega), ?_⟩
      rw [List.drop_eq_nil_of_le (by omega)] at e2
      unfold forL at e2
      rw [hgd] at e2
      cases e2
      exact k _ _ _ (x1.trans x2) m2 re2
theorem s_whl {body : List Stmt} {sb : Ss} (hp : PassesOwn (model X.prog X.w) X.A X.env X.xe) (hc : PT X c (tT X.K call mc)) (hb : PSs X body (tSs X.K call W sb)) : PS X (.While c body [] pos) (tS X.K call W (.whl mc sb)) :=
  (ps_while hp hc hb).imp fun D σ H ⟨φ, M, env, r, m, re, e, k⟩ => by
    unfold Ev.exec at e
    refine ⟨fun n σ2 H2 => ∃ (φ2 : Ph) (M2 : Mem) (env2 : Env), Xt φ H φ2 H2 ∧ RM X.K φ2 H2 M2 ∧ RE X.K φ2 H2 env2 σ2 ∧ whlL (fun env M => bnd (Ev.eval call mc env M) fun x M1 => (truthy M1 x).map fun k => (k, M1)) (Ev.execs call W sb) n env2 M2 = some r,
      ⟨W, φ, M, env, .refl, m, re, e⟩, ?_⟩
    rintro n σ2 H2 ⟨φ2, M2, env2, x2, m2, re2, e2⟩
    cases n with
    | zero => unfold whlL at e2; cases e2
    | succ n =>
      unfold whlL at e2
      cases ec : Ev.eval call mc env2 M2 with
      | none => rw [ec] at e2; cases e2
      | some vc =>
        obtain ⟨v, M3⟩ := vc
        rw [ec] at e2
        simp only [bnd] at e2
        cases tc : truthy M3 v with
        | none => rw [tc] at e2; cases e2
        | some b =>
          rw [tc] at e2
          refine tT.then_ m2 re2 ec tc fun φ3 H3 x3 m3 re3 => ?_
          cases b with
          | true =>
            rw [if_pos rfl]
            refine ⟨fun σ' H' => ∃ n', n' < n + 1 ∧ ∃ (φ4 : Ph) (M4 : Mem) (env4 : Env), Xt φ H φ4 H' ∧ RM X.K φ4 H' M4 ∧ RE X.K φ4 H' env4 σ' ∧ whlL (fun env M => bnd (Ev.eval call mc env M) fun x M1 => (truthy M1 x).map fun k => (k, M1)) (Ev.execs call W sb) n' env4 M4 = some r, fun σ' H' h => h, ?_⟩
            simp only [Option.map] at e2
            cases er : Ev.execs call W sb env2 M3 with
            | none => rw [er] at e2; cases e2
            | some r3 =>
              rw [er] at e2
              refine ⟨φ3, M3, env2, r3, m3, re3, er, ?_⟩
              cases r3 with
              | nx env5 M5 => exact fun φ5 H5 σ5 x5 m5 re5 => ⟨n, by omega, φ5, M5, env5, x2.trans (x3.trans x5), m5, re5, e2⟩
              | rt v M5 =>
                cases e2
                exact fun φ5 H5 u x5 m5 q5 => k _ _ _ (x2.trans (x3.trans x5)) m5 q5
          | false =>
            rw [if_neg Bool.false_ne_true]
            simp only [Option.map] at e2
            cases e2
            exact k _ _ _ (x2.trans x3) m3 re3
end
/-! ### leaving a def -/
section
variable {K : PySem.W.Frag} {φ φ' : Ph} {H H' : Hp} {M M' : Mem}
mutual
theorem under_rp {e : List Addr} {l : List Addr} (hl : ∀ a, a ∈ l → a ∈ φ.r) : ∀ {v : PV} {u : V} {c : List Addr}, φ.c = c ++ e → Rp K φ H v u → under c.length v = true → Rp K ⟨c, l⟩ H v u
  | _, _, _, _, .non, _ => .non
  | _, _, _, _, .bl b, _ => .bl b
  | _, _, _, _, .int i, _ => .int i
  | _, _, _, _, .str s, _ => .str s
  | .tup xs, _, c, hc, .tup k r, h => .tup k (unders_rp hl hc r h)
  | .lst xs, _, c, hc, .lst k n r, h => .lst k ⟨fun z => n.1 (by rw [hc]; exact List.mem_append_left _ z), fun z => n.2 (hl _ z)⟩ (unders_rp hl hc r h)
  | .rol xs, _, c, hc, .rol k r, h => .rol (by
      rcases k with ⟨o, k⟩ | ⟨k, n⟩ | k
      · exact .inl ⟨o, k⟩
      · exact .inr (.inl ⟨k, fun z => n.1 (by rw [hc]; exact List.mem_append_left _ z), fun z => n.2 (hl _ z)⟩)
      · exact .inr (.inr k)) (unders_rp hl hc r h)
  | .ref n, _, c, hc, .ref k, h => .ref (by
      have h1 : n < c.length := of_decide_eq_true h
      show c[n]? = _
      rw [hc, List.getElem?_append_left h1] at k
      exact k)
theorem unders_rp {e : List Addr} {l : List Addr} (hl : ∀ a, a ∈ l → a ∈ φ.r) : ∀ {v : List PV} {u : List V} {c : List Addr}, φ.c = c ++ e → Rps K φ H v u → unders c.length v = true → Rps K ⟨c, l⟩ H v u
  | _, _, _, _, .nil, _ => .nil
  | x :: xs, _, c, hc, .cons k r, h => by
    unfold unders at h
    rw [Bool.and_eq_true] at h
    exact .cons (under_rp hl hc k h.1) (unders_rp hl hc r h.2)
end
theorem leave_ok {v w : PV} {u : V} (m00 : RM K φ H M) (x : Xt φ H φ' H') (m : RM K φ' H' M') (r : Rp K φ' H' v u) {M2 : Mem} (h : leave M.length v M' = some (w, M2)) : ∃ φ2, Xt φ H φ2 H' ∧ RM K φ2 H' M2 ∧ Rp K φ2 H' w u := by
  unfold leave at h
  split at h
  · cases h
    exact ⟨φ', x, m, r⟩
  · split at h
    · rename_i hall
      obtain ⟨e, he⟩ := x.pre
      have hlen : φ.c.length = M.length := m00.len
      have hx : Xt φ H φ H' := ⟨⟨[], by simp⟩, fun _ h => h, x.keep, fun _ h n => absurd h n, fun _ h n => absurd h n, x.there⟩
      have hm : RM K φ H' (M'.take M.length) := by
        refine ⟨?_, ?_, fun a ha => m.res a (x.res a ha), fun n a c h1 h2 => ?_⟩
        · have := m.len
          rw [he, List.length_append] at this
          rw [List.length_take]
          omega
        · have := m.nd
          rw [he] at this
          exact (List.nodup_append.mp this).1
        · have hn : n < φ.c.length := (List.getElem?_eq_some_iff.mp h1).1
          rw [List.getElem?_take_of_lt (by omega)] at h2
          have h1' : φ'.c[n]? = some a := x.get h1
          have h3 := m.cells n a c h1' h2
          have hmem : c ∈ M'.take M.length := by
            apply List.mem_of_getElem? (i := n)
            rw [List.getElem?_take_of_lt (by omega)]
            exact h2
          have hu := List.all_eq_true.mp hall c hmem
          cases c with
          | lst xs =>
            obtain ⟨vs, h4, h5⟩ := h3
            refine ⟨vs, h4, ?_⟩
            have hu' : unders φ.c.length xs = true := by rw [hlen]; exact hu
            exact unders_rp (l := φ.r) x.res he h5 hu'
          | dic _ => exact h3
      split at h
      · rename_i hu
        cases h
        exact ⟨φ, hx, hm, under_rp (l := φ.r) x.res he r (by rw [hlen]; exact hu)⟩
      · split at h
        · rename_i k hu
          split at h
          · rename_i xs hk
            split at h
            · rename_i hxs
              cases h
              cases r with
              | @ref _ a h1 =>
              obtain ⟨a', h2, vs, h3, h4⟩ := m.at_ hk
              rw [h1] at h2
              cases h2
              have hk2 : ¬ k < M.length := fun z => hu (decide_eq_true z)
              have hnc : a ∉ φ.c := fun z => by
                obtain ⟨j, hj, ej⟩ := List.getElem_of_mem z
                have h5 : φ'.c[j]? = some a := x.get (by rw [List.getElem?_eq_getElem hj, ej])
                have := m.eq_of h1 h5
                omega
              refine ⟨φ, hx, hm, .lst h3 ⟨hnc, fun z => ?_⟩ (unders_rp (l := φ.r) x.res he h4 (by rw [hlen]; exact hxs))⟩
              obtain ⟨o, eo⟩ := m00.res a z
              have := x.fresh a (List.mem_of_getElem? h1) hnc
              rw [eo] at this
              cases this
            · cases h
          · cases h
        · cases h
    · cases h
end
end Ev

/-! Defs, the whole program. -/
namespace Ev
open PySem PySem.Spec PyProof.Rows L2
section
variable {P : Program} {w : World} {K : PySem.W.Frag} {mg : Str → Option Value} {base : Heap} {prog : List Fn} {W k : Nat}
theorem callN_get {i : Nat} {fn : Fn} {args : List PV} {M M' : Mem} {v : PV} (hp : prog[i]? = some fn) (h : callN prog W (k + 1) i args M = some (v, M')) :
    args.length = fn.params ∧ ∃ r, execs (callN prog W k) W fn.body (args.map some ++ List.replicate (fn.slots - fn.params) none) M = some r ∧
      ∃ v1 M1, (r = .rt v1 M1 ∨ ∃ env, r = .nx env M1 ∧ v1 = .non) ∧ (if fn.keep then some (v1, M1) else leave M.length v1 M1) = some (v, M') := by
  unfold callN at h
  rw [hp] at h
  simp only at h
  unfold runFn at h
  split at h
  · rename_i hl
    refine ⟨hl, ?_⟩
    cases e : execs (callN prog W k) W fn.body (args.map some ++ List.replicate (fn.slots - fn.params) none) M with
    | none => rw [e] at h; cases h
    | some r =>
      rw [e] at h
      cases r with
      | nx env M1 => exact ⟨_, rfl, .non, M1, .inr ⟨env, rfl, rfl⟩, h⟩
      | rt v1 M1 => exact ⟨_, rfl, v1, M1, .inl rfl, h⟩
  · cases h
theorem start_re {φ : Ph} {H : Hp} {args : List PV} {vs : List V} {N : List Str} {n p : Nat} (r : Rps K φ H args vs) (h1 : n = N.length) (h2 : p = args.length) : RE K φ H (args.map some ++ List.replicate (n - p) none) (L2.start N vs) := by
  unfold L2.start
  have hl := r.length
  refine ⟨by rw [List.length_append, List.length_append, List.length_map, List.length_map, List.length_replicate, List.length_replicate]; omega, fun i v e => ?_⟩
  by_cases hi : i < args.length
  · rw [List.getElem?_append_left (by rw [List.length_map]; exact hi), List.getElem?_map, List.getElem?_eq_getElem hi] at e
    cases e
    obtain ⟨u, h3, h4⟩ := r.get (List.getElem?_eq_getElem hi)
    exact ⟨u, by rw [List.getElem?_append_left (by rw [List.length_map, ← hl]; exact hi), List.getElem?_map, h3]; rfl, h4⟩
  · rw [List.getElem?_append_right (by rw [List.length_map]; omega)] at e
    have := List.mem_of_getElem? e
    have := List.eq_of_mem_replicate this
    cases this
/-- a def keeps the interpreter's promise -/
theorem fn_ok {x : Str} {st : Stmt} {f : Addr} {fd : FuncData} {N ps : List Str} {i : Nat} {fn : Fn} (F : L2.Fun K x x st f fd) (S : FnScope N ps (defScope st)) (hp : prog[i]? = some fn) (h1 : fn.slots = N.length) (h2 : fn.params = ps.length)
    (body : ∀ (cdv : Value) (A : Around) (outer : List PySem.Env) (s : Shared) (H : Hp) (E : XK), Room k (A.deeper (envOfC x (defScope st) s.heap.objs.size f cdv)) → PSs (cxOf CX0 P w K mg base N x (defScope st) f cdv A outer s H E).nox (defBody st) (tSs K (callN prog W k) W fn.body)) :
    FnOk P w K mg base CX0 (k + 1) f fd ps (spC K (callN prog W (k + 1)) i) := by
  refine F.ok S (fun vs H Q E h => ?_) (fun cdv A outer s H vs Q E hr h => ⟨_, body cdv A outer s H E hr, ?_⟩)
  · obtain ⟨φ, M, args, v, M', m, r, e, _⟩ := h
    obtain ⟨hl, _⟩ := callN_get hp e
    rw [← r.length, hl, h2]
  · obtain ⟨φ, M, args, v, M', m, r, e, kk⟩ := h
    obtain ⟨hl, res, e1, v1, M1, hr1, e2⟩ := callN_get hp e
    refine ⟨φ, M, _, res, m, start_re r h1 hl.symm, e1, ?_⟩
    have fin : ∀ φ' H' u, Xt φ H φ' H' → RM K φ' H' M1 → Rp K φ' H' v1 u → Q u H' := fun φ' H' u x' m' q' => by
      cases hk : fn.keep with
      | true =>
        rw [hk, if_pos rfl] at e2
        cases e2
        exact kk φ' H' u x' m' q'
      | false =>
        rw [hk, if_neg Bool.false_ne_true] at e2
        obtain ⟨φ2, x2, m2, q2⟩ := leave_ok m x' m' q' e2
        exact kk φ2 H' u x2 m2 q2
    rcases hr1 with rfl | ⟨env, rfl, rfl⟩
    · exact fin
    · exact fun φ' H' σ' x' m' _ => fin φ' H' .non x' m' .non
end
/-- what the top has left: the defs' names by index, the constants, the built-ins' names -/
structure Top (P : Program) (w : World) (K : PySem.W.Frag) (mg : Str → Option Value) (base : Heap) (prog : List Fn) (W k : Nat) (names : List Str) (consts : List (Str × PV)) (blts : List Str) : Prop where
  cal : ∀ (i : Nat) (x : Str), names[i]? = some x → Cal P w K mg base k x (spC K (callN prog W k) i)
  con : ∀ (i : Nat) (x : Str) (v : PV), consts[i]? = some (x, v) → ∃ z u, mg x = some u ∧ RelV z u ∧ Con K v z
  blt : ∀ (i : Nat) (x : Str), blts[i]? = some x → mg x = none
/-- a def of the text -/
def DefOf (K : PySem.W.Frag) (mg : Str → Option Value) (x : Str) (st : Stmt) : Prop := ∃ (f : Addr) (fd : FuncData), mg x = some (.ref f) ∧ L2.Fun K x x st f fd
theorem def_mk {K : PySem.W.Frag} {h : Heap} {mg : Str → Option Value} {x : Str} {st : Stmt} {f : Addr} {oc : Value} {od an : Option Addr} {osl : Array (Option Value)} {kV doc pm cdv ct : Value} (X : K.In h) (G : h.Ns mainGlobals mg)
    (a : PySem.W.nsIn K mainGlobals x = some (some (.ref f))) (l : K.lookup f = some ⟨oc, od, .func (PySem.W.fnOf x x (defArgs st) (defBody st) (defScope st) .none kV doc pm an cdv ct), osl⟩)
    (c : PySem.W.codeIn K cdv x = true) (k : PySem.W.keepIn K (.ref f) = true) : DefOf K mg x st := ⟨f, _, PySem.W.mg_of X G a, L2.fun_mk l c k⟩
section
variable {P : Program} {w : World} {K : PySem.W.Frag} {mg : Str → Option Value} {base : Heap} {prog : List Fn} {W k : Nat}
/-- how the arguments bind, whatever the def's object -/
abbrev BindsP (st : Stmt) (x : Str) (ps : List Str) : Prop := ∀ (kV doc pm : Value) (an : Option Addr) (cdv ct : Value) (us : List Value), us.length = ps.length → bindArgs (PySem.W.fnOf x x (defArgs st) (defBody st) (defScope st) .none kV doc pm an cdv ct) ⟨us, []⟩ = pure (ps.zip us)
theorem cal_zero {x : Str} {st : Stmt} {ps : List Str} {i : Nat} (d : DefOf K mg x st) (b : BindsP st x ps) : Cal P w K mg base 0 x (spC K (callN prog W 0) i) := by
  obtain ⟨f, fd, h1, F⟩ := d
  refine ⟨f, fd, ps, ⟨fun vs H Q E h => ?_, fun A outer s H args us vs Q E _ _ _ _ h => ?_⟩, h1, F.kp, F.binds b⟩
  · obtain ⟨φ, M, args, v, M', m, r, e, _⟩ := h
    unfold callN at e
    cases e
  · obtain ⟨φ, M, args, v, M', m, r, e, _⟩ := h
    unfold callN at e
    cases e
theorem cal_succ {x : Str} {st : Stmt} {N ps : List Str} {i : Nat} {fn : Fn} (d : DefOf K mg x st) (b : BindsP st x ps) (S : FnScope N ps (defScope st)) (hp : prog[i]? = some fn) (h1 : fn.slots = N.length) (h2 : fn.params = ps.length)
    (body : ∀ (f : Addr) (cdv : Value) (A : Around) (outer : List PySem.Env) (s : Shared) (H : Hp) (E : XK), Room k (A.deeper (envOfC x (defScope st) s.heap.objs.size f cdv)) → PSs (cxOf CX0 P w K mg base N x (defScope st) f cdv A outer s H E).nox (defBody st) (tSs K (callN prog W k) W fn.body)) :
    Cal P w K mg base (k + 1) x (spC K (callN prog W (k + 1)) i) := by
  obtain ⟨f, fd, e1, F⟩ := d
  exact ⟨f, fd, ps, fn_ok F S hp h1 h2 (body f), e1, F.kp, F.binds b⟩
end
section
variable {X : Cx} {call : Cl} {pos : Pos}
theorem i_con {x : Str} {v : PV} (hg : Gl X x) (h : ∃ z u, X.mg x = some u ∧ RelV z u ∧ Con X.K v z) (hd : (x == ("__debug__" : Str)) = false := by decide) : PE X (.Name x pos) (tI X.K call (.cst v)) := by
  obtain ⟨z, u, h1, h2, h3⟩ := h
  exact i_glob hg h1 h2 h3 hd
end
/-- constants -/
theorem con_int {K : PySem.W.Frag} (i : Int) : Con K (.int i) (.int i) := fun _ _ => .int i
theorem con_str {K : PySem.W.Frag} (s : Str) : Con K (.str s) (.str s) := fun _ _ => .str s
inductive Cons (K : PySem.W.Frag) : List PV → List V → Prop
  | nil : Cons K [] []
  | cons {v : PV} {z : V} {vs : List PV} {zs : List V} : Con K v z → Cons K vs zs → Cons K (v :: vs) (z :: zs)
theorem Cons.rps {K : PySem.W.Frag} {vs : List PV} {zs : List V} (h : Cons K vs zs) (φ : Ph) (H : Hp) : Rps K φ H vs zs := by
  induction h with
  | nil => exact .nil
  | cons h _ ih => exact .cons (h φ H) ih
theorem con_tup {K : PySem.W.Frag} {vs : List PV} {zs : List V} {a : Addr} {od : Option Addr} {its : Array Value} {n : Nat} {sl : Array (Option Value)} (hk : K.lookup a = some ⟨.type "tuple", od, .seq its n, sl⟩) (hz : its.size ≤ sizeLine) (hv : Vals zs its.toList) (h : Cons K vs zs) : Con K (.tup vs) (.ref a) :=
  fun φ H => .tup (.inr ⟨_, its, n, hk, rfl, rfl, hz, hv⟩) (h.rps φ H)
inductive ConVals (K : PySem.W.Frag) : List PV → List Value → Prop
  | nil : ConVals K [] []
  | cons {v : PV} {u : Value} {vs : List PV} {us : List Value} : (∃ z, RelV z u ∧ Con K v z) → ConVals K vs us → ConVals K (v :: vs) (u :: us)
theorem ConVals.split {K : PySem.W.Frag} {vs : List PV} {us : List Value} (h : ConVals K vs us) : ∃ zs, Vals zs us ∧ Cons K vs zs := by
  induction h with
  | nil => exact ⟨[], .nil, .nil⟩
  | cons h _ ih =>
    obtain ⟨z, h1, h2⟩ := h
    obtain ⟨zs, h3, h4⟩ := ih
    exact ⟨z :: zs, .cons h1 h3, .cons h2 h4⟩
theorem con_tupR {K : PySem.W.Frag} {vs : List PV} {a : Addr} {od : Option Addr} {its : Array Value} {n : Nat} {sl : Array (Option Value)} (hk : K.lookup a = some ⟨.type "tuple", od, .seq its n, sl⟩) (h : ConVals K vs its.toList) (hz : its.size ≤ sizeLine) : Con K (.tup vs) (.ref a) := by
  obtain ⟨zs, h1, h2⟩ := h.split
  exact con_tup hk hz h1 h2
def absP : Value → Option PV
  | .int i _ => some (.int i)
  | .str s _ => some (.str s)
  | .bool b => some (.bl b)
  | .none => some .non
  | _ => none
theorem absP_con {K : PySem.W.Frag} {u : Value} {v : PV} (h : absP u = some v) : ∃ z, RelV z u ∧ Con K v z := by
  unfold absP at h
  split at h <;> cases h
  · exact ⟨.int _, ⟨_, rfl⟩, fun _ _ => .int _⟩
  · exact ⟨.str _, ⟨_, rfl⟩, fun _ _ => .str _⟩
  · exact ⟨.bl _, rfl, fun _ _ => .bl _⟩
  · exact ⟨.non, rfl, fun _ _ => .non⟩
theorem absPs_con {K : PySem.W.Frag} : ∀ {us : List Value} {vs : List PV}, us.map absP = vs.map some → ConVals K vs us
  | [], [], _ => .nil
  | u :: us, v :: vs, h => by
    rw [List.map_cons, List.map_cons] at h
    injection h with h1 h2
    exact .cons (absP_con h1) (absPs_con h2)
  | [], v :: vs, h => by cases h
  | u :: us, [], h => by cases h
theorem con_tupA {K : PySem.W.Frag} {vs : List PV} {a : Addr} {od : Option Addr} {its : Array Value} {n : Nat} {sl : Array (Option Value)} (hk : K.lookup a = some ⟨.type "tuple", od, .seq its n, sl⟩) (e : its.toList.map absP = vs.map some) (hz : its.size ≤ sizeLine) : Con K (.tup vs) (.ref a) :=
  con_tupR hk (absPs_con e) hz
theorem con_of {K : PySem.W.Frag} {h : Heap} {mg : Str → Option Value} {x : Str} {v : PV} {z : V} {u : Value} (X : K.In h) (G : h.Ns mainGlobals mg) (a : PySem.W.nsIn K mainGlobals x = some (some u)) (r : RelV z u) (c : Con K v z) : ∃ z u, mg x = some u ∧ RelV z u ∧ Con K v z :=
  ⟨z, u, PySem.W.mg_of X G a, r, c⟩
theorem con_ofI {K : PySem.W.Frag} {h : Heap} {mg : Str → Option Value} {x : Str} {i : Int} {t : Tok} (X : K.In h) (G : h.Ns mainGlobals mg) (a : PySem.W.nsIn K mainGlobals x = some (some (.int i t))) : ∃ z u, mg x = some u ∧ RelV z u ∧ Con K (.int i) z := con_of (z := .int i) X G a ⟨t, rfl⟩ (con_int i)
theorem con_ofS {K : PySem.W.Frag} {h : Heap} {mg : Str → Option Value} {x : Str} {i : Str} {t : Tok} (X : K.In h) (G : h.Ns mainGlobals mg) (a : PySem.W.nsIn K mainGlobals x = some (some (.str i t))) : ∃ z u, mg x = some u ∧ RelV z u ∧ Con K (.str i) z := con_of (z := .str i) X G a ⟨t, rfl⟩ (con_str i)
theorem blk_ok {N : List Str} {sc scope : Scope} {own : List (Str × Nat)} (h : blkC N sc scope own = true) : blkC N sc scope own = true := h
/-- the built-ins' names -/
theorem bb_abs : bootBuiltins "abs" = some (.builtin "abs") := by decide +kernel
theorem bb_len : bootBuiltins "len" = some (.builtin "len") := by decide +kernel
theorem bb_sum : bootBuiltins "sum" = some (.builtin "sum") := by decide +kernel
theorem bb_all : bootBuiltins "all" = some (.builtin "all") := by decide +kernel
theorem bb_any : bootBuiltins "any" = some (.builtin "any") := by decide +kernel
theorem bb_max : bootBuiltins "max" = some (.builtin "max") := by decide +kernel
theorem bb_min : bootBuiltins "min" = some (.builtin "min") := by decide +kernel
theorem bb_int : bootBuiltins "int" = some (.type "int") := by decide +kernel
theorem bb_bool : bootBuiltins "bool" = some (.type "bool") := by decide +kernel
theorem bb_str : bootBuiltins "str" = some (.type "str") := by decide +kernel
theorem bb_tuple : bootBuiltins "tuple" = some (.type "tuple") := by decide +kernel
theorem bb_list : bootBuiltins "list" = some (.type "list") := by decide +kernel
/-- the law's call, from its promise -/
theorem law_sp {K : PySem.W.Frag} {call : Cl} {i : Nat} {H : Hp} {a : Addr} {ns : List Int} {M' : Mem} (hS : SqL K H a (ns.map V.int)) (h : call i [.rol (ns.map PV.int)] [] = some (.bl true, M')) : spC K call i [.ref a] H (fun v _ => v = .bl true) fun _ _ _ => False := by
  have hr : ∀ ms : List Int, Rps K ⟨[], []⟩ H (ms.map PV.int) (ms.map V.int) := fun ms => by
    induction ms with
    | nil => exact .nil
    | cons x xs ih => exact .cons (.int x) ih
  have hR : RolAt K ⟨[], []⟩ H a (ns.map V.int) := by
    rcases hS with (h | ⟨o, h⟩) | h
    · exact .inr (.inl ⟨h, by simp, by simp⟩)
    · exact .inl ⟨o, h⟩
    · exact .inr (.inr h)
  refine ⟨⟨[], []⟩, [], [.rol (ns.map PV.int)], .bl true, M', ⟨rfl, by simp, fun a h => by simp at h, fun n a c h => by simp at h⟩, .cons (.rol hR (hr ns)) .nil, h, fun φ' H' u x m q => ?_⟩
  cases q
  rfl
end Ev

/-! The plain side: how the interpreter's steps reduce; fractions; loops. -/
namespace Ev
section
variable {α β : Type} {M M' : Mem} {env : Env}
theorem bnd_some (a : α) (M : Mem) (f : α → Mem → Option β) : bnd (some (a, M)) f = f a M := rfl
theorem bnd_none (f : α → Mem → Option β) : bnd none f = none := rfl
theorem bifb_t (x y : Option β) : bifb (some true) x y = x := rfl
theorem bifb_f (x y : Option β) : bifb (some false) x y = y := rfl
theorem bifb_d {p : Prop} [Decidable p] (x y : Option β) : bifb (some (decide p)) x y = if p then x else y := by
  by_cases h : p
  · rw [decide_eq_true h, if_pos h]; rfl
  · rw [decide_eq_false h, if_neg h]; rfl
theorem bifb_b (b : Bool) (x y : Option β) : bifb (some b) x y = if b = true then x else y := by cases b <;> rfl
theorem iff_t (x : Option β) : iff_ true x = x := rfl
theorem iff_d {p : Prop} [Decidable p] (x : Option β) : iff_ (decide p) x = if p then x else none := by
  by_cases h : p
  · rw [decide_eq_true h, if_pos h]; rfl
  · rw [decide_eq_false h, if_neg h]; rfl
theorem nxt_nx (env : Env) (M : Mem) (f : Env → Mem → Option R) : nxt (some (.nx env M)) f = f env M := rfl
theorem nxt_rt (v : PV) (M : Mem) (f : Env → Mem → Option R) : nxt (some (.rt v M)) f = some (.rt v M) := rfl
theorem addOp_ii (i j : Int) : addOp M (.int i) (.int j) = some (.int (i + j)) := rfl
theorem addOp_tt (xs ys : List PV) : addOp M (.tup xs) (.tup ys) = if decide (xs.length + ys.length ≤ PySem.sizeLine) then some (.tup (xs ++ ys)) else none := rfl
theorem addOp_ll (xs ys : List PV) : addOp M (.lst xs) (.lst ys) = if decide (xs.length + ys.length ≤ PySem.sizeLine) then some (.lst (xs ++ ys)) else none := rfl
theorem subOp_ii (i j : Int) : subOp (.int i) (.int j) = some (.int (i - j)) := rfl
theorem mulOp_ii (i j : Int) : mulOp M (.int i) (.int j) = if mulOk i j then some (.int (i * j)) else none := rfl
theorem fdivOp_ii (i j : Int) : fdivOp (.int i) (.int j) = if divOk i j then some (.int (i.fdiv j)) else none := rfl
theorem modOp_ii (i j : Int) : modOp (.int i) (.int j) = if decide (j ≠ 0) then some (.int (i.fmod j)) else none := rfl
theorem cmpI_ii (p : Int → Int → Bool) (i j : Int) : cmpI p (.int i) (.int j) = some (p i j) := rfl
theorem tru_bl (b : Bool) : truthy M (.bl b) = some b := rfl
theorem tru_int (i : Int) : truthy M (.int i) = some (i != 0) := rfl
theorem absB_i (i : Int) : absB [.int i] = some (.int (if i < 0 then -i else i)) := rfl
theorem intB_i (i : Int) : intB [.int i] = some (.int i) := rfl
theorem asM_int (f : Bool) (i : Int) : asM f (.int i) M = (.int i, M) := by cases f <;> rfl
theorem asM_bl (f : Bool) (i : Bool) : asM f (.bl i) M = (.bl i, M) := by cases f <;> rfl
theorem asM_tup (f : Bool) (xs : List PV) : asM f (.tup xs) M = (.tup xs, M) := by cases f <;> rfl
theorem asM_false (v : PV) : asM false v M = (v, M) := rfl
theorem asM_lst (xs : List PV) : asM true (.lst xs) M = (.ref M.length, M ++ [.lst xs]) := rfl
theorem isOp_n (a : PV) : isOp a .non = some (isNon a) := by cases a <;> rfl
theorem isOp_bb (a b : Bool) : isOp (.bl a) (.bl b) = some (decide (a = b)) := rfl
theorem setAll_nil (vs : List PV) : setAll env [] vs = env := by unfold setAll; rfl
theorem setAll_cons (i : Nat) (is : List Nat) (v : PV) (vs : List PV) : setAll env (i :: is) (v :: vs) = setAll (env.set i (some v)) is vs := rfl
theorem bindT_nm (i : Nat) (v : PV) : bindT (.nm i) v env = some (env.set i (some v)) := rfl
theorem bindT_tp (is : List Nat) (vs : List PV) : bindT (.tp is) (.tup vs) env = if decide (vs.length = is.length) then some (setAll env is vs) else none := rfl
end
theorem bindT_ls0 (is : List Nat) (vs : List PV) (env : Env) : bindT (.ls is) (.lst vs) env = if decide (vs.length = is.length) then some (setAll env is vs) else none := rfl
/-- the end of a def -/
def fin (keep : Bool) (n : Nat) (r : Option R) : Option (PV × Mem) := match r with
  | some (.rt v M1) => if keep then some (v, M1) else leave n v M1
  | some (.nx _ M1) => if keep then some (.non, M1) else leave n .non M1
  | none => none
theorem fin_rt (n : Nat) (v : PV) (M : Mem) : fin false n (some (.rt v M)) = leave n v M := rfl
theorem fin_nx (n : Nat) (e : Env) (M : Mem) : fin false n (some (.nx e M)) = leave n .non M := rfl
theorem leave_same (v : PV) (M : Mem) : leave M.length v M = some (v, M) := by unfold leave; rw [if_pos rfl]
theorem leave_len {n : Nat} {v : PV} {M : Mem} (h : M.length = n) : leave n v M = some (v, M) := by unfold leave; rw [if_pos h]
/-! ### sizes -/
def lt2 (n : Nat) (x : Int) : Prop := x.natAbs < 2 ^ n
theorem lt2.mono {n m : Nat} {x : Int} (h : lt2 n x) (hm : n ≤ m) : lt2 m x := Nat.lt_of_lt_of_le h (Nat.pow_le_pow_right (by decide) hm)
theorem log2_lt {n : Nat} {x : Nat} (h0 : 0 < n) (h : x < 2 ^ n) : x.log2 < n := PySem.Flt.log2_lt_of h0 h
theorem mulOk_of {a b : Nat} {x y : Int} (hx : lt2 a x) (hy : lt2 b y) (h : a + b ≤ 999990) : mulOk x y = true := by
  unfold mulOk
  rw [Bool.or_eq_true]
  right
  have h1 := log2_lt (Nat.succ_pos a) (hx.mono (Nat.le_succ a))
  have h2 := log2_lt (Nat.succ_pos b) (hy.mono (Nat.le_succ b))
  exact decide_eq_true (by omega)
theorem mulOk_small {x y : Int} (h : (-(2 ^ 64) < y ∧ y < 2 ^ 64)) : mulOk x y = true := by
  unfold mulOk
  rw [Bool.or_eq_true]
  left
  exact decide_eq_true (.inr h)
theorem mulOk_smallL {x y : Int} (h : (-(2 ^ 64) < x ∧ x < 2 ^ 64)) : mulOk x y = true := by
  unfold mulOk
  rw [Bool.or_eq_true]
  left
  exact decide_eq_true (.inl h)
theorem divOk_of {n : Nat} {x y : Int} (h0 : y ≠ 0) (hy : lt2 n y) (hn : n ≤ 8990) : divOk x y = true := by
  unfold divOk
  rw [Bool.and_eq_true]
  have h2 := log2_lt (Nat.succ_pos n) (hy.mono (Nat.le_succ n))
  exact ⟨decide_eq_true h0, decide_eq_true (by omega)⟩
theorem lt2.mul {a b : Nat} {x y : Int} (hx : lt2 a x) (hy : lt2 b y) : lt2 (a + b) (x * y) := by
  unfold lt2
  rw [Int.natAbs_mul, Nat.pow_add]
  exact Nat.mul_lt_mul'' hx hy
theorem lt2.add {a : Nat} {x y : Int} (hx : lt2 a x) (hy : lt2 a y) : lt2 (a + 1) (x + y) := by
  unfold lt2 at *
  rw [Nat.pow_succ]
  omega
theorem lt2.sub {a : Nat} {x y : Int} (hx : lt2 a x) (hy : lt2 a y) : lt2 (a + 1) (x - y) := by
  unfold lt2 at *
  rw [Nat.pow_succ]
  omega
/-! ### Euclid's loop -/
theorem whl_gcd (ε : Int → Int → Env) (c : Env → Mem → Option (Bool × Mem)) (body : Env → Mem → Option R) (M : Mem) (hc : ∀ a b : Int, c (ε a b) M = some (decide (b ≠ 0), M))
    (hb : ∀ a b : Int, b ≠ 0 → body (ε a b) M = some (.nx (ε b (a.fmod b)) M)) : ∀ (m n : Nat) (a b : Nat), b < 2 ^ m → 2 * m + 1 ≤ n → whlL c body n (ε a b) M = some (.nx (ε (Nat.gcd a b : Nat) 0) M)
  | m, 0, a, b, _, hn => absurd hn (by omega)
  | m, n + 1, a, b, hm, hn => by
    unfold whlL
    rw [hc]
    by_cases h0 : b = 0
    · subst h0
      rw [Nat.gcd_zero_right]
      simp
    · have hb' : ((b : Nat) : Int) ≠ 0 := by omega
      rw [decide_eq_true hb']
      simp only [hb _ _ hb']
      have e1 : ((a : Nat) : Int).fmod ((b : Nat) : Int) = ((a % b : Nat) : Int) := by
        rw [Int.fmod_eq_emod_of_nonneg _ (by omega)]
        simp
      rw [e1]
      by_cases h1 : a % b = 0
      · cases n with
        | zero => 
          have : m ≠ 0 := fun z => by subst z; simp at hm; omega
          omega
        | succ n =>
          unfold whlL
          rw [hc, h1]
          have : Nat.gcd a b = b := by
            rw [Nat.gcd_comm, Nat.gcd_rec, h1, Nat.gcd_zero_left]
          rw [this]
          simp
      · cases m with
        | zero => simp at hm; omega
        | succ m =>
        cases n with
        | zero => omega
        | succ n =>
          unfold whlL
          rw [hc]
          have hr : ((a % b : Nat) : Int) ≠ 0 := by omega
          rw [decide_eq_true hr]
          simp only [hb _ _ hr]
          have e2 : ((b : Nat) : Int).fmod ((a % b : Nat) : Int) = ((b % (a % b) : Nat) : Int) := by
            rw [Int.fmod_eq_emod_of_nonneg _ (by omega)]
            simp
          rw [e2]
          have hlt : a % b < b := Nat.mod_lt _ (by omega)
          have hlt2 : b % (a % b) < a % b := Nat.mod_lt _ (by omega)
          have hle : a % b + b % (a % b) ≤ b := by
            have h3 := Nat.mod_add_div b (a % b)
            have h4 : 1 ≤ b / (a % b) := Nat.div_pos (Nat.le_of_lt hlt) (by omega)
            have h5 : (a % b) * 1 ≤ (a % b) * (b / (a % b)) := Nat.mul_le_mul_left _ h4
            omega
          rw [Nat.pow_succ] at hm
          have := whl_gcd ε c body M hc hb m n (a % b) (b % (a % b)) (by omega) (by omega)
          rw [this]
          rw [show Nat.gcd a b = Nat.gcd (a % b) (b % (a % b)) by rw [Nat.gcd_comm a b, Nat.gcd_rec b a, Nat.gcd_rec (a % b) b, Nat.gcd_comm]]
/-! ### fractions -/
def fr (q : Rat) : PV := .tup [.int q.num, .int (q.den : Int)]
def sgn (b : Int) : Int := if b > 0 then 1 else -1
theorem low_num {a b s : Int} (hb : b ≠ 0) (hs : s = b.sign) : a.fdiv ((Int.gcd a b : Nat) * s) = (Rat.divInt a b).num ∧ b.fdiv ((Int.gcd a b : Nat) * s) = ((Rat.divInt a b).den : Int) := by
  have hg : 0 < Int.gcd a b := Int.gcd_pos_of_ne_zero_right a hb
  obtain ⟨x, hx⟩ := Int.gcd_dvd_left a b
  obtain ⟨y, hy⟩ := Int.gcd_dvd_right a b
  have hss : s * s = 1 := by
    rcases Int.lt_or_gt_of_ne hb with h | h
    · rw [hs, Int.sign_eq_neg_one_of_neg h]; rfl
    · rw [hs, Int.sign_eq_one_of_pos h]; rfl
  generalize hG : Int.gcd a b = g at *
  have hg' : (g : Int) ≠ 0 := by omega
  have hgs : (g : Int) * s ≠ 0 := fun z => by
    rcases Int.mul_eq_zero.mp z with z | z
    · exact hg' z
    · rw [z] at hss; cases hss
  have div (z w : Int) (h : z = (g : Int) * w) : z.fdiv ((g : Int) * s) = s * w := by
    have h2 : z = ((g : Int) * s) * (s * w) := by
      rw [Int.mul_assoc, ← Int.mul_assoc s s w, hss, Int.one_mul]; exact h
    rw [Int.fdiv_eq_ediv_of_dvd ⟨s * w, h2⟩, h2]
    exact Int.mul_ediv_cancel_left _ hgs
  rw [div a x hx, div b y hy, Rat.num_divInt, Rat.den_divInt, if_neg hb, Int.gcd_comm b a, hG, ← hs]
  constructor
  · rw [hx, ← Int.mul_assoc, Int.mul_comm s (g : Int), Int.mul_assoc, Int.mul_ediv_cancel_left _ hg']
  · have h1 : b.natAbs = g * y.natAbs := by
      rw [hy, Int.natAbs_mul]
      rfl
    rw [h1, Nat.mul_div_cancel_left _ hg]
    rcases Int.lt_or_gt_of_ne hb with h | h
    · rw [hs, Int.sign_eq_neg_one_of_neg h]
      have : y < 0 := by
        rcases Int.lt_or_gt_of_ne (show y ≠ 0 from fun z => by rw [z, Int.mul_zero] at hy; exact hb hy) with h1 | h1
        · exact h1
        · have := Int.mul_pos (show (0 : Int) < g by omega) h1
          omega
      omega
    · rw [hs, Int.sign_eq_one_of_pos h]
      have : 0 < y := by
        rcases Int.lt_or_gt_of_ne (show y ≠ 0 from fun z => by rw [z, Int.mul_zero] at hy; exact hb hy) with h1 | h1
        · have := Int.mul_neg_of_pos_of_neg (show (0 : Int) < g by omega) h1
          omega
        · exact h1
      omega
/-- the reduced form is no greater -/
theorem low_le (a b : Int) (hb : b ≠ 0) : (Rat.divInt a b).num.natAbs ≤ a.natAbs ∧ (Rat.divInt a b).den ≤ b.natAbs := by
  rw [Rat.num_divInt, Rat.den_divInt, if_neg hb]
  constructor
  · rw [Int.natAbs_ediv_of_dvd (by
      rw [Int.gcd_comm]
      exact Int.dvd_mul_of_dvd_right (Int.gcd_dvd_left a b)), Int.natAbs_mul]
    have : b.sign.natAbs ≤ 1 := by
      rcases Int.lt_or_gt_of_ne hb with h | h
      · rw [Int.sign_eq_neg_one_of_neg h]; decide
      · rw [Int.sign_eq_one_of_pos h]; decide
    calc b.sign.natAbs * a.natAbs / ((b.gcd a : Nat) : Int).natAbs ≤ b.sign.natAbs * a.natAbs := Nat.div_le_self _ _
      _ ≤ 1 * a.natAbs := Nat.mul_le_mul_right _ this
      _ = a.natAbs := Nat.one_mul _
  · exact Nat.div_le_self _ _
/-- num and den below 2 ^ n -/
def sm (n : Nat) (q : Rat) : Prop := lt2 n q.num ∧ q.den < 2 ^ n
theorem sm.mono {n m : Nat} {q : Rat} (h : sm n q) (hm : n ≤ m) : sm m q := ⟨h.1.mono hm, Nat.lt_of_lt_of_le h.2 (Nat.pow_le_pow_right (by decide) hm)⟩
theorem sm.den {n : Nat} {q : Rat} (h : sm n q) : lt2 n (q.den : Int) := by
  unfold lt2
  rw [Int.natAbs_natCast]
  exact h.2
theorem sm_low {n : Nat} {a b : Int} (ha : lt2 n a) (hb : lt2 n b) (h0 : b ≠ 0) : sm n (Rat.divInt a b) := by
  obtain ⟨h1, h2⟩ := low_le a b h0
  exact ⟨Nat.lt_of_le_of_lt h1 ha, Nat.lt_of_le_of_lt h2 hb⟩
theorem add_low (p q : Rat) : Rat.divInt (p.num * q.den + q.num * p.den) (p.den * q.den) = p + q := by
  conv => rhs; rw [← Rat.num_divInt_den p, ← Rat.num_divInt_den q]
  rw [Rat.divInt_add_divInt _ _ (by have := p.den_nz; omega) (by have := q.den_nz; omega)]
theorem sub_low (p q : Rat) : Rat.divInt (p.num * q.den - q.num * p.den) (p.den * q.den) = p - q := by
  rw [Rat.sub_def', ← Rat.divInt_ofNat]
  simp
theorem mul_low (p q : Rat) : Rat.divInt (p.num * q.num) (p.den * q.den) = p * q := by
  conv => rhs; rw [← Rat.num_divInt_den p, ← Rat.num_divInt_den q]
  rw [Rat.divInt_mul_divInt]
theorem div_low (p q : Rat) (hq : q ≠ 0) : Rat.divInt (p.num * q.den) (p.den * q.num) = p / q := by
  rw [Rat.div_def, Rat.inv_def]
  conv => rhs; rw [← Rat.num_divInt_den p]
  rw [Rat.divInt_mul_divInt]
theorem den_pos (q : Rat) : 0 < (q.den : Int) := by have := q.den_nz; omega
theorem num_ne {q : Rat} (h : q ≠ 0) : q.num ≠ 0 := fun z => h (Rat.num_eq_zero.mp z)
theorem sm_add {a b : Nat} {p q : Rat} (hp : sm a p) (hq : sm b q) : sm (a + b + 1) (p + q) := by
  rw [← add_low]
  refine sm_low ?_ ((hp.den.mul hq.den).mono (by omega)) ?_
  · exact (hp.1.mul hq.den).add (by rw [Nat.add_comm]; exact hq.1.mul hp.den)
  · exact Int.ne_of_gt (Int.mul_pos (den_pos p) (den_pos q))
theorem sm_sub {a b : Nat} {p q : Rat} (hp : sm a p) (hq : sm b q) : sm (a + b + 1) (p - q) := by
  rw [← sub_low]
  refine sm_low ?_ ((hp.den.mul hq.den).mono (by omega)) ?_
  · exact (hp.1.mul hq.den).sub (by rw [Nat.add_comm]; exact hq.1.mul hp.den)
  · exact Int.ne_of_gt (Int.mul_pos (den_pos p) (den_pos q))
theorem sm_mul {a b : Nat} {p q : Rat} (hp : sm a p) (hq : sm b q) : sm (a + b) (p * q) := by
  rw [← mul_low]
  exact sm_low (hp.1.mul hq.1) (hp.den.mul hq.den) (Int.ne_of_gt (Int.mul_pos (den_pos p) (den_pos q)))
theorem sm_div {a b : Nat} {p q : Rat} (hp : sm a p) (hq : sm b q) (h : q ≠ 0) : sm (a + b) (p / q) := by
  rw [← div_low p q h]
  exact sm_low (hp.1.mul hq.den) (hp.den.mul hq.1) (fun z => by
    rcases Int.mul_eq_zero.mp z with z | z
    · exact Int.ne_of_gt (den_pos p) z
    · exact num_ne h z)
/-! ### == -/
theorem eqD_ii (M : Mem) (a b : Int) : eqD M (.int a) (.int b) = some (decide (a = b)) := by
  show some (PySem.PyData.eqv (.int a) (.int b)) = _
  show some (a == b) = _
  rw [Bool.beq_eq_decide_eq]
theorem eqD_bb (M : Mem) (a b : Bool) : eqD M (.bl a) (.bl b) = some (decide (a = b)) := by
  show some (PySem.PyData.eqv (.bool a) (.bool b)) = _
  show some (a == b) = _
  rw [Bool.beq_eq_decide_eq]
theorem eqD_pp (M : Mem) (a b c d : Int) : eqD M (.tup [.int a, .int b]) (.tup [.int c, .int d]) = some (decide (a = c ∧ b = d)) := by
  show some ((a == c) && ((b == d) && true)) = _
  rw [Bool.and_true, Bool.beq_eq_decide_eq, Bool.beq_eq_decide_eq, ← Bool.decide_and]
theorem eqD_fr (M : Mem) (p q : Rat) : eqD M (fr p) (fr q) = some (decide (p = q)) := by
  unfold fr
  rw [eqD_pp]
  congr 1
  by_cases h : p = q
  · subst h; simp
  · rw [decide_eq_false h, decide_eq_false]
    rintro ⟨h1, h2⟩
    exact h (Rat.ext h1 (by omega))
theorem idx_tup0 (M : Mem) (x0 : PV) (xs : List PV) : idxOp M (.tup (x0 :: xs)) (.int 0) = some x0 := by
  show L2.atI (x0 :: xs) 0 = _
  unfold L2.atI L2.ixN
  rw [if_pos (by omega), if_pos (by simp only [List.length_cons]; omega)]
  rfl
theorem idx_tup1 (M : Mem) (x0 x1 : PV) (xs : List PV) : idxOp M (.tup (x0 :: x1 :: xs)) (.int 1) = some x1 := by
  show L2.atI (x0 :: x1 :: xs) 1 = _
  unfold L2.atI L2.ixN
  rw [if_pos (by omega), if_pos (by simp only [List.length_cons]; omega)]
  rfl
theorem idx_tup2 (M : Mem) (x0 x1 x2 : PV) (xs : List PV) : idxOp M (.tup (x0 :: x1 :: x2 :: xs)) (.int 2) = some x2 := by
  show L2.atI (x0 :: x1 :: x2 :: xs) 2 = _
  unfold L2.atI L2.ixN
  rw [if_pos (by omega), if_pos (by simp only [List.length_cons]; omega)]
  rfl
theorem idx_tup3 (M : Mem) (x0 x1 x2 x3 : PV) (xs : List PV) : idxOp M (.tup (x0 :: x1 :: x2 :: x3 :: xs)) (.int 3) = some x3 := by
  show L2.atI (x0 :: x1 :: x2 :: x3 :: xs) 3 = _
  unfold L2.atI L2.ixN
  rw [if_pos (by omega), if_pos (by simp only [List.length_cons]; omega)]
  rfl
theorem idx_lst0 (M : Mem) (x0 : PV) (xs : List PV) : idxOp M (.lst (x0 :: xs)) (.int 0) = some x0 := by
  show L2.atI (x0 :: xs) 0 = _
  unfold L2.atI L2.ixN
  rw [if_pos (by omega), if_pos (by simp only [List.length_cons]; omega)]
  rfl
theorem idx_lst1 (M : Mem) (x0 x1 : PV) (xs : List PV) : idxOp M (.lst (x0 :: x1 :: xs)) (.int 1) = some x1 := by
  show L2.atI (x0 :: x1 :: xs) 1 = _
  unfold L2.atI L2.ixN
  rw [if_pos (by omega), if_pos (by simp only [List.length_cons]; omega)]
  rfl
theorem idx_lst2 (M : Mem) (x0 x1 x2 : PV) (xs : List PV) : idxOp M (.lst (x0 :: x1 :: x2 :: xs)) (.int 2) = some x2 := by
  show L2.atI (x0 :: x1 :: x2 :: xs) 2 = _
  unfold L2.atI L2.ixN
  rw [if_pos (by omega), if_pos (by simp only [List.length_cons]; omega)]
  rfl
theorem idx_lst3 (M : Mem) (x0 x1 x2 x3 : PV) (xs : List PV) : idxOp M (.lst (x0 :: x1 :: x2 :: x3 :: xs)) (.int 3) = some x3 := by
  show L2.atI (x0 :: x1 :: x2 :: x3 :: xs) 3 = _
  unfold L2.atI L2.ixN
  rw [if_pos (by omega), if_pos (by simp only [List.length_cons]; omega)]
  rfl
theorem idx_rol0 (M : Mem) (x0 : PV) (xs : List PV) : idxOp M (.rol (x0 :: xs)) (.int 0) = some x0 := by
  show L2.atI (x0 :: xs) 0 = _
  unfold L2.atI L2.ixN
  rw [if_pos (by omega), if_pos (by simp only [List.length_cons]; omega)]
  rfl
theorem idx_rol1 (M : Mem) (x0 x1 : PV) (xs : List PV) : idxOp M (.rol (x0 :: x1 :: xs)) (.int 1) = some x1 := by
  show L2.atI (x0 :: x1 :: xs) 1 = _
  unfold L2.atI L2.ixN
  rw [if_pos (by omega), if_pos (by simp only [List.length_cons]; omega)]
  rfl
theorem idx_rol2 (M : Mem) (x0 x1 x2 : PV) (xs : List PV) : idxOp M (.rol (x0 :: x1 :: x2 :: xs)) (.int 2) = some x2 := by
  show L2.atI (x0 :: x1 :: x2 :: xs) 2 = _
  unfold L2.atI L2.ixN
  rw [if_pos (by omega), if_pos (by simp only [List.length_cons]; omega)]
  rfl
theorem idx_rol3 (M : Mem) (x0 x1 x2 x3 : PV) (xs : List PV) : idxOp M (.rol (x0 :: x1 :: x2 :: x3 :: xs)) (.int 3) = some x3 := by
  show L2.atI (x0 :: x1 :: x2 :: x3 :: xs) 3 = _
  unfold L2.atI L2.ixN
  rw [if_pos (by omega), if_pos (by simp only [List.length_cons]; omega)]
  rfl
theorem bifb_isTy (t : Ty) (v : PV) {β : Type} (x y : Option β) : bifb (some (isTy t v)) x y = if isTy t v = true then x else y := bifb_b _ x y
theorem newL_f (xs : List PV) (M : Mem) : newL false xs M = (.lst xs, M) := rfl
theorem newL_t (xs : List PV) (M : Mem) : newL true xs M = (.ref M.length, M ++ [.lst xs]) := rfl
theorem fin_rtk (n : Nat) (v : PV) (M : Mem) : fin true n (some (.rt v M)) = some (v, M) := rfl
theorem sizeL : PySem.sizeLine = 16777216 := by decide +kernel
theorem fr_0 : fr 0 = .tup [.int 0, .int 1] := rfl
theorem fr_1 : fr 1 = .tup [.int 1, .int 1] := rfl
/-! ### comprehensions -/
theorem lcL_none {t : T} {g : Gd} {cond : Env → Mem → Option (Bool × Mem)} {elt : Env → Mem → Option (PV × Mem)} {env : Env} {M : Mem} (hg : gOk g M = true) : ∀ (xs acc : List PV), (∀ x ∈ xs, ∃ env1, bindT t x env = some env1 ∧ cond env1 M = some (false, M)) →
    lcL t g cond elt env xs acc M = some (acc, M)
  | [], acc, _ => by unfold lcL; rw [hg]
  | x :: xs, acc, h => by
    unfold lcL
    rw [hg]
    obtain ⟨env1, h1, h2⟩ := h x List.mem_cons_self
    simp only [h1, h2]
    exact lcL_none hg xs acc fun y hy => h y (List.mem_cons_of_mem _ hy)
/-- a map -/
theorem lcL_map {t : T} {g : Gd} {cond : Env → Mem → Option (Bool × Mem)} {elt : Env → Mem → Option (PV × Mem)} {env : Env} {M : Mem} (hg : gOk g M = true) (f : PV → PV) : ∀ (xs acc : List PV), (∀ x ∈ xs, ∃ env1, bindT t x env = some env1 ∧ cond env1 M = some (true, M) ∧ elt env1 M = some (f x, M)) →
    lcL t g cond elt env xs acc M = some (acc ++ xs.map f, M)
  | [], acc, _ => by unfold lcL; rw [hg]; simp
  | x :: xs, acc, h => by
    unfold lcL
    rw [hg]
    obtain ⟨env1, h1, h2, h3⟩ := h x List.mem_cons_self
    simp only [h1, h2, h3]
    rw [lcL_map hg f xs _ fun y hy => h y (List.mem_cons_of_mem _ hy), List.map_cons, List.append_assoc]
    rfl
/-- a comprehension that draws: each item's value keeps P, the memory keeps I -/
theorem lcL_draw {t : T} {cond : Env → Mem → Option (Bool × Mem)} {elt : Env → Mem → Option (PV × Mem)} {env : Env} (P : PV → Prop) (I : Mem → Prop) : ∀ (xs acc : List PV) (M : Mem), I M → (∀ x ∈ xs, ∀ M, I M → ∃ env1 v M', bindT t x env = some env1 ∧ cond env1 M = some (true, M) ∧ elt env1 M = some (v, M') ∧ P v ∧ I M') →
    ∃ vs M', lcL t [] cond elt env xs acc M = some (acc ++ vs, M') ∧ vs.length = xs.length ∧ (∀ v ∈ vs, P v) ∧ I M'
  | [], acc, M, hI, _ => ⟨[], M, by unfold lcL; simp [gOk], rfl, by simp, hI⟩
  | x :: xs, acc, M, hI, h => by
    obtain ⟨env1, v, M1, h1, h2, h3, h4, h5⟩ := h x List.mem_cons_self M hI
    obtain ⟨vs, M', e, hl, hp, hI'⟩ := lcL_draw P I xs (acc ++ [v]) M1 h5 fun y hy => h y (List.mem_cons_of_mem _ hy)
    refine ⟨v :: vs, M', ?_, by simp [hl], fun w hw => ?_, hI'⟩
    · unfold lcL
      simp only [gOk, h1, h2, h3]
      rw [e, List.append_assoc]
      rfl
    · rcases List.mem_cons.mp hw with rfl | hw
      · exact h4
      · exact hp w hw
theorem seqG_tup (M : Mem) (xs : List PV) : seqG M (.tup xs) = some (true, xs, []) := rfl
theorem seqG_lst (M : Mem) (xs : List PV) : seqG M (.lst xs) = some (false, xs, []) := rfl
theorem lenB_tup (M : Mem) (xs : List PV) : lenB M [.tup xs] = some (.int xs.length) := rfl
theorem lenB_lst (M : Mem) (xs : List PV) : lenB M [.lst xs] = some (.int xs.length) := rfl
theorem zip_mem : ∀ {xs : List PV} {z : PV}, z ∈ zipP xs xs → ∃ x ∈ xs, z = .tup [x, x]
  | [], _, h => by simp [zipP] at h
  | x :: xs, z, h => by
    unfold zipP at h
    rcases List.mem_cons.mp h with rfl | h
    · exact ⟨x, List.mem_cons_self, rfl⟩
    · obtain ⟨y, h1, h2⟩ := zip_mem h
      exact ⟨y, List.mem_cons_of_mem _ h1, h2⟩
/-! ### plain values -/
mutual
def dpt : PV → Nat
  | .tup xs | .lst xs => dpts xs + 1
  | _ => 0
def dpts : List PV → Nat
  | [] => 0
  | x :: xs => max (dpt x) (dpts xs)
end
mutual
def pl : PV → Bool
  | .non | .bl _ | .int _ => true
  | .str s => PySem.PyData.canLay0 (.str s)
  | .tup xs | .lst xs => pls xs
  | .rol _ | .ref _ => false
def pls : List PV → Bool
  | [] => true
  | x :: xs => pl x && pls xs
end
theorem pls_mem : ∀ {xs : List PV} {x : PV}, pls xs = true → x ∈ xs → pl x = true ∧ dpt x ≤ dpts xs
  | y :: ys, x, h, hm => by
    have h' : (pl y && pls ys) = true := h
    rw [Bool.and_eq_true] at h'
    rcases List.mem_cons.mp hm with rfl | hm
    · exact ⟨h'.1, Nat.le_max_left _ _⟩
    · obtain ⟨h1, h2⟩ := pls_mem h'.2 hm
      exact ⟨h1, Nat.le_trans h2 (Nat.le_max_right _ _)⟩
def sortP : PV → Int
  | .non => 0 | .bl _ => 1 | .int _ => 2 | .str _ => 3 | .tup _ => 4 | _ => 5
/-! ### draws -/
abbrev cup (x y : Int) : Cell := .lst [.int x, .int y]
def CupB (x y : Int) : Prop := 0 ≤ x ∧ 0 ≤ y ∧ y < 2147483648
theorem idx_cup0 (x y : PV) (T : Mem) : idxOp (.lst [x, y] :: T) (.ref 0) (.int 0) = some x := rfl
theorem idx_cup1 (x y : PV) (T : Mem) : idxOp (.lst [x, y] :: T) (.ref 0) (.int 1) = some y := rfl
theorem setAt0 (x v : PV) (xs : List PV) : setAt (x :: xs) 0 v = some (v :: xs) := by
  unfold setAt L2.ixN
  rw [if_pos (by omega), if_pos (by simp only [List.length_cons]; omega)]
  rfl
theorem setAt1 (x y v : PV) (xs : List PV) : setAt (x :: y :: xs) 1 v = some (x :: v :: xs) := by
  unfold setAt L2.ixN
  rw [if_pos (by omega), if_pos (by simp only [List.length_cons]; omega)]
  rfl
end Ev

/-! The text as the interpreter has it, and that it is this text: printed by gen.py. -/
namespace Lw
open PySem PySem.Spec PyProof.Rows L2 Ev
def topS (i : Nat) : Stmt := PySem.Challenge.pw_endsmeasured_k47_whole_stars_and_rings.main.body.getD i (.Pass ⟨0, 0, 0, 0⟩)
abbrev k_DIGITS : PV := (.int (10000000000000000000000000000000000000000))
abbrev k_NONE : PV := (.tup [(.int (0)), (.int (1))])
abbrev k_ONE : PV := (.tup [(.int (1)), (.int (1))])
abbrev k_MANY : PV := (.int (30))
abbrev k_PLAIN : PV := (.tup [k_ONE, k_NONE, k_NONE, k_ONE])
def m_is_integer : Ss := (.cons (.ret (.and (.isi (.var 0) .int) (.not (.isi (.var 0) .bool)))) .nil)
def m_is_tuple_of : Ss := (.cons (.ret (.and (.isi (.var 0) .tuple) (.chn .le .le (.var 1) (.blt .len false (.cons (.var 0) .nil)) (.var 2)))) .nil)
def m_divisor_of : Ss := (.cons (.par 0 1 (.blt .abs false (.cons (.var 0) .nil)) (.blt .abs false (.cons (.var 1) .nil))) (.cons (.whl (.cmp .ne (.var 1) (.cst (.int (0)))) (.cons (.par 0 1 (.var 1) (.bin .mod false (.var 0) (.var 1))) .nil)) (.cons (.ret (.var 0)) .nil)))
def m_lowest : Ss := (.cons (.set 2 (.bin .mul false (.call 2 (.cons (.var 0) (.cons (.var 1) .nil))) (.ite (.cmp .gt (.var 1) (.cst (.int (0)))) (.cst (.int (1))) (.neg (.cst (.int (1))))))) (.cons (.ret (.tup (.cons (.bin .fdiv false (.var 0) (.var 2)) (.cons (.bin .fdiv false (.var 1) (.var 2)) .nil)))) .nil))
def m_sum_of : Ss := (.cons (.ret (.call 3 (.cons (.bin .add false (.bin .mul false (.idx (.var 0) (.cst (.int (0)))) (.idx (.var 1) (.cst (.int (1))))) (.bin .mul false (.idx (.var 1) (.cst (.int (0)))) (.idx (.var 0) (.cst (.int (1)))))) (.cons (.bin .mul false (.idx (.var 0) (.cst (.int (1)))) (.idx (.var 1) (.cst (.int (1))))) .nil)))) .nil)
def m_less_by : Ss := (.cons (.ret (.call 3 (.cons (.bin .sub false (.bin .mul false (.idx (.var 0) (.cst (.int (0)))) (.idx (.var 1) (.cst (.int (1))))) (.bin .mul false (.idx (.var 1) (.cst (.int (0)))) (.idx (.var 0) (.cst (.int (1)))))) (.cons (.bin .mul false (.idx (.var 0) (.cst (.int (1)))) (.idx (.var 1) (.cst (.int (1))))) .nil)))) .nil)
def m_product_of : Ss := (.cons (.ret (.call 3 (.cons (.bin .mul false (.idx (.var 0) (.cst (.int (0)))) (.idx (.var 1) (.cst (.int (0))))) (.cons (.bin .mul false (.idx (.var 0) (.cst (.int (1)))) (.idx (.var 1) (.cst (.int (1))))) .nil)))) .nil)
def m_part_of : Ss := (.cons (.ret (.call 3 (.cons (.bin .mul false (.idx (.var 0) (.cst (.int (0)))) (.idx (.var 1) (.cst (.int (1))))) (.cons (.bin .mul false (.idx (.var 0) (.cst (.int (1)))) (.idx (.var 1) (.cst (.int (0))))) .nil)))) .nil)
def m_is_under : Ss := (.cons (.ret (.cmp .lt (.bin .mul false (.idx (.var 0) (.cst (.int (0)))) (.idx (.var 1) (.cst (.int (1))))) (.bin .mul false (.idx (.var 1) (.cst (.int (0)))) (.idx (.var 0) (.cst (.int (1))))))) .nil)
def m_fits_fraction : Ss := (.cons (.ite (.or (.not (.call 1 (.cons (.var 0) (.cons (.cst (.int (2))) (.cons (.cst (.int (2))) .nil))))) (.not (.blt .all false (.cons (.lc false [1] (.nm 1) (.seq (.var 0)) .nil (.and (.call 0 (.cons (.var 1) .nil)) (.chn .lt .lt (.neg (.cst k_DIGITS)) (.var 1) (.cst k_DIGITS)))) .nil)))) (.cons (.ret (.cst (.bl false))) .nil) .nil) (.cons (.ret (.and (.cmp .ge (.idx (.var 0) (.cst (.int (1)))) (.cst (.int (1)))) (.cmp .eq (.call 2 (.cons (.idx (.var 0) (.cst (.int (0)))) (.cons (.idx (.var 0) (.cst (.int (1)))) .nil))) (.cst (.int (1)))))) .nil))
def m_fits_chain : Ss := (.cons (.ite (.or (.not (.call 1 (.cons (.var 0) (.cons (.cst (.int (4))) (.cons (.cst (.int (4))) .nil))))) (.not (.blt .all false (.cons (.lc false [5] (.nm 5) (.seq (.var 0)) .nil (.call 9 (.cons (.var 5) .nil))) .nil)))) (.cons (.ret (.cst (.bl false))) .nil) .nil) (.cons (.asg (.tp [1, 2, 3, 4]) (.var 0)) (.cons (.ret (.cmp .eq (.call 5 (.cons (.call 6 (.cons (.var 1) (.cons (.var 4) .nil))) (.cons (.call 6 (.cons (.var 2) (.cons (.var 3) .nil))) .nil))) (.cst k_ONE))) .nil)))
def m_need_chain : Ss := (.cons (.ite (.not (.call 10 (.cons (.var 0) .nil))) (.cons .rais .nil) .nil) .nil)
def m_is_from_none : Ss := (.cons (.ret (.cmp .ge (.idx (.var 0) (.cst (.int (0)))) (.cst (.int (0))))) .nil)
def m_joined_chain : Ss := (.cons (.asg (.tp [2, 3, 4, 5]) (.var 0)) (.cons (.asg (.tp [6, 7, 8, 9]) (.var 1)) (.cons (.par 10 11 (.call 4 (.cons (.call 6 (.cons (.var 2) (.cons (.var 6) .nil))) (.cons (.call 6 (.cons (.var 3) (.cons (.var 8) .nil))) .nil))) (.call 4 (.cons (.call 6 (.cons (.var 2) (.cons (.var 7) .nil))) (.cons (.call 6 (.cons (.var 3) (.cons (.var 9) .nil))) .nil)))) (.cons (.ret (.tup (.cons (.var 10) (.cons (.var 11) (.cons (.call 4 (.cons (.call 6 (.cons (.var 4) (.cons (.var 6) .nil))) (.cons (.call 6 (.cons (.var 5) (.cons (.var 8) .nil))) .nil))) (.cons (.call 4 (.cons (.call 6 (.cons (.var 4) (.cons (.var 7) .nil))) (.cons (.call 6 (.cons (.var 5) (.cons (.var 9) .nil))) .nil))) .nil)))))) .nil))))
def m_product_in : Ss := (.cons (.set 1 (.cst k_PLAIN)) (.cons (.for_ (.nm 2) (.seq (.var 0)) (.cons (.set 1 (.call 13 (.cons (.var 1) (.cons (.var 2) .nil)))) .nil)) (.cons (.ret (.var 1)) .nil)))
def m_turned_chain : Ss := (.cons (.ret (.tup (.cons (.idx (.var 0) (.cst (.int (3)))) (.cons (.idx (.var 0) (.cst (.int (1)))) (.cons (.idx (.var 0) (.cst (.int (2)))) (.cons (.idx (.var 0) (.cst (.int (0)))) .nil)))))) .nil)
def m_is_told_in : Ss := (.cons (.asg (.tp [1, 2, 3, 4]) (.var 0)) (.cons (.ret (.and (.not (.call 8 (.cons (.var 1) (.cons (.cst k_ONE) .nil)))) (.and (.not (.call 8 (.cons (.var 4) (.cons (.cst k_ONE) .nil)))) (.and (.call 12 (.cons (.var 2) .nil)) (.call 12 (.cons (.var 3) .nil)))))) .nil))
def m_chain_turned : Ss := (.cons (.exp (.call 11 (.cons (.var 0) .nil))) (.cons (.ret (.call 15 (.cons (.var 0) .nil))) .nil))
def m_is_told_chain : Ss := (.cons (.exp (.call 11 (.cons (.var 0) .nil))) (.cons (.ret (.call 16 (.cons (.var 0) .nil))) .nil))
def m_star_of_chain : Ss := (.cons (.exp (.call 11 (.cons (.var 0) .nil))) (.cons (.asg (.tp [1, 2, 3, 4]) (.var 0)) (.cons (.ite (.not (.call 16 (.cons (.var 0) .nil))) (.cons (.ret (.cst .non)) .nil) .nil) (.cons (.ite (.cmp .eq (.var 3) (.cst k_NONE)) (.cons (.ret (.tup (.cons (.var 2) (.cons (.cst k_NONE) (.cons (.cst k_NONE) .nil))))) .nil) .nil) (.cons (.ret (.tup (.cons (.call 7 (.cons (.call 5 (.cons (.var 1) (.cons (.cst k_ONE) .nil))) (.cons (.var 3) .nil))) (.cons (.var 3) (.cons (.call 7 (.cons (.call 5 (.cons (.var 4) (.cons (.cst k_ONE) .nil))) (.cons (.var 3) .nil))) .nil))))) .nil)))))
def m_ring_of_chain : Ss := (.cons (.exp (.call 11 (.cons (.var 0) .nil))) (.cons (.asg (.tp [1, 2, 3, 4]) (.var 0)) (.cons (.ite (.or (.not (.call 16 (.cons (.var 0) .nil))) (.cmp .eq (.var 2) (.cst k_NONE))) (.cons (.ret (.cst .non)) .nil) .nil) (.cons (.ret (.tup (.cons (.call 7 (.cons (.call 5 (.cons (.var 4) (.cons (.cst k_ONE) .nil))) (.cons (.var 2) .nil))) (.cons (.var 2) (.cons (.call 7 (.cons (.call 5 (.cons (.var 1) (.cons (.cst k_ONE) .nil))) (.cons (.var 2) .nil))) .nil))))) .nil))))
def m_fits_rung : Ss := (.cons (.ret (.and (.call 1 (.cons (.var 0) (.cons (.cst (.int (2))) (.cons (.cst (.int (2))) .nil)))) (.blt .all false (.cons (.lc false [1] (.nm 1) (.seq (.var 0)) .nil (.and (.call 9 (.cons (.var 1) .nil)) (.call 12 (.cons (.var 1) .nil)))) .nil)))) .nil)
def m_fits_ladder : Ss := (.cons (.ret (.and (.call 1 (.cons (.var 0) (.cons (.cst (.int (0))) (.cons (.cst k_MANY) .nil)))) (.blt .all false (.cons (.lc false [1] (.nm 1) (.seq (.var 0)) .nil (.call 21 (.cons (.var 1) .nil))) .nil)))) .nil)
def m_need_ladder : Ss := (.cons (.ite (.not (.call 22 (.cons (.var 0) .nil))) (.cons .rais .nil) .nil) .nil)
def m_chain_in : Ss := (.cons (.set 1 (.lst false .nil)) (.cons (.for_ (.tp [2, 3]) (.seq (.var 0)) (.cons (.set 1 (.bin .add false (.var 1) (.lst false (.cons (.tup (.cons (.cst k_ONE) (.cons (.var 2) (.cons (.cst k_NONE) (.cons (.cst k_ONE) .nil))))) (.cons (.tup (.cons (.cst k_ONE) (.cons (.cst k_NONE) (.cons (.var 3) (.cons (.cst k_ONE) .nil))))) .nil))))) .nil)) (.cons (.ret (.call 14 (.cons (.var 1) .nil))) .nil)))
def m_is_ladder : Ss := (.cons (.ret (.call 22 (.cons (.var 0) .nil))) .nil)
def m_ladder_chain : Ss := (.cons (.exp (.call 23 (.cons (.var 0) .nil))) (.cons (.ret (.call 24 (.cons (.var 0) .nil))) .nil))
def m__law_cup : Ss := (.cons (.set 1 (.blt .abs false (.cons (.idx (.bin .add false (.blt .list false (.cons (.var 0) .nil)) (.lst false (.cons (.cst (.int (0))) .nil))) (.cst (.int (0)))) .nil))) (.cons (.ret (.lst true (.cons (.ite (.cmp .ge (.var 1) (.bin .pow false (.cst (.int (10))) (.cst (.int (18))))) (.bin .fdiv false (.var 1) (.cst (.int (73)))) (.cst (.int (0)))) (.cons (.bin .add false (.bin .mod false (.blt .int false (.cons (.bin .add false (.bin .mul false (.var 1) (.cst (.int (283)))) (.cst (.int (3907)))) .nil)) (.cst (.int (2077503167)))) (.cst (.int (167)))) .nil)))) .nil))
def m__law_roll : Ss := (.cons (.ite (.cmp .gt (.idx (.var 0) (.cst (.int (0)))) (.cst (.int (0)))) (.cons (.set 2 (.bin .mod false (.blt .int false (.cons (.idx (.var 0) (.cst (.int (0)))) .nil)) (.var 1))) (.cons (.seti (.var 0) (.cst (.int (0))) (.bin .fdiv false (.idx (.var 0) (.cst (.int (0)))) (.var 1))) (.cons (.ret (.var 2)) .nil))) .nil) (.cons (.seti (.var 0) (.cst (.int (1))) (.bin .mod false (.blt .int false (.cons (.bin .add false (.bin .mul false (.idx (.var 0) (.cst (.int (1)))) (.cst (.int (31051)))) (.cst (.int (7993)))) .nil)) (.cst (.int (2147483543))))) (.cons (.set 3 (.bin .mod false (.blt .int false (.cons (.bin .mul false (.idx (.var 0) (.cst (.int (1)))) (.bin .add false (.idx (.var 0) (.cst (.int (1)))) (.cst (.int (229))))) .nil)) (.cst (.int (2147483587))))) (.cons (.ret (.bin .mod false (.blt .int false (.cons (.bin .fdiv false (.var 3) (.cst (.int (821)))) .nil)) (.var 1))) .nil))))
def m__law_sort : Ss := (.cons (.ite (.or (.cmp .is (.var 0) (.cst .non)) (.isi (.var 0) .bool)) (.cons (.ret (.ite (.cmp .is (.var 0) (.cst .non)) (.cst (.int (0))) (.cst (.int (1))))) .nil) .nil) (.cons (.ite (.or (.isi (.var 0) .int) (.isi (.var 0) .str)) (.cons (.ret (.ite (.isi (.var 0) .int) (.cst (.int (2))) (.cst (.int (3))))) .nil) .nil) (.cons (.ret (.ite (.isi (.var 0) .tuple) (.cst (.int (4))) (.ite (.isi (.var 0) .list) (.cst (.int (5))) (.cst (.int (6)))))) .nil)))
def m__law_like : Ss := (.cons (.set 2 (.call 29 (.cons (.var 1) .nil))) (.cons (.ite (.or (.cmp .ne (.call 29 (.cons (.var 0) .nil)) (.var 2)) (.cmp .eq (.var 2) (.cst (.int (6))))) (.cons (.ret (.cst (.bl false))) .nil) .nil) (.cons (.ite (.cmp .isin (.var 2) (.tup (.cons (.cst (.int (4))) (.cons (.cst (.int (5))) .nil)))) (.cons (.ret (.and (.cmp .eq (.blt .len false (.cons (.var 0) .nil)) (.blt .len false (.cons (.var 1) .nil))) (.cmp .eq (.lc false [3, 4] (.tp [3, 4]) (.zip (.var 0) (.var 1)) (.cons (.not (.call 30 (.cons (.var 3) (.cons (.var 4) .nil)))) .nil) (.cst (.int (1)))) (.lst false .nil)))) .nil) .nil) (.cons (.ret (.cmp .eq (.var 0) (.var 1))) .nil))))
def m__law_least : Ss := (.cons (.par 2 3 (.blt .abs false (.cons (.var 0) .nil)) (.blt .abs false (.cons (.var 1) .nil))) (.cons (.whl (.cmp .ne (.var 3) (.cst (.int (0)))) (.cons (.par 2 3 (.var 3) (.bin .mod false (.blt .int false (.cons (.var 2) .nil)) (.var 3))) .nil)) (.cons (.set 4 (.ite (.cmp .lt (.var 1) (.cst (.int (0)))) (.neg (.cst (.int (1)))) (.cst (.int (1))))) (.cons (.ret (.tup (.cons (.blt .int false (.cons (.bin .fdiv false (.bin .mul false (.var 4) (.var 0)) (.var 2)) .nil)) (.cons (.blt .int false (.cons (.bin .fdiv false (.bin .mul false (.var 4) (.var 1)) (.var 2)) .nil)) .nil)))) .nil))))
def m__law_plus : Ss := (.cons (.ret (.call 31 (.cons (.bin .add false (.bin .mul false (.idx (.var 0) (.cst (.int (0)))) (.idx (.var 1) (.cst (.int (1))))) (.bin .mul false (.idx (.var 1) (.cst (.int (0)))) (.idx (.var 0) (.cst (.int (1)))))) (.cons (.bin .mul false (.idx (.var 0) (.cst (.int (1)))) (.idx (.var 1) (.cst (.int (1))))) .nil)))) .nil)
def m__law_times : Ss := (.cons (.ret (.call 31 (.cons (.bin .mul false (.idx (.var 0) (.cst (.int (0)))) (.idx (.var 1) (.cst (.int (0))))) (.cons (.bin .mul false (.idx (.var 0) (.cst (.int (1)))) (.idx (.var 1) (.cst (.int (1))))) .nil)))) .nil)
def m__law_over : Ss := (.cons (.ret (.call 31 (.cons (.bin .mul false (.idx (.var 0) (.cst (.int (0)))) (.idx (.var 1) (.cst (.int (1))))) (.cons (.bin .mul false (.idx (.var 0) (.cst (.int (1)))) (.idx (.var 1) (.cst (.int (0))))) .nil)))) .nil)
def m__law_under : Ss := (.cons (.ret (.cmp .lt (.bin .mul false (.idx (.var 0) (.cst (.int (0)))) (.idx (.var 1) (.cst (.int (1))))) (.bin .mul false (.idx (.var 1) (.cst (.int (0)))) (.idx (.var 0) (.cst (.int (1))))))) .nil)
def m__law_joined : Ss := (.cons (.asg (.tp [2, 3, 4, 5]) (.var 0)) (.cons (.asg (.tp [6, 7, 8, 9]) (.var 1)) (.cons (.set 10 (.tup (.cons (.tup (.cons (.var 2) (.cons (.var 6) (.cons (.var 3) (.cons (.var 8) .nil))))) (.cons (.tup (.cons (.var 2) (.cons (.var 7) (.cons (.var 3) (.cons (.var 9) .nil))))) (.cons (.tup (.cons (.var 4) (.cons (.var 6) (.cons (.var 5) (.cons (.var 8) .nil))))) (.cons (.tup (.cons (.var 4) (.cons (.var 7) (.cons (.var 5) (.cons (.var 9) .nil))))) .nil)))))) (.cons (.ret (.blt .tuple false (.cons (.lc false [11, 12, 13, 14] (.tp [11, 12, 13, 14]) (.seq (.var 10)) .nil (.call 32 (.cons (.call 33 (.cons (.var 11) (.cons (.var 12) .nil))) (.cons (.call 33 (.cons (.var 13) (.cons (.var 14) .nil))) .nil)))) .nil))) .nil))))
def m__law_any_chain : Ss := (.cons (.asg (.ls [2, 3, 4]) (.lc false [5] (.nm 5) (.rng (.cst (.int 0)) (.cst (.int (3)))) .nil (.call 31 (.cons (.bin .sub false (.call 28 (.cons (.var 0) (.cons (.bin .add false (.bin .mul false (.cst (.int (2))) (.var 1)) (.cst (.int (1)))) .nil))) (.var 1)) (.cons (.bin .add false (.cst (.int (1))) (.call 28 (.cons (.var 0) (.cons (.var 1) .nil)))) .nil))))) (.cons (.ite (.cmp .eq (.var 2) (.tup (.cons (.cst (.int (0))) (.cons (.cst (.int (1))) .nil)))) (.cons (.set 3 (.ite (.cmp .eq (.var 3) (.tup (.cons (.cst (.int (0))) (.cons (.cst (.int (1))) .nil)))) (.tup (.cons (.cst (.int (1))) (.cons (.cst (.int (1))) .nil))) (.var 3))) (.cons (.ret (.tup (.cons (.var 2) (.cons (.var 3) (.cons (.call 34 (.cons (.tup (.cons (.neg (.cst (.int (1)))) (.cons (.cst (.int (1))) .nil))) (.cons (.var 3) .nil))) (.cons (.var 4) .nil)))))) .nil)) .nil) (.cons (.ret (.tup (.cons (.var 2) (.cons (.var 3) (.cons (.var 4) (.cons (.call 34 (.cons (.call 32 (.cons (.tup (.cons (.cst (.int (1))) (.cons (.cst (.int (1))) .nil))) (.cons (.call 33 (.cons (.var 3) (.cons (.var 4) .nil))) .nil))) (.cons (.var 2) .nil))) .nil)))))) .nil)))
def m__law_number : Ss := (.cons (.ite (.cmp .eq (.call 28 (.cons (.var 0) (.cons (.cst (.int (5))) .nil))) (.cst (.int (0)))) (.cons (.ret (.tup (.cons (.cst (.int (0))) (.cons (.cst (.int (1))) .nil)))) .nil) .nil) (.cons (.ret (.call 31 (.cons (.bin .add false (.cst (.int (1))) (.call 28 (.cons (.var 0) (.cons (.var 1) .nil)))) (.cons (.bin .add false (.cst (.int (1))) (.call 28 (.cons (.var 0) (.cons (.var 1) .nil)))) .nil)))) .nil))
def m__law_ladder : Ss := (.cons (.ret (.blt .tuple false (.cons (.lc false [3] (.nm 3) (.rng (.cst (.int 0)) (.call 28 (.cons (.var 0) (.cons (.bin .add false (.var 1) (.cst (.int (1)))) .nil)))) .nil (.tup (.cons (.call 38 (.cons (.var 0) (.cons (.var 2) .nil))) (.cons (.call 38 (.cons (.var 0) (.cons (.var 2) .nil))) .nil)))) .nil))) .nil)
def m__law_chain_of : Ss := (.cons (.set 1 (.tup (.cons (.tup (.cons (.cst (.int (1))) (.cons (.cst (.int (1))) .nil))) (.cons (.tup (.cons (.cst (.int (0))) (.cons (.cst (.int (1))) .nil))) (.cons (.tup (.cons (.cst (.int (0))) (.cons (.cst (.int (1))) .nil))) (.cons (.tup (.cons (.cst (.int (1))) (.cons (.cst (.int (1))) .nil))) .nil)))))) (.cons (.for_ (.tp [2, 3]) (.seq (.var 0)) (.cons (.set 1 (.call 36 (.cons (.var 1) (.cons (.tup (.cons (.tup (.cons (.cst (.int (1))) (.cons (.cst (.int (1))) .nil))) (.cons (.var 2) (.cons (.tup (.cons (.cst (.int (0))) (.cons (.cst (.int (1))) .nil))) (.cons (.tup (.cons (.cst (.int (1))) (.cons (.cst (.int (1))) .nil))) .nil))))) .nil)))) (.cons (.set 1 (.call 36 (.cons (.var 1) (.cons (.tup (.cons (.tup (.cons (.cst (.int (1))) (.cons (.cst (.int (1))) .nil))) (.cons (.tup (.cons (.cst (.int (0))) (.cons (.cst (.int (1))) .nil))) (.cons (.var 3) (.cons (.tup (.cons (.cst (.int (1))) (.cons (.cst (.int (1))) .nil))) .nil))))) .nil)))) .nil))) (.cons (.ret (.var 1)) .nil)))
def m__law_right : Ss := (.cons (.asg (.tp [1, 2, 3, 4]) (.var 0)) (.cons (.set 5 (.and (.not (.call 35 (.cons (.var 1) (.cons (.tup (.cons (.cst (.int (1))) (.cons (.cst (.int (1))) .nil))) .nil)))) (.and (.not (.call 35 (.cons (.var 4) (.cons (.tup (.cons (.cst (.int (1))) (.cons (.cst (.int (1))) .nil))) .nil)))) (.and (.cmp .ge (.idx (.var 2) (.cst (.int (0)))) (.cst (.int (0)))) (.cmp .ge (.idx (.var 3) (.cst (.int (0)))) (.cst (.int (0)))))))) (.cons (.par 6 7 (.call 19 (.cons (.var 0) .nil)) (.call 20 (.cons (.var 0) .nil))) (.cons (.ite (.or (.not (.call 30 (.cons (.call 18 (.cons (.var 0) .nil)) (.cons (.var 5) .nil)))) (.or (.cmp .ne (.cmp .is (.var 6) (.cst .non)) (.not (.var 5))) (.cmp .ne (.cmp .is (.var 7) (.cst .non)) (.or (.not (.var 5)) (.cmp .eq (.idx (.var 2) (.cst (.int (0)))) (.cst (.int (0)))))))) (.cons (.ret (.cst (.bl false))) .nil) .nil) (.cons (.ite (.not (.var 5)) (.cons (.ret (.cst (.bl true))) .nil) .nil) (.cons (.ite (.or (.not (.isi (.var 6) .tuple)) (.or (.cmp .ne (.blt .len false (.cons (.var 6) .nil)) (.cst (.int (3)))) (.cmp .ne (.idx (.var 6) (.cst (.int (1)))) (.var 3)))) (.cons (.ret (.cst (.bl false))) .nil) .nil) (.cons (.set 8 (.tup (.cons (.tup (.cons (.idx (.var 6) (.cst (.int (0)))) (.cons (.idx (.var 6) (.cst (.int (1)))) .nil))) (.cons (.tup (.cons (.idx (.var 6) (.cst (.int (2)))) (.cons (.tup (.cons (.cst (.int (0))) (.cons (.cst (.int (1))) .nil))) .nil))) .nil)))) (.cons (.ite (.or (.cmp .isn (.call 25 (.cons (.var 8) .nil)) (.cst (.bl true))) (.or (.not (.call 30 (.cons (.call 26 (.cons (.var 8) .nil)) (.cons (.var 0) .nil)))) (.and (.cmp .eq (.idx (.var 3) (.cst (.int (0)))) (.cst (.int (0)))) (.not (.call 30 (.cons (.var 6) (.cons (.tup (.cons (.var 2) (.cons (.tup (.cons (.cst (.int (0))) (.cons (.cst (.int (1))) .nil))) (.cons (.tup (.cons (.cst (.int (0))) (.cons (.cst (.int (1))) .nil))) .nil)))) .nil))))))) (.cons (.ret (.cst (.bl false))) .nil) .nil) (.cons (.set 9 (.call 19 (.cons (.call 17 (.cons (.var 0) .nil)) .nil))) (.cons (.ite (.and (.cmp .gt (.idx (.var 3) (.cst (.int (0)))) (.cst (.int (0)))) (.not (.call 30 (.cons (.var 9) (.cons (.rev (.var 6)) .nil))))) (.cons (.ret (.cst (.bl false))) .nil) .nil) (.cons (.ite (.cmp .is (.var 7) (.cst .non)) (.cons (.ret (.cst (.bl true))) .nil) .nil) (.cons (.set 10 (.tup (.cons (.tup (.cons (.tup (.cons (.cst (.int (0))) (.cons (.cst (.int (1))) .nil))) (.cons (.idx (.var 7) (.cst (.int (0)))) .nil))) (.cons (.tup (.cons (.idx (.var 7) (.cst (.int (1)))) (.cons (.idx (.var 7) (.cst (.int (2)))) .nil))) .nil)))) (.cons (.ite (.or (.cmp .isn (.call 25 (.cons (.var 10) .nil)) (.cst (.bl true))) (.not (.call 30 (.cons (.lst false (.cons (.call 26 (.cons (.var 10) .nil)) (.cons (.call 20 (.cons (.call 17 (.cons (.var 0) .nil)) .nil)) .nil))) (.cons (.lst false (.cons (.var 0) (.cons (.rev (.var 7)) .nil))) .nil))))) (.cons (.ret (.cst (.bl false))) .nil) .nil) (.cons (.ite (.cmp .eq (.idx (.var 3) (.cst (.int (0)))) (.cst (.int (0)))) (.cons (.ret (.call 30 (.cons (.var 7) (.cons (.tup (.cons (.tup (.cons (.cst (.int (0))) (.cons (.cst (.int (1))) .nil))) (.cons (.var 2) (.cons (.tup (.cons (.cst (.int (0))) (.cons (.cst (.int (1))) .nil))) .nil)))) .nil)))) .nil) .nil) (.cons (.asg (.tp [11, 12, 13]) (.var 6)) (.cons (.set 14 (.call 32 (.cons (.call 32 (.cons (.var 11) (.cons (.var 13) .nil))) (.cons (.call 33 (.cons (.call 33 (.cons (.var 11) (.cons (.var 12) .nil))) (.cons (.var 13) .nil))) .nil)))) (.cons (.ite (.cmp .eq (.var 14) (.tup (.cons (.cst (.int (0))) (.cons (.cst (.int (1))) .nil)))) (.cons (.ret (.cmp .eq (.idx (.var 2) (.cst (.int (0)))) (.cst (.int (0))))) .nil) .nil) (.cons (.ret (.call 30 (.cons (.var 7) (.cons (.tup (.cons (.call 34 (.cons (.call 33 (.cons (.var 12) (.cons (.var 13) .nil))) (.cons (.var 14) .nil))) (.cons (.var 14) (.cons (.call 34 (.cons (.call 33 (.cons (.var 12) (.cons (.var 11) .nil))) (.cons (.var 14) .nil))) .nil)))) .nil)))) .nil))))))))))))))))))
def m_law : Ss := (.cons (.set 1 (.call 27 (.cons (.var 0) .nil))) (.cons (.asg (.tp [2, 3]) (.tup (.cons (.tup (.cons (.tup (.cons (.cst (.int (2))) (.cons (.cst (.int (1))) .nil))) (.cons (.tup (.cons (.cst (.int (1))) (.cons (.cst (.int (1))) .nil))) (.cons (.tup (.cons (.cst (.int (1))) (.cons (.cst (.int (1))) .nil))) (.cons (.tup (.cons (.cst (.int (1))) (.cons (.cst (.int (1))) .nil))) .nil))))) (.cons (.tup (.cons (.tup (.cons (.cst (.int (1))) (.cons (.cst (.int (1))) .nil))) (.cons (.tup (.cons (.cst (.int (3))) (.cons (.cst (.int (1))) .nil))) (.cons (.tup (.cons (.cst (.int (0))) (.cons (.cst (.int (1))) .nil))) (.cons (.tup (.cons (.cst (.int (1))) (.cons (.cst (.int (1))) .nil))) .nil))))) .nil)))) (.cons (.set 4 (.lst true (.cons (.call 18 (.cons (.var 2) .nil)) (.cons (.call 18 (.cons (.tup (.cons (.tup (.cons (.cst (.int (0))) (.cons (.cst (.int (1))) .nil))) (.cons (.tup (.cons (.cst (.int (1))) (.cons (.cst (.int (1))) .nil))) (.cons (.tup (.cons (.neg (.cst (.int (1)))) (.cons (.cst (.int (1))) .nil))) (.cons (.tup (.cons (.cst (.int (0))) (.cons (.cst (.int (1))) .nil))) .nil))))) .nil)) (.cons (.call 19 (.cons (.var 2) .nil)) (.cons (.call 20 (.cons (.var 2) .nil)) .nil)))))) (.cons (.set 4 (.bin .add true (.var 4) (.lst false (.cons (.call 19 (.cons (.var 3) .nil)) (.cons (.call 20 (.cons (.var 3) .nil)) (.cons (.call 20 (.cons (.tup (.cons (.tup (.cons (.cst (.int (1))) (.cons (.cst (.int (1))) .nil))) (.cons (.tup (.cons (.cst (.int (0))) (.cons (.cst (.int (1))) .nil))) (.cons (.tup (.cons (.cst (.int (1))) (.cons (.cst (.int (2))) .nil))) (.cons (.tup (.cons (.cst (.int (1))) (.cons (.cst (.int (1))) .nil))) .nil))))) .nil)) .nil)))))) (.cons (.exp (.app (.var 4) (.call 19 (.cons (.tup (.cons (.tup (.cons (.cst (.int (1))) (.cons (.cst (.int (2))) .nil))) (.cons (.tup (.cons (.cst (.int (0))) (.cons (.cst (.int (1))) .nil))) (.cons (.tup (.cons (.cst (.int (0))) (.cons (.cst (.int (1))) .nil))) (.cons (.tup (.cons (.cst (.int (2))) (.cons (.cst (.int (1))) .nil))) .nil))))) .nil)))) (.cons (.set 5 (.lst false (.cons (.cst (.bl true)) (.cons (.cst (.bl false)) (.cons (.tup (.cons (.tup (.cons (.cst (.int (1))) (.cons (.cst (.int (1))) .nil))) (.cons (.tup (.cons (.cst (.int (1))) (.cons (.cst (.int (1))) .nil))) (.cons (.tup (.cons (.cst (.int (0))) (.cons (.cst (.int (1))) .nil))) .nil)))) (.cons (.tup (.cons (.tup (.cons (.cst (.int (0))) (.cons (.cst (.int (1))) .nil))) (.cons (.tup (.cons (.cst (.int (1))) (.cons (.cst (.int (1))) .nil))) (.cons (.tup (.cons (.cst (.int (1))) (.cons (.cst (.int (1))) .nil))) .nil)))) (.cons (.tup (.cons (.tup (.cons (.cst (.int (3))) (.cons (.cst (.int (1))) .nil))) (.cons (.tup (.cons (.cst (.int (0))) (.cons (.cst (.int (1))) .nil))) (.cons (.tup (.cons (.cst (.int (0))) (.cons (.cst (.int (1))) .nil))) .nil)))) (.cons (.tup (.cons (.tup (.cons (.cst (.int (0))) (.cons (.cst (.int (1))) .nil))) (.cons (.tup (.cons (.cst (.int (3))) (.cons (.cst (.int (1))) .nil))) (.cons (.tup (.cons (.cst (.int (0))) (.cons (.cst (.int (1))) .nil))) .nil)))) (.cons (.cst .non) (.cons (.cst .non) .nil)))))))))) (.cons (.ite (.not (.call 30 (.cons (.var 4) (.cons (.var 5) .nil)))) (.cons (.ret (.cst (.bl false))) .nil) .nil) (.cons (.for_ (.tp [6, 7]) (.seq (.tup (.cons (.tup (.cons (.cst (.int (1))) (.cons (.cst (.int (9))) .nil))) (.cons (.tup (.cons (.cst (.int (3))) (.cons (.cst (.int (6))) .nil))) (.cons (.tup (.cons (.cst (.int (5))) (.cons (.cst (.int (4))) .nil))) .nil))))) (.cons (.ite (.not (.call 41 (.cons (.call 40 (.cons (.call 39 (.cons (.var 1) (.cons (.var 6) (.cons (.var 7) .nil)))) .nil)) .nil))) (.cons (.ret (.cst (.bl false))) .nil) .nil) .nil)) (.cons (.for_ (.nm 7) (.seq (.tup (.cons (.cst (.int (2))) (.cons (.cst (.int (4))) (.cons (.cst (.int (9))) .nil))))) (.cons (.ite (.not (.call 41 (.cons (.call 37 (.cons (.var 1) (.cons (.var 7) .nil))) .nil))) (.cons (.ret (.cst (.bl false))) .nil) .nil) .nil)) (.cons (.par 8 9 (.call 38 (.cons (.var 1) (.cons (.cst (.int (9))) .nil))) (.call 38 (.cons (.var 1) (.cons (.cst (.int (9))) .nil)))) (.cons (.set 10 (.tup (.cons (.bin .sub false (.bin .pow false (.cst (.int (10))) (.cst (.int (6)))) (.cst (.int (1)))) (.cons (.bin .pow false (.cst (.int (10))) (.cst (.int (6)))) .nil)))) (.cons (.set 11 (.lst false (.cons (.tup (.cons (.tup (.cons (.cst (.int (1))) (.cons (.cst (.int (1))) .nil))) (.cons (.var 8) (.cons (.tup (.cons (.cst (.int (0))) (.cons (.cst (.int (1))) .nil))) (.cons (.tup (.cons (.cst (.int (1))) (.cons (.cst (.int (1))) .nil))) .nil))))) (.cons (.tup (.cons (.tup (.cons (.cst (.int (1))) (.cons (.cst (.int (1))) .nil))) (.cons (.tup (.cons (.cst (.int (0))) (.cons (.cst (.int (1))) .nil))) (.cons (.var 9) (.cons (.tup (.cons (.cst (.int (1))) (.cons (.cst (.int (1))) .nil))) .nil))))) (.cons (.tup (.cons (.var 10) (.cons (.tup (.cons (.cst (.int (0))) (.cons (.cst (.int (1))) .nil))) (.cons (.tup (.cons (.cst (.int (0))) (.cons (.cst (.int (1))) .nil))) (.cons (.call 34 (.cons (.tup (.cons (.cst (.int (1))) (.cons (.cst (.int (1))) .nil))) (.cons (.var 10) .nil))) .nil))))) .nil))))) (.cons (.for_ (.nm 12) (.seq (.bin .add false (.var 11) (.lst false (.cons (.tup (.cons (.tup (.cons (.cst (.int (1))) (.cons (.cst (.int (1))) .nil))) (.cons (.tup (.cons (.neg (.cst (.int (1)))) (.cons (.cst (.int (5))) .nil))) (.cons (.tup (.cons (.cst (.int (0))) (.cons (.cst (.int (1))) .nil))) (.cons (.tup (.cons (.cst (.int (1))) (.cons (.cst (.int (1))) .nil))) .nil))))) .nil)))) (.cons (.ite (.not (.call 41 (.cons (.var 12) .nil))) (.cons (.ret (.cst (.bl false))) .nil) .nil) .nil)) (.cons (.ret (.cst (.bl true))) .nil))))))))))))))
def prog : List Fn := [⟨1, 1, false, m_is_integer⟩,
  ⟨3, 3, false, m_is_tuple_of⟩,
  ⟨2, 2, false, m_divisor_of⟩,
  ⟨3, 2, false, m_lowest⟩,
  ⟨2, 2, false, m_sum_of⟩,
  ⟨2, 2, false, m_less_by⟩,
  ⟨2, 2, false, m_product_of⟩,
  ⟨2, 2, false, m_part_of⟩,
  ⟨2, 2, false, m_is_under⟩,
  ⟨2, 1, false, m_fits_fraction⟩,
  ⟨6, 1, false, m_fits_chain⟩,
  ⟨1, 1, false, m_need_chain⟩,
  ⟨1, 1, false, m_is_from_none⟩,
  ⟨12, 2, false, m_joined_chain⟩,
  ⟨3, 1, false, m_product_in⟩,
  ⟨1, 1, false, m_turned_chain⟩,
  ⟨5, 1, false, m_is_told_in⟩,
  ⟨1, 1, false, m_chain_turned⟩,
  ⟨1, 1, false, m_is_told_chain⟩,
  ⟨5, 1, false, m_star_of_chain⟩,
  ⟨5, 1, false, m_ring_of_chain⟩,
  ⟨2, 1, false, m_fits_rung⟩,
  ⟨2, 1, false, m_fits_ladder⟩,
  ⟨1, 1, false, m_need_ladder⟩,
  ⟨4, 1, false, m_chain_in⟩,
  ⟨1, 1, false, m_is_ladder⟩,
  ⟨1, 1, false, m_ladder_chain⟩,
  ⟨2, 1, true, m__law_cup⟩,
  ⟨4, 2, false, m__law_roll⟩,
  ⟨1, 1, false, m__law_sort⟩,
  ⟨5, 2, false, m__law_like⟩,
  ⟨5, 2, false, m__law_least⟩,
  ⟨2, 2, false, m__law_plus⟩,
  ⟨2, 2, false, m__law_times⟩,
  ⟨2, 2, false, m__law_over⟩,
  ⟨2, 2, false, m__law_under⟩,
  ⟨15, 2, false, m__law_joined⟩,
  ⟨6, 2, false, m__law_any_chain⟩,
  ⟨2, 2, false, m__law_number⟩,
  ⟨4, 3, false, m__law_ladder⟩,
  ⟨4, 1, false, m__law_chain_of⟩,
  ⟨15, 1, false, m__law_right⟩,
  ⟨13, 1, false, m_law⟩]
def names : List Str := [Str.ofString "is_integer", Str.ofString "is_tuple_of", Str.ofString "divisor_of", Str.ofString "lowest", Str.ofString "sum_of", Str.ofString "less_by", Str.ofString "product_of", Str.ofString "part_of", Str.ofString "is_under", Str.ofString "fits_fraction", Str.ofString "fits_chain", Str.ofString "need_chain", Str.ofString "is_from_none", Str.ofString "joined_chain", Str.ofString "product_in", Str.ofString "turned_chain", Str.ofString "is_told_in", Str.ofString "chain_turned", Str.ofString "is_told_chain", Str.ofString "star_of_chain", Str.ofString "ring_of_chain", Str.ofString "fits_rung", Str.ofString "fits_ladder", Str.ofString "need_ladder", Str.ofString "chain_in", Str.ofString "is_ladder", Str.ofString "ladder_chain", Str.ofString "_law_cup", Str.ofString "_law_roll", Str.ofString "_law_sort", Str.ofString "_law_like", Str.ofString "_law_least", Str.ofString "_law_plus", Str.ofString "_law_times", Str.ofString "_law_over", Str.ofString "_law_under", Str.ofString "_law_joined", Str.ofString "_law_any_chain", Str.ofString "_law_number", Str.ofString "_law_ladder", Str.ofString "_law_chain_of", Str.ofString "_law_right", Str.ofString "law"]
def consts : List (Str × PV) := [("DIGITS", k_DIGITS), ("ONE", k_ONE), ("PLAIN", k_PLAIN), ("NONE", k_NONE), ("MANY", k_MANY)]
def blts : List Str := ["isinstance", "bool", "int", "len", "tuple", "abs", "all", "list", "str", "zip", "range"]
abbrev s_is_integer : Stmt := topS 7
theorem sc_is_integer : FnScope ["value"] ["value"] (defScope s_is_integer) := ⟨rfl, rfl, rfl, by decide +kernel, rfl, by decide +kernel, by decide +kernel⟩
abbrev s_is_tuple_of : Stmt := topS 8
theorem sc_is_tuple_of : FnScope ["value", "low", "high"] ["value", "low", "high"] (defScope s_is_tuple_of) := ⟨rfl, rfl, rfl, by decide +kernel, rfl, by decide +kernel, by decide +kernel⟩
abbrev s_divisor_of : Stmt := topS 9
theorem sc_divisor_of : FnScope ["one", "other"] ["one", "other"] (defScope s_divisor_of) := ⟨rfl, rfl, rfl, by decide +kernel, rfl, by decide +kernel, by decide +kernel⟩
abbrev s_lowest : Stmt := topS 10
theorem sc_lowest : FnScope ["above", "below", "part"] ["above", "below"] (defScope s_lowest) := ⟨rfl, rfl, rfl, by decide +kernel, rfl, by decide +kernel, by decide +kernel⟩
abbrev s_sum_of : Stmt := topS 11
theorem sc_sum_of : FnScope ["one", "other"] ["one", "other"] (defScope s_sum_of) := ⟨rfl, rfl, rfl, by decide +kernel, rfl, by decide +kernel, by decide +kernel⟩
abbrev s_less_by : Stmt := topS 12
theorem sc_less_by : FnScope ["one", "other"] ["one", "other"] (defScope s_less_by) := ⟨rfl, rfl, rfl, by decide +kernel, rfl, by decide +kernel, by decide +kernel⟩
abbrev s_product_of : Stmt := topS 13
theorem sc_product_of : FnScope ["one", "other"] ["one", "other"] (defScope s_product_of) := ⟨rfl, rfl, rfl, by decide +kernel, rfl, by decide +kernel, by decide +kernel⟩
abbrev s_part_of : Stmt := topS 14
theorem sc_part_of : FnScope ["one", "other"] ["one", "other"] (defScope s_part_of) := ⟨rfl, rfl, rfl, by decide +kernel, rfl, by decide +kernel, by decide +kernel⟩
abbrev s_is_under : Stmt := topS 15
theorem sc_is_under : FnScope ["one", "other"] ["one", "other"] (defScope s_is_under) := ⟨rfl, rfl, rfl, by decide +kernel, rfl, by decide +kernel, by decide +kernel⟩
abbrev s_fits_fraction : Stmt := topS 16
theorem sc_fits_fraction : FnScope ["value", "number"] ["value"] (defScope s_fits_fraction) := ⟨rfl, rfl, rfl, by decide +kernel, rfl, by decide +kernel, by decide +kernel⟩
abbrev s_fits_chain : Stmt := topS 20
theorem sc_fits_chain : FnScope ["value", "a", "b", "c", "d", "number"] ["value"] (defScope s_fits_chain) := ⟨rfl, rfl, rfl, by decide +kernel, rfl, by decide +kernel, by decide +kernel⟩
abbrev s_need_chain : Stmt := topS 21
theorem sc_need_chain : FnScope ["chain"] ["chain"] (defScope s_need_chain) := ⟨rfl, rfl, rfl, by decide +kernel, rfl, by decide +kernel, by decide +kernel⟩
abbrev s_is_from_none : Stmt := topS 22
theorem sc_is_from_none : FnScope ["fraction"] ["fraction"] (defScope s_is_from_none) := ⟨rfl, rfl, rfl, by decide +kernel, rfl, by decide +kernel, by decide +kernel⟩
abbrev s_joined_chain : Stmt := topS 23
theorem sc_joined_chain : FnScope ["one", "other", "a", "b", "c", "d", "e", "f", "g", "h", "first", "second"] ["one", "other"] (defScope s_joined_chain) := ⟨rfl, rfl, rfl, by decide +kernel, rfl, by decide +kernel, by decide +kernel⟩
abbrev s_product_in : Stmt := topS 24
theorem sc_product_in : FnScope ["chains", "found", "chain"] ["chains"] (defScope s_product_in) := ⟨rfl, rfl, rfl, by decide +kernel, rfl, by decide +kernel, by decide +kernel⟩
abbrev s_turned_chain : Stmt := topS 25
theorem sc_turned_chain : FnScope ["chain"] ["chain"] (defScope s_turned_chain) := ⟨rfl, rfl, rfl, by decide +kernel, rfl, by decide +kernel, by decide +kernel⟩
abbrev s_is_told_in : Stmt := topS 26
theorem sc_is_told_in : FnScope ["chain", "a", "b", "c", "d"] ["chain"] (defScope s_is_told_in) := ⟨rfl, rfl, rfl, by decide +kernel, rfl, by decide +kernel, by decide +kernel⟩
abbrev s_chain_turned : Stmt := topS 27
theorem sc_chain_turned : FnScope ["chain"] ["chain"] (defScope s_chain_turned) := ⟨rfl, rfl, rfl, by decide +kernel, rfl, by decide +kernel, by decide +kernel⟩
abbrev s_is_told_chain : Stmt := topS 28
theorem sc_is_told_chain : FnScope ["chain"] ["chain"] (defScope s_is_told_chain) := ⟨rfl, rfl, rfl, by decide +kernel, rfl, by decide +kernel, by decide +kernel⟩
abbrev s_star_of_chain : Stmt := topS 29
theorem sc_star_of_chain : FnScope ["chain", "a", "b", "c", "d"] ["chain"] (defScope s_star_of_chain) := ⟨rfl, rfl, rfl, by decide +kernel, rfl, by decide +kernel, by decide +kernel⟩
abbrev s_ring_of_chain : Stmt := topS 30
theorem sc_ring_of_chain : FnScope ["chain", "a", "b", "c", "d"] ["chain"] (defScope s_ring_of_chain) := ⟨rfl, rfl, rfl, by decide +kernel, rfl, by decide +kernel, by decide +kernel⟩
abbrev s_fits_rung : Stmt := topS 32
theorem sc_fits_rung : FnScope ["value", "number"] ["value"] (defScope s_fits_rung) := ⟨rfl, rfl, rfl, by decide +kernel, rfl, by decide +kernel, by decide +kernel⟩
abbrev s_fits_ladder : Stmt := topS 33
theorem sc_fits_ladder : FnScope ["value", "rung"] ["value"] (defScope s_fits_ladder) := ⟨rfl, rfl, rfl, by decide +kernel, rfl, by decide +kernel, by decide +kernel⟩
abbrev s_need_ladder : Stmt := topS 34
theorem sc_need_ladder : FnScope ["ladder"] ["ladder"] (defScope s_need_ladder) := ⟨rfl, rfl, rfl, by decide +kernel, rfl, by decide +kernel, by decide +kernel⟩
abbrev s_chain_in : Stmt := topS 35
theorem sc_chain_in : FnScope ["ladder", "chains", "resistance", "lead"] ["ladder"] (defScope s_chain_in) := ⟨rfl, rfl, rfl, by decide +kernel, rfl, by decide +kernel, by decide +kernel⟩
abbrev s_is_ladder : Stmt := topS 36
theorem sc_is_ladder : FnScope ["value"] ["value"] (defScope s_is_ladder) := ⟨rfl, rfl, rfl, by decide +kernel, rfl, by decide +kernel, by decide +kernel⟩
abbrev s_ladder_chain : Stmt := topS 37
theorem sc_ladder_chain : FnScope ["ladder"] ["ladder"] (defScope s_ladder_chain) := ⟨rfl, rfl, rfl, by decide +kernel, rfl, by decide +kernel, by decide +kernel⟩
abbrev s__law_cup : Stmt := topS 39
theorem sc__law_cup : FnScope ["script", "cell"] ["script"] (defScope s__law_cup) := ⟨rfl, rfl, rfl, by decide +kernel, rfl, by decide +kernel, by decide +kernel⟩
abbrev s__law_roll : Stmt := topS 40
theorem sc__law_roll : FnScope ["cup", "many", "found", "deep"] ["cup", "many"] (defScope s__law_roll) := ⟨rfl, rfl, rfl, by decide +kernel, rfl, by decide +kernel, by decide +kernel⟩
abbrev s__law_sort : Stmt := topS 41
theorem sc__law_sort : FnScope ["value"] ["value"] (defScope s__law_sort) := ⟨rfl, rfl, rfl, by decide +kernel, rfl, by decide +kernel, by decide +kernel⟩
abbrev s__law_like : Stmt := topS 42
theorem sc__law_like : FnScope ["one", "other", "sort", "first", "second"] ["one", "other"] (defScope s__law_like) := ⟨rfl, rfl, rfl, by decide +kernel, rfl, by decide +kernel, by decide +kernel⟩
abbrev s__law_least : Stmt := topS 43
theorem sc__law_least : FnScope ["above", "below", "one", "other", "sign"] ["above", "below"] (defScope s__law_least) := ⟨rfl, rfl, rfl, by decide +kernel, rfl, by decide +kernel, by decide +kernel⟩
abbrev s__law_plus : Stmt := topS 44
theorem sc__law_plus : FnScope ["one", "other"] ["one", "other"] (defScope s__law_plus) := ⟨rfl, rfl, rfl, by decide +kernel, rfl, by decide +kernel, by decide +kernel⟩
abbrev s__law_times : Stmt := topS 45
theorem sc__law_times : FnScope ["one", "other"] ["one", "other"] (defScope s__law_times) := ⟨rfl, rfl, rfl, by decide +kernel, rfl, by decide +kernel, by decide +kernel⟩
abbrev s__law_over : Stmt := topS 46
theorem sc__law_over : FnScope ["one", "other"] ["one", "other"] (defScope s__law_over) := ⟨rfl, rfl, rfl, by decide +kernel, rfl, by decide +kernel, by decide +kernel⟩
abbrev s__law_under : Stmt := topS 47
theorem sc__law_under : FnScope ["one", "other"] ["one", "other"] (defScope s__law_under) := ⟨rfl, rfl, rfl, by decide +kernel, rfl, by decide +kernel, by decide +kernel⟩
abbrev s__law_joined : Stmt := topS 48
theorem sc__law_joined : FnScope ["one", "other", "a", "b", "c", "d", "e", "f", "g", "h", "rows", "p", "q", "r", "s"] ["one", "other"] (defScope s__law_joined) := ⟨rfl, rfl, rfl, by decide +kernel, rfl, by decide +kernel, by decide +kernel⟩
abbrev s__law_any_chain : Stmt := topS 49
theorem sc__law_any_chain : FnScope ["cup", "size", "a", "b", "c", "turn"] ["cup", "size"] (defScope s__law_any_chain) := ⟨rfl, rfl, rfl, by decide +kernel, rfl, by decide +kernel, by decide +kernel⟩
abbrev s__law_number : Stmt := topS 50
theorem sc__law_number : FnScope ["cup", "size"] ["cup", "size"] (defScope s__law_number) := ⟨rfl, rfl, rfl, by decide +kernel, rfl, by decide +kernel, by decide +kernel⟩
abbrev s__law_ladder : Stmt := topS 51
theorem sc__law_ladder : FnScope ["cup", "most", "size", "rung"] ["cup", "most", "size"] (defScope s__law_ladder) := ⟨rfl, rfl, rfl, by decide +kernel, rfl, by decide +kernel, by decide +kernel⟩
abbrev s__law_chain_of : Stmt := topS 52
theorem sc__law_chain_of : FnScope ["ladder", "found", "resistance", "lead"] ["ladder"] (defScope s__law_chain_of) := ⟨rfl, rfl, rfl, by decide +kernel, rfl, by decide +kernel, by decide +kernel⟩
abbrev s__law_right : Stmt := topS 53
theorem sc__law_right : FnScope ["chain", "a", "b", "c", "d", "good", "star", "ring", "both", "turned", "around", "x", "y", "z", "total"] ["chain"] (defScope s__law_right) := ⟨rfl, rfl, rfl, by decide +kernel, rfl, by decide +kernel, by decide +kernel⟩
abbrev s_law : Stmt := topS 54
theorem sc_law : FnScope ["script", "cup", "one", "other", "told", "due", "most", "size", "r", "g", "less", "rows", "chain"] ["script"] (defScope s_law) := ⟨rfl, rfl, rfl, by decide +kernel, rfl, by decide +kernel, by decide +kernel⟩
section
variable {P : Program} {w : World} {K : PySem.W.Frag} {mg : Str → Option Value} {base : Heap} {W k : Nat}
theorem b_is_integer (T : Top P w K mg base prog W k names consts blts) (f : Addr) (cdv : Value) (A : Around) (outer : List PySem.Env) (s : Shared) (H : Hp) (E : XK) (hr : Room k (A.deeper (envOfC "is_integer" (defScope s_is_integer) s.heap.objs.size f cdv))) :
    PSs (cxOf CX0 P w K mg base ["value"] "is_integer" (defScope s_is_integer) f cdv A outer s H E).nox (defBody s_is_integer) (tSs K (callN prog W k) W m_is_integer) :=
  (ss_cons (s_ret (i_and (i_isi (T := .int) rfl (T.blt 0 _ rfl) rfl (T.blt 2 _ rfl) bb_int (i_var 0)) (i_one (i_not (i_isi (T := .bool) rfl (T.blt 0 _ rfl) rfl (T.blt 1 _ rfl) bb_bool (i_var 0))))))
  ss_nil)
theorem b_is_tuple_of (T : Top P w K mg base prog W k names consts blts) (f : Addr) (cdv : Value) (A : Around) (outer : List PySem.Env) (s : Shared) (H : Hp) (E : XK) (hr : Room k (A.deeper (envOfC "is_tuple_of" (defScope s_is_tuple_of) s.heap.objs.size f cdv))) :
    PSs (cxOf CX0 P w K mg base ["value", "low", "high"] "is_tuple_of" (defScope s_is_tuple_of) f cdv A outer s H E).nox (defBody s_is_tuple_of) (tSs K (callN prog W k) W m_is_tuple_of) :=
  (ss_cons (s_ret (i_and (i_isi (T := .tuple) rfl (T.blt 0 _ rfl) rfl (T.blt 4 _ rfl) bb_tuple (i_var 0)) (i_one (i_chn o_le o_le (i_var 1) (i_bltB (f := false) c_len rfl (T.blt 3 _ rfl) bb_len (is_cons (i_var 0) is_nil)) (i_var 2)))))
  ss_nil)
theorem b_divisor_of (T : Top P w K mg base prog W k names consts blts) (f : Addr) (cdv : Value) (A : Around) (outer : List PySem.Env) (s : Shared) (H : Hp) (E : XK) (hr : Room k (A.deeper (envOfC "divisor_of" (defScope s_divisor_of) s.heap.objs.size f cdv))) :
    PSs (cxOf CX0 P w K mg base ["one", "other"] "divisor_of" (defScope s_divisor_of) f cdv A outer s H E).nox (defBody s_divisor_of) (tSs K (callN prog W k) W m_divisor_of) :=
  (ss_cons (s_par 0 1 rfl sc_divisor_of.nd (is_cons (i_bltB (f := false) c_abs rfl (T.blt 5 _ rfl) bb_abs (is_cons (i_var 0) is_nil)) (is_cons (i_bltB (f := false) c_abs rfl (T.blt 5 _ rfl) bb_abs (is_cons (i_var 1) is_nil)) is_nil)))
  (ss_cons (s_whl PassesOwn.never (t_cmp (o_ne hr.units) (i_var 1) i_int (nomark _)) (ss_cons (s_par 0 1 rfl sc_divisor_of.nd (is_cons (i_var 1) (is_cons (i_bin false o_mod (i_var 0) (i_var 1)) is_nil)))
  ss_nil))
  (ss_cons (s_ret (i_var 0))
  ss_nil)))
theorem b_lowest (T : Top P w K mg base prog W k names consts blts) (f : Addr) (cdv : Value) (A : Around) (outer : List PySem.Env) (s : Shared) (H : Hp) (E : XK) (hr : Room k (A.deeper (envOfC "lowest" (defScope s_lowest) s.heap.objs.size f cdv))) :
    PSs (cxOf CX0 P w K mg base ["above", "below", "part"] "lowest" (defScope s_lowest) f cdv A outer s H E).nox (defBody s_lowest) (tSs K (callN prog W k) W m_lowest) :=
  (ss_cons (s_set 2 sc_lowest.nd (i_bin false o_mul (i_call (T.cal 2 _ rfl) hr rfl (is_cons (i_var 0) (is_cons (i_var 1) is_nil))) (i_ite (t_cmp o_gt (i_var 1) i_int (nomark _)) i_int (i_neg i_int))))
  (ss_cons (s_ret (i_tup (is_cons (i_bin false o_fdiv (i_var 0) (i_var 2)) (is_cons (i_bin false o_fdiv (i_var 1) (i_var 2)) is_nil))))
  ss_nil))
theorem b_sum_of (T : Top P w K mg base prog W k names consts blts) (f : Addr) (cdv : Value) (A : Around) (outer : List PySem.Env) (s : Shared) (H : Hp) (E : XK) (hr : Room k (A.deeper (envOfC "sum_of" (defScope s_sum_of) s.heap.objs.size f cdv))) :
    PSs (cxOf CX0 P w K mg base ["one", "other"] "sum_of" (defScope s_sum_of) f cdv A outer s H E).nox (defBody s_sum_of) (tSs K (callN prog W k) W m_sum_of) :=
  (ss_cons (s_ret (i_call (T.cal 3 _ rfl) hr rfl (is_cons (i_bin false o_add (i_bin false o_mul (i_idx (i_var 0) i_int) (i_idx (i_var 1) i_int)) (i_bin false o_mul (i_idx (i_var 1) i_int) (i_idx (i_var 0) i_int))) (is_cons (i_bin false o_mul (i_idx (i_var 0) i_int) (i_idx (i_var 1) i_int)) is_nil))))
  ss_nil)
theorem b_less_by (T : Top P w K mg base prog W k names consts blts) (f : Addr) (cdv : Value) (A : Around) (outer : List PySem.Env) (s : Shared) (H : Hp) (E : XK) (hr : Room k (A.deeper (envOfC "less_by" (defScope s_less_by) s.heap.objs.size f cdv))) :
    PSs (cxOf CX0 P w K mg base ["one", "other"] "less_by" (defScope s_less_by) f cdv A outer s H E).nox (defBody s_less_by) (tSs K (callN prog W k) W m_less_by) :=
  (ss_cons (s_ret (i_call (T.cal 3 _ rfl) hr rfl (is_cons (i_bin false o_sub (i_bin false o_mul (i_idx (i_var 0) i_int) (i_idx (i_var 1) i_int)) (i_bin false o_mul (i_idx (i_var 1) i_int) (i_idx (i_var 0) i_int))) (is_cons (i_bin false o_mul (i_idx (i_var 0) i_int) (i_idx (i_var 1) i_int)) is_nil))))
  ss_nil)
theorem b_product_of (T : Top P w K mg base prog W k names consts blts) (f : Addr) (cdv : Value) (A : Around) (outer : List PySem.Env) (s : Shared) (H : Hp) (E : XK) (hr : Room k (A.deeper (envOfC "product_of" (defScope s_product_of) s.heap.objs.size f cdv))) :
    PSs (cxOf CX0 P w K mg base ["one", "other"] "product_of" (defScope s_product_of) f cdv A outer s H E).nox (defBody s_product_of) (tSs K (callN prog W k) W m_product_of) :=
  (ss_cons (s_ret (i_call (T.cal 3 _ rfl) hr rfl (is_cons (i_bin false o_mul (i_idx (i_var 0) i_int) (i_idx (i_var 1) i_int)) (is_cons (i_bin false o_mul (i_idx (i_var 0) i_int) (i_idx (i_var 1) i_int)) is_nil))))
  ss_nil)
theorem b_part_of (T : Top P w K mg base prog W k names consts blts) (f : Addr) (cdv : Value) (A : Around) (outer : List PySem.Env) (s : Shared) (H : Hp) (E : XK) (hr : Room k (A.deeper (envOfC "part_of" (defScope s_part_of) s.heap.objs.size f cdv))) :
    PSs (cxOf CX0 P w K mg base ["one", "other"] "part_of" (defScope s_part_of) f cdv A outer s H E).nox (defBody s_part_of) (tSs K (callN prog W k) W m_part_of) :=
  (ss_cons (s_ret (i_call (T.cal 3 _ rfl) hr rfl (is_cons (i_bin false o_mul (i_idx (i_var 0) i_int) (i_idx (i_var 1) i_int)) (is_cons (i_bin false o_mul (i_idx (i_var 0) i_int) (i_idx (i_var 1) i_int)) is_nil))))
  ss_nil)
theorem b_is_under (T : Top P w K mg base prog W k names consts blts) (f : Addr) (cdv : Value) (A : Around) (outer : List PySem.Env) (s : Shared) (H : Hp) (E : XK) (hr : Room k (A.deeper (envOfC "is_under" (defScope s_is_under) s.heap.objs.size f cdv))) :
    PSs (cxOf CX0 P w K mg base ["one", "other"] "is_under" (defScope s_is_under) f cdv A outer s H E).nox (defBody s_is_under) (tSs K (callN prog W k) W m_is_under) :=
  (ss_cons (s_ret (i_cmp o_lt (i_bin false o_mul (i_idx (i_var 0) i_int) (i_idx (i_var 1) i_int)) (i_bin false o_mul (i_idx (i_var 1) i_int) (i_idx (i_var 0) i_int)) (nomark _)))
  ss_nil)
theorem b_fits_fraction (T : Top P w K mg base prog W k names consts blts) (f : Addr) (cdv : Value) (A : Around) (outer : List PySem.Env) (s : Shared) (H : Hp) (E : XK) (hr : Room k (A.deeper (envOfC "fits_fraction" (defScope s_fits_fraction) s.heap.objs.size f cdv))) :
    PSs (cxOf CX0 P w K mg base ["value", "number"] "fits_fraction" (defScope s_fits_fraction) f cdv A outer s H E).nox (defBody s_fits_fraction) (tSs K (callN prog W k) W m_fits_fraction) :=
  (ss_cons (s_ite (t_w (w_or (t_not (t_of (i_call (T.cal 1 _ rfl) hr rfl (is_cons (i_var 0) (is_cons i_int (is_cons i_int is_nil)))))) (w_or1 (t_not (t_of (i_bltB (f := false) (c_all rfl) rfl (T.blt 6 _ rfl) bb_all (is_cons (i_lc (own := [("number", 1)]) false rfl sc_fits_fraction.nd (it_seq (i_var 0)) (blk_ok (N := ["value", "number"]) (sc := defScope s_fits_fraction) (by decide +kernel)) rfl (fun _ _ _ _ _ => (g_nm 1 sc_fits_fraction.nd)) (fun _ _ _ _ _ => cs_nil) (fun _ _ _ _ _ => (i_and (i_call (T.cal 0 _ rfl) hr rfl (is_cons (i_var 1) is_nil)) (i_one (i_chn o_lt o_lt (i_neg (i_con rfl (T.con 0 _ _ rfl))) (i_var 1) (i_con rfl (T.con 0 _ _ rfl))))))) is_nil))))))) (ss_cons (s_ret i_bl)
  ss_nil) ss_nil)
  (ss_cons (s_ret (i_and (i_cmp o_ge (i_idx (i_var 0) i_int) i_int (nomark _)) (i_one (i_cmp (o_eq hr.units) (i_call (T.cal 2 _ rfl) hr rfl (is_cons (i_idx (i_var 0) i_int) (is_cons (i_idx (i_var 0) i_int) is_nil))) i_int (nomark _)))))
  ss_nil))
theorem b_fits_chain (T : Top P w K mg base prog W k names consts blts) (f : Addr) (cdv : Value) (A : Around) (outer : List PySem.Env) (s : Shared) (H : Hp) (E : XK) (hr : Room k (A.deeper (envOfC "fits_chain" (defScope s_fits_chain) s.heap.objs.size f cdv))) :
    PSs (cxOf CX0 P w K mg base ["value", "a", "b", "c", "d", "number"] "fits_chain" (defScope s_fits_chain) f cdv A outer s H E).nox (defBody s_fits_chain) (tSs K (callN prog W k) W m_fits_chain) :=
  (ss_cons (s_ite (t_w (w_or (t_not (t_of (i_call (T.cal 1 _ rfl) hr rfl (is_cons (i_var 0) (is_cons i_int (is_cons i_int is_nil)))))) (w_or1 (t_not (t_of (i_bltB (f := false) (c_all rfl) rfl (T.blt 6 _ rfl) bb_all (is_cons (i_lc (own := [("number", 5)]) false rfl sc_fits_chain.nd (it_seq (i_var 0)) (blk_ok (N := ["value", "a", "b", "c", "d", "number"]) (sc := defScope s_fits_chain) (by decide +kernel)) rfl (fun _ _ _ _ _ => (g_nm 5 sc_fits_chain.nd)) (fun _ _ _ _ _ => cs_nil) (fun _ _ _ _ _ => (i_call (T.cal 9 _ rfl) hr rfl (is_cons (i_var 5) is_nil)))) is_nil))))))) (ss_cons (s_ret i_bl)
  ss_nil) ss_nil)
  (ss_cons (s_asg (i_var 0) (g_tp rfl (gs_cons 1 sc_fits_chain.nd (gs_cons 2 sc_fits_chain.nd (gs_cons 3 sc_fits_chain.nd (gs_cons 4 sc_fits_chain.nd gs_nil))))))
  (ss_cons (s_ret (i_cmp (o_eq hr.units) (i_call (T.cal 5 _ rfl) hr rfl (is_cons (i_call (T.cal 6 _ rfl) hr rfl (is_cons (i_var 1) (is_cons (i_var 4) is_nil))) (is_cons (i_call (T.cal 6 _ rfl) hr rfl (is_cons (i_var 2) (is_cons (i_var 3) is_nil))) is_nil))) (i_con rfl (T.con 1 _ _ rfl)) (nomark _)))
  ss_nil)))
theorem b_need_chain (T : Top P w K mg base prog W k names consts blts) (f : Addr) (cdv : Value) (A : Around) (outer : List PySem.Env) (s : Shared) (H : Hp) (E : XK) (hr : Room k (A.deeper (envOfC "need_chain" (defScope s_need_chain) s.heap.objs.size f cdv))) :
    PSs (cxOf CX0 P w K mg base ["chain"] "need_chain" (defScope s_need_chain) f cdv A outer s H E).nox (defBody s_need_chain) (tSs K (callN prog W k) W m_need_chain) :=
  (ss_cons (s_ite (t_not (t_of (i_call (T.cal 10 _ rfl) hr rfl (is_cons (i_var 0) is_nil)))) (ss_cons s_rais
  ss_nil) ss_nil)
  ss_nil)
theorem b_is_from_none (T : Top P w K mg base prog W k names consts blts) (f : Addr) (cdv : Value) (A : Around) (outer : List PySem.Env) (s : Shared) (H : Hp) (E : XK) (hr : Room k (A.deeper (envOfC "is_from_none" (defScope s_is_from_none) s.heap.objs.size f cdv))) :
    PSs (cxOf CX0 P w K mg base ["fraction"] "is_from_none" (defScope s_is_from_none) f cdv A outer s H E).nox (defBody s_is_from_none) (tSs K (callN prog W k) W m_is_from_none) :=
  (ss_cons (s_ret (i_cmp o_ge (i_idx (i_var 0) i_int) i_int (nomark _)))
  ss_nil)
theorem b_joined_chain (T : Top P w K mg base prog W k names consts blts) (f : Addr) (cdv : Value) (A : Around) (outer : List PySem.Env) (s : Shared) (H : Hp) (E : XK) (hr : Room k (A.deeper (envOfC "joined_chain" (defScope s_joined_chain) s.heap.objs.size f cdv))) :
    PSs (cxOf CX0 P w K mg base ["one", "other", "a", "b", "c", "d", "e", "f", "g", "h", "first", "second"] "joined_chain" (defScope s_joined_chain) f cdv A outer s H E).nox (defBody s_joined_chain) (tSs K (callN prog W k) W m_joined_chain) :=
  (ss_cons (s_asg (i_var 0) (g_tp rfl (gs_cons 2 sc_joined_chain.nd (gs_cons 3 sc_joined_chain.nd (gs_cons 4 sc_joined_chain.nd (gs_cons 5 sc_joined_chain.nd gs_nil))))))
  (ss_cons (s_asg (i_var 1) (g_tp rfl (gs_cons 6 sc_joined_chain.nd (gs_cons 7 sc_joined_chain.nd (gs_cons 8 sc_joined_chain.nd (gs_cons 9 sc_joined_chain.nd gs_nil))))))
  (ss_cons (s_par 10 11 rfl sc_joined_chain.nd (is_cons (i_call (T.cal 4 _ rfl) hr rfl (is_cons (i_call (T.cal 6 _ rfl) hr rfl (is_cons (i_var 2) (is_cons (i_var 6) is_nil))) (is_cons (i_call (T.cal 6 _ rfl) hr rfl (is_cons (i_var 3) (is_cons (i_var 8) is_nil))) is_nil))) (is_cons (i_call (T.cal 4 _ rfl) hr rfl (is_cons (i_call (T.cal 6 _ rfl) hr rfl (is_cons (i_var 2) (is_cons (i_var 7) is_nil))) (is_cons (i_call (T.cal 6 _ rfl) hr rfl (is_cons (i_var 3) (is_cons (i_var 9) is_nil))) is_nil))) is_nil)))
  (ss_cons (s_ret (i_tup (is_cons (i_var 10) (is_cons (i_var 11) (is_cons (i_call (T.cal 4 _ rfl) hr rfl (is_cons (i_call (T.cal 6 _ rfl) hr rfl (is_cons (i_var 4) (is_cons (i_var 6) is_nil))) (is_cons (i_call (T.cal 6 _ rfl) hr rfl (is_cons (i_var 5) (is_cons (i_var 8) is_nil))) is_nil))) (is_cons (i_call (T.cal 4 _ rfl) hr rfl (is_cons (i_call (T.cal 6 _ rfl) hr rfl (is_cons (i_var 4) (is_cons (i_var 7) is_nil))) (is_cons (i_call (T.cal 6 _ rfl) hr rfl (is_cons (i_var 5) (is_cons (i_var 9) is_nil))) is_nil))) is_nil))))))
  ss_nil))))
theorem b_product_in (T : Top P w K mg base prog W k names consts blts) (f : Addr) (cdv : Value) (A : Around) (outer : List PySem.Env) (s : Shared) (H : Hp) (E : XK) (hr : Room k (A.deeper (envOfC "product_in" (defScope s_product_in) s.heap.objs.size f cdv))) :
    PSs (cxOf CX0 P w K mg base ["chains", "found", "chain"] "product_in" (defScope s_product_in) f cdv A outer s H E).nox (defBody s_product_in) (tSs K (callN prog W k) W m_product_in) :=
  (ss_cons (s_set 1 sc_product_in.nd (i_con rfl (T.con 2 _ _ rfl)))
  (ss_cons (s_for PassesOwn.never rfl (it_seq (i_var 0)) (g_nm 2 sc_product_in.nd) (ss_cons (s_set 1 sc_product_in.nd (i_call (T.cal 13 _ rfl) hr rfl (is_cons (i_var 1) (is_cons (i_var 2) is_nil))))
  ss_nil))
  (ss_cons (s_ret (i_var 1))
  ss_nil)))
theorem b_turned_chain (T : Top P w K mg base prog W k names consts blts) (f : Addr) (cdv : Value) (A : Around) (outer : List PySem.Env) (s : Shared) (H : Hp) (E : XK) (hr : Room k (A.deeper (envOfC "turned_chain" (defScope s_turned_chain) s.heap.objs.size f cdv))) :
    PSs (cxOf CX0 P w K mg base ["chain"] "turned_chain" (defScope s_turned_chain) f cdv A outer s H E).nox (defBody s_turned_chain) (tSs K (callN prog W k) W m_turned_chain) :=
  (ss_cons (s_ret (i_tup (is_cons (i_idx (i_var 0) i_int) (is_cons (i_idx (i_var 0) i_int) (is_cons (i_idx (i_var 0) i_int) (is_cons (i_idx (i_var 0) i_int) is_nil))))))
  ss_nil)
theorem b_is_told_in (T : Top P w K mg base prog W k names consts blts) (f : Addr) (cdv : Value) (A : Around) (outer : List PySem.Env) (s : Shared) (H : Hp) (E : XK) (hr : Room k (A.deeper (envOfC "is_told_in" (defScope s_is_told_in) s.heap.objs.size f cdv))) :
    PSs (cxOf CX0 P w K mg base ["chain", "a", "b", "c", "d"] "is_told_in" (defScope s_is_told_in) f cdv A outer s H E).nox (defBody s_is_told_in) (tSs K (callN prog W k) W m_is_told_in) :=
  (ss_cons (s_asg (i_var 0) (g_tp rfl (gs_cons 1 sc_is_told_in.nd (gs_cons 2 sc_is_told_in.nd (gs_cons 3 sc_is_told_in.nd (gs_cons 4 sc_is_told_in.nd gs_nil))))))
  (ss_cons (s_ret (i_and (i_not (i_call (T.cal 8 _ rfl) hr rfl (is_cons (i_var 1) (is_cons (i_con rfl (T.con 1 _ _ rfl)) is_nil)))) (i_and (i_not (i_call (T.cal 8 _ rfl) hr rfl (is_cons (i_var 4) (is_cons (i_con rfl (T.con 1 _ _ rfl)) is_nil)))) (i_and (i_call (T.cal 12 _ rfl) hr rfl (is_cons (i_var 2) is_nil)) (i_one (i_call (T.cal 12 _ rfl) hr rfl (is_cons (i_var 3) is_nil)))))))
  ss_nil))
theorem b_chain_turned (T : Top P w K mg base prog W k names consts blts) (f : Addr) (cdv : Value) (A : Around) (outer : List PySem.Env) (s : Shared) (H : Hp) (E : XK) (hr : Room k (A.deeper (envOfC "chain_turned" (defScope s_chain_turned) s.heap.objs.size f cdv))) :
    PSs (cxOf CX0 P w K mg base ["chain"] "chain_turned" (defScope s_chain_turned) f cdv A outer s H E).nox (defBody s_chain_turned) (tSs K (callN prog W k) W m_chain_turned) :=
  (ss_cons (s_exp (ps_expr (i_call (T.cal 11 _ rfl) hr rfl (is_cons (i_var 0) is_nil))))
  (ss_cons (s_ret (i_call (T.cal 15 _ rfl) hr rfl (is_cons (i_var 0) is_nil)))
  ss_nil))
theorem b_is_told_chain (T : Top P w K mg base prog W k names consts blts) (f : Addr) (cdv : Value) (A : Around) (outer : List PySem.Env) (s : Shared) (H : Hp) (E : XK) (hr : Room k (A.deeper (envOfC "is_told_chain" (defScope s_is_told_chain) s.heap.objs.size f cdv))) :
    PSs (cxOf CX0 P w K mg base ["chain"] "is_told_chain" (defScope s_is_told_chain) f cdv A outer s H E).nox (defBody s_is_told_chain) (tSs K (callN prog W k) W m_is_told_chain) :=
  (ss_cons (s_exp (ps_expr (i_call (T.cal 11 _ rfl) hr rfl (is_cons (i_var 0) is_nil))))
  (ss_cons (s_ret (i_call (T.cal 16 _ rfl) hr rfl (is_cons (i_var 0) is_nil)))
  ss_nil))
theorem b_star_of_chain (T : Top P w K mg base prog W k names consts blts) (f : Addr) (cdv : Value) (A : Around) (outer : List PySem.Env) (s : Shared) (H : Hp) (E : XK) (hr : Room k (A.deeper (envOfC "star_of_chain" (defScope s_star_of_chain) s.heap.objs.size f cdv))) :
    PSs (cxOf CX0 P w K mg base ["chain", "a", "b", "c", "d"] "star_of_chain" (defScope s_star_of_chain) f cdv A outer s H E).nox (defBody s_star_of_chain) (tSs K (callN prog W k) W m_star_of_chain) :=
  (ss_cons (s_exp (ps_expr (i_call (T.cal 11 _ rfl) hr rfl (is_cons (i_var 0) is_nil))))
  (ss_cons (s_asg (i_var 0) (g_tp rfl (gs_cons 1 sc_star_of_chain.nd (gs_cons 2 sc_star_of_chain.nd (gs_cons 3 sc_star_of_chain.nd (gs_cons 4 sc_star_of_chain.nd gs_nil))))))
  (ss_cons (s_ite (t_not (t_of (i_call (T.cal 16 _ rfl) hr rfl (is_cons (i_var 0) is_nil)))) (ss_cons (s_ret i_non)
  ss_nil) ss_nil)
  (ss_cons (s_ite (t_cmp (o_eq hr.units) (i_var 3) (i_con rfl (T.con 3 _ _ rfl)) (nomark _)) (ss_cons (s_ret (i_tup (is_cons (i_var 2) (is_cons (i_con rfl (T.con 3 _ _ rfl)) (is_cons (i_con rfl (T.con 3 _ _ rfl)) is_nil)))))
  ss_nil) ss_nil)
  (ss_cons (s_ret (i_tup (is_cons (i_call (T.cal 7 _ rfl) hr rfl (is_cons (i_call (T.cal 5 _ rfl) hr rfl (is_cons (i_var 1) (is_cons (i_con rfl (T.con 1 _ _ rfl)) is_nil))) (is_cons (i_var 3) is_nil))) (is_cons (i_var 3) (is_cons (i_call (T.cal 7 _ rfl) hr rfl (is_cons (i_call (T.cal 5 _ rfl) hr rfl (is_cons (i_var 4) (is_cons (i_con rfl (T.con 1 _ _ rfl)) is_nil))) (is_cons (i_var 3) is_nil))) is_nil)))))
  ss_nil)))))
theorem b_ring_of_chain (T : Top P w K mg base prog W k names consts blts) (f : Addr) (cdv : Value) (A : Around) (outer : List PySem.Env) (s : Shared) (H : Hp) (E : XK) (hr : Room k (A.deeper (envOfC "ring_of_chain" (defScope s_ring_of_chain) s.heap.objs.size f cdv))) :
    PSs (cxOf CX0 P w K mg base ["chain", "a", "b", "c", "d"] "ring_of_chain" (defScope s_ring_of_chain) f cdv A outer s H E).nox (defBody s_ring_of_chain) (tSs K (callN prog W k) W m_ring_of_chain) :=
  (ss_cons (s_exp (ps_expr (i_call (T.cal 11 _ rfl) hr rfl (is_cons (i_var 0) is_nil))))
  (ss_cons (s_asg (i_var 0) (g_tp rfl (gs_cons 1 sc_ring_of_chain.nd (gs_cons 2 sc_ring_of_chain.nd (gs_cons 3 sc_ring_of_chain.nd (gs_cons 4 sc_ring_of_chain.nd gs_nil))))))
  (ss_cons (s_ite (t_w (w_or (t_not (t_of (i_call (T.cal 16 _ rfl) hr rfl (is_cons (i_var 0) is_nil)))) (w_or1 (t_cmp (o_eq hr.units) (i_var 2) (i_con rfl (T.con 3 _ _ rfl)) (nomark _))))) (ss_cons (s_ret i_non)
  ss_nil) ss_nil)
  (ss_cons (s_ret (i_tup (is_cons (i_call (T.cal 7 _ rfl) hr rfl (is_cons (i_call (T.cal 5 _ rfl) hr rfl (is_cons (i_var 4) (is_cons (i_con rfl (T.con 1 _ _ rfl)) is_nil))) (is_cons (i_var 2) is_nil))) (is_cons (i_var 2) (is_cons (i_call (T.cal 7 _ rfl) hr rfl (is_cons (i_call (T.cal 5 _ rfl) hr rfl (is_cons (i_var 1) (is_cons (i_con rfl (T.con 1 _ _ rfl)) is_nil))) (is_cons (i_var 2) is_nil))) is_nil)))))
  ss_nil))))
theorem b_fits_rung (T : Top P w K mg base prog W k names consts blts) (f : Addr) (cdv : Value) (A : Around) (outer : List PySem.Env) (s : Shared) (H : Hp) (E : XK) (hr : Room k (A.deeper (envOfC "fits_rung" (defScope s_fits_rung) s.heap.objs.size f cdv))) :
    PSs (cxOf CX0 P w K mg base ["value", "number"] "fits_rung" (defScope s_fits_rung) f cdv A outer s H E).nox (defBody s_fits_rung) (tSs K (callN prog W k) W m_fits_rung) :=
  (ss_cons (s_ret (i_and (i_call (T.cal 1 _ rfl) hr rfl (is_cons (i_var 0) (is_cons i_int (is_cons i_int is_nil)))) (i_one (i_bltB (f := false) (c_all rfl) rfl (T.blt 6 _ rfl) bb_all (is_cons (i_lc (own := [("number", 1)]) false rfl sc_fits_rung.nd (it_seq (i_var 0)) (blk_ok (N := ["value", "number"]) (sc := defScope s_fits_rung) (by decide +kernel)) rfl (fun _ _ _ _ _ => (g_nm 1 sc_fits_rung.nd)) (fun _ _ _ _ _ => cs_nil) (fun _ _ _ _ _ => (i_and (i_call (T.cal 9 _ rfl) hr rfl (is_cons (i_var 1) is_nil)) (i_one (i_call (T.cal 12 _ rfl) hr rfl (is_cons (i_var 1) is_nil)))))) is_nil)))))
  ss_nil)
theorem b_fits_ladder (T : Top P w K mg base prog W k names consts blts) (f : Addr) (cdv : Value) (A : Around) (outer : List PySem.Env) (s : Shared) (H : Hp) (E : XK) (hr : Room k (A.deeper (envOfC "fits_ladder" (defScope s_fits_ladder) s.heap.objs.size f cdv))) :
    PSs (cxOf CX0 P w K mg base ["value", "rung"] "fits_ladder" (defScope s_fits_ladder) f cdv A outer s H E).nox (defBody s_fits_ladder) (tSs K (callN prog W k) W m_fits_ladder) :=
  (ss_cons (s_ret (i_and (i_call (T.cal 1 _ rfl) hr rfl (is_cons (i_var 0) (is_cons i_int (is_cons (i_con rfl (T.con 4 _ _ rfl)) is_nil)))) (i_one (i_bltB (f := false) (c_all rfl) rfl (T.blt 6 _ rfl) bb_all (is_cons (i_lc (own := [("rung", 1)]) false rfl sc_fits_ladder.nd (it_seq (i_var 0)) (blk_ok (N := ["value", "rung"]) (sc := defScope s_fits_ladder) (by decide +kernel)) rfl (fun _ _ _ _ _ => (g_nm 1 sc_fits_ladder.nd)) (fun _ _ _ _ _ => cs_nil) (fun _ _ _ _ _ => (i_call (T.cal 21 _ rfl) hr rfl (is_cons (i_var 1) is_nil)))) is_nil)))))
  ss_nil)
theorem b_need_ladder (T : Top P w K mg base prog W k names consts blts) (f : Addr) (cdv : Value) (A : Around) (outer : List PySem.Env) (s : Shared) (H : Hp) (E : XK) (hr : Room k (A.deeper (envOfC "need_ladder" (defScope s_need_ladder) s.heap.objs.size f cdv))) :
    PSs (cxOf CX0 P w K mg base ["ladder"] "need_ladder" (defScope s_need_ladder) f cdv A outer s H E).nox (defBody s_need_ladder) (tSs K (callN prog W k) W m_need_ladder) :=
  (ss_cons (s_ite (t_not (t_of (i_call (T.cal 22 _ rfl) hr rfl (is_cons (i_var 0) is_nil)))) (ss_cons s_rais
  ss_nil) ss_nil)
  ss_nil)
theorem b_chain_in (T : Top P w K mg base prog W k names consts blts) (f : Addr) (cdv : Value) (A : Around) (outer : List PySem.Env) (s : Shared) (H : Hp) (E : XK) (hr : Room k (A.deeper (envOfC "chain_in" (defScope s_chain_in) s.heap.objs.size f cdv))) :
    PSs (cxOf CX0 P w K mg base ["ladder", "chains", "resistance", "lead"] "chain_in" (defScope s_chain_in) f cdv A outer s H E).nox (defBody s_chain_in) (tSs K (callN prog W k) W m_chain_in) :=
  (ss_cons (s_set 1 sc_chain_in.nd (i_lst false is_nil))
  (ss_cons (s_for PassesOwn.never rfl (it_seq (i_var 0)) (g_tp rfl (gs_cons 2 sc_chain_in.nd (gs_cons 3 sc_chain_in.nd gs_nil))) (ss_cons (s_set 1 sc_chain_in.nd (i_bin false o_add (i_var 1) (i_lst false (is_cons (i_tup (is_cons (i_con rfl (T.con 1 _ _ rfl)) (is_cons (i_var 2) (is_cons (i_con rfl (T.con 3 _ _ rfl)) (is_cons (i_con rfl (T.con 1 _ _ rfl)) is_nil))))) (is_cons (i_tup (is_cons (i_con rfl (T.con 1 _ _ rfl)) (is_cons (i_con rfl (T.con 3 _ _ rfl)) (is_cons (i_var 3) (is_cons (i_con rfl (T.con 1 _ _ rfl)) is_nil))))) is_nil)))))
  ss_nil))
  (ss_cons (s_ret (i_call (T.cal 14 _ rfl) hr rfl (is_cons (i_var 1) is_nil)))
  ss_nil)))
theorem b_is_ladder (T : Top P w K mg base prog W k names consts blts) (f : Addr) (cdv : Value) (A : Around) (outer : List PySem.Env) (s : Shared) (H : Hp) (E : XK) (hr : Room k (A.deeper (envOfC "is_ladder" (defScope s_is_ladder) s.heap.objs.size f cdv))) :
    PSs (cxOf CX0 P w K mg base ["value"] "is_ladder" (defScope s_is_ladder) f cdv A outer s H E).nox (defBody s_is_ladder) (tSs K (callN prog W k) W m_is_ladder) :=
  (ss_cons (s_ret (i_call (T.cal 22 _ rfl) hr rfl (is_cons (i_var 0) is_nil)))
  ss_nil)
theorem b_ladder_chain (T : Top P w K mg base prog W k names consts blts) (f : Addr) (cdv : Value) (A : Around) (outer : List PySem.Env) (s : Shared) (H : Hp) (E : XK) (hr : Room k (A.deeper (envOfC "ladder_chain" (defScope s_ladder_chain) s.heap.objs.size f cdv))) :
    PSs (cxOf CX0 P w K mg base ["ladder"] "ladder_chain" (defScope s_ladder_chain) f cdv A outer s H E).nox (defBody s_ladder_chain) (tSs K (callN prog W k) W m_ladder_chain) :=
  (ss_cons (s_exp (ps_expr (i_call (T.cal 23 _ rfl) hr rfl (is_cons (i_var 0) is_nil))))
  (ss_cons (s_ret (i_call (T.cal 24 _ rfl) hr rfl (is_cons (i_var 0) is_nil)))
  ss_nil))
theorem b__law_cup (T : Top P w K mg base prog W k names consts blts) (f : Addr) (cdv : Value) (A : Around) (outer : List PySem.Env) (s : Shared) (H : Hp) (E : XK) (hr : Room k (A.deeper (envOfC "_law_cup" (defScope s__law_cup) s.heap.objs.size f cdv))) :
    PSs (cxOf CX0 P w K mg base ["script", "cell"] "_law_cup" (defScope s__law_cup) f cdv A outer s H E).nox (defBody s__law_cup) (tSs K (callN prog W k) W m__law_cup) :=
  (ss_cons (s_set 1 sc__law_cup.nd (i_bltB (f := false) c_abs rfl (T.blt 5 _ rfl) bb_abs (is_cons (i_idx (i_bin false o_add (i_bltT (f := false) c_list rfl (T.blt 7 _ rfl) bb_list (is_cons (i_var 0) is_nil)) (i_lst false (is_cons i_int is_nil))) i_int) is_nil)))
  (ss_cons (s_ret (i_lst true (is_cons (i_ite (t_cmp o_ge (i_var 1) (i_bin false o_pow i_int i_int) (nomark _)) (i_bin false o_fdiv (i_var 1) i_int) i_int) (is_cons (i_bin false o_add (i_bin false o_mod (i_bltT (f := false) c_int rfl (T.blt 2 _ rfl) bb_int (is_cons (i_bin false o_add (i_bin false o_mul (i_var 1) i_int) i_int) is_nil)) i_int) i_int) is_nil))))
  ss_nil))
theorem b__law_roll (T : Top P w K mg base prog W k names consts blts) (f : Addr) (cdv : Value) (A : Around) (outer : List PySem.Env) (s : Shared) (H : Hp) (E : XK) (hr : Room k (A.deeper (envOfC "_law_roll" (defScope s__law_roll) s.heap.objs.size f cdv))) :
    PSs (cxOf CX0 P w K mg base ["cup", "many", "found", "deep"] "_law_roll" (defScope s__law_roll) f cdv A outer s H E).nox (defBody s__law_roll) (tSs K (callN prog W k) W m__law_roll) :=
  (ss_cons (s_ite (t_cmp o_gt (i_idx (i_var 0) i_int) i_int (nomark _)) (ss_cons (s_set 2 sc__law_roll.nd (i_bin false o_mod (i_bltT (f := false) c_int rfl (T.blt 2 _ rfl) bb_int (is_cons (i_idx (i_var 0) i_int) is_nil)) (i_var 1)))
  (ss_cons (s_seti (i_bin false o_fdiv (i_idx (i_var 0) i_int) (i_var 1)) (i_var 0) i_int)
  (ss_cons (s_ret (i_var 2))
  ss_nil))) ss_nil)
  (ss_cons (s_seti (i_bin false o_mod (i_bltT (f := false) c_int rfl (T.blt 2 _ rfl) bb_int (is_cons (i_bin false o_add (i_bin false o_mul (i_idx (i_var 0) i_int) i_int) i_int) is_nil)) i_int) (i_var 0) i_int)
  (ss_cons (s_set 3 sc__law_roll.nd (i_bin false o_mod (i_bltT (f := false) c_int rfl (T.blt 2 _ rfl) bb_int (is_cons (i_bin false o_mul (i_idx (i_var 0) i_int) (i_bin false o_add (i_idx (i_var 0) i_int) i_int)) is_nil)) i_int))
  (ss_cons (s_ret (i_bin false o_mod (i_bltT (f := false) c_int rfl (T.blt 2 _ rfl) bb_int (is_cons (i_bin false o_fdiv (i_var 3) i_int) is_nil)) (i_var 1)))
  ss_nil))))
theorem b__law_sort (T : Top P w K mg base prog W k names consts blts) (f : Addr) (cdv : Value) (A : Around) (outer : List PySem.Env) (s : Shared) (H : Hp) (E : XK) (hr : Room k (A.deeper (envOfC "_law_sort" (defScope s__law_sort) s.heap.objs.size f cdv))) :
    PSs (cxOf CX0 P w K mg base ["value"] "_law_sort" (defScope s__law_sort) f cdv A outer s H E).nox (defBody s__law_sort) (tSs K (callN prog W k) W m__law_sort) :=
  (ss_cons (s_ite (t_w (w_or (t_cmp o_is (i_var 0) i_non (nomark _)) (w_or1 (t_of (i_isi (T := .bool) rfl (T.blt 0 _ rfl) rfl (T.blt 1 _ rfl) bb_bool (i_var 0)))))) (ss_cons (s_ret (i_ite (t_cmp o_is (i_var 0) i_non (nomark _)) i_int i_int))
  ss_nil) ss_nil)
  (ss_cons (s_ite (t_w (w_or (t_of (i_isi (T := .int) rfl (T.blt 0 _ rfl) rfl (T.blt 2 _ rfl) bb_int (i_var 0))) (w_or1 (t_of (i_isi (T := .str) rfl (T.blt 0 _ rfl) rfl (T.blt 8 _ rfl) bb_str (i_var 0)))))) (ss_cons (s_ret (i_ite (t_of (i_isi (T := .int) rfl (T.blt 0 _ rfl) rfl (T.blt 2 _ rfl) bb_int (i_var 0))) i_int i_int))
  ss_nil) ss_nil)
  (ss_cons (s_ret (i_ite (t_of (i_isi (T := .tuple) rfl (T.blt 0 _ rfl) rfl (T.blt 4 _ rfl) bb_tuple (i_var 0))) i_int (i_ite (t_of (i_isi (T := .list) rfl (T.blt 0 _ rfl) rfl (T.blt 7 _ rfl) bb_list (i_var 0))) i_int i_int)))
  ss_nil)))
theorem b__law_like (T : Top P w K mg base prog W k names consts blts) (f : Addr) (cdv : Value) (A : Around) (outer : List PySem.Env) (s : Shared) (H : Hp) (E : XK) (hr : Room k (A.deeper (envOfC "_law_like" (defScope s__law_like) s.heap.objs.size f cdv))) :
    PSs (cxOf CX0 P w K mg base ["one", "other", "sort", "first", "second"] "_law_like" (defScope s__law_like) f cdv A outer s H E).nox (defBody s__law_like) (tSs K (callN prog W k) W m__law_like) :=
  (ss_cons (s_set 2 sc__law_like.nd (i_call (T.cal 29 _ rfl) hr rfl (is_cons (i_var 1) is_nil)))
  (ss_cons (s_ite (t_w (w_or (t_cmp (o_ne hr.units) (i_call (T.cal 29 _ rfl) hr rfl (is_cons (i_var 0) is_nil)) (i_var 2) (nomark _)) (w_or1 (t_cmp (o_eq hr.units) (i_var 2) i_int (nomark _))))) (ss_cons (s_ret i_bl)
  ss_nil) ss_nil)
  (ss_cons (s_ite (t_cmp o_in (i_var 2) (i_tup (is_cons i_int (is_cons i_int is_nil))) (by with_unfolding_all rfl)) (ss_cons (s_ret (i_and (i_cmp (o_eq hr.units) (i_bltB (f := false) c_len rfl (T.blt 3 _ rfl) bb_len (is_cons (i_var 0) is_nil)) (i_bltB (f := false) c_len rfl (T.blt 3 _ rfl) bb_len (is_cons (i_var 1) is_nil)) (nomark _)) (i_one (i_cmp (o_eq hr.units) (i_lc (own := [("first", 3), ("second", 4)]) false rfl sc__law_like.nd (it_zip rfl (T.blt 9 _ rfl) (is_cons (i_var 0) (is_cons (i_var 1) is_nil))) (blk_ok (N := ["one", "other", "sort", "first", "second"]) (sc := defScope s__law_like) (by decide +kernel)) rfl (fun _ _ _ _ _ => (g_tp rfl (gs_cons 3 sc__law_like.nd (gs_cons 4 sc__law_like.nd gs_nil)))) (fun _ _ _ _ _ => (cs_one (t_not (t_of (i_call (T.cal 30 _ rfl) hr rfl (is_cons (i_var 3) (is_cons (i_var 4) is_nil))))))) (fun _ _ _ _ _ => i_int)) (i_lst false is_nil) (nomark _)))))
  ss_nil) ss_nil)
  (ss_cons (s_ret (i_cmp (o_eq hr.units) (i_var 0) (i_var 1) (nomark _)))
  ss_nil))))
theorem b__law_least (T : Top P w K mg base prog W k names consts blts) (f : Addr) (cdv : Value) (A : Around) (outer : List PySem.Env) (s : Shared) (H : Hp) (E : XK) (hr : Room k (A.deeper (envOfC "_law_least" (defScope s__law_least) s.heap.objs.size f cdv))) :
    PSs (cxOf CX0 P w K mg base ["above", "below", "one", "other", "sign"] "_law_least" (defScope s__law_least) f cdv A outer s H E).nox (defBody s__law_least) (tSs K (callN prog W k) W m__law_least) :=
  (ss_cons (s_par 2 3 rfl sc__law_least.nd (is_cons (i_bltB (f := false) c_abs rfl (T.blt 5 _ rfl) bb_abs (is_cons (i_var 0) is_nil)) (is_cons (i_bltB (f := false) c_abs rfl (T.blt 5 _ rfl) bb_abs (is_cons (i_var 1) is_nil)) is_nil)))
  (ss_cons (s_whl PassesOwn.never (t_cmp (o_ne hr.units) (i_var 3) i_int (nomark _)) (ss_cons (s_par 2 3 rfl sc__law_least.nd (is_cons (i_var 3) (is_cons (i_bin false o_mod (i_bltT (f := false) c_int rfl (T.blt 2 _ rfl) bb_int (is_cons (i_var 2) is_nil)) (i_var 3)) is_nil)))
  ss_nil))
  (ss_cons (s_set 4 sc__law_least.nd (i_ite (t_cmp o_lt (i_var 1) i_int (nomark _)) (i_neg i_int) i_int))
  (ss_cons (s_ret (i_tup (is_cons (i_bltT (f := false) c_int rfl (T.blt 2 _ rfl) bb_int (is_cons (i_bin false o_fdiv (i_bin false o_mul (i_var 4) (i_var 0)) (i_var 2)) is_nil)) (is_cons (i_bltT (f := false) c_int rfl (T.blt 2 _ rfl) bb_int (is_cons (i_bin false o_fdiv (i_bin false o_mul (i_var 4) (i_var 1)) (i_var 2)) is_nil)) is_nil))))
  ss_nil))))
theorem b__law_plus (T : Top P w K mg base prog W k names consts blts) (f : Addr) (cdv : Value) (A : Around) (outer : List PySem.Env) (s : Shared) (H : Hp) (E : XK) (hr : Room k (A.deeper (envOfC "_law_plus" (defScope s__law_plus) s.heap.objs.size f cdv))) :
    PSs (cxOf CX0 P w K mg base ["one", "other"] "_law_plus" (defScope s__law_plus) f cdv A outer s H E).nox (defBody s__law_plus) (tSs K (callN prog W k) W m__law_plus) :=
  (ss_cons (s_ret (i_call (T.cal 31 _ rfl) hr rfl (is_cons (i_bin false o_add (i_bin false o_mul (i_idx (i_var 0) i_int) (i_idx (i_var 1) i_int)) (i_bin false o_mul (i_idx (i_var 1) i_int) (i_idx (i_var 0) i_int))) (is_cons (i_bin false o_mul (i_idx (i_var 0) i_int) (i_idx (i_var 1) i_int)) is_nil))))
  ss_nil)
theorem b__law_times (T : Top P w K mg base prog W k names consts blts) (f : Addr) (cdv : Value) (A : Around) (outer : List PySem.Env) (s : Shared) (H : Hp) (E : XK) (hr : Room k (A.deeper (envOfC "_law_times" (defScope s__law_times) s.heap.objs.size f cdv))) :
    PSs (cxOf CX0 P w K mg base ["one", "other"] "_law_times" (defScope s__law_times) f cdv A outer s H E).nox (defBody s__law_times) (tSs K (callN prog W k) W m__law_times) :=
  (ss_cons (s_ret (i_call (T.cal 31 _ rfl) hr rfl (is_cons (i_bin false o_mul (i_idx (i_var 0) i_int) (i_idx (i_var 1) i_int)) (is_cons (i_bin false o_mul (i_idx (i_var 0) i_int) (i_idx (i_var 1) i_int)) is_nil))))
  ss_nil)
theorem b__law_over (T : Top P w K mg base prog W k names consts blts) (f : Addr) (cdv : Value) (A : Around) (outer : List PySem.Env) (s : Shared) (H : Hp) (E : XK) (hr : Room k (A.deeper (envOfC "_law_over" (defScope s__law_over) s.heap.objs.size f cdv))) :
    PSs (cxOf CX0 P w K mg base ["one", "other"] "_law_over" (defScope s__law_over) f cdv A outer s H E).nox (defBody s__law_over) (tSs K (callN prog W k) W m__law_over) :=
  (ss_cons (s_ret (i_call (T.cal 31 _ rfl) hr rfl (is_cons (i_bin false o_mul (i_idx (i_var 0) i_int) (i_idx (i_var 1) i_int)) (is_cons (i_bin false o_mul (i_idx (i_var 0) i_int) (i_idx (i_var 1) i_int)) is_nil))))
  ss_nil)
theorem b__law_under (T : Top P w K mg base prog W k names consts blts) (f : Addr) (cdv : Value) (A : Around) (outer : List PySem.Env) (s : Shared) (H : Hp) (E : XK) (hr : Room k (A.deeper (envOfC "_law_under" (defScope s__law_under) s.heap.objs.size f cdv))) :
    PSs (cxOf CX0 P w K mg base ["one", "other"] "_law_under" (defScope s__law_under) f cdv A outer s H E).nox (defBody s__law_under) (tSs K (callN prog W k) W m__law_under) :=
  (ss_cons (s_ret (i_cmp o_lt (i_bin false o_mul (i_idx (i_var 0) i_int) (i_idx (i_var 1) i_int)) (i_bin false o_mul (i_idx (i_var 1) i_int) (i_idx (i_var 0) i_int)) (nomark _)))
  ss_nil)
theorem b__law_joined (T : Top P w K mg base prog W k names consts blts) (f : Addr) (cdv : Value) (A : Around) (outer : List PySem.Env) (s : Shared) (H : Hp) (E : XK) (hr : Room k (A.deeper (envOfC "_law_joined" (defScope s__law_joined) s.heap.objs.size f cdv))) :
    PSs (cxOf CX0 P w K mg base ["one", "other", "a", "b", "c", "d", "e", "f", "g", "h", "rows", "p", "q", "r", "s"] "_law_joined" (defScope s__law_joined) f cdv A outer s H E).nox (defBody s__law_joined) (tSs K (callN prog W k) W m__law_joined) :=
  (ss_cons (s_asg (i_var 0) (g_tp rfl (gs_cons 2 sc__law_joined.nd (gs_cons 3 sc__law_joined.nd (gs_cons 4 sc__law_joined.nd (gs_cons 5 sc__law_joined.nd gs_nil))))))
  (ss_cons (s_asg (i_var 1) (g_tp rfl (gs_cons 6 sc__law_joined.nd (gs_cons 7 sc__law_joined.nd (gs_cons 8 sc__law_joined.nd (gs_cons 9 sc__law_joined.nd gs_nil))))))
  (ss_cons (s_set 10 sc__law_joined.nd (i_tup (is_cons (i_tup (is_cons (i_var 2) (is_cons (i_var 6) (is_cons (i_var 3) (is_cons (i_var 8) is_nil))))) (is_cons (i_tup (is_cons (i_var 2) (is_cons (i_var 7) (is_cons (i_var 3) (is_cons (i_var 9) is_nil))))) (is_cons (i_tup (is_cons (i_var 4) (is_cons (i_var 6) (is_cons (i_var 5) (is_cons (i_var 8) is_nil))))) (is_cons (i_tup (is_cons (i_var 4) (is_cons (i_var 7) (is_cons (i_var 5) (is_cons (i_var 9) is_nil))))) is_nil))))))
  (ss_cons (s_ret (i_bltT (f := false) c_tuple rfl (T.blt 4 _ rfl) bb_tuple (is_cons (i_lc (own := [("p", 11), ("q", 12), ("r", 13), ("s", 14)]) false rfl sc__law_joined.nd (it_seq (i_var 10)) (blk_ok (N := ["one", "other", "a", "b", "c", "d", "e", "f", "g", "h", "rows", "p", "q", "r", "s"]) (sc := defScope s__law_joined) (by decide +kernel)) rfl (fun _ _ _ _ _ => (g_tp rfl (gs_cons 11 sc__law_joined.nd (gs_cons 12 sc__law_joined.nd (gs_cons 13 sc__law_joined.nd (gs_cons 14 sc__law_joined.nd gs_nil)))))) (fun _ _ _ _ _ => cs_nil) (fun _ _ _ _ _ => (i_call (T.cal 32 _ rfl) hr rfl (is_cons (i_call (T.cal 33 _ rfl) hr rfl (is_cons (i_var 11) (is_cons (i_var 12) is_nil))) (is_cons (i_call (T.cal 33 _ rfl) hr rfl (is_cons (i_var 13) (is_cons (i_var 14) is_nil))) is_nil))))) is_nil)))
  ss_nil))))
theorem b__law_any_chain (T : Top P w K mg base prog W k names consts blts) (f : Addr) (cdv : Value) (A : Around) (outer : List PySem.Env) (s : Shared) (H : Hp) (E : XK) (hr : Room k (A.deeper (envOfC "_law_any_chain" (defScope s__law_any_chain) s.heap.objs.size f cdv))) :
    PSs (cxOf CX0 P w K mg base ["cup", "size", "a", "b", "c", "turn"] "_law_any_chain" (defScope s__law_any_chain) f cdv A outer s H E).nox (defBody s__law_any_chain) (tSs K (callN prog W k) W m__law_any_chain) :=
  (ss_cons (s_asg (i_lc (own := [("turn", 5)]) false rfl sc__law_any_chain.nd (it_rng1 rfl (T.blt 10 _ rfl) (is_cons i_int is_nil)) (blk_ok (N := ["cup", "size", "a", "b", "c", "turn"]) (sc := defScope s__law_any_chain) (by decide +kernel)) rfl (fun _ _ _ _ _ => (g_nm 5 sc__law_any_chain.nd)) (fun _ _ _ _ _ => cs_nil) (fun _ _ _ _ _ => (i_call (T.cal 31 _ rfl) hr rfl (is_cons (i_bin false o_sub (i_call (T.cal 28 _ rfl) hr rfl (is_cons (i_var 0) (is_cons (i_bin false o_add (i_bin false o_mul i_int (i_var 1)) i_int) is_nil))) (i_var 1)) (is_cons (i_bin false o_add i_int (i_call (T.cal 28 _ rfl) hr rfl (is_cons (i_var 0) (is_cons (i_var 1) is_nil)))) is_nil))))) (g_ls rfl (gs_cons 2 sc__law_any_chain.nd (gs_cons 3 sc__law_any_chain.nd (gs_cons 4 sc__law_any_chain.nd gs_nil)))))
  (ss_cons (s_ite (t_cmp (o_eq hr.units) (i_var 2) (i_tup (is_cons i_int (is_cons i_int is_nil))) (nomark _)) (ss_cons (s_set 3 sc__law_any_chain.nd (i_ite (t_cmp (o_eq hr.units) (i_var 3) (i_tup (is_cons i_int (is_cons i_int is_nil))) (nomark _)) (i_tup (is_cons i_int (is_cons i_int is_nil))) (i_var 3)))
  (ss_cons (s_ret (i_tup (is_cons (i_var 2) (is_cons (i_var 3) (is_cons (i_call (T.cal 34 _ rfl) hr rfl (is_cons (i_tup (is_cons (i_neg i_int) (is_cons i_int is_nil))) (is_cons (i_var 3) is_nil))) (is_cons (i_var 4) is_nil))))))
  ss_nil)) ss_nil)
  (ss_cons (s_ret (i_tup (is_cons (i_var 2) (is_cons (i_var 3) (is_cons (i_var 4) (is_cons (i_call (T.cal 34 _ rfl) hr rfl (is_cons (i_call (T.cal 32 _ rfl) hr rfl (is_cons (i_tup (is_cons i_int (is_cons i_int is_nil))) (is_cons (i_call (T.cal 33 _ rfl) hr rfl (is_cons (i_var 3) (is_cons (i_var 4) is_nil))) is_nil))) (is_cons (i_var 2) is_nil))) is_nil))))))
  ss_nil)))
theorem b__law_number (T : Top P w K mg base prog W k names consts blts) (f : Addr) (cdv : Value) (A : Around) (outer : List PySem.Env) (s : Shared) (H : Hp) (E : XK) (hr : Room k (A.deeper (envOfC "_law_number" (defScope s__law_number) s.heap.objs.size f cdv))) :
    PSs (cxOf CX0 P w K mg base ["cup", "size"] "_law_number" (defScope s__law_number) f cdv A outer s H E).nox (defBody s__law_number) (tSs K (callN prog W k) W m__law_number) :=
  (ss_cons (s_ite (t_cmp (o_eq hr.units) (i_call (T.cal 28 _ rfl) hr rfl (is_cons (i_var 0) (is_cons i_int is_nil))) i_int (nomark _)) (ss_cons (s_ret (i_tup (is_cons i_int (is_cons i_int is_nil))))
  ss_nil) ss_nil)
  (ss_cons (s_ret (i_call (T.cal 31 _ rfl) hr rfl (is_cons (i_bin false o_add i_int (i_call (T.cal 28 _ rfl) hr rfl (is_cons (i_var 0) (is_cons (i_var 1) is_nil)))) (is_cons (i_bin false o_add i_int (i_call (T.cal 28 _ rfl) hr rfl (is_cons (i_var 0) (is_cons (i_var 1) is_nil)))) is_nil))))
  ss_nil))
theorem b__law_ladder (T : Top P w K mg base prog W k names consts blts) (f : Addr) (cdv : Value) (A : Around) (outer : List PySem.Env) (s : Shared) (H : Hp) (E : XK) (hr : Room k (A.deeper (envOfC "_law_ladder" (defScope s__law_ladder) s.heap.objs.size f cdv))) :
    PSs (cxOf CX0 P w K mg base ["cup", "most", "size", "rung"] "_law_ladder" (defScope s__law_ladder) f cdv A outer s H E).nox (defBody s__law_ladder) (tSs K (callN prog W k) W m__law_ladder) :=
  (ss_cons (s_ret (i_bltT (f := false) c_tuple rfl (T.blt 4 _ rfl) bb_tuple (is_cons (i_lc (own := [("rung", 3)]) false rfl sc__law_ladder.nd (it_rng1 rfl (T.blt 10 _ rfl) (is_cons (i_call (T.cal 28 _ rfl) hr rfl (is_cons (i_var 0) (is_cons (i_bin false o_add (i_var 1) i_int) is_nil))) is_nil)) (blk_ok (N := ["cup", "most", "size", "rung"]) (sc := defScope s__law_ladder) (by decide +kernel)) rfl (fun _ _ _ _ _ => (g_nm 3 sc__law_ladder.nd)) (fun _ _ _ _ _ => cs_nil) (fun _ _ _ _ _ => (i_tup (is_cons (i_call (T.cal 38 _ rfl) hr rfl (is_cons (i_var 0) (is_cons (i_var 2) is_nil))) (is_cons (i_call (T.cal 38 _ rfl) hr rfl (is_cons (i_var 0) (is_cons (i_var 2) is_nil))) is_nil))))) is_nil)))
  ss_nil)
theorem b__law_chain_of (T : Top P w K mg base prog W k names consts blts) (f : Addr) (cdv : Value) (A : Around) (outer : List PySem.Env) (s : Shared) (H : Hp) (E : XK) (hr : Room k (A.deeper (envOfC "_law_chain_of" (defScope s__law_chain_of) s.heap.objs.size f cdv))) :
    PSs (cxOf CX0 P w K mg base ["ladder", "found", "resistance", "lead"] "_law_chain_of" (defScope s__law_chain_of) f cdv A outer s H E).nox (defBody s__law_chain_of) (tSs K (callN prog W k) W m__law_chain_of) :=
  (ss_cons (s_set 1 sc__law_chain_of.nd (i_tup (is_cons (i_tup (is_cons i_int (is_cons i_int is_nil))) (is_cons (i_tup (is_cons i_int (is_cons i_int is_nil))) (is_cons (i_tup (is_cons i_int (is_cons i_int is_nil))) (is_cons (i_tup (is_cons i_int (is_cons i_int is_nil))) is_nil))))))
  (ss_cons (s_for PassesOwn.never rfl (it_seq (i_var 0)) (g_tp rfl (gs_cons 2 sc__law_chain_of.nd (gs_cons 3 sc__law_chain_of.nd gs_nil))) (ss_cons (s_set 1 sc__law_chain_of.nd (i_call (T.cal 36 _ rfl) hr rfl (is_cons (i_var 1) (is_cons (i_tup (is_cons (i_tup (is_cons i_int (is_cons i_int is_nil))) (is_cons (i_var 2) (is_cons (i_tup (is_cons i_int (is_cons i_int is_nil))) (is_cons (i_tup (is_cons i_int (is_cons i_int is_nil))) is_nil))))) is_nil))))
  (ss_cons (s_set 1 sc__law_chain_of.nd (i_call (T.cal 36 _ rfl) hr rfl (is_cons (i_var 1) (is_cons (i_tup (is_cons (i_tup (is_cons i_int (is_cons i_int is_nil))) (is_cons (i_tup (is_cons i_int (is_cons i_int is_nil))) (is_cons (i_var 3) (is_cons (i_tup (is_cons i_int (is_cons i_int is_nil))) is_nil))))) is_nil))))
  ss_nil)))
  (ss_cons (s_ret (i_var 1))
  ss_nil)))
theorem b__law_right (T : Top P w K mg base prog W k names consts blts) (f : Addr) (cdv : Value) (A : Around) (outer : List PySem.Env) (s : Shared) (H : Hp) (E : XK) (hr : Room k (A.deeper (envOfC "_law_right" (defScope s__law_right) s.heap.objs.size f cdv))) :
    PSs (cxOf CX0 P w K mg base ["chain", "a", "b", "c", "d", "good", "star", "ring", "both", "turned", "around", "x", "y", "z", "total"] "_law_right" (defScope s__law_right) f cdv A outer s H E).nox (defBody s__law_right) (tSs K (callN prog W k) W m__law_right) :=
  (ss_cons (s_asg (i_var 0) (g_tp rfl (gs_cons 1 sc__law_right.nd (gs_cons 2 sc__law_right.nd (gs_cons 3 sc__law_right.nd (gs_cons 4 sc__law_right.nd gs_nil))))))
  (ss_cons (s_set 5 sc__law_right.nd (i_and (i_not (i_call (T.cal 35 _ rfl) hr rfl (is_cons (i_var 1) (is_cons (i_tup (is_cons i_int (is_cons i_int is_nil))) is_nil)))) (i_and (i_not (i_call (T.cal 35 _ rfl) hr rfl (is_cons (i_var 4) (is_cons (i_tup (is_cons i_int (is_cons i_int is_nil))) is_nil)))) (i_and (i_cmp o_ge (i_idx (i_var 2) i_int) i_int (nomark _)) (i_one (i_cmp o_ge (i_idx (i_var 3) i_int) i_int (nomark _)))))))
  (ss_cons (s_par 6 7 rfl sc__law_right.nd (is_cons (i_call (T.cal 19 _ rfl) hr rfl (is_cons (i_var 0) is_nil)) (is_cons (i_call (T.cal 20 _ rfl) hr rfl (is_cons (i_var 0) is_nil)) is_nil)))
  (ss_cons (s_ite (t_w (w_or (t_not (t_of (i_call (T.cal 30 _ rfl) hr rfl (is_cons (i_call (T.cal 18 _ rfl) hr rfl (is_cons (i_var 0) is_nil)) (is_cons (i_var 5) is_nil))))) (w_or (t_cmp (o_ne hr.units) (i_cmp o_is (i_var 6) i_non (nomark _)) (i_not (i_var 5)) (nomark _)) (w_or1 (t_cmp (o_ne hr.units) (i_cmp o_is (i_var 7) i_non (nomark _)) (i_or (i_not (i_var 5)) (i_one (i_cmp (o_eq hr.units) (i_idx (i_var 2) i_int) i_int (nomark _)))) (nomark _)))))) (ss_cons (s_ret i_bl)
  ss_nil) ss_nil)
  (ss_cons (s_ite (t_not (t_of (i_var 5))) (ss_cons (s_ret i_bl)
  ss_nil) ss_nil)
  (ss_cons (s_ite (t_w (w_or (t_not (t_of (i_isi (T := .tuple) rfl (T.blt 0 _ rfl) rfl (T.blt 4 _ rfl) bb_tuple (i_var 6)))) (w_or (t_cmp (o_ne hr.units) (i_bltB (f := false) c_len rfl (T.blt 3 _ rfl) bb_len (is_cons (i_var 6) is_nil)) i_int (nomark _)) (w_or1 (t_cmp (o_ne hr.units) (i_idx (i_var 6) i_int) (i_var 3) (nomark _)))))) (ss_cons (s_ret i_bl)
  ss_nil) ss_nil)
  (ss_cons (s_set 8 sc__law_right.nd (i_tup (is_cons (i_tup (is_cons (i_idx (i_var 6) i_int) (is_cons (i_idx (i_var 6) i_int) is_nil))) (is_cons (i_tup (is_cons (i_idx (i_var 6) i_int) (is_cons (i_tup (is_cons i_int (is_cons i_int is_nil))) is_nil))) is_nil))))
  (ss_cons (s_ite (t_w (w_or (t_cmp o_isn (i_call (T.cal 25 _ rfl) hr rfl (is_cons (i_var 8) is_nil)) i_bl (nomark _)) (w_or (t_not (t_of (i_call (T.cal 30 _ rfl) hr rfl (is_cons (i_call (T.cal 26 _ rfl) hr rfl (is_cons (i_var 8) is_nil)) (is_cons (i_var 0) is_nil))))) (w_or1 (t_w (w_and (t_cmp (o_eq hr.units) (i_idx (i_var 3) i_int) i_int (nomark _)) (w_and1 (t_not (t_of (i_call (T.cal 30 _ rfl) hr rfl (is_cons (i_var 6) (is_cons (i_tup (is_cons (i_var 2) (is_cons (i_tup (is_cons i_int (is_cons i_int is_nil))) (is_cons (i_tup (is_cons i_int (is_cons i_int is_nil))) is_nil)))) is_nil)))))))))))) (ss_cons (s_ret i_bl)
  ss_nil) ss_nil)
  (ss_cons (s_set 9 sc__law_right.nd (i_call (T.cal 19 _ rfl) hr rfl (is_cons (i_call (T.cal 17 _ rfl) hr rfl (is_cons (i_var 0) is_nil)) is_nil)))
  (ss_cons (s_ite (t_w (w_and (t_cmp o_gt (i_idx (i_var 3) i_int) i_int (nomark _)) (w_and1 (t_not (t_of (i_call (T.cal 30 _ rfl) hr rfl (is_cons (i_var 9) (is_cons (i_rev (i_var 6)) is_nil)))))))) (ss_cons (s_ret i_bl)
  ss_nil) ss_nil)
  (ss_cons (s_ite (t_cmp o_is (i_var 7) i_non (nomark _)) (ss_cons (s_ret i_bl)
  ss_nil) ss_nil)
  (ss_cons (s_set 10 sc__law_right.nd (i_tup (is_cons (i_tup (is_cons (i_tup (is_cons i_int (is_cons i_int is_nil))) (is_cons (i_idx (i_var 7) i_int) is_nil))) (is_cons (i_tup (is_cons (i_idx (i_var 7) i_int) (is_cons (i_idx (i_var 7) i_int) is_nil))) is_nil))))
  (ss_cons (s_ite (t_w (w_or (t_cmp o_isn (i_call (T.cal 25 _ rfl) hr rfl (is_cons (i_var 10) is_nil)) i_bl (nomark _)) (w_or1 (t_not (t_of (i_call (T.cal 30 _ rfl) hr rfl (is_cons (i_lst false (is_cons (i_call (T.cal 26 _ rfl) hr rfl (is_cons (i_var 10) is_nil)) (is_cons (i_call (T.cal 20 _ rfl) hr rfl (is_cons (i_call (T.cal 17 _ rfl) hr rfl (is_cons (i_var 0) is_nil)) is_nil)) is_nil))) (is_cons (i_lst false (is_cons (i_var 0) (is_cons (i_rev (i_var 7)) is_nil))) is_nil)))))))) (ss_cons (s_ret i_bl)
  ss_nil) ss_nil)
  (ss_cons (s_ite (t_cmp (o_eq hr.units) (i_idx (i_var 3) i_int) i_int (nomark _)) (ss_cons (s_ret (i_call (T.cal 30 _ rfl) hr rfl (is_cons (i_var 7) (is_cons (i_tup (is_cons (i_tup (is_cons i_int (is_cons i_int is_nil))) (is_cons (i_var 2) (is_cons (i_tup (is_cons i_int (is_cons i_int is_nil))) is_nil)))) is_nil))))
  ss_nil) ss_nil)
  (ss_cons (s_asg (i_var 6) (g_tp rfl (gs_cons 11 sc__law_right.nd (gs_cons 12 sc__law_right.nd (gs_cons 13 sc__law_right.nd gs_nil)))))
  (ss_cons (s_set 14 sc__law_right.nd (i_call (T.cal 32 _ rfl) hr rfl (is_cons (i_call (T.cal 32 _ rfl) hr rfl (is_cons (i_var 11) (is_cons (i_var 13) is_nil))) (is_cons (i_call (T.cal 33 _ rfl) hr rfl (is_cons (i_call (T.cal 33 _ rfl) hr rfl (is_cons (i_var 11) (is_cons (i_var 12) is_nil))) (is_cons (i_var 13) is_nil))) is_nil))))
  (ss_cons (s_ite (t_cmp (o_eq hr.units) (i_var 14) (i_tup (is_cons i_int (is_cons i_int is_nil))) (nomark _)) (ss_cons (s_ret (i_cmp (o_eq hr.units) (i_idx (i_var 2) i_int) i_int (nomark _)))
  ss_nil) ss_nil)
  (ss_cons (s_ret (i_call (T.cal 30 _ rfl) hr rfl (is_cons (i_var 7) (is_cons (i_tup (is_cons (i_call (T.cal 34 _ rfl) hr rfl (is_cons (i_call (T.cal 33 _ rfl) hr rfl (is_cons (i_var 12) (is_cons (i_var 13) is_nil))) (is_cons (i_var 14) is_nil))) (is_cons (i_var 14) (is_cons (i_call (T.cal 34 _ rfl) hr rfl (is_cons (i_call (T.cal 33 _ rfl) hr rfl (is_cons (i_var 12) (is_cons (i_var 11) is_nil))) (is_cons (i_var 14) is_nil))) is_nil)))) is_nil))))
  ss_nil))))))))))))))))))
theorem b_law (T : Top P w K mg base prog W k names consts blts) (f : Addr) (cdv : Value) (A : Around) (outer : List PySem.Env) (s : Shared) (H : Hp) (E : XK) (hr : Room k (A.deeper (envOfC "law" (defScope s_law) s.heap.objs.size f cdv))) :
    PSs (cxOf CX0 P w K mg base ["script", "cup", "one", "other", "told", "due", "most", "size", "r", "g", "less", "rows", "chain"] "law" (defScope s_law) f cdv A outer s H E).nox (defBody s_law) (tSs K (callN prog W k) W m_law) :=
  (ss_cons (s_set 1 sc_law.nd (i_call (T.cal 27 _ rfl) hr rfl (is_cons (i_var 0) is_nil)))
  (ss_cons (s_asg (i_tup (is_cons (i_tup (is_cons (i_tup (is_cons i_int (is_cons i_int is_nil))) (is_cons (i_tup (is_cons i_int (is_cons i_int is_nil))) (is_cons (i_tup (is_cons i_int (is_cons i_int is_nil))) (is_cons (i_tup (is_cons i_int (is_cons i_int is_nil))) is_nil))))) (is_cons (i_tup (is_cons (i_tup (is_cons i_int (is_cons i_int is_nil))) (is_cons (i_tup (is_cons i_int (is_cons i_int is_nil))) (is_cons (i_tup (is_cons i_int (is_cons i_int is_nil))) (is_cons (i_tup (is_cons i_int (is_cons i_int is_nil))) is_nil))))) is_nil))) (g_tp rfl (gs_cons 2 sc_law.nd (gs_cons 3 sc_law.nd gs_nil))))
  (ss_cons (s_set 4 sc_law.nd (i_lst true (is_cons (i_call (T.cal 18 _ rfl) hr rfl (is_cons (i_var 2) is_nil)) (is_cons (i_call (T.cal 18 _ rfl) hr rfl (is_cons (i_tup (is_cons (i_tup (is_cons i_int (is_cons i_int is_nil))) (is_cons (i_tup (is_cons i_int (is_cons i_int is_nil))) (is_cons (i_tup (is_cons (i_neg i_int) (is_cons i_int is_nil))) (is_cons (i_tup (is_cons i_int (is_cons i_int is_nil))) is_nil))))) is_nil)) (is_cons (i_call (T.cal 19 _ rfl) hr rfl (is_cons (i_var 2) is_nil)) (is_cons (i_call (T.cal 20 _ rfl) hr rfl (is_cons (i_var 2) is_nil)) is_nil))))))
  (ss_cons (s_set 4 sc_law.nd (i_bin true o_add (i_var 4) (i_lst false (is_cons (i_call (T.cal 19 _ rfl) hr rfl (is_cons (i_var 3) is_nil)) (is_cons (i_call (T.cal 20 _ rfl) hr rfl (is_cons (i_var 3) is_nil)) (is_cons (i_call (T.cal 20 _ rfl) hr rfl (is_cons (i_tup (is_cons (i_tup (is_cons i_int (is_cons i_int is_nil))) (is_cons (i_tup (is_cons i_int (is_cons i_int is_nil))) (is_cons (i_tup (is_cons i_int (is_cons i_int is_nil))) (is_cons (i_tup (is_cons i_int (is_cons i_int is_nil))) is_nil))))) is_nil)) is_nil))))))
  (ss_cons (s_exp (ps_expr (i_app (i_var 4) (is_cons (i_call (T.cal 19 _ rfl) hr rfl (is_cons (i_tup (is_cons (i_tup (is_cons i_int (is_cons i_int is_nil))) (is_cons (i_tup (is_cons i_int (is_cons i_int is_nil))) (is_cons (i_tup (is_cons i_int (is_cons i_int is_nil))) (is_cons (i_tup (is_cons i_int (is_cons i_int is_nil))) is_nil))))) is_nil)) is_nil))))
  (ss_cons (s_set 5 sc_law.nd (i_lst false (is_cons i_bl (is_cons i_bl (is_cons (i_tup (is_cons (i_tup (is_cons i_int (is_cons i_int is_nil))) (is_cons (i_tup (is_cons i_int (is_cons i_int is_nil))) (is_cons (i_tup (is_cons i_int (is_cons i_int is_nil))) is_nil)))) (is_cons (i_tup (is_cons (i_tup (is_cons i_int (is_cons i_int is_nil))) (is_cons (i_tup (is_cons i_int (is_cons i_int is_nil))) (is_cons (i_tup (is_cons i_int (is_cons i_int is_nil))) is_nil)))) (is_cons (i_tup (is_cons (i_tup (is_cons i_int (is_cons i_int is_nil))) (is_cons (i_tup (is_cons i_int (is_cons i_int is_nil))) (is_cons (i_tup (is_cons i_int (is_cons i_int is_nil))) is_nil)))) (is_cons (i_tup (is_cons (i_tup (is_cons i_int (is_cons i_int is_nil))) (is_cons (i_tup (is_cons i_int (is_cons i_int is_nil))) (is_cons (i_tup (is_cons i_int (is_cons i_int is_nil))) is_nil)))) (is_cons i_non (is_cons i_non is_nil))))))))))
  (ss_cons (s_ite (t_not (t_of (i_call (T.cal 30 _ rfl) hr rfl (is_cons (i_var 4) (is_cons (i_var 5) is_nil))))) (ss_cons (s_ret i_bl)
  ss_nil) ss_nil)
  (ss_cons (s_for PassesOwn.never rfl (it_seq (i_tup (is_cons (i_tup (is_cons i_int (is_cons i_int is_nil))) (is_cons (i_tup (is_cons i_int (is_cons i_int is_nil))) (is_cons (i_tup (is_cons i_int (is_cons i_int is_nil))) is_nil))))) (g_tp rfl (gs_cons 6 sc_law.nd (gs_cons 7 sc_law.nd gs_nil))) (ss_cons (s_ite (t_not (t_of (i_call (T.cal 41 _ rfl) hr rfl (is_cons (i_call (T.cal 40 _ rfl) hr rfl (is_cons (i_call (T.cal 39 _ rfl) hr rfl (is_cons (i_var 1) (is_cons (i_var 6) (is_cons (i_var 7) is_nil)))) is_nil)) is_nil)))) (ss_cons (s_ret i_bl)
  ss_nil) ss_nil)
  ss_nil))
  (ss_cons (s_for PassesOwn.never rfl (it_seq (i_tup (is_cons i_int (is_cons i_int (is_cons i_int is_nil))))) (g_nm 7 sc_law.nd) (ss_cons (s_ite (t_not (t_of (i_call (T.cal 41 _ rfl) hr rfl (is_cons (i_call (T.cal 37 _ rfl) hr rfl (is_cons (i_var 1) (is_cons (i_var 7) is_nil))) is_nil)))) (ss_cons (s_ret i_bl)
  ss_nil) ss_nil)
  ss_nil))
  (ss_cons (s_par 8 9 rfl sc_law.nd (is_cons (i_call (T.cal 38 _ rfl) hr rfl (is_cons (i_var 1) (is_cons i_int is_nil))) (is_cons (i_call (T.cal 38 _ rfl) hr rfl (is_cons (i_var 1) (is_cons i_int is_nil))) is_nil)))
  (ss_cons (s_set 10 sc_law.nd (i_tup (is_cons (i_bin false o_sub (i_bin false o_pow i_int i_int) i_int) (is_cons (i_bin false o_pow i_int i_int) is_nil))))
  (ss_cons (s_set 11 sc_law.nd (i_lst false (is_cons (i_tup (is_cons (i_tup (is_cons i_int (is_cons i_int is_nil))) (is_cons (i_var 8) (is_cons (i_tup (is_cons i_int (is_cons i_int is_nil))) (is_cons (i_tup (is_cons i_int (is_cons i_int is_nil))) is_nil))))) (is_cons (i_tup (is_cons (i_tup (is_cons i_int (is_cons i_int is_nil))) (is_cons (i_tup (is_cons i_int (is_cons i_int is_nil))) (is_cons (i_var 9) (is_cons (i_tup (is_cons i_int (is_cons i_int is_nil))) is_nil))))) (is_cons (i_tup (is_cons (i_var 10) (is_cons (i_tup (is_cons i_int (is_cons i_int is_nil))) (is_cons (i_tup (is_cons i_int (is_cons i_int is_nil))) (is_cons (i_call (T.cal 34 _ rfl) hr rfl (is_cons (i_tup (is_cons i_int (is_cons i_int is_nil))) (is_cons (i_var 10) is_nil))) is_nil))))) is_nil)))))
  (ss_cons (s_for PassesOwn.never rfl (it_seq (i_bin false o_add (i_var 11) (i_lst false (is_cons (i_tup (is_cons (i_tup (is_cons i_int (is_cons i_int is_nil))) (is_cons (i_tup (is_cons (i_neg i_int) (is_cons i_int is_nil))) (is_cons (i_tup (is_cons i_int (is_cons i_int is_nil))) (is_cons (i_tup (is_cons i_int (is_cons i_int is_nil))) is_nil))))) is_nil)))) (g_nm 12 sc_law.nd) (ss_cons (s_ite (t_not (t_of (i_call (T.cal 41 _ rfl) hr rfl (is_cons (i_var 12) is_nil)))) (ss_cons (s_ret i_bl)
  ss_nil) ss_nil)
  ss_nil))
  (ss_cons (s_ret i_bl)
  ss_nil))))))))))))))
theorem bi_is_integer : BindsP s_is_integer "is_integer" ["value"] := fun _ _ _ _ _ _ us hl => match us, hl with | [_], _ => rfl
theorem bi_is_tuple_of : BindsP s_is_tuple_of "is_tuple_of" ["value", "low", "high"] := fun _ _ _ _ _ _ us hl => match us, hl with | [_, _, _], _ => rfl
theorem bi_divisor_of : BindsP s_divisor_of "divisor_of" ["one", "other"] := fun _ _ _ _ _ _ us hl => match us, hl with | [_, _], _ => rfl
theorem bi_lowest : BindsP s_lowest "lowest" ["above", "below"] := fun _ _ _ _ _ _ us hl => match us, hl with | [_, _], _ => rfl
theorem bi_sum_of : BindsP s_sum_of "sum_of" ["one", "other"] := fun _ _ _ _ _ _ us hl => match us, hl with | [_, _], _ => rfl
theorem bi_less_by : BindsP s_less_by "less_by" ["one", "other"] := fun _ _ _ _ _ _ us hl => match us, hl with | [_, _], _ => rfl
theorem bi_product_of : BindsP s_product_of "product_of" ["one", "other"] := fun _ _ _ _ _ _ us hl => match us, hl with | [_, _], _ => rfl
theorem bi_part_of : BindsP s_part_of "part_of" ["one", "other"] := fun _ _ _ _ _ _ us hl => match us, hl with | [_, _], _ => rfl
theorem bi_is_under : BindsP s_is_under "is_under" ["one", "other"] := fun _ _ _ _ _ _ us hl => match us, hl with | [_, _], _ => rfl
theorem bi_fits_fraction : BindsP s_fits_fraction "fits_fraction" ["value"] := fun _ _ _ _ _ _ us hl => match us, hl with | [_], _ => rfl
theorem bi_fits_chain : BindsP s_fits_chain "fits_chain" ["value"] := fun _ _ _ _ _ _ us hl => match us, hl with | [_], _ => rfl
theorem bi_need_chain : BindsP s_need_chain "need_chain" ["chain"] := fun _ _ _ _ _ _ us hl => match us, hl with | [_], _ => rfl
theorem bi_is_from_none : BindsP s_is_from_none "is_from_none" ["fraction"] := fun _ _ _ _ _ _ us hl => match us, hl with | [_], _ => rfl
theorem bi_joined_chain : BindsP s_joined_chain "joined_chain" ["one", "other"] := fun _ _ _ _ _ _ us hl => match us, hl with | [_, _], _ => rfl
theorem bi_product_in : BindsP s_product_in "product_in" ["chains"] := fun _ _ _ _ _ _ us hl => match us, hl with | [_], _ => rfl
theorem bi_turned_chain : BindsP s_turned_chain "turned_chain" ["chain"] := fun _ _ _ _ _ _ us hl => match us, hl with | [_], _ => rfl
theorem bi_is_told_in : BindsP s_is_told_in "is_told_in" ["chain"] := fun _ _ _ _ _ _ us hl => match us, hl with | [_], _ => rfl
theorem bi_chain_turned : BindsP s_chain_turned "chain_turned" ["chain"] := fun _ _ _ _ _ _ us hl => match us, hl with | [_], _ => rfl
theorem bi_is_told_chain : BindsP s_is_told_chain "is_told_chain" ["chain"] := fun _ _ _ _ _ _ us hl => match us, hl with | [_], _ => rfl
theorem bi_star_of_chain : BindsP s_star_of_chain "star_of_chain" ["chain"] := fun _ _ _ _ _ _ us hl => match us, hl with | [_], _ => rfl
theorem bi_ring_of_chain : BindsP s_ring_of_chain "ring_of_chain" ["chain"] := fun _ _ _ _ _ _ us hl => match us, hl with | [_], _ => rfl
theorem bi_fits_rung : BindsP s_fits_rung "fits_rung" ["value"] := fun _ _ _ _ _ _ us hl => match us, hl with | [_], _ => rfl
theorem bi_fits_ladder : BindsP s_fits_ladder "fits_ladder" ["value"] := fun _ _ _ _ _ _ us hl => match us, hl with | [_], _ => rfl
theorem bi_need_ladder : BindsP s_need_ladder "need_ladder" ["ladder"] := fun _ _ _ _ _ _ us hl => match us, hl with | [_], _ => rfl
theorem bi_chain_in : BindsP s_chain_in "chain_in" ["ladder"] := fun _ _ _ _ _ _ us hl => match us, hl with | [_], _ => rfl
theorem bi_is_ladder : BindsP s_is_ladder "is_ladder" ["value"] := fun _ _ _ _ _ _ us hl => match us, hl with | [_], _ => rfl
theorem bi_ladder_chain : BindsP s_ladder_chain "ladder_chain" ["ladder"] := fun _ _ _ _ _ _ us hl => match us, hl with | [_], _ => rfl
theorem bi__law_cup : BindsP s__law_cup "_law_cup" ["script"] := fun _ _ _ _ _ _ us hl => match us, hl with | [_], _ => rfl
theorem bi__law_roll : BindsP s__law_roll "_law_roll" ["cup", "many"] := fun _ _ _ _ _ _ us hl => match us, hl with | [_, _], _ => rfl
theorem bi__law_sort : BindsP s__law_sort "_law_sort" ["value"] := fun _ _ _ _ _ _ us hl => match us, hl with | [_], _ => rfl
theorem bi__law_like : BindsP s__law_like "_law_like" ["one", "other"] := fun _ _ _ _ _ _ us hl => match us, hl with | [_, _], _ => rfl
theorem bi__law_least : BindsP s__law_least "_law_least" ["above", "below"] := fun _ _ _ _ _ _ us hl => match us, hl with | [_, _], _ => rfl
theorem bi__law_plus : BindsP s__law_plus "_law_plus" ["one", "other"] := fun _ _ _ _ _ _ us hl => match us, hl with | [_, _], _ => rfl
theorem bi__law_times : BindsP s__law_times "_law_times" ["one", "other"] := fun _ _ _ _ _ _ us hl => match us, hl with | [_, _], _ => rfl
theorem bi__law_over : BindsP s__law_over "_law_over" ["one", "other"] := fun _ _ _ _ _ _ us hl => match us, hl with | [_, _], _ => rfl
theorem bi__law_under : BindsP s__law_under "_law_under" ["one", "other"] := fun _ _ _ _ _ _ us hl => match us, hl with | [_, _], _ => rfl
theorem bi__law_joined : BindsP s__law_joined "_law_joined" ["one", "other"] := fun _ _ _ _ _ _ us hl => match us, hl with | [_, _], _ => rfl
theorem bi__law_any_chain : BindsP s__law_any_chain "_law_any_chain" ["cup", "size"] := fun _ _ _ _ _ _ us hl => match us, hl with | [_, _], _ => rfl
theorem bi__law_number : BindsP s__law_number "_law_number" ["cup", "size"] := fun _ _ _ _ _ _ us hl => match us, hl with | [_, _], _ => rfl
theorem bi__law_ladder : BindsP s__law_ladder "_law_ladder" ["cup", "most", "size"] := fun _ _ _ _ _ _ us hl => match us, hl with | [_, _, _], _ => rfl
theorem bi__law_chain_of : BindsP s__law_chain_of "_law_chain_of" ["ladder"] := fun _ _ _ _ _ _ us hl => match us, hl with | [_], _ => rfl
theorem bi__law_right : BindsP s__law_right "_law_right" ["chain"] := fun _ _ _ _ _ _ us hl => match us, hl with | [_], _ => rfl
theorem bi_law : BindsP s_law "law" ["script"] := fun _ _ _ _ _ _ us hl => match us, hl with | [_], _ => rfl
theorem tops (d_is_integer : DefOf K mg "is_integer" s_is_integer) (d_is_tuple_of : DefOf K mg "is_tuple_of" s_is_tuple_of) (d_divisor_of : DefOf K mg "divisor_of" s_divisor_of) (d_lowest : DefOf K mg "lowest" s_lowest) (d_sum_of : DefOf K mg "sum_of" s_sum_of) (d_less_by : DefOf K mg "less_by" s_less_by) (d_product_of : DefOf K mg "product_of" s_product_of) (d_part_of : DefOf K mg "part_of" s_part_of) (d_is_under : DefOf K mg "is_under" s_is_under) (d_fits_fraction : DefOf K mg "fits_fraction" s_fits_fraction) (d_fits_chain : DefOf K mg "fits_chain" s_fits_chain) (d_need_chain : DefOf K mg "need_chain" s_need_chain) (d_is_from_none : DefOf K mg "is_from_none" s_is_from_none) (d_joined_chain : DefOf K mg "joined_chain" s_joined_chain) (d_product_in : DefOf K mg "product_in" s_product_in) (d_turned_chain : DefOf K mg "turned_chain" s_turned_chain) (d_is_told_in : DefOf K mg "is_told_in" s_is_told_in) (d_chain_turned : DefOf K mg "chain_turned" s_chain_turned) (d_is_told_chain : DefOf K mg "is_told_chain" s_is_told_chain) (d_star_of_chain : DefOf K mg "star_of_chain" s_star_of_chain) (d_ring_of_chain : DefOf K mg "ring_of_chain" s_ring_of_chain) (d_fits_rung : DefOf K mg "fits_rung" s_fits_rung) (d_fits_ladder : DefOf K mg "fits_ladder" s_fits_ladder) (d_need_ladder : DefOf K mg "need_ladder" s_need_ladder) (d_chain_in : DefOf K mg "chain_in" s_chain_in) (d_is_ladder : DefOf K mg "is_ladder" s_is_ladder) (d_ladder_chain : DefOf K mg "ladder_chain" s_ladder_chain) (d__law_cup : DefOf K mg "_law_cup" s__law_cup) (d__law_roll : DefOf K mg "_law_roll" s__law_roll) (d__law_sort : DefOf K mg "_law_sort" s__law_sort) (d__law_like : DefOf K mg "_law_like" s__law_like) (d__law_least : DefOf K mg "_law_least" s__law_least) (d__law_plus : DefOf K mg "_law_plus" s__law_plus) (d__law_times : DefOf K mg "_law_times" s__law_times) (d__law_over : DefOf K mg "_law_over" s__law_over) (d__law_under : DefOf K mg "_law_under" s__law_under) (d__law_joined : DefOf K mg "_law_joined" s__law_joined) (d__law_any_chain : DefOf K mg "_law_any_chain" s__law_any_chain) (d__law_number : DefOf K mg "_law_number" s__law_number) (d__law_ladder : DefOf K mg "_law_ladder" s__law_ladder) (d__law_chain_of : DefOf K mg "_law_chain_of" s__law_chain_of) (d__law_right : DefOf K mg "_law_right" s__law_right) (d_law : DefOf K mg "law" s_law) (c_DIGITS : ∃ z u, mg "DIGITS" = some u ∧ RelV z u ∧ Con K k_DIGITS z) (c_ONE : ∃ z u, mg "ONE" = some u ∧ RelV z u ∧ Con K k_ONE z) (c_PLAIN : ∃ z u, mg "PLAIN" = some u ∧ RelV z u ∧ Con K k_PLAIN z) (c_NONE : ∃ z u, mg "NONE" = some u ∧ RelV z u ∧ Con K k_NONE z) (c_MANY : ∃ z u, mg "MANY" = some u ∧ RelV z u ∧ Con K k_MANY z) (z_isinstance : mg "isinstance" = none) (z_bool : mg "bool" = none) (z_int : mg "int" = none) (z_len : mg "len" = none) (z_tuple : mg "tuple" = none) (z_abs : mg "abs" = none) (z_all : mg "all" = none) (z_list : mg "list" = none) (z_str : mg "str" = none) (z_zip : mg "zip" = none) (z_range : mg "range" = none) : ∀ k, Top P w K mg base prog W k names consts blts := by
  have hc : ∀ (i : Nat) (x : Str) (v : PV), consts[i]? = some (x, v) → ∃ z u, mg x = some u ∧ RelV z u ∧ Con K v z := fun i x v h => by
    match i, h with
    | 0, h => cases h; exact c_DIGITS
    | 1, h => cases h; exact c_ONE
    | 2, h => cases h; exact c_PLAIN
    | 3, h => cases h; exact c_NONE
    | 4, h => cases h; exact c_MANY
    | n + 5, h => exact absurd h (by simp [consts])
  have hb : ∀ (i : Nat) (x : Str), blts[i]? = some x → mg x = none := fun i x h => by
    match i, h with
    | 0, h => cases h; exact z_isinstance
    | 1, h => cases h; exact z_bool
    | 2, h => cases h; exact z_int
    | 3, h => cases h; exact z_len
    | 4, h => cases h; exact z_tuple
    | 5, h => cases h; exact z_abs
    | 6, h => cases h; exact z_all
    | 7, h => cases h; exact z_list
    | 8, h => cases h; exact z_str
    | 9, h => cases h; exact z_zip
    | 10, h => cases h; exact z_range
    | n + 11, h => exact absurd h (by simp [blts])
  intro k
  induction k with
  | zero =>
    refine ⟨fun i x h => ?_, hc, hb⟩
    match i, h with
    | 0, h => cases h; exact cal_zero d_is_integer bi_is_integer
    | 1, h => cases h; exact cal_zero d_is_tuple_of bi_is_tuple_of
    | 2, h => cases h; exact cal_zero d_divisor_of bi_divisor_of
    | 3, h => cases h; exact cal_zero d_lowest bi_lowest
    | 4, h => cases h; exact cal_zero d_sum_of bi_sum_of
    | 5, h => cases h; exact cal_zero d_less_by bi_less_by
    | 6, h => cases h; exact cal_zero d_product_of bi_product_of
    | 7, h => cases h; exact cal_zero d_part_of bi_part_of
    | 8, h => cases h; exact cal_zero d_is_under bi_is_under
    | 9, h => cases h; exact cal_zero d_fits_fraction bi_fits_fraction
    | 10, h => cases h; exact cal_zero d_fits_chain bi_fits_chain
    | 11, h => cases h; exact cal_zero d_need_chain bi_need_chain
    | 12, h => cases h; exact cal_zero d_is_from_none bi_is_from_none
    | 13, h => cases h; exact cal_zero d_joined_chain bi_joined_chain
    | 14, h => cases h; exact cal_zero d_product_in bi_product_in
    | 15, h => cases h; exact cal_zero d_turned_chain bi_turned_chain
    | 16, h => cases h; exact cal_zero d_is_told_in bi_is_told_in
    | 17, h => cases h; exact cal_zero d_chain_turned bi_chain_turned
    | 18, h => cases h; exact cal_zero d_is_told_chain bi_is_told_chain
    | 19, h => cases h; exact cal_zero d_star_of_chain bi_star_of_chain
    | 20, h => cases h; exact cal_zero d_ring_of_chain bi_ring_of_chain
    | 21, h => cases h; exact cal_zero d_fits_rung bi_fits_rung
    | 22, h => cases h; exact cal_zero d_fits_ladder bi_fits_ladder
    | 23, h => cases h; exact cal_zero d_need_ladder bi_need_ladder
    | 24, h => cases h; exact cal_zero d_chain_in bi_chain_in
    | 25, h => cases h; exact cal_zero d_is_ladder bi_is_ladder
    | 26, h => cases h; exact cal_zero d_ladder_chain bi_ladder_chain
    | 27, h => cases h; exact cal_zero d__law_cup bi__law_cup
    | 28, h => cases h; exact cal_zero d__law_roll bi__law_roll
    | 29, h => cases h; exact cal_zero d__law_sort bi__law_sort
    | 30, h => cases h; exact cal_zero d__law_like bi__law_like
    | 31, h => cases h; exact cal_zero d__law_least bi__law_least
    | 32, h => cases h; exact cal_zero d__law_plus bi__law_plus
    | 33, h => cases h; exact cal_zero d__law_times bi__law_times
    | 34, h => cases h; exact cal_zero d__law_over bi__law_over
    | 35, h => cases h; exact cal_zero d__law_under bi__law_under
    | 36, h => cases h; exact cal_zero d__law_joined bi__law_joined
    | 37, h => cases h; exact cal_zero d__law_any_chain bi__law_any_chain
    | 38, h => cases h; exact cal_zero d__law_number bi__law_number
    | 39, h => cases h; exact cal_zero d__law_ladder bi__law_ladder
    | 40, h => cases h; exact cal_zero d__law_chain_of bi__law_chain_of
    | 41, h => cases h; exact cal_zero d__law_right bi__law_right
    | 42, h => cases h; exact cal_zero d_law bi_law
    | n + 43, h => exact absurd h (by simp [names])
  | succ k T =>
    refine ⟨fun i x h => ?_, hc, hb⟩
    match i, h with
    | 0, h => cases h; exact cal_succ d_is_integer bi_is_integer sc_is_integer rfl rfl rfl (b_is_integer T)
    | 1, h => cases h; exact cal_succ d_is_tuple_of bi_is_tuple_of sc_is_tuple_of rfl rfl rfl (b_is_tuple_of T)
    | 2, h => cases h; exact cal_succ d_divisor_of bi_divisor_of sc_divisor_of rfl rfl rfl (b_divisor_of T)
    | 3, h => cases h; exact cal_succ d_lowest bi_lowest sc_lowest rfl rfl rfl (b_lowest T)
    | 4, h => cases h; exact cal_succ d_sum_of bi_sum_of sc_sum_of rfl rfl rfl (b_sum_of T)
    | 5, h => cases h; exact cal_succ d_less_by bi_less_by sc_less_by rfl rfl rfl (b_less_by T)
    | 6, h => cases h; exact cal_succ d_product_of bi_product_of sc_product_of rfl rfl rfl (b_product_of T)
    | 7, h => cases h; exact cal_succ d_part_of bi_part_of sc_part_of rfl rfl rfl (b_part_of T)
    | 8, h => cases h; exact cal_succ d_is_under bi_is_under sc_is_under rfl rfl rfl (b_is_under T)
    | 9, h => cases h; exact cal_succ d_fits_fraction bi_fits_fraction sc_fits_fraction rfl rfl rfl (b_fits_fraction T)
    | 10, h => cases h; exact cal_succ d_fits_chain bi_fits_chain sc_fits_chain rfl rfl rfl (b_fits_chain T)
    | 11, h => cases h; exact cal_succ d_need_chain bi_need_chain sc_need_chain rfl rfl rfl (b_need_chain T)
    | 12, h => cases h; exact cal_succ d_is_from_none bi_is_from_none sc_is_from_none rfl rfl rfl (b_is_from_none T)
    | 13, h => cases h; exact cal_succ d_joined_chain bi_joined_chain sc_joined_chain rfl rfl rfl (b_joined_chain T)
    | 14, h => cases h; exact cal_succ d_product_in bi_product_in sc_product_in rfl rfl rfl (b_product_in T)
    | 15, h => cases h; exact cal_succ d_turned_chain bi_turned_chain sc_turned_chain rfl rfl rfl (b_turned_chain T)
    | 16, h => cases h; exact cal_succ d_is_told_in bi_is_told_in sc_is_told_in rfl rfl rfl (b_is_told_in T)
    | 17, h => cases h; exact cal_succ d_chain_turned bi_chain_turned sc_chain_turned rfl rfl rfl (b_chain_turned T)
    | 18, h => cases h; exact cal_succ d_is_told_chain bi_is_told_chain sc_is_told_chain rfl rfl rfl (b_is_told_chain T)
    | 19, h => cases h; exact cal_succ d_star_of_chain bi_star_of_chain sc_star_of_chain rfl rfl rfl (b_star_of_chain T)
    | 20, h => cases h; exact cal_succ d_ring_of_chain bi_ring_of_chain sc_ring_of_chain rfl rfl rfl (b_ring_of_chain T)
    | 21, h => cases h; exact cal_succ d_fits_rung bi_fits_rung sc_fits_rung rfl rfl rfl (b_fits_rung T)
    | 22, h => cases h; exact cal_succ d_fits_ladder bi_fits_ladder sc_fits_ladder rfl rfl rfl (b_fits_ladder T)
    | 23, h => cases h; exact cal_succ d_need_ladder bi_need_ladder sc_need_ladder rfl rfl rfl (b_need_ladder T)
    | 24, h => cases h; exact cal_succ d_chain_in bi_chain_in sc_chain_in rfl rfl rfl (b_chain_in T)
    | 25, h => cases h; exact cal_succ d_is_ladder bi_is_ladder sc_is_ladder rfl rfl rfl (b_is_ladder T)
    | 26, h => cases h; exact cal_succ d_ladder_chain bi_ladder_chain sc_ladder_chain rfl rfl rfl (b_ladder_chain T)
    | 27, h => cases h; exact cal_succ d__law_cup bi__law_cup sc__law_cup rfl rfl rfl (b__law_cup T)
    | 28, h => cases h; exact cal_succ d__law_roll bi__law_roll sc__law_roll rfl rfl rfl (b__law_roll T)
    | 29, h => cases h; exact cal_succ d__law_sort bi__law_sort sc__law_sort rfl rfl rfl (b__law_sort T)
    | 30, h => cases h; exact cal_succ d__law_like bi__law_like sc__law_like rfl rfl rfl (b__law_like T)
    | 31, h => cases h; exact cal_succ d__law_least bi__law_least sc__law_least rfl rfl rfl (b__law_least T)
    | 32, h => cases h; exact cal_succ d__law_plus bi__law_plus sc__law_plus rfl rfl rfl (b__law_plus T)
    | 33, h => cases h; exact cal_succ d__law_times bi__law_times sc__law_times rfl rfl rfl (b__law_times T)
    | 34, h => cases h; exact cal_succ d__law_over bi__law_over sc__law_over rfl rfl rfl (b__law_over T)
    | 35, h => cases h; exact cal_succ d__law_under bi__law_under sc__law_under rfl rfl rfl (b__law_under T)
    | 36, h => cases h; exact cal_succ d__law_joined bi__law_joined sc__law_joined rfl rfl rfl (b__law_joined T)
    | 37, h => cases h; exact cal_succ d__law_any_chain bi__law_any_chain sc__law_any_chain rfl rfl rfl (b__law_any_chain T)
    | 38, h => cases h; exact cal_succ d__law_number bi__law_number sc__law_number rfl rfl rfl (b__law_number T)
    | 39, h => cases h; exact cal_succ d__law_ladder bi__law_ladder sc__law_ladder rfl rfl rfl (b__law_ladder T)
    | 40, h => cases h; exact cal_succ d__law_chain_of bi__law_chain_of sc__law_chain_of rfl rfl rfl (b__law_chain_of T)
    | 41, h => cases h; exact cal_succ d__law_right bi__law_right sc__law_right rfl rfl rfl (b__law_right T)
    | 42, h => cases h; exact cal_succ d_law bi_law sc_law rfl rfl rfl (b_law T)
    | n + 43, h => exact absurd h (by simp [names])
end
end Lw

namespace Lw
open Ev
def W : Nat := 1000000000000
theorem u_is_integer (k : Nat) (x0 : PV) (M : Mem) : callN prog W (k + 1) 0 [x0] M = fin false M.length (execs (callN prog W k) W m_is_integer [some x0] M) := by
  unfold callN
  rfl
theorem u_is_tuple_of (k : Nat) (x0 : PV) (x1 : PV) (x2 : PV) (M : Mem) : callN prog W (k + 1) 1 [x0, x1, x2] M = fin false M.length (execs (callN prog W k) W m_is_tuple_of [some x0, some x1, some x2] M) := by
  unfold callN
  rfl
theorem u_divisor_of (k : Nat) (x0 : PV) (x1 : PV) (M : Mem) : callN prog W (k + 1) 2 [x0, x1] M = fin false M.length (execs (callN prog W k) W m_divisor_of [some x0, some x1] M) := by
  unfold callN
  rfl
theorem u_lowest (k : Nat) (x0 : PV) (x1 : PV) (M : Mem) : callN prog W (k + 1) 3 [x0, x1] M = fin false M.length (execs (callN prog W k) W m_lowest [some x0, some x1, none] M) := by
  unfold callN
  rfl
theorem u_sum_of (k : Nat) (x0 : PV) (x1 : PV) (M : Mem) : callN prog W (k + 1) 4 [x0, x1] M = fin false M.length (execs (callN prog W k) W m_sum_of [some x0, some x1] M) := by
  unfold callN
  rfl
theorem u_less_by (k : Nat) (x0 : PV) (x1 : PV) (M : Mem) : callN prog W (k + 1) 5 [x0, x1] M = fin false M.length (execs (callN prog W k) W m_less_by [some x0, some x1] M) := by
  unfold callN
  rfl
theorem u_product_of (k : Nat) (x0 : PV) (x1 : PV) (M : Mem) : callN prog W (k + 1) 6 [x0, x1] M = fin false M.length (execs (callN prog W k) W m_product_of [some x0, some x1] M) := by
  unfold callN
  rfl
theorem u_part_of (k : Nat) (x0 : PV) (x1 : PV) (M : Mem) : callN prog W (k + 1) 7 [x0, x1] M = fin false M.length (execs (callN prog W k) W m_part_of [some x0, some x1] M) := by
  unfold callN
  rfl
theorem u_is_under (k : Nat) (x0 : PV) (x1 : PV) (M : Mem) : callN prog W (k + 1) 8 [x0, x1] M = fin false M.length (execs (callN prog W k) W m_is_under [some x0, some x1] M) := by
  unfold callN
  rfl
theorem u_fits_fraction (k : Nat) (x0 : PV) (M : Mem) : callN prog W (k + 1) 9 [x0] M = fin false M.length (execs (callN prog W k) W m_fits_fraction [some x0, none] M) := by
  unfold callN
  rfl
theorem u_fits_chain (k : Nat) (x0 : PV) (M : Mem) : callN prog W (k + 1) 10 [x0] M = fin false M.length (execs (callN prog W k) W m_fits_chain [some x0, none, none, none, none, none] M) := by
  unfold callN
  rfl
theorem u_need_chain (k : Nat) (x0 : PV) (M : Mem) : callN prog W (k + 1) 11 [x0] M = fin false M.length (execs (callN prog W k) W m_need_chain [some x0] M) := by
  unfold callN
  rfl
theorem u_is_from_none (k : Nat) (x0 : PV) (M : Mem) : callN prog W (k + 1) 12 [x0] M = fin false M.length (execs (callN prog W k) W m_is_from_none [some x0] M) := by
  unfold callN
  rfl
theorem u_joined_chain (k : Nat) (x0 : PV) (x1 : PV) (M : Mem) : callN prog W (k + 1) 13 [x0, x1] M = fin false M.length (execs (callN prog W k) W m_joined_chain [some x0, some x1, none, none, none, none, none, none, none, none, none, none] M) := by
  unfold callN
  rfl
theorem u_product_in (k : Nat) (x0 : PV) (M : Mem) : callN prog W (k + 1) 14 [x0] M = fin false M.length (execs (callN prog W k) W m_product_in [some x0, none, none] M) := by
  unfold callN
  rfl
theorem u_turned_chain (k : Nat) (x0 : PV) (M : Mem) : callN prog W (k + 1) 15 [x0] M = fin false M.length (execs (callN prog W k) W m_turned_chain [some x0] M) := by
  unfold callN
  rfl
theorem u_is_told_in (k : Nat) (x0 : PV) (M : Mem) : callN prog W (k + 1) 16 [x0] M = fin false M.length (execs (callN prog W k) W m_is_told_in [some x0, none, none, none, none] M) := by
  unfold callN
  rfl
theorem u_chain_turned (k : Nat) (x0 : PV) (M : Mem) : callN prog W (k + 1) 17 [x0] M = fin false M.length (execs (callN prog W k) W m_chain_turned [some x0] M) := by
  unfold callN
  rfl
theorem u_is_told_chain (k : Nat) (x0 : PV) (M : Mem) : callN prog W (k + 1) 18 [x0] M = fin false M.length (execs (callN prog W k) W m_is_told_chain [some x0] M) := by
  unfold callN
  rfl
theorem u_star_of_chain (k : Nat) (x0 : PV) (M : Mem) : callN prog W (k + 1) 19 [x0] M = fin false M.length (execs (callN prog W k) W m_star_of_chain [some x0, none, none, none, none] M) := by
  unfold callN
  rfl
theorem u_ring_of_chain (k : Nat) (x0 : PV) (M : Mem) : callN prog W (k + 1) 20 [x0] M = fin false M.length (execs (callN prog W k) W m_ring_of_chain [some x0, none, none, none, none] M) := by
  unfold callN
  rfl
theorem u_fits_rung (k : Nat) (x0 : PV) (M : Mem) : callN prog W (k + 1) 21 [x0] M = fin false M.length (execs (callN prog W k) W m_fits_rung [some x0, none] M) := by
  unfold callN
  rfl
theorem u_fits_ladder (k : Nat) (x0 : PV) (M : Mem) : callN prog W (k + 1) 22 [x0] M = fin false M.length (execs (callN prog W k) W m_fits_ladder [some x0, none] M) := by
  unfold callN
  rfl
theorem u_need_ladder (k : Nat) (x0 : PV) (M : Mem) : callN prog W (k + 1) 23 [x0] M = fin false M.length (execs (callN prog W k) W m_need_ladder [some x0] M) := by
  unfold callN
  rfl
theorem u_chain_in (k : Nat) (x0 : PV) (M : Mem) : callN prog W (k + 1) 24 [x0] M = fin false M.length (execs (callN prog W k) W m_chain_in [some x0, none, none, none] M) := by
  unfold callN
  rfl
theorem u_is_ladder (k : Nat) (x0 : PV) (M : Mem) : callN prog W (k + 1) 25 [x0] M = fin false M.length (execs (callN prog W k) W m_is_ladder [some x0] M) := by
  unfold callN
  rfl
theorem u_ladder_chain (k : Nat) (x0 : PV) (M : Mem) : callN prog W (k + 1) 26 [x0] M = fin false M.length (execs (callN prog W k) W m_ladder_chain [some x0] M) := by
  unfold callN
  rfl
theorem u__law_cup (k : Nat) (x0 : PV) (M : Mem) : callN prog W (k + 1) 27 [x0] M = fin true M.length (execs (callN prog W k) W m__law_cup [some x0, none] M) := by
  unfold callN
  rfl
theorem u__law_roll (k : Nat) (x0 : PV) (x1 : PV) (M : Mem) : callN prog W (k + 1) 28 [x0, x1] M = fin false M.length (execs (callN prog W k) W m__law_roll [some x0, some x1, none, none] M) := by
  unfold callN
  rfl
theorem u__law_sort (k : Nat) (x0 : PV) (M : Mem) : callN prog W (k + 1) 29 [x0] M = fin false M.length (execs (callN prog W k) W m__law_sort [some x0] M) := by
  unfold callN
  rfl
theorem u__law_like (k : Nat) (x0 : PV) (x1 : PV) (M : Mem) : callN prog W (k + 1) 30 [x0, x1] M = fin false M.length (execs (callN prog W k) W m__law_like [some x0, some x1, none, none, none] M) := by
  unfold callN
  rfl
theorem u__law_least (k : Nat) (x0 : PV) (x1 : PV) (M : Mem) : callN prog W (k + 1) 31 [x0, x1] M = fin false M.length (execs (callN prog W k) W m__law_least [some x0, some x1, none, none, none] M) := by
  unfold callN
  rfl
theorem u__law_plus (k : Nat) (x0 : PV) (x1 : PV) (M : Mem) : callN prog W (k + 1) 32 [x0, x1] M = fin false M.length (execs (callN prog W k) W m__law_plus [some x0, some x1] M) := by
  unfold callN
  rfl
theorem u__law_times (k : Nat) (x0 : PV) (x1 : PV) (M : Mem) : callN prog W (k + 1) 33 [x0, x1] M = fin false M.length (execs (callN prog W k) W m__law_times [some x0, some x1] M) := by
  unfold callN
  rfl
theorem u__law_over (k : Nat) (x0 : PV) (x1 : PV) (M : Mem) : callN prog W (k + 1) 34 [x0, x1] M = fin false M.length (execs (callN prog W k) W m__law_over [some x0, some x1] M) := by
  unfold callN
  rfl
theorem u__law_under (k : Nat) (x0 : PV) (x1 : PV) (M : Mem) : callN prog W (k + 1) 35 [x0, x1] M = fin false M.length (execs (callN prog W k) W m__law_under [some x0, some x1] M) := by
  unfold callN
  rfl
theorem u__law_joined (k : Nat) (x0 : PV) (x1 : PV) (M : Mem) : callN prog W (k + 1) 36 [x0, x1] M = fin false M.length (execs (callN prog W k) W m__law_joined [some x0, some x1, none, none, none, none, none, none, none, none, none, none, none, none, none] M) := by
  unfold callN
  rfl
theorem u__law_any_chain (k : Nat) (x0 : PV) (x1 : PV) (M : Mem) : callN prog W (k + 1) 37 [x0, x1] M = fin false M.length (execs (callN prog W k) W m__law_any_chain [some x0, some x1, none, none, none, none] M) := by
  unfold callN
  rfl
theorem u__law_number (k : Nat) (x0 : PV) (x1 : PV) (M : Mem) : callN prog W (k + 1) 38 [x0, x1] M = fin false M.length (execs (callN prog W k) W m__law_number [some x0, some x1] M) := by
  unfold callN
  rfl
theorem u__law_ladder (k : Nat) (x0 : PV) (x1 : PV) (x2 : PV) (M : Mem) : callN prog W (k + 1) 39 [x0, x1, x2] M = fin false M.length (execs (callN prog W k) W m__law_ladder [some x0, some x1, some x2, none] M) := by
  unfold callN
  rfl
theorem u__law_chain_of (k : Nat) (x0 : PV) (M : Mem) : callN prog W (k + 1) 40 [x0] M = fin false M.length (execs (callN prog W k) W m__law_chain_of [some x0, none, none, none] M) := by
  unfold callN
  rfl
theorem u__law_right (k : Nat) (x0 : PV) (M : Mem) : callN prog W (k + 1) 41 [x0] M = fin false M.length (execs (callN prog W k) W m__law_right [some x0, none, none, none, none, none, none, none, none, none, none, none, none, none, none] M) := by
  unfold callN
  rfl
theorem u_law (k : Nat) (x0 : PV) (M : Mem) : callN prog W (k + 1) 42 [x0] M = fin false M.length (execs (callN prog W k) W m_law [some x0, none, none, none, none, none, none, none, none, none, none, none, none] M) := by
  unfold callN
  rfl
/-! ### fractions: what the defs reckon -/
local macro_rules | `(tactic| walk_at "ev") => `(tactic| simp -implicitDefEqProofs only [execs, exec, eval, evals, evalI, conds, bnd_some, bnd_none, bifb_t, bifb_f, bifb_d, bifb_b, iff_t, iff_d, nxt_nx, nxt_rt, binop, cmpop, addOp_ii, addOp_tt, addOp_ll, subOp_ii, mulOp_ii, fdivOp_ii, modOp_ii, cmpI_ii, tru_bl, tru_int, absB_i, intB_i, asM_int, asM_bl, asM_tup, asM_false, isOp_n, isOp_bb, isNon, setAll_nil, setAll_cons, bindT_nm, bindT_tp, fin_rt, fin_nx, leave_same, bltOp, idx_tup0, idx_tup1, idx_tup2, idx_tup3, idx_lst0, idx_lst1, idx_lst2, idx_lst3, eqD_ii, eqD_bb, eqD_fr, Option.map_some, Option.map_none, Option.bind_some, List.getElem?_cons_zero, List.getElem?_cons_succ, List.set_cons_zero, List.set_cons_succ, List.length_cons, List.length_nil, if_true, if_false, decide_true, decide_false, Bool.not_true, Bool.not_false, decide_eq_true_eq, sizeL, Nat.reduceAdd, Nat.reduceLeDiff, Nat.zero_add, beq_self_eq_true, seqG_tup, seqG_lst, lenB_tup, lenB_lst, idx_cup0, idx_cup1, setAt0, setAt1, cup, isTy, Bool.false_eq_true, newL_f, newL_t, fin_rtk, List.nil_append, wipeE, Int.reduceNe, Int.reduceEq, Int.reduceLT, Int.reduceLE, Int.reduceAdd, Int.reduceSub, Int.reduceMul, Int.reduceNeg, Int.reduceGT])
local macro_rules | `(tactic| walk_at "evt") => `(tactic| try (walk_at "ev"))
theorem abs_nat (a : Int) : (if a < 0 then -a else a) = ((a.natAbs : Nat) : Int) := by omega
theorem divisor_of_ok (k : Nat) (a b : Int) (M : Mem) {n : Nat} (hb : lt2 n b) (hn : n ≤ 100000) : callN prog W (k + 1) 2 [.int a, .int b] M = some (.int (Int.gcd a b : Nat), M) := by
  rw [u_divisor_of]
  unfold m_divisor_of
  walk_at "ev"
  rw [abs_nat, abs_nat, whl_gcd (fun x y => [some (.int x), some (.int y)]) _ _ M (fun a b => ?_) (fun a b h => ?_) n W a.natAbs b.natAbs hb (by unfold W; omega)]
  · walk_at "ev"
    rfl
  · walk_at "ev"
    rw [decide_not]
  · walk_at "ev"
    rw [if_pos h]
    rfl
theorem lt2_gcd {n : Nat} {a b : Int} (hb : lt2 n b) (h0 : b ≠ 0) : lt2 n ((Int.gcd a b : Nat) : Int) := by
  unfold lt2
  rw [Int.natAbs_natCast]
  refine Nat.lt_of_le_of_lt ?_ hb
  have := Int.gcd_dvd_right a b
  have h := Int.natAbs_dvd_natAbs.mpr this
  rw [Int.natAbs_natCast] at h
  exact Nat.le_of_dvd (by omega) h
theorem sgn_eq {b : Int} (h : b ≠ 0) : (if 0 < b then (1 : Int) else -1) = b.sign := by
  rcases Int.lt_or_gt_of_ne h with h1 | h1
  · rw [if_neg (by omega), Int.sign_eq_neg_one_of_neg h1]
  · rw [if_pos h1, Int.sign_eq_one_of_pos h1]
theorem sgn2_eq {b : Int} (h : b ≠ 0) : (if b < 0 then (-1 : Int) else 1) = b.sign := by
  rcases Int.lt_or_gt_of_ne h with h1 | h1
  · rw [if_pos h1, Int.sign_eq_neg_one_of_neg h1]
  · rw [if_neg (by omega), Int.sign_eq_one_of_pos h1]
theorem sign_small (b : Int) : -(2 ^ 64) < b.sign ∧ b.sign < 2 ^ 64 := by
  have e : (2 : Int) ^ 64 = 18446744073709551616 := rfl
  rcases Int.lt_trichotomy b 0 with h | h | h
  · rw [Int.sign_eq_neg_one_of_neg h]; omega
  · rw [h, Int.sign_zero]; omega
  · rw [Int.sign_eq_one_of_pos h]; omega
theorem low_facts {n : Nat} {b s : Int} (a : Int) (hb : lt2 n b) (h0 : b ≠ 0) (hn : n ≤ 8000) (hs : s = b.sign) : mulOk ((Int.gcd a b : Nat) : Int) s = true ∧ divOk a (((Int.gcd a b : Nat) : Int) * s) = true ∧ divOk b (((Int.gcd a b : Nat) : Int) * s) = true ∧
    a.fdiv (((Int.gcd a b : Nat) : Int) * s) = (Rat.divInt a b).num ∧ b.fdiv (((Int.gcd a b : Nat) : Int) * s) = ((Rat.divInt a b).den : Int) := by
  have hg := lt2_gcd (a := a) hb h0
  have hg0 : ((Int.gcd a b : Nat) : Int) ≠ 0 := by
    have := Int.gcd_pos_of_ne_zero_right a h0
    omega
  have hsn : s ≠ 0 := fun z => h0 (Int.sign_eq_zero_iff_zero.mp (hs ▸ z))
  have hp : lt2 n (((Int.gcd a b : Nat) : Int) * s) := by
    unfold lt2
    rw [hs, Int.natAbs_mul, Int.natAbs_sign, if_neg h0, Nat.mul_one]
    exact hg
  have hp0 : ((Int.gcd a b : Nat) : Int) * s ≠ 0 := fun z => (Int.mul_eq_zero.mp z).elim hg0 hsn
  have hm : mulOk ((Int.gcd a b : Nat) : Int) s = true := mulOk_small (hs ▸ sign_small b)
  exact ⟨hm, divOk_of hp0 hp (by omega), divOk_of hp0 hp (by omega), low_num h0 hs⟩
theorem lowest_ok (k : Nat) (a b : Int) (M : Mem) {n : Nat} (hb : lt2 n b) (h0 : b ≠ 0) (hn : n ≤ 8000) : callN prog W (k + 2) 3 [.int a, .int b] M = some (fr (Rat.divInt a b), M) := by
  rw [u_lowest]
  unfold m_lowest
  walk_at "ev"
  rw [divisor_of_ok k a b M hb (by omega)]
  walk_at "ev"
  have hs := sgn_eq h0
  by_cases hpos : 0 < b
  · rw [if_pos hpos] at hs
    obtain ⟨f1, f2, f3, f4, f5⟩ := low_facts a hb h0 hn hs
    rw [if_pos hpos]
    walk_at "ev"
    rw [f1]
    walk_at "ev"
    rw [f2, f3]
    walk_at "ev"
    rw [f4, f5]
    rfl
  · rw [if_neg hpos] at hs
    obtain ⟨f1, f2, f3, f4, f5⟩ := low_facts a hb h0 hn hs
    rw [if_neg hpos]
    walk_at "ev"
    rw [f1]
    walk_at "ev"
    rw [f2, f3]
    walk_at "ev"
    rw [f4, f5]
    rfl
theorem sum_of_ok (k : Nat) {p q : Rat} (M : Mem) {a b : Nat} (hp : sm a p) (hq : sm b q) (h : a + b ≤ 7990) : callN prog W (k + 3) 4 [fr p, fr q] M = some (fr (p + q), M) := by
  rw [u_sum_of]
  unfold m_sum_of fr
  walk_at "ev"
  rw [mulOk_of hp.1 hq.den (by omega), mulOk_of hq.1 hp.den (by omega), mulOk_of hp.den hq.den (by omega)]
  walk_at "ev"
  rw [lowest_ok k _ _ M (hp.den.mul hq.den) (Int.ne_of_gt (Int.mul_pos (den_pos p) (den_pos q))) (by omega), add_low]
  walk_at "ev"
  rfl
theorem less_by_ok (k : Nat) {p q : Rat} (M : Mem) {a b : Nat} (hp : sm a p) (hq : sm b q) (h : a + b ≤ 7990) : callN prog W (k + 3) 5 [fr p, fr q] M = some (fr (p - q), M) := by
  rw [u_less_by]
  unfold m_less_by fr
  walk_at "ev"
  rw [mulOk_of hp.1 hq.den (by omega), mulOk_of hq.1 hp.den (by omega), mulOk_of hp.den hq.den (by omega)]
  walk_at "ev"
  rw [lowest_ok k _ _ M (hp.den.mul hq.den) (Int.ne_of_gt (Int.mul_pos (den_pos p) (den_pos q))) (by omega), sub_low]
  walk_at "ev"
  rfl
theorem product_of_ok (k : Nat) {p q : Rat} (M : Mem) {a b : Nat} (hp : sm a p) (hq : sm b q) (h : a + b ≤ 7990) : callN prog W (k + 3) 6 [fr p, fr q] M = some (fr (p * q), M) := by
  rw [u_product_of]
  unfold m_product_of fr
  walk_at "ev"
  rw [mulOk_of hp.1 hq.1 (by omega), mulOk_of hp.den hq.den (by omega)]
  walk_at "ev"
  rw [lowest_ok k _ _ M (hp.den.mul hq.den) (Int.ne_of_gt (Int.mul_pos (den_pos p) (den_pos q))) (by omega), mul_low]
  walk_at "ev"
  rfl
theorem part_of_ok (k : Nat) {p q : Rat} (M : Mem) {a b : Nat} (hp : sm a p) (hq : sm b q) (h : a + b ≤ 7990) (h0 : q ≠ 0) : callN prog W (k + 3) 7 [fr p, fr q] M = some (fr (p / q), M) := by
  rw [u_part_of]
  unfold m_part_of fr
  walk_at "ev"
  rw [mulOk_of hp.1 hq.den (by omega), mulOk_of hp.den hq.1 (by omega)]
  walk_at "ev"
  rw [lowest_ok k _ _ M (hp.den.mul hq.1) (fun z => (Int.mul_eq_zero.mp z).elim (Int.ne_of_gt (den_pos p)) (num_ne h0)) (by omega), div_low p q h0]
  walk_at "ev"
  rfl
theorem is_under_ok (k : Nat) {p q : Rat} (M : Mem) {a b : Nat} (hp : sm a p) (hq : sm b q) (h : a + b ≤ 7990) : callN prog W (k + 1) 8 [fr p, fr q] M = some (.bl (decide (p < q)), M) := by
  rw [u_is_under]
  unfold m_is_under fr
  walk_at "ev"
  rw [mulOk_of hp.1 hq.den (by omega), mulOk_of hq.1 hp.den (by omega)]
  walk_at "ev"
  rw [decide_eq_decide.mpr (Rat.lt_iff p q)]

/-! ### the law's own fractions -/
theorem l_least_ok (k : Nat) (a b : Int) (M : Mem) {n : Nat} (hb : lt2 n b) (h0 : b ≠ 0) (hn : n ≤ 8000) : callN prog W (k + 1) 31 [.int a, .int b] M = some (fr (Rat.divInt a b), M) := by
  rw [u__law_least]
  unfold m__law_least
  walk_at "ev"
  rw [abs_nat, abs_nat, whl_gcd (fun x y => [some (.int a), some (.int b), some (.int x), some (.int y), none]) _ _ M (fun a b => ?_) (fun a b h => ?_) n W a.natAbs b.natAbs hb (by unfold W; omega)]
  rotate_left
  · walk_at "ev"
    rw [decide_not]
  · walk_at "ev"
    rw [if_pos h]
    walk_at "ev"
  walk_at "ev"
  have hs := sgn2_eq h0
  have hgd : ∀ s : Int, s = b.sign → mulOk s a = true ∧ mulOk s b = true ∧ divOk (s * a) ((Nat.gcd a.natAbs b.natAbs : Nat) : Int) = true ∧ divOk (s * b) ((Nat.gcd a.natAbs b.natAbs : Nat) : Int) = true ∧
      (s * a).fdiv ((Nat.gcd a.natAbs b.natAbs : Nat) : Int) = (Rat.divInt a b).num ∧ (s * b).fdiv ((Nat.gcd a.natAbs b.natAbs : Nat) : Int) = ((Rat.divInt a b).den : Int) := fun s hs => by
    have hg : lt2 n ((Nat.gcd a.natAbs b.natAbs : Nat) : Int) := lt2_gcd (a := a) hb h0
    have hg1 : 0 < Nat.gcd a.natAbs b.natAbs := Int.gcd_pos_of_ne_zero_right a h0
    have hg0 : ((Nat.gcd a.natAbs b.natAbs : Nat) : Int) ≠ 0 := by omega
    obtain ⟨l1, l2⟩ := low_num (a := a) h0 hs
    have hss : s * s = 1 := by
      rcases Int.lt_or_gt_of_ne h0 with h | h
      · rw [hs, Int.sign_eq_neg_one_of_neg h]; rfl
      · rw [hs, Int.sign_eq_one_of_pos h]; rfl
    have mv : ∀ z : Int, ((Int.gcd a b : Nat) : Int) ∣ z → (s * z).fdiv ((Nat.gcd a.natAbs b.natAbs : Nat) : Int) = z.fdiv (((Int.gcd a b : Nat) : Int) * s) := fun z ⟨w, hw⟩ => by
      have e1 : s * z = ((Nat.gcd a.natAbs b.natAbs : Nat) : Int) * (s * w) := by
        rw [hw, ← Int.mul_assoc, Int.mul_comm s, Int.mul_assoc]; rfl
      have e2 : z = (((Int.gcd a b : Nat) : Int) * s) * (s * w) := by
        rw [Int.mul_assoc, ← Int.mul_assoc s s w, hss, Int.one_mul]; exact hw
      have hgs : ((Int.gcd a b : Nat) : Int) * s ≠ 0 := fun q => by
        rcases Int.mul_eq_zero.mp q with q | q
        · exact hg0 q
        · rw [q] at hss; cases hss
      rw [Int.fdiv_eq_ediv_of_dvd ⟨s * w, e1⟩, Int.fdiv_eq_ediv_of_dvd ⟨s * w, e2⟩]
      conv => lhs; rw [e1]
      conv => rhs; rw [e2]
      rw [Int.mul_ediv_cancel_left _ hg0, Int.mul_ediv_cancel_left _ hgs]
    exact ⟨mulOk_smallL (hs ▸ sign_small b), mulOk_smallL (hs ▸ sign_small b), divOk_of hg0 hg (by omega), divOk_of hg0 hg (by omega), (mv a (Int.gcd_dvd_left a b)).trans l1, (mv b (Int.gcd_dvd_right a b)).trans l2⟩
  by_cases hpos : b < 0
  · rw [if_pos hpos] at hs
    obtain ⟨f1, f2, f3, f4, f5, f6⟩ := hgd _ hs
    rw [if_pos hpos]
    walk_at "ev"
    rw [f1, f2]
    walk_at "ev"
    rw [f3, f4]
    walk_at "ev"
    rw [f5, f6]
    rfl
  · rw [if_neg hpos] at hs
    obtain ⟨f1, f2, f3, f4, f5, f6⟩ := hgd _ hs
    rw [if_neg hpos]
    walk_at "ev"
    rw [f1, f2]
    walk_at "ev"
    rw [f3, f4]
    walk_at "ev"
    rw [f5, f6]
    rfl

theorem l_plus_ok (k : Nat) {p q : Rat} (M : Mem) {a b : Nat} (hp : sm a p) (hq : sm b q) (h : a + b ≤ 7990) : callN prog W (k + 2) 32 [fr p, fr q] M = some (fr (p + q), M) := by
  rw [u__law_plus]
  unfold m__law_plus fr
  walk_at "ev"
  rw [mulOk_of hp.1 hq.den (by omega), mulOk_of hq.1 hp.den (by omega), mulOk_of hp.den hq.den (by omega)]
  walk_at "ev"
  rw [l_least_ok k _ _ M (hp.den.mul hq.den) (Int.ne_of_gt (Int.mul_pos (den_pos p) (den_pos q))) (by omega), add_low]
  walk_at "ev"
  rfl

theorem l_times_ok (k : Nat) {p q : Rat} (M : Mem) {a b : Nat} (hp : sm a p) (hq : sm b q) (h : a + b ≤ 7990) : callN prog W (k + 2) 33 [fr p, fr q] M = some (fr (p * q), M) := by
  rw [u__law_times]
  unfold m__law_times fr
  walk_at "ev"
  rw [mulOk_of hp.1 hq.1 (by omega), mulOk_of hp.den hq.den (by omega)]
  walk_at "ev"
  rw [l_least_ok k _ _ M (hp.den.mul hq.den) (Int.ne_of_gt (Int.mul_pos (den_pos p) (den_pos q))) (by omega), mul_low]
  walk_at "ev"
  rfl

theorem l_over_ok (k : Nat) {p q : Rat} (M : Mem) {a b : Nat} (hp : sm a p) (hq : sm b q) (h : a + b ≤ 7990) (h0 : q ≠ 0) : callN prog W (k + 2) 34 [fr p, fr q] M = some (fr (p / q), M) := by
  rw [u__law_over]
  unfold m__law_over fr
  walk_at "ev"
  rw [mulOk_of hp.1 hq.den (by omega), mulOk_of hp.den hq.1 (by omega)]
  walk_at "ev"
  rw [l_least_ok k _ _ M (hp.den.mul hq.1) (fun z => (Int.mul_eq_zero.mp z).elim (Int.ne_of_gt (den_pos p)) (num_ne h0)) (by omega), div_low p q h0]
  walk_at "ev"
  rfl

theorem l_under_ok (k : Nat) {p q : Rat} (M : Mem) {a b : Nat} (hp : sm a p) (hq : sm b q) (h : a + b ≤ 7990) : callN prog W (k + 1) 35 [fr p, fr q] M = some (.bl (decide (p < q)), M) := by
  rw [u__law_under]
  unfold m__law_under fr
  walk_at "ev"
  rw [mulOk_of hp.1 hq.den (by omega), mulOk_of hq.1 hp.den (by omega)]
  walk_at "ev"
  rw [decide_eq_decide.mpr (Rat.lt_iff p q)]

/-! ### draws -/
theorem roll_ok (k : Nat) {x y many : Int} (T : Mem) (h : CupB x y) (h1 : 1 ≤ many) (h2 : lt2 8000 many) :
    ∃ r x' y', callN prog W (k + 1) 28 [.ref 0, .int many] (cup x y :: T) = some (.int r, cup x' y' :: T) ∧ CupB x' y' ∧ 0 ≤ r ∧ r < many := by
  obtain ⟨hx, hy, hy2⟩ := h
  rw [u__law_roll]
  unfold m__law_roll
  walk_at "evt"
  have hne : many ≠ 0 := by omega
  have d0 := divOk_of (x := x) hne h2 (by omega)
  by_cases hpos : 0 < x
  · rw [if_pos hpos]
    rw [if_pos hne]
    walk_at "evt"
    rw [d0]
    walk_at "evt"
    refine ⟨x.fmod many, x.fdiv many, y, ?_, ⟨?_, hy, hy2⟩, ?_, ?_⟩
    · exact leave_len rfl
    · rw [Int.fdiv_eq_ediv_of_nonneg x (by omega)]
      exact Int.ediv_nonneg hx (by omega)
    · rw [Int.fmod_eq_emod_of_nonneg x (by omega)]
      exact Int.emod_nonneg x hne
    · rw [Int.fmod_eq_emod_of_nonneg x (by omega)]
      exact Int.emod_lt_of_pos x (by omega)
  · rw [if_neg hpos]
    walk_at "evt"
    have c1 : mulOk y 31051 = true := mulOk_small (by decide)
    rw [c1]
    walk_at "evt"
    have e1 : 0 ≤ (y * 31051 + 7993).fmod 2147483543 ∧ (y * 31051 + 7993).fmod 2147483543 < 2147483543 := by
      rw [Int.fmod_eq_emod_of_nonneg _ (by omega)]
      omega
    generalize (y * 31051 + 7993).fmod 2147483543 = y1 at e1
    walk_at "evt"
    have c2 : mulOk y1 (y1 + 229) = true := mulOk_small (by omega)
    rw [c2]
    walk_at "evt"
    generalize (y1 * (y1 + 229)).fmod 2147483587 = d
    have c3 : divOk d 821 = true := divOk_of (n := 10) (by decide) (by unfold lt2; decide) (by omega)
    rw [c3]
    walk_at "evt"
    rw [if_pos hne]
    refine ⟨(d.fdiv 821).fmod many, x, y1, leave_len rfl, ⟨hx, e1.1, by omega⟩, ?_, ?_⟩
    · rw [Int.fmod_eq_emod_of_nonneg _ (by omega)]
      exact Int.emod_nonneg _ hne
    · rw [Int.fmod_eq_emod_of_nonneg _ (by omega)]
      exact Int.emod_lt_of_pos _ (by omega)
theorem listB_rol (M : Mem) (xs : List PV) : listB M [.rol xs] = some (.lst xs) := rfl
theorem cup_ok (k : Nat) (ns : List Int) (hl : ns.length ≤ 63) : ∃ x y, callN prog W (k + 1) 27 [.rol (ns.map PV.int)] [] = some (.ref 0, [cup x y]) ∧ CupB x y := by
  rw [u__law_cup]
  unfold m__law_cup
  walk_at "evt"
  rw [listB_rol]
  walk_at "evt"
  rw [if_pos (by rw [List.length_map]; omega)]
  obtain ⟨c, rest, e, hc⟩ : ∃ c rest, ns.map PV.int ++ [PV.int 0] = .int c :: rest ∧ True := by
    cases ns with
    | nil => exact ⟨0, [], rfl, trivial⟩
    | cons n ns => exact ⟨n, ns.map PV.int ++ [PV.int 0], rfl, trivial⟩
  rw [e]
  walk_at "evt"
  rw [abs_nat]
  generalize hcc : ((c.natAbs : Nat) : Int) = a
  have ha : 0 ≤ a := by omega
  have p18 : powOp (.int 10) (.int 18) = some (.int 1000000000000000000) := by rfl
  rw [p18]
  walk_at "evt"
  have c1 : mulOk a 283 = true := mulOk_small (by decide)
  have c2 : divOk a 73 = true := divOk_of (n := 7) (by decide) (by unfold lt2; decide) (by omega)
  rw [c1, c2]
  by_cases h18 : 1000000000000000000 ≤ a
  · walk_at "evt"
    rw [if_pos h18]
    walk_at "evt"
    have e1 : 0 ≤ (a * 283 + 3907).fmod 2077503167 ∧ (a * 283 + 3907).fmod 2077503167 < 2077503167 := by
      rw [Int.fmod_eq_emod_of_nonneg _ (by omega)]
      omega
    refine ⟨_, _, rfl, ?_, by omega, by omega⟩
    rw [Int.fdiv_eq_ediv_of_nonneg _ (by omega)]
    omega
  · walk_at "evt"
    rw [if_neg h18]
    walk_at "evt"
    have e1 : 0 ≤ (a * 283 + 3907).fmod 2077503167 ∧ (a * 283 + 3907).fmod 2077503167 < 2077503167 := by
      rw [Int.fmod_eq_emod_of_nonneg _ (by omega)]
      omega
    exact ⟨0, _, rfl, by omega, by omega, by omega⟩

/-! ### equal, including the kinds -/
theorem sort_ok (k : Nat) (v : PV) (M : Mem) : callN prog W (k + 1) 29 [v] M = some (.int (sortP v), M) := by
  rw [u__law_sort]
  unfold m__law_sort
  cases v <;> (walk_at "ev"; rfl)
theorem in_45 (M : Mem) (v : PV) : inOp M (.int (sortP v)) (.tup [.int 4, .int 5]) = some (decide (4 ≤ sortP v)) := by
  cases v <;> rfl
theorem eqD_nil (M : Mem) : eqD M (.lst []) (.lst []) = some true := rfl
theorem like_seq (k : Nat) (M : Mem) (a b : PV) (kd : Bool) (xs : List PV) (g : Gd) (ha : seqG M a = some (kd, xs, g)) (hb : seqG M b = some (kd, xs, [])) (hg : gOk (g ++ []) M = true) (la : lenB M [a] = some (.int xs.length)) (lb : lenB M [b] = some (.int xs.length))
    (hs : sortP a = sortP b) (h4 : 4 ≤ sortP b) (h6 : sortP b ≠ 6) (ih : ∀ x ∈ xs, callN prog W (k + 1) 30 [x, x] M = some (.bl true, M)) : callN prog W (k + 2) 30 [a, b] M = some (.bl true, M) := by
  rw [u__law_like]
  unfold m__law_like
  walk_at "evt"
  rw [sort_ok]
  walk_at "evt"
  rw [sort_ok, hs]
  walk_at "evt"
  rw [if_neg h6]
  walk_at "evt"
  rw [in_45]
  walk_at "evt"
  rw [if_pos h4]
  walk_at "evt"
  rw [la]
  walk_at "evt"
  rw [lb]
  walk_at "evt"
  rw [ha, hb]
  walk_at "evt"
  rw [lcL_none hg]
  · walk_at "evt"
    rw [eqD_nil]
    walk_at "evt"
  · intro z hz
    obtain ⟨x, hx, rfl⟩ := zip_mem hz
    refine ⟨_, by walk_at "ev"; rfl, ?_⟩
    walk_at "evt"
    rw [ih x hx]
    walk_at "evt"
theorem eqD_scal (M : Mem) (v : PV) (h : pl v = true) (h4 : ¬ 4 ≤ sortP v) : eqD M v v = some true := by
  cases v with
  | non => rfl
  | bl b => show some (b == b) = _; rw [beq_self_eq_true]
  | int i => rw [eqD_ii, decide_eq_true rfl]
  | str s =>
    have h' : PySem.PyData.canLay0 (.str s) = true := h
    show (if (PySem.SeqAt.shaped (.str s) && PySem.SeqAt.shaped (.str s)) = true then some (s == s) else none) = _
    unfold PySem.SeqAt.shaped
    rw [h']
    show (if true = true then some (s == s) else none) = _
    rw [if_pos rfl, beq_self_eq_true]
  | tup xs => exact absurd (show (4 : Int) ≤ 4 by decide) h4
  | lst xs => exact absurd (show (4 : Int) ≤ 5 by decide) h4
  | rol xs => exact absurd (show (4 : Int) ≤ 5 by decide) h4
  | ref n => exact absurd (show (4 : Int) ≤ 5 by decide) h4
theorem like_self : ∀ (k : Nat) (v : PV) (M : Mem), pl v = true → dpt v ≤ k → callN prog W (k + 2) 30 [v, v] M = some (.bl true, M)
  | k, v, M, hp, hd => by
    by_cases h4 : 4 ≤ sortP v
    · cases v with
      | tup xs =>
        have hd' : dpts xs + 1 ≤ k := hd
        obtain ⟨k, rfl⟩ : ∃ j, k = j + 1 := ⟨k - 1, by omega⟩
        refine like_seq (k + 1) M _ _ true xs [] rfl rfl rfl rfl rfl rfl h4 (by show (4 : Int) ≠ 6; decide) fun x hx => ?_
        obtain ⟨h1, h2⟩ := pls_mem hp hx
        exact like_self k x M h1 (by omega)
      | lst xs =>
        have hd' : dpts xs + 1 ≤ k := hd
        obtain ⟨k, rfl⟩ : ∃ j, k = j + 1 := ⟨k - 1, by omega⟩
        refine like_seq (k + 1) M _ _ false xs [] rfl rfl rfl rfl rfl rfl h4 (by show (5 : Int) ≠ 6; decide) fun x hx => ?_
        obtain ⟨h1, h2⟩ := pls_mem hp hx
        exact like_self k x M h1 (by omega)
      | rol xs => cases hp
      | ref n => cases hp
      | non => exact absurd h4 (by decide)
      | bl b => exact absurd h4 (by show ¬ (4 : Int) ≤ 1; decide)
      | int i => exact absurd h4 (by show ¬ (4 : Int) ≤ 2; decide)
      | str s => exact absurd h4 (by show ¬ (4 : Int) ≤ 3; decide)
    · rw [u__law_like]
      unfold m__law_like
      walk_at "evt"
      rw [sort_ok]
      walk_at "evt"
      rw [sort_ok]
      walk_at "evt"
      rw [if_neg (by omega)]
      walk_at "evt"
      rw [in_45]
      walk_at "evt"
      rw [if_neg h4]
      walk_at "evt"
      rw [eqD_scal M v hp h4]
      walk_at "evt"
  termination_by k => k
/-- a told list (a cell) beside the due one -/
theorem like_ref (k : Nat) (n : Nat) (xs : List PV) (M : Mem) (h : M[n]? = some (.lst xs)) (hp : pls xs = true) (hd : dpts xs ≤ k) : callN prog W (k + 3) 30 [.ref n, .lst xs] M = some (.bl true, M) := by
  refine like_seq (k + 1) M _ _ false xs [(n, xs)] (by show (match M[n]? with | some (.lst xs) => some (false, xs, [(n, xs)]) | _ => none) = _; rw [h]) rfl ?_ ?_ rfl rfl (by show (4 : Int) ≤ 5; decide) (by show (5 : Int) ≠ 6; decide) fun x hx => ?_
  · show ((match M[n]? with | some (.lst ys) => pbeqs ys xs | _ => false) && true) = true
    rw [h, Bool.and_true]
    exact pbeqs_self xs
  · unfold lenB itemsT items
    simp only [h]
    rfl
  · obtain ⟨h1, h2⟩ := pls_mem hp hx
    exact like_self k x M h1 (by omega)

/-! ### chains -/
theorem fr_0' : (PV.tup [.int 0, .int 1]) = fr 0 := rfl
theorem fr_1' : (PV.tup [.int 1, .int 1]) = fr 1 := rfl
theorem fr_m1' : (PV.tup [.int (-1), .int 1]) = fr (-1) := rfl
theorem idx_fr0 (M : Mem) (q : Rat) : idxOp M (fr q) (.int 0) = some (.int q.num) := idx_tup0 _ _ _
theorem idx_fr1 (M : Mem) (q : Rat) : idxOp M (fr q) (.int 1) = some (.int q.den) := idx_tup1 _ _ _ _
theorem lcL_n {t : T} {c : Env → Mem → Option (Bool × Mem)} {e : Env → Mem → Option (PV × Mem)} {env : Env} {acc : List PV} {M : Mem} : lcL t [] c e env [] acc M = some (acc, M) := by unfold lcL; rfl
theorem lcL_c {t : T} {c : Env → Mem → Option (Bool × Mem)} {e : Env → Mem → Option (PV × Mem)} {env : Env} {x : PV} {xs acc : List PV} {M : Mem} : lcL t [] c e env (x :: xs) acc M =
    (bindT t x env).bind fun env1 => bnd (c env1 M) fun b M1 => bifb (some b) (bnd (e env1 M1) fun v M2 => lcL t [] c e env xs (acc ++ [v]) M2) (lcL t [] c e env xs acc M1) := by
  conv => lhs; unfold lcL
  show (match bindT t x env with | some env1 => _ | none => none) = _
  cases bindT t x env with
  | none => rfl
  | some env1 =>
    show (match c env1 M with | some (true, M1) => _ | some (false, M1) => _ | none => none) = bnd (c env1 M) _
    rcases c env1 M with _ | ⟨b, M1⟩
    · rfl
    · cases b
      · rfl
      · show (match e env1 M1 with | some (v, M2) => _ | none => none) = bnd (e env1 M1) _
        rcases e env1 M1 with _ | ⟨v, M2⟩ <;> rfl
theorem forL_n {t : T} {body : Env → Mem → Option R} {env : Env} {M : Mem} : forL t [] body [] env M = some (.nx env M) := by unfold forL; rfl
theorem forL_c {t : T} {body : Env → Mem → Option R} {x : PV} {xs : List PV} {env : Env} {M : Mem} : forL t [] body (x :: xs) env M = (bindT t x env).bind fun env1 => nxt (body env1 M) fun env2 M2 => forL t [] body xs env2 M2 := by
  conv => lhs; unfold forL
  show (match bindT t x env with | some env1 => _ | none => none) = _
  cases bindT t x env with
  | none => rfl
  | some env1 =>
    show (match body env1 M with | some (.nx env2 M2) => _ | r => r) = nxt (body env1 M) _
    rcases body env1 M with _ | r
    · rfl
    · cases r <;> rfl
local macro_rules | `(tactic| walk_at "evf") => `(tactic| simp -implicitDefEqProofs only [execs, exec, eval, evals, evalI, conds, bnd_some, bnd_none, bifb_t, bifb_f, bifb_d, bifb_b, iff_t, iff_d, nxt_nx, nxt_rt, binop, cmpop, addOp_ii, addOp_tt, addOp_ll, subOp_ii, mulOp_ii, fdivOp_ii, modOp_ii, cmpI_ii, tru_bl, tru_int, absB_i, intB_i, asM_int, asM_bl, asM_tup, asM_false, isOp_n, isOp_bb, isNon, setAll_nil, setAll_cons, bindT_nm, bindT_tp, fin_rt, fin_nx, leave_same, bltOp, idx_tup0, idx_tup1, idx_tup2, idx_tup3, idx_lst0, idx_lst1, idx_lst2, idx_lst3, eqD_ii, eqD_bb, eqD_fr, Option.map_some, Option.map_none, Option.bind_some, List.getElem?_cons_zero, List.getElem?_cons_succ, List.set_cons_zero, List.set_cons_succ, List.length_cons, List.length_nil, if_true, if_false, decide_true, decide_false, Bool.not_true, Bool.not_false, decide_eq_true_eq, sizeL, Nat.reduceAdd, Nat.reduceLeDiff, Nat.zero_add, beq_self_eq_true, seqG_tup, seqG_lst, lenB_tup, lenB_lst, idx_cup0, idx_cup1, setAt0, setAt1, cup, isTy, Bool.false_eq_true, newL_f, newL_t, fin_rtk, List.nil_append, wipeE, Int.reduceNe, Int.reduceEq, Int.reduceLT, Int.reduceLE, Int.reduceAdd, Int.reduceSub, Int.reduceMul, Int.reduceNeg, Int.reduceGT, fr_0', fr_1', fr_m1', idx_fr0, idx_fr1, lcL_n, lcL_c, forL_n, forL_c, allB, items, boolsOf, List.all_cons, List.all_nil, id_eq, Bool.and_true, List.cons_append, List.append_nil, cmpop, k_ONE, k_NONE, k_PLAIN, k_MANY, k_DIGITS, not_true_eq_false, not_false_eq_true, ite_true, ite_false, *])
theorem is_tuple_of_ok (k : Nat) (xs : List PV) (lo hi : Int) (M : Mem) (h1 : lo ≤ (xs.length : Int)) (h2 : (xs.length : Int) ≤ hi) : callN prog W (k + 1) 1 [.tup xs, .int lo, .int hi] M = some (.bl true, M) := by
  rw [u_is_tuple_of]
  unfold m_is_tuple_of
  walk_at "evf"
theorem is_integer_ok (k : Nat) (i : Int) (M : Mem) : callN prog W (k + 1) 0 [.int i] M = some (.bl true, M) := by
  rw [u_is_integer]
  unfold m_is_integer
  walk_at "evf"
theorem num_one {a : Int} {q : Rat} : Int.gcd q.num (q.den : Int) = 1 := by
  have := q.reduced
  unfold Nat.Coprime at this
  unfold Int.gcd
  rw [Int.natAbs_natCast]
  exact this
theorem fits_fraction_ok (k : Nat) {q : Rat} (M : Mem) (h : sm 132 q) : callN prog W (k + 2) 9 [fr q] M = some (.bl true, M) := by
  obtain ⟨h1, h2⟩ := h
  have e : (2 : Nat) ^ 132 < 10000000000000000000000000000000000000000 := by decide +kernel
  have p1 : -10000000000000000000000000000000000000000 < q.num := by unfold lt2 at h1; omega
  have p2 : q.num < 10000000000000000000000000000000000000000 := by unfold lt2 at h1; omega
  have p3 : -10000000000000000000000000000000000000000 < (q.den : Int) := by omega
  have p4 : (q.den : Int) < 10000000000000000000000000000000000000000 := by omega
  have p5 : 1 ≤ (q.den : Int) := den_pos q
  have f1 : ∀ k, callN prog W (k + 1) 1 [.tup [.int q.num, .int q.den], .int 2, .int 2] M = some (.bl true, M) := fun k => is_tuple_of_ok k _ _ _ M (by simp) (by simp)
  have f2 := fun k i => is_integer_ok k i M
  have f3 : ∀ k, callN prog W (k + 1) 2 [.int q.num, .int q.den] M = some (.int 1, M) := fun k => by
    rw [divisor_of_ok k _ _ M (n := 132) (by unfold lt2; rw [Int.natAbs_natCast]; exact h2) (by omega), num_one (a := 0)]
    rfl
  rw [u_fits_fraction]
  unfold m_fits_fraction fr
  walk_at "evf"

def ch (a b c d : Rat) : PV := .tup [fr a, fr b, fr c, fr d]
structure Sm (n : Nat) (a b c d : Rat) : Prop where
  a : sm n a
  b : sm n b
  c : sm n c
  d : sm n d
theorem sm_0 (n : Nat) (h : 1 ≤ n) : sm n 0 := by
  have : 2 ^ 1 ≤ 2 ^ n := Nat.pow_le_pow_right (by decide) h
  refine ⟨?_, ?_⟩
  · show (0 : Nat) < 2 ^ n; omega
  · show (1 : Nat) < 2 ^ n; omega
theorem sm_1 (n : Nat) (h : 1 ≤ n) : sm n 1 := by
  have : 2 ^ 1 ≤ 2 ^ n := Nat.pow_le_pow_right (by decide) h
  refine ⟨?_, ?_⟩
  · show (1 : Nat) < 2 ^ n; omega
  · show (1 : Nat) < 2 ^ n; omega
theorem fits_chain_ok (k : Nat) {a b c d : Rat} (M : Mem) (h : Sm 132 a b c d) (hd : a * d - b * c = 1) : callN prog W (k + 4) 10 [ch a b c d] M = some (.bl true, M) := by
  have f1 : ∀ k, callN prog W (k + 1) 1 [.tup [fr a, fr b, fr c, fr d], .int 4, .int 4] M = some (.bl true, M) := fun k => is_tuple_of_ok k _ _ _ M (by simp) (by simp)
  have f2 := fun k => fits_fraction_ok k M h.a
  have f3 := fun k => fits_fraction_ok k M h.b
  have f4 := fun k => fits_fraction_ok k M h.c
  have f5 := fun k => fits_fraction_ok k M h.d
  have f6 := fun k => product_of_ok k M h.a h.d (by omega)
  have f7 := fun k => product_of_ok k M h.b h.c (by omega)
  have f8 := fun k => less_by_ok k M (sm_mul h.a h.d) (sm_mul h.b h.c) (by omega)
  rw [u_fits_chain]
  unfold m_fits_chain ch
  walk_at "evf"
theorem need_chain_ok (k : Nat) {a b c d : Rat} (M : Mem) (h : Sm 132 a b c d) (hd : a * d - b * c = 1) : callN prog W (k + 5) 11 [ch a b c d] M = some (.non, M) := by
  have f1 := fun k => fits_chain_ok k M h hd
  rw [u_need_chain]
  unfold m_need_chain
  walk_at "evf"
theorem is_from_none_ok (k : Nat) (q : Rat) (M : Mem) : callN prog W (k + 1) 12 [fr q] M = some (.bl (decide (0 ≤ q)), M) := by
  rw [u_is_from_none]
  unfold m_is_from_none
  walk_at "evf"
  rw [decide_eq_decide.mpr Rat.num_nonneg]
theorem joined_chain_ok (k : Nat) {a b c d e f g h : Rat} (M : Mem) {n m : Nat} (p : Sm n a b c d) (q : Sm m e f g h) (hn : 2 * (n + m) ≤ 7990) :
    callN prog W (k + 4) 13 [ch a b c d, ch e f g h] M = some (ch (a * e + b * g) (a * f + b * h) (c * e + d * g) (c * f + d * h), M) := by
  have f1 := fun k => product_of_ok k M p.a q.a (by omega)
  have f2 := fun k => product_of_ok k M p.b q.c (by omega)
  have f3 := fun k => product_of_ok k M p.a q.b (by omega)
  have f4 := fun k => product_of_ok k M p.b q.d (by omega)
  have f5 := fun k => product_of_ok k M p.c q.a (by omega)
  have f6 := fun k => product_of_ok k M p.d q.c (by omega)
  have f7 := fun k => product_of_ok k M p.c q.b (by omega)
  have f8 := fun k => product_of_ok k M p.d q.d (by omega)
  have g1 := fun k => sum_of_ok k M (sm_mul p.a q.a) (sm_mul p.b q.c) (by omega)
  have g2 := fun k => sum_of_ok k M (sm_mul p.a q.b) (sm_mul p.b q.d) (by omega)
  have g3 := fun k => sum_of_ok k M (sm_mul p.c q.a) (sm_mul p.d q.c) (by omega)
  have g4 := fun k => sum_of_ok k M (sm_mul p.c q.b) (sm_mul p.d q.d) (by omega)
  rw [u_joined_chain]
  unfold m_joined_chain ch
  walk_at "evf"
theorem Sm_join {a b c d e f g h : Rat} {n m : Nat} (p : Sm n a b c d) (q : Sm m e f g h) : Sm (2 * (n + m) + 1) (a * e + b * g) (a * f + b * h) (c * e + d * g) (c * f + d * h) :=
  ⟨(sm_add (sm_mul p.a q.a) (sm_mul p.b q.c)).mono (by omega), (sm_add (sm_mul p.a q.b) (sm_mul p.b q.d)).mono (by omega), (sm_add (sm_mul p.c q.a) (sm_mul p.d q.c)).mono (by omega), (sm_add (sm_mul p.c q.b) (sm_mul p.d q.d)).mono (by omega)⟩
theorem turned_chain_ok (k : Nat) (a b c d : Rat) (M : Mem) : callN prog W (k + 1) 15 [ch a b c d] M = some (ch d b c a, M) := by
  rw [u_turned_chain]
  unfold m_turned_chain ch
  walk_at "evf"
def told (a b c d : Rat) : Prop := 1 ≤ a ∧ 1 ≤ d ∧ 0 ≤ b ∧ 0 ≤ c
instance (a b c d : Rat) : Decidable (told a b c d) := by unfold told; exact inferInstance
theorem told_eq (a b c d : Rat) : told a b c d ↔ (¬ a < 1 ∧ ¬ d < 1 ∧ 0 ≤ b ∧ 0 ≤ c) := by
  unfold told
  rw [Rat.not_lt, Rat.not_lt]
theorem is_told_in_ok (k : Nat) {a b c d : Rat} (M : Mem) (h : Sm 132 a b c d) : callN prog W (k + 2) 16 [ch a b c d] M = some (.bl (decide (told a b c d)), M) := by
  have f1 := fun k => is_under_ok k M h.a (sm_1 1 (by decide)) (by omega)
  have f2 := fun k => is_under_ok k M h.d (sm_1 1 (by decide)) (by omega)
  have f3 := fun k q => is_from_none_ok k q M
  rw [u_is_told_in]
  unfold m_is_told_in ch
  have e : decide (told a b c d) = decide (¬ a < 1 ∧ ¬ d < 1 ∧ 0 ≤ b ∧ 0 ≤ c) := decide_eq_decide.mpr (told_eq a b c d)
  rw [e]
  by_cases h1 : a < 1
  · walk_at "evf"
    simp
  · by_cases h2 : d < 1
    · walk_at "evf"
      simp
    · by_cases h3 : 0 ≤ b
      · walk_at "evf"
        simp
      · walk_at "evf"
        simp
theorem chain_turned_ok (k : Nat) {a b c d : Rat} (M : Mem) (h : Sm 132 a b c d) (hd : a * d - b * c = 1) : callN prog W (k + 6) 17 [ch a b c d] M = some (ch d b c a, M) := by
  have f1 := fun k => need_chain_ok k M h hd
  have f2 := fun k => turned_chain_ok k a b c d M
  rw [u_chain_turned]
  unfold m_chain_turned
  walk_at "evf"
theorem is_told_chain_ok (k : Nat) {a b c d : Rat} (M : Mem) (h : Sm 132 a b c d) (hd : a * d - b * c = 1) : callN prog W (k + 6) 18 [ch a b c d] M = some (.bl (decide (told a b c d)), M) := by
  have f1 := fun k => need_chain_ok k M h hd
  have f2 := fun k => is_told_in_ok k M h
  rw [u_is_told_chain]
  unfold m_is_told_chain
  walk_at "evf"
def pvo (b : Bool) (v : PV) : PV := if b then v else .non
theorem star_ok (k : Nat) {a b c d : Rat} (M : Mem) (h : Sm 132 a b c d) (hd : a * d - b * c = 1) : callN prog W (k + 6) 19 [ch a b c d] M =
    some (if told a b c d then (if c = 0 then .tup [fr b, fr 0, fr 0] else .tup [fr ((a - 1) / c), fr c, fr ((d - 1) / c)]) else .non, M) := by
  have f1 := fun k => need_chain_ok k M h hd
  have f2 := fun k => is_told_in_ok k M h
  unfold ch at f1 f2
  rw [u_star_of_chain]
  unfold m_star_of_chain ch
  by_cases ht : told a b c d
  · by_cases hc : c = 0
    · subst hc
      walk_at "evf"
    · have f3 := fun k => less_by_ok k M h.a (sm_1 1 (by decide)) (by omega)
      have f4 := fun k => less_by_ok k M h.d (sm_1 1 (by decide)) (by omega)
      have f5 := fun k => part_of_ok k M (sm_sub h.a (sm_1 1 (by decide))) h.c (by omega) hc
      have f6 := fun k => part_of_ok k M (sm_sub h.d (sm_1 1 (by decide))) h.c (by omega) hc
      walk_at "evf"
  · walk_at "evf"
theorem ring_ok (k : Nat) {a b c d : Rat} (M : Mem) (h : Sm 132 a b c d) (hd : a * d - b * c = 1) : callN prog W (k + 6) 20 [ch a b c d] M =
    some (if told a b c d then (if b = 0 then .non else .tup [fr ((d - 1) / b), fr b, fr ((a - 1) / b)]) else .non, M) := by
  have f1 := fun k => need_chain_ok k M h hd
  have f2 := fun k => is_told_in_ok k M h
  unfold ch at f1 f2
  rw [u_ring_of_chain]
  unfold m_ring_of_chain ch
  by_cases ht : told a b c d
  · by_cases hc : b = 0
    · subst hc
      walk_at "evf"
    · have f3 := fun k => less_by_ok k M h.a (sm_1 1 (by decide)) (by omega)
      have f4 := fun k => less_by_ok k M h.d (sm_1 1 (by decide)) (by omega)
      have f5 := fun k => part_of_ok k M (sm_sub h.a (sm_1 1 (by decide))) h.b (by omega) hc
      have f6 := fun k => part_of_ok k M (sm_sub h.d (sm_1 1 (by decide))) h.b (by omega) hc
      walk_at "evf"
  · walk_at "evf"

/-! ### two rungs -/
def rg (p q : Rat) : PV := .tup [fr p, fr q]
theorem fits_rung_ok (k : Nat) {p q : Rat} (M : Mem) (h1 : sm 132 p) (h2 : sm 132 q) (h3 : 0 ≤ p) (h4 : 0 ≤ q) : callN prog W (k + 3) 21 [rg p q] M = some (.bl true, M) := by
  have f1 : ∀ k, callN prog W (k + 1) 1 [.tup [fr p, fr q], .int 2, .int 2] M = some (.bl true, M) := fun k => is_tuple_of_ok k _ _ _ M (by simp) (by simp)
  have f2 := fun k => fits_fraction_ok k M h1
  have f3 := fun k => fits_fraction_ok k M h2
  have f4 := fun k q => is_from_none_ok k q M
  rw [u_fits_rung]
  unfold m_fits_rung rg
  walk_at "evf"
theorem fits_ladder_ok (k : Nat) {p q r s : Rat} (M : Mem) (h : Sm 132 p q r s) (h1 : 0 ≤ p) (h2 : 0 ≤ q) (h3 : 0 ≤ r) (h4 : 0 ≤ s) : callN prog W (k + 4) 22 [.tup [rg p q, rg r s]] M = some (.bl true, M) := by
  have f1 : ∀ k, callN prog W (k + 1) 1 [.tup [rg p q, rg r s], .int 0, .int 30] M = some (.bl true, M) := fun k => is_tuple_of_ok k _ _ _ M (by simp) (by simp)
  have f2 := fun k => fits_rung_ok k M h.a h.b h1 h2
  have f3 := fun k => fits_rung_ok k M h.c h.d h3 h4
  rw [u_fits_ladder]
  unfold m_fits_ladder
  walk_at "evf"
theorem ch_eq {a b c d a' b' c' d' : Rat} (h1 : a = a') (h2 : b = b') (h3 : c = c') (h4 : d = d') : ch a b c d = ch a' b' c' d' := by subst h1 h2 h3 h4; rfl
theorem join_to {a b c d e f g h A B C D : Rat} {n m : Nat} (p : Sm n a b c d) (q : Sm m e f g h) (hn : 2 * (n + m) ≤ 7990) (hA : a * e + b * g = A) (hB : a * f + b * h = B) (hC : c * e + d * g = C) (hD : c * f + d * h = D) :
    (∀ k M, callN prog W (k + 4) 13 [ch a b c d, ch e f g h] M = some (ch A B C D, M)) ∧ Sm (2 * (n + m) + 1) A B C D := by
  subst hA hB hC hD
  exact ⟨fun k M => joined_chain_ok k M p q hn, Sm_join p q⟩
theorem chain_in_ok (k : Nat) {p q r s : Rat} (M : Mem) (h : Sm 132 p q r s) : callN prog W (k + 6) 24 [.tup [rg p q, rg r s]] M =
    some (ch ((1 + p * q) * (1 + r * s) + p * s) ((1 + p * q) * r + p) (q * (1 + r * s) + s) (q * r + 1), M) := by
  have s0 : Sm 1 1 0 0 1 := ⟨sm_1 1 (by decide), sm_0 1 (by decide), sm_0 1 (by decide), sm_1 1 (by decide)⟩
  have r1 : Sm 132 1 p 0 1 := ⟨sm_1 _ (by decide), h.a, sm_0 _ (by decide), sm_1 _ (by decide)⟩
  have r2 : Sm 132 1 0 q 1 := ⟨sm_1 _ (by decide), sm_0 _ (by decide), h.b, sm_1 _ (by decide)⟩
  have r3 : Sm 132 1 r 0 1 := ⟨sm_1 _ (by decide), h.c, sm_0 _ (by decide), sm_1 _ (by decide)⟩
  have r4 : Sm 132 1 0 s 1 := ⟨sm_1 _ (by decide), sm_0 _ (by decide), h.d, sm_1 _ (by decide)⟩
  obtain ⟨j1, s1⟩ := join_to (A := 1) (B := p) (C := 0) (D := 1) s0 r1 (by omega) (by grind) (by grind) (by grind) (by grind)
  obtain ⟨j2, s2⟩ := join_to (A := 1 + p * q) (B := p) (C := q) (D := 1) s1 r2 (by omega) (by grind) (by grind) (by grind) (by grind)
  obtain ⟨j3, s3⟩ := join_to (A := 1 + p * q) (B := (1 + p * q) * r + p) (C := q) (D := q * r + 1) s2 r3 (by omega) (by grind) (by grind) (by grind) (by grind)
  obtain ⟨j4, s4⟩ := join_to (A := (1 + p * q) * (1 + r * s) + p * s) (B := (1 + p * q) * r + p) (C := q * (1 + r * s) + s) (D := q * r + 1) s3 r4 (by omega) (by grind) (by grind) (by grind) (by grind)
  clear s1 s2 s3 s4 r1 r2 r3 r4 s0
  unfold ch at j1 j2 j3 j4
  have f1 : ∀ k, callN prog W (k + 5) 14 [.lst [.tup [fr 1, fr p, fr 0, fr 1], .tup [fr 1, fr 0, fr q, fr 1], .tup [fr 1, fr r, fr 0, fr 1], .tup [fr 1, fr 0, fr s, fr 1]]] M = some (ch ((1 + p * q) * (1 + r * s) + p * s) ((1 + p * q) * r + p) (q * (1 + r * s) + s) (q * r + 1), M) := fun k => by
    rw [u_product_in]
    unfold m_product_in ch
    walk_at "evf"
  rw [u_chain_in]
  unfold m_chain_in rg
  clear j1 j2 j3 j4
  walk_at "evf"
theorem is_ladder_ok (k : Nat) {p q r s : Rat} (M : Mem) (h : Sm 132 p q r s) (h1 : 0 ≤ p) (h2 : 0 ≤ q) (h3 : 0 ≤ r) (h4 : 0 ≤ s) : callN prog W (k + 5) 25 [.tup [rg p q, rg r s]] M = some (.bl true, M) := by
  have f1 := fun k => fits_ladder_ok k M h h1 h2 h3 h4
  rw [u_is_ladder]
  unfold m_is_ladder
  walk_at "evf"
theorem ladder_chain_ok (k : Nat) {p q r s A B C D : Rat} (M : Mem) (h : Sm 132 p q r s) (h1 : 0 ≤ p) (h2 : 0 ≤ q) (h3 : 0 ≤ r) (h4 : 0 ≤ s)
    (hA : (1 + p * q) * (1 + r * s) + p * s = A) (hB : (1 + p * q) * r + p = B) (hC : q * (1 + r * s) + s = C) (hD : q * r + 1 = D) : callN prog W (k + 7) 26 [.tup [rg p q, rg r s]] M = some (ch A B C D, M) := by
  subst hA hB hC hD
  have f1 := fun k => fits_ladder_ok k M h h1 h2 h3 h4
  have f2 : ∀ k, callN prog W (k + 5) 23 [.tup [rg p q, rg r s]] M = some (.non, M) := fun k => by
    rw [u_need_ladder]
    unfold m_need_ladder
    walk_at "evf"
  have f3 := fun k => chain_in_ok k M h
  clear f1
  rw [u_ladder_chain]
  unfold m_ladder_chain
  walk_at "evf"

/-! ### the law about one chain -/
theorem pl_fr (q : Rat) : pl (fr q) = true := rfl
theorem dpt_fr (q : Rat) : dpt (fr q) = 1 := rfl
theorem like_ok (k : Nat) (v : PV) (M : Mem) (hp : pl v = true) (hd : dpt v ≤ 5) : callN prog W (k + 7) 30 [v, v] M = some (.bl true, M) := like_self (k + 5) v M hp (by omega)
theorem revOp_tup (M : Mem) (xs : List PV) : revOp M (.tup xs) = some (.tup xs.reverse) := rfl
theorem rev3 (a b c : PV) : [a, b, c].reverse = [c, b, a] := rfl
theorem natc3 : ((3 : Nat) : Int) = 3 := rfl
theorem num0 : (0 : Rat).num = 0 := rfl
local macro_rules | `(tactic| walk_at "evg") => `(tactic| simp -implicitDefEqProofs only [execs, exec, eval, evals, evalI, conds, bnd_some, bnd_none, bifb_t, bifb_f, bifb_d, bifb_b, iff_t, iff_d, nxt_nx, nxt_rt, binop, cmpop, addOp_ii, addOp_tt, addOp_ll, subOp_ii, mulOp_ii, fdivOp_ii, modOp_ii, cmpI_ii, tru_bl, tru_int, absB_i, intB_i, asM_int, asM_bl, asM_tup, asM_false, isOp_n, isOp_bb, isNon, setAll_nil, setAll_cons, bindT_nm, bindT_tp, fin_rt, fin_nx, leave_same, bltOp, idx_tup0, idx_tup1, idx_tup2, idx_tup3, idx_lst0, idx_lst1, idx_lst2, idx_lst3, eqD_ii, eqD_bb, eqD_fr, Option.map_some, Option.map_none, Option.bind_some, List.getElem?_cons_zero, List.getElem?_cons_succ, List.set_cons_zero, List.set_cons_succ, List.length_cons, List.length_nil, if_true, if_false, decide_true, decide_false, Bool.not_true, Bool.not_false, decide_eq_true_eq, sizeL, Nat.reduceAdd, Nat.reduceLeDiff, Nat.zero_add, beq_self_eq_true, seqG_tup, seqG_lst, lenB_tup, lenB_lst, idx_cup0, idx_cup1, setAt0, setAt1, cup, isTy, Bool.false_eq_true, newL_f, newL_t, fin_rtk, List.nil_append, wipeE, Int.reduceNe, Int.reduceEq, Int.reduceLT, Int.reduceLE, Int.reduceAdd, Int.reduceSub, Int.reduceMul, Int.reduceNeg, Int.reduceGT, fr_0', fr_1', fr_m1', idx_fr0, idx_fr1, lcL_n, lcL_c, forL_n, forL_c, allB, items, boolsOf, List.all_cons, List.all_nil, id_eq, Bool.and_true, List.cons_append, List.append_nil, cmpop, not_true_eq_false, not_false_eq_true, ite_true, ite_false, eq_self, Bool.true_eq_false, reduceCtorEq, natc3, revOp_tup, rev3, num0, *])
theorem right_no (k : Nat) {a b c d : Rat} (M : Mem) (h : Sm 31 a b c d) (hd : a * d - b * c = 1) (ht : ¬ told a b c d) : callN prog W (k + 20) 41 [ch a b c d] M = some (.bl true, M) := by
  have h' : Sm 132 a b c d := ⟨h.a.mono (by omega), h.b.mono (by omega), h.c.mono (by omega), h.d.mono (by omega)⟩
  have f1 := fun k => is_told_chain_ok k M h' hd
  have f2 := fun k => star_ok k M h' hd
  have f3 := fun k => ring_ok k M h' hd
  have f4 := fun k => l_under_ok k M h.a (sm_1 1 (by decide)) (by omega)
  have f5 := fun k => l_under_ok k M h.d (sm_1 1 (by decide)) (by omega)
  have f6 := fun k => like_ok k (.bl false) M rfl (by decide)
  have e1 := Rat.num_nonneg (q := b)
  have e2 := Rat.num_nonneg (q := c)
  have ht' := fun z => ht ((told_eq a b c d).mpr z)
  rw [u__law_right]
  unfold m__law_right
  unfold ch at *
  by_cases h1 : a < 1
  · clear ht'
    walk_at "evg"
  · by_cases h2 : d < 1
    · clear ht'
      walk_at "evg"
    · by_cases h3 : 0 ≤ b
      · by_cases h4 : 0 ≤ c
        · exact absurd ⟨h1, h2, h3, h4⟩ ht'
        · clear ht'
          walk_at "evg"
      · clear ht'
        walk_at "evg"

theorem Sm.w {a b c d : Rat} {n m : Nat} (h : Sm n a b c d) (hm : n ≤ m) : Sm m a b c d := ⟨h.a.mono hm, h.b.mono hm, h.c.mono hm, h.d.mono hm⟩
theorem num_pos' {q : Rat} (h : 0 ≤ q) (h0 : q ≠ 0) : 0 < q.num ∧ q.num ≠ 0 := by
  have h1 := Rat.num_nonneg.mpr h
  have h2 := num_ne h0
  exact ⟨by omega, h2⟩
/-- c = 0: a = d = 1 -/
theorem right_c0 (k : Nat) {b : Rat} (M : Mem) (hb : sm 31 b) (h0 : 0 ≤ b) : callN prog W (k + 20) 41 [ch 1 b 0 1] M = some (.bl true, M) := by
  have h : Sm 31 1 b 0 1 := ⟨sm_1 _ (by decide), hb, sm_0 _ (by decide), sm_1 _ (by decide)⟩
  have h' := h.w (m := 132) (by decide)
  have hd : (1 : Rat) * 1 - b * 0 = 1 := by grind
  have ht : told 1 b 0 1 := ⟨Rat.le_refl, Rat.le_refl, h0, Rat.le_refl⟩
  have f1 : ∀ k, callN prog W (k + 6) 18 [ch 1 b 0 1] M = some (.bl true, M) := fun k => by rw [is_told_chain_ok k M h' hd, decide_eq_true ht]
  have f2 : ∀ k, callN prog W (k + 6) 19 [ch 1 b 0 1] M = some (.tup [fr b, fr 0, fr 0], M) := fun k => by rw [star_ok k M h' hd, if_pos ht, if_pos rfl]
  have f4 := fun k => l_under_ok k M h.a (sm_1 1 (by decide)) (by omega)
  have u1 : ¬ (1 : Rat) < 1 := by decide
  have f6 := fun k => like_ok k (.bl true) M rfl (Nat.le_of_ble_eq_true rfl)
  have f7 := fun k => like_ok k (ch 1 b 0 1) M rfl (Nat.le_of_ble_eq_true rfl)
  have f8 := fun k => like_ok k (.tup [fr b, fr 0, fr 0]) M rfl (Nat.le_of_ble_eq_true rfl)
  have f9 := fun k => like_ok k (.tup [fr 0, fr b, fr 0]) M rfl (Nat.le_of_ble_eq_true rfl)
  have e1 := Rat.num_nonneg.mpr h0
  have s1 : Sm 132 b 0 0 0 := ⟨h'.b, sm_0 _ (by decide), sm_0 _ (by decide), sm_0 _ (by decide)⟩
  have g1 := fun k => is_ladder_ok k M s1 h0 Rat.le_refl Rat.le_refl Rat.le_refl
  have g2 := fun k => ladder_chain_ok k (A := 1) (B := b) (C := 0) (D := 1) M s1 h0 Rat.le_refl Rat.le_refl Rat.le_refl (by grind) (by grind) (by grind) (by grind)
  have g3 := fun k => chain_turned_ok k M h' hd
  have le0 : (0 : Int) ≤ 0 := Int.le_refl 0
  have lt0 : ¬ (0 : Int) < 0 := Int.lt_irrefl 0
  rw [u__law_right]
  unfold m__law_right
  by_cases hb0 : b = 0
  · subst hb0
    have f3 : ∀ k, callN prog W (k + 6) 20 [ch 1 0 0 1] M = some (.non, M) := fun k => by rw [ring_ok k M h' hd, if_pos ht, if_pos rfl]
    unfold ch rg at *
    clear h h' ht s1 hb h0
    walk_at "evg"
  · obtain ⟨n1, n2⟩ := num_pos' h0 hb0
    have z1 : ((1 : Rat) - 1) / b = 0 := by
      rw [Rat.sub_self, Rat.div_def, Rat.zero_mul]
    have f3 : ∀ k, callN prog W (k + 6) 20 [ch 1 b 0 1] M = some (.tup [fr 0, fr b, fr 0], M) := fun k => by rw [ring_ok k M h' hd, if_pos ht, if_neg hb0, z1]
    have s2 : Sm 132 0 0 b 0 := ⟨sm_0 _ (by decide), sm_0 _ (by decide), h'.b, sm_0 _ (by decide)⟩
    have g4 := fun k => is_ladder_ok k M s2 Rat.le_refl Rat.le_refl h0 Rat.le_refl
    have g5 := fun k => ladder_chain_ok k (A := 1) (B := b) (C := 0) (D := 1) M s2 Rat.le_refl Rat.le_refl h0 Rat.le_refl (by grind) (by grind) (by grind) (by grind)
    have g6 := fun k => like_ok k (.lst [ch 1 b 0 1, .tup [fr 0, fr b, fr 0]]) M rfl (Nat.le_of_ble_eq_true rfl)
    unfold ch rg at *
    clear h h' ht s1 hb h0 s2
    walk_at "evg"
theorem right_c1 (k : Nat) {a b c d : Rat} (M : Mem) (h : Sm 31 a b c d) (hd : a * d - b * c = 1) (ht : told a b c d) (hc : c ≠ 0) : callN prog W (k + 20) 41 [ch a b c d] M = some (.bl true, M) := by
  have h' := h.w (m := 132) (by decide)
  obtain ⟨t1, t2, t3, t4⟩ := ht
  have ht : told a b c d := ⟨t1, t2, t3, t4⟩
  have htt : told d b c a := ⟨t2, t1, t3, t4⟩
  have hdt : d * a - b * c = 1 := by grind
  have ht' : Sm 132 d b c a := ⟨h'.d, h'.b, h'.c, h'.a⟩
  have one := sm_1 1 (by decide)
  have x1 := (sm_div (sm_sub h.a one) h.c hc).mono (m := 64) (by omega)
  have z1 := (sm_div (sm_sub h.d one) h.c hc).mono (m := 64) (by omega)
  obtain ⟨cn1, cn2⟩ := num_pos' t4 hc
  have c0 : 0 ≤ c⁻¹ := Rat.le_of_lt (Rat.inv_pos.mpr (by grind))
  have x0 : 0 ≤ (a - 1) / c := by rw [Rat.div_def]; exact Rat.mul_nonneg (by grind) c0
  have z0 : 0 ≤ (d - 1) / c := by rw [Rat.div_def]; exact Rat.mul_nonneg (by grind) c0
  have xc : (a - 1) / c * c = a - 1 := Rat.div_mul_cancel hc
  have zc : (d - 1) / c * c = d - 1 := Rat.div_mul_cancel hc
  have f1 : ∀ k, callN prog W (k + 6) 18 [ch a b c d] M = some (.bl true, M) := fun k => by rw [is_told_chain_ok k M h' hd, decide_eq_true ht]
  have f2 : ∀ k, callN prog W (k + 6) 19 [ch a b c d] M = some (.tup [fr ((a - 1) / c), fr c, fr ((d - 1) / c)], M) := fun k => by rw [star_ok k M h' hd, if_pos ht, if_neg hc]
  have f2t : ∀ k, callN prog W (k + 6) 19 [ch d b c a] M = some (.tup [fr ((d - 1) / c), fr c, fr ((a - 1) / c)], M) := fun k => by rw [star_ok k M ht' hdt, if_pos htt, if_neg hc]
  have r1 : b ≠ 0 → ∀ k, callN prog W (k + 6) 20 [ch a b c d] M = some (.tup [fr ((d - 1) / b), fr b, fr ((a - 1) / b)], M) := fun z k => by rw [ring_ok k M h' hd, if_pos ht, if_neg z]
  have r2 : b ≠ 0 → ∀ k, callN prog W (k + 6) 20 [ch d b c a] M = some (.tup [fr ((a - 1) / b), fr b, fr ((d - 1) / b)], M) := fun z k => by rw [ring_ok k M ht' hdt, if_pos htt, if_neg z]
  have r0 : b = 0 → ∀ k, callN prog W (k + 6) 20 [ch a b c d] M = some (.non, M) := fun z k => by rw [ring_ok k M h' hd, if_pos ht, if_pos z]
  have q1 : b ≠ 0 → 0 ≤ (a - 1) / b ∧ 0 ≤ (d - 1) / b ∧ (a - 1) / b * b = a - 1 ∧ (d - 1) / b * b = d - 1 ∧ sm 64 ((a - 1) / b) ∧ sm 64 ((d - 1) / b) := fun z => by
    have b0 : 0 ≤ b⁻¹ := Rat.le_of_lt (Rat.inv_pos.mpr (by grind))
    refine ⟨?_, ?_, Rat.div_mul_cancel z, Rat.div_mul_cancel z, (sm_div (sm_sub h.a one) h.b z).mono (m := 64) (by omega), (sm_div (sm_sub h.d one) h.b z).mono (m := 64) (by omega)⟩
    · rw [Rat.div_def]; exact Rat.mul_nonneg (by grind) b0
    · rw [Rat.div_def]; exact Rat.mul_nonneg (by grind) b0
  have f4 := fun k => l_under_ok k M h.a one (by omega)
  have f5 := fun k => l_under_ok k M h.d one (by omega)
  have u1 : ¬ a < 1 := Rat.not_lt.mpr t1
  have u2 : ¬ d < 1 := Rat.not_lt.mpr t2
  have u3 := Rat.num_nonneg.mpr t3
  have u4 := Rat.num_nonneg.mpr t4
  generalize (a - 1) / c = x at *
  generalize (d - 1) / c = z at *
  have s1 : Sm 132 x c z 0 := ⟨x1.mono (by omega), h'.c, z1.mono (by omega), sm_0 _ (by decide)⟩
  have g1 := fun k => is_ladder_ok k M s1 x0 t4 z0 Rat.le_refl
  have bx : x + z + x * c * z = b := by
    have : (x + z + x * c * z) * c = b * c := by grind
    grind
  have g2 := fun k => ladder_chain_ok k (A := a) (B := b) (C := c) (D := d) M s1 x0 t4 z0 Rat.le_refl (by grind) (by grind) (by grind) (by grind)
  have g3 := fun k => chain_turned_ok k M h' hd
  have f6 := fun k => like_ok k (.bl true) M rfl (Nat.le_of_ble_eq_true rfl)
  have f7 := fun k => like_ok k (ch a b c d) M rfl (Nat.le_of_ble_eq_true rfl)
  have f8 := fun k => like_ok k (.tup [fr z, fr c, fr x]) M rfl (Nat.le_of_ble_eq_true rfl)
  rw [u__law_right]
  unfold m__law_right
  by_cases hb0 : b = 0
  · have f3 := r0 hb0
    have bn : b.num = 0 := by rw [hb0]; rfl
    unfold ch rg at *
    clear r0 r1 r2 q1 s1 h h' ht htt ht' x1 z1 one hb0 bx xc zc hd hdt t1 t2 t3 t4 x0 z0 c0 hc
    walk_at "evg"
  · have f3 := r1 hb0
    have f3t := r2 hb0
    obtain ⟨w1, w2, wc, vc, ws, vs⟩ := q1 hb0
    obtain ⟨bn1, bn2⟩ := num_pos' t3 hb0
    have m1 := fun k => l_plus_ok k M x1 z1 (by omega)
    have m2 := fun k => l_times_ok k M x1 h.c (by omega)
    have m3 := fun k => l_times_ok k M (sm_mul x1 h.c) z1 (by omega)
    have m4 : ∀ k, callN prog W (k + 2) 32 [fr (x + z), fr (x * c * z)] M = some (fr b, M) := fun k => by
      rw [l_plus_ok k M (sm_add x1 z1) (sm_mul (sm_mul x1 h.c) z1) (by omega), bx]
    have m5 := fun k => l_times_ok k M h.c z1 (by omega)
    have m6 := fun k => l_times_ok k M h.c x1 (by omega)
    have m7 : ∀ k, callN prog W (k + 2) 34 [fr (c * z), fr b] M = some (fr ((d - 1) / b), M) := fun k => by
      rw [l_over_ok k M (sm_mul h.c z1) h.b (by omega) hb0, show c * z = d - 1 by grind]
    have m8 : ∀ k, callN prog W (k + 2) 34 [fr (c * x), fr b] M = some (fr ((a - 1) / b), M) := fun k => by
      rw [l_over_ok k M (sm_mul h.c x1) h.b (by omega) hb0, show c * x = a - 1 by grind]
    generalize (a - 1) / b = w at *
    generalize (d - 1) / b = v at *
    have s2 : Sm 132 0 v b w := ⟨sm_0 _ (by decide), vs.mono (by omega), h'.b, ws.mono (by omega)⟩
    have vw : v * a + w = c := by
      have : (v * a + w) * b = c * b := by grind
      grind
    have g4 := fun k => is_ladder_ok k M s2 Rat.le_refl w2 t3 w1
    have g5 := fun k => ladder_chain_ok k (A := a) (B := b) (C := c) (D := d) M s2 Rat.le_refl w2 t3 w1 (by grind) (by grind) (by grind) (by grind)
    have g6 := fun k => like_ok k (.lst [ch a b c d, .tup [fr w, fr b, fr v]]) M rfl (Nat.le_of_ble_eq_true rfl)
    have g7 := fun k => like_ok k (.tup [fr v, fr b, fr w]) M rfl (Nat.le_of_ble_eq_true rfl)
    unfold ch rg at *
    clear r0 r1 r2 q1 s1 s2 h h' ht htt ht' x1 z1 one bx xc zc hd hdt t1 t2 t3 t4 x0 z0 c0 hc w1 w2 wc vc ws vs vw
    walk_at "evg"
theorem right_ok (k : Nat) {a b c d : Rat} (M : Mem) (h : Sm 31 a b c d) (hd : a * d - b * c = 1) : callN prog W (k + 20) 41 [ch a b c d] M = some (.bl true, M) := by
  by_cases ht : told a b c d
  · by_cases hc : c = 0
    · subst hc
      obtain ⟨t1, t2, t3, t4⟩ := ht
      have e : a * d = 1 := by grind
      have n1 : 0 ≤ (a - 1) * (d - 1) := Rat.mul_nonneg (by grind) (by grind)
      have ea : a = 1 := by grind
      subst ea
      have ed : d = 1 := by grind
      subst ed
      exact right_c0 k M h.b t3
    · exact right_c1 k M h hd ht hc
  · exact right_no k M h hd ht

/-! ### what is drawn -/
def nb (s : Nat) (q : Rat) : Prop := q.num.natAbs ≤ s ∧ q.den ≤ s
theorem leave_cup (c : Cell) (v : PV) (T : Mem) : leave (T.length + 1) v (c :: T) = some (v, c :: T) := leave_len rfl
theorem low_nb {a b : Int} {s : Nat} (ha : a.natAbs ≤ s) (hb : b.natAbs ≤ s) (h0 : b ≠ 0) : nb s (Rat.divInt a b) := by
  obtain ⟨h1, h2⟩ := low_le a b h0
  exact ⟨Nat.le_trans h1 ha, Nat.le_trans h2 hb⟩
theorem nb.sm {s : Nat} {q : Rat} (h : nb s q) {n : Nat} (hs : s < 2 ^ n) : sm n q := ⟨Nat.lt_of_le_of_lt h.1 hs, Nat.lt_of_le_of_lt h.2 hs⟩
theorem lt2_of {n m : Nat} {x : Int} (h : x.natAbs ≤ m) (hm : m < 2 ^ n) : lt2 n x := Nat.lt_of_le_of_lt h hm
theorem number_ok (k : Nat) {x y : Int} (T : Mem) (h : CupB x y) (s : Nat) (h1 : 1 ≤ s) (h2 : s ≤ 9) :
    ∃ q x' y', callN prog W (k + 2) 38 [.ref 0, .int s] (cup x y :: T) = some (fr q, cup x' y' :: T) ∧ CupB x' y' ∧ nb s q := by
  obtain ⟨r, x1, y1, e1, c1, -, -⟩ := roll_ok k (many := 5) T h (by decide) (by unfold lt2; decide +kernel)
  obtain ⟨r2, x2, y2, e2, c2, p2, q2⟩ := roll_ok k (many := s) T c1 (by omega) (lt2.mono (n := 4) (lt2_of (m := 9) (by omega) (by decide)) (by decide))
  obtain ⟨r3, x3, y3, e3, c3, p3, q3⟩ := roll_ok k (many := s) T c2 (by omega) (lt2.mono (n := 4) (lt2_of (m := 9) (by omega) (by decide)) (by decide))
  have f := l_least_ok k (1 + r2) (1 + r3) (cup x3 y3 :: T) (n := 4) (lt2_of (m := 9) (by omega) (by decide)) (by omega) (by decide)
  rw [u__law_number]
  unfold m__law_number
  by_cases h0 : r = 0
  · refine ⟨0, x1, y1, ?_, c1, ⟨Nat.zero_le _, h1⟩⟩
    subst h0
    clear e2 e3 f
    walk_at "evf"
    exact leave_len rfl
  · refine ⟨_, x3, y3, ?_, c3, low_nb (a := 1 + r2) (b := 1 + r3) (by omega) (by omega) (by omega)⟩
    walk_at "evf"
    exact leave_len rfl
theorem rngI_len : ∀ (n : Nat) (a : Int), (rngI a n).length = n
  | 0, _ => rfl
  | n + 1, a => by
    show (rngI (a + 1) n).length + 1 = n + 1
    rw [rngI_len n]
theorem rngI_int : ∀ (n : Nat) (a : Int) (v : PV), v ∈ rngI a n → ∃ i, v = .int i
  | n + 1, a, v, h => by
    rcases List.mem_cons.mp (show v ∈ .int a :: rngI (a + 1) n from h) with h | h
    · exact ⟨a, h⟩
    · exact rngI_int n _ v h
def IsRg (s : Nat) (v : PV) : Prop := ∃ p q, v = .tup [fr p, fr q] ∧ nb s p ∧ nb s q
theorem tupleB_lst (M : Mem) (xs : List PV) : tupleB M [.lst xs] = some (.tup xs) := rfl
theorem law_ladder_ok (k : Nat) {x y : Int} (T : Mem) (h : CupB x y) (most s : Nat) (hm : most ≤ 9) (h1 : 1 ≤ s) (h2 : s ≤ 9) :
    ∃ vs x' y', callN prog W (k + 3) 39 [.ref 0, .int most, .int s] (cup x y :: T) = some (.tup vs, cup x' y' :: T) ∧ CupB x' y' ∧ vs.length ≤ most ∧ ∀ v ∈ vs, IsRg s v := by
  obtain ⟨r, x1, y1, e1, c1, p1, q1⟩ := roll_ok (k + 1) (many := (most : Int) + 1) T h (by omega) (lt2.mono (n := 4) (lt2_of (m := 10) (by omega) (by decide)) (by decide))
  have hl : (rngI 0 (r - 0).toNat).length ≤ most := by rw [rngI_len]; omega
  rw [u__law_ladder]
  unfold m__law_ladder
  generalize hE : (E.tup (.cons (.call 38 (.cons (.var 0) (.cons (.var 2) .nil))) (.cons (.call 38 (.cons (.var 0) (.cons (.var 2) .nil))) .nil))) = el
  have b1 : (decide (-2 ^ 62 ≤ (0 : Int)) && decide ((0 : Int) < 2 ^ 62) && decide (-2 ^ 62 ≤ r) && decide (r < 2 ^ 62)) = true := by
    have e62 : (2 : Int) ^ 62 = 4611686018427387904 := rfl
    simp only [Bool.and_eq_true, decide_eq_true_eq]
    omega
  obtain ⟨vs, M', e, el, hp, x2, y2, rfl, c2⟩ := lcL_draw (t := .nm 3) (cond := fun _ M => some (true, M)) (elt := eval (callN prog W (k + 2)) el)
    (env := [some (.ref 0), some (.int most), some (.int s), none]) (IsRg s) (fun M => ∃ x y, M = cup x y :: T ∧ CupB x y) (rngI 0 (r - 0).toNat) [] (cup x1 y1 :: T) ⟨x1, y1, rfl, c1⟩ (by
      rintro v hv _ ⟨x, y, rfl, c⟩
      obtain ⟨p, x2, y2, e2, c2, n2⟩ := number_ok k T c s h1 h2
      obtain ⟨q, x3, y3, e3, c3, n3⟩ := number_ok k T c2 s h1 h2
      refine ⟨_, .tup [fr p, fr q], cup x3 y3 :: T, bindT_nm _ _, rfl, ?_, ⟨p, q, rfl, n2, n3⟩, x3, y3, rfl, c3⟩
      rw [← hE]
      clear hE
      walk_at "evf")
  rw [List.nil_append] at e
  refine ⟨vs, x2, y2, ?_, c2, by omega, hp⟩
  have hv : vs.length ≤ 16777216 := by omega
  have ht : ∀ M : Mem, tupleB M [.lst vs] = some (.tup vs) := fun M => tupleB_lst M vs
  have hw := leave_cup (cup x2 y2) (.tup vs) T
  clear el hp hl hE
  walk_at "evf"

theorem law_joined_ok (k : Nat) {a b c d e f g h : Rat} (M : Mem) {n m : Nat} (p : Sm n a b c d) (q : Sm m e f g h) (hn : 2 * (n + m) ≤ 7990) :
    callN prog W (k + 3) 36 [ch a b c d, ch e f g h] M = some (ch (a * e + b * g) (a * f + b * h) (c * e + d * g) (c * f + d * h), M) := by
  have f1 := fun k => l_times_ok k M p.a q.a (by omega)
  have f2 := fun k => l_times_ok k M p.b q.c (by omega)
  have f3 := fun k => l_times_ok k M p.a q.b (by omega)
  have f4 := fun k => l_times_ok k M p.b q.d (by omega)
  have f5 := fun k => l_times_ok k M p.c q.a (by omega)
  have f6 := fun k => l_times_ok k M p.d q.c (by omega)
  have f7 := fun k => l_times_ok k M p.c q.b (by omega)
  have f8 := fun k => l_times_ok k M p.d q.d (by omega)
  have g1 := fun k => l_plus_ok k M (sm_mul p.a q.a) (sm_mul p.b q.c) (by omega)
  have g2 := fun k => l_plus_ok k M (sm_mul p.a q.b) (sm_mul p.b q.d) (by omega)
  have g3 := fun k => l_plus_ok k M (sm_mul p.c q.a) (sm_mul p.d q.c) (by omega)
  have g4 := fun k => l_plus_ok k M (sm_mul p.c q.b) (sm_mul p.d q.d) (by omega)
  have ht := tupleB_lst M
  rw [u__law_joined]
  unfold m__law_joined ch
  walk_at "evf"
/-! common denominators -/
def cmn (D N : Nat) (q : Rat) : Prop := ∃ A : Int, q * (D : Rat) = (A : Rat) ∧ A.natAbs ≤ N
structure Cm (D N : Nat) (a b c d : Rat) : Prop where
  a : cmn D N a
  b : cmn D N b
  c : cmn D N c
  d : cmn D N d
  p : 0 < D
  l : D ≤ N
theorem cmn.sm {D N : Nat} {q : Rat} (h : cmn D N q) (hp : 0 < D) (hl : D ≤ N) {n : Nat} (hn : N < 2 ^ n) : sm n q := by
  obtain ⟨A, h1, h2⟩ := h
  have e : q = Rat.divInt A D := by
    rw [Rat.divInt_eq_div, ← h1]
    have : ((D : Int) : Rat) = (D : Rat) := rfl
    rw [this]
    have h0 : (D : Rat) ≠ 0 := by
      intro z
      have : (D : Nat) = 0 := by exact_mod_cast z
      omega
    grind
  rw [e]
  refine sm_low (n := n) ?_ ?_ (by omega)
  · unfold lt2; omega
  · unfold lt2; omega
theorem cmn_keep {D N s t : Nat} {q : Rat} (h : cmn D N q) (ht : t ≤ s) : cmn (D * t) (N * (2 * s)) q := by
  obtain ⟨A, h1, h2⟩ := h
  refine ⟨A * t, ?_, ?_⟩
  · rw [Rat.natCast_mul, Rat.intCast_mul, ← Rat.mul_assoc, h1]
    rfl
  · rw [Int.natAbs_mul, Int.natAbs_natCast]
    exact Nat.mul_le_mul h2 (by omega)
theorem cmn_join {D N s : Nat} {p q r : Rat} (h : cmn D N p) (h' : cmn D N q) (hr : nb s r) : cmn (D * r.den) (N * (2 * s)) (p * r + q) := by
  obtain ⟨A, h1, h2⟩ := h
  obtain ⟨B, h3, h4⟩ := h'
  have er : r * (r.den : Rat) = (r.num : Rat) := by
    have h5 := Rat.num_divInt_den r
    rw [Rat.divInt_eq_div] at h5
    have h6 : (((r.den : Nat) : Int) : Rat) = ((r.den : Nat) : Rat) := rfl
    rw [h6] at h5
    have h0 : (r.den : Rat) ≠ 0 := by
      intro z
      have : (r.den : Nat) = 0 := by exact_mod_cast z
      exact r.den_nz this
    generalize (r.den : Rat) = y at *
    generalize (r.num : Rat) = x at *
    grind
  refine ⟨A * r.num + B * r.den, ?_, ?_⟩
  · rw [Rat.natCast_mul, Rat.intCast_add, Rat.intCast_mul, Rat.intCast_mul, ← h1, ← h3, ← er]
    have : (((r.den : Nat) : Int) : Rat) = ((r.den : Nat) : Rat) := rfl
    rw [this]
    grind
  · have n1 : (A * r.num).natAbs ≤ N * s := by rw [Int.natAbs_mul]; exact Nat.mul_le_mul h2 hr.1
    have n2 : (B * (r.den : Int)).natAbs ≤ N * s := by rw [Int.natAbs_mul, Int.natAbs_natCast]; exact Nat.mul_le_mul h4 hr.2
    have n3 : N * (2 * s) = N * s + N * s := by rw [Nat.mul_comm 2 s, ← Nat.mul_assoc]; omega
    omega
theorem Cm.Sm {D N : Nat} {a b c d : Rat} (h : Cm D N a b c d) {n : Nat} (hn : N < 2 ^ n) : Sm n a b c d := ⟨h.a.sm h.p h.l hn, h.b.sm h.p h.l hn, h.c.sm h.p h.l hn, h.d.sm h.p h.l hn⟩
theorem den_up {D N s t : Nat} (h : D ≤ N) (ht : t ≤ s) : D * t ≤ N * (2 * s) := Nat.mul_le_mul h (by omega)
theorem Cm_r {D N s : Nat} {a b c d r : Rat} (h : Cm D N a b c d) (hr : nb s r) : Cm (D * r.den) (N * (2 * s)) a (a * r + b) c (c * r + d) :=
  ⟨cmn_keep h.a hr.2, cmn_join h.a h.b hr, cmn_keep h.c hr.2, cmn_join h.c h.d hr, Nat.mul_pos h.p r.den_pos, den_up h.l hr.2⟩
theorem Cm_g {D N s : Nat} {a b c d r : Rat} (h : Cm D N a b c d) (hr : nb s r) : Cm (D * r.den) (N * (2 * s)) (b * r + a) b (d * r + c) d :=
  ⟨cmn_join h.b h.a hr, cmn_keep h.b hr.2, cmn_join h.d h.c hr, cmn_keep h.d hr.2, Nat.mul_pos h.p r.den_pos, den_up h.l hr.2⟩
theorem chain_loop (k : Nat) (M : Mem) (L : PV) (body : Ss) (hB : body = (.cons (.set 1 (.call 36 (.cons (.var 1) (.cons (.tup (.cons (.tup (.cons (.cst (.int (1))) (.cons (.cst (.int (1))) .nil))) (.cons (.var 2) (.cons (.tup (.cons (.cst (.int (0))) (.cons (.cst (.int (1))) .nil))) (.cons (.tup (.cons (.cst (.int (1))) (.cons (.cst (.int (1))) .nil))) .nil))))) .nil)))) (.cons (.set 1 (.call 36 (.cons (.var 1) (.cons (.tup (.cons (.tup (.cons (.cst (.int (1))) (.cons (.cst (.int (1))) .nil))) (.cons (.tup (.cons (.cst (.int (0))) (.cons (.cst (.int (1))) .nil))) (.cons (.var 3) (.cons (.tup (.cons (.cst (.int (1))) (.cons (.cst (.int (1))) .nil))) .nil))))) .nil)))) .nil))) (s : Nat) (h2 : s ≤ 9) (h1 : 1 ≤ s) :
    ∀ (vs : List PV) (D N : Nat) (a b c d : Rat) (o1 o2 : Option PV), Cm D N a b c d → a * d - b * c = 1 → N * (2 * s) ^ (2 * vs.length) < 2 ^ 31 → (∀ v ∈ vs, IsRg s v) →
    ∃ a' b' c' d' o3 o4, forL (.tp [2, 3]) [] (execs (callN prog W (k + 3)) W body) vs [some L, some (ch a b c d), o1, o2] M = some (.nx [some L, some (ch a' b' c' d'), o3, o4] M) ∧ Sm 31 a' b' c' d' ∧ a' * d' - b' * c' = 1
  | [], D, N, a, b, c, d, o1, o2, h, hd, hN, _ => ⟨a, b, c, d, o1, o2, forL_n, h.Sm (by simpa using hN), hd⟩
  | v :: vs, D, N, a, b, c, d, o1, o2, h, hd, hN, hv => by
    obtain ⟨p, q, rfl, np, nq⟩ := hv v List.mem_cons_self
    have r1 := Cm_r h np
    have r2 := Cm_g r1 nq
    have hpow : N * (2 * s) * (2 * s) * (2 * s) ^ (2 * vs.length) < 2 ^ 31 := by
      have : N * (2 * s) ^ (2 * (vs.length + 1)) = N * (2 * s) * (2 * s) * (2 * s) ^ (2 * vs.length) := by
        rw [show 2 * (vs.length + 1) = 2 * vs.length + 1 + 1 by omega, Nat.pow_succ, Nat.pow_succ]
        simp only [Nat.mul_assoc, Nat.mul_comm, Nat.mul_left_comm]
      rw [← this]
      exact hN
    have h3 : 1 ≤ (2 * s) ^ (2 * vs.length) := Nat.pow_pos (by omega)
    have h4 : N * (2 * s) * (2 * s) < 2 ^ 31 := Nat.lt_of_le_of_lt (Nat.le_mul_of_pos_right _ h3) hpow
    have h5 : N * (2 * s) < 2 ^ 31 := Nat.lt_of_le_of_lt (Nat.le_mul_of_pos_right _ (by omega)) h4
    have h6 : N < 2 ^ 31 := Nat.lt_of_le_of_lt (Nat.le_mul_of_pos_right _ (by omega)) h5
    have sp : Sm 4 1 p 0 1 := ⟨sm_1 _ (by decide), np.sm (by omega), sm_0 _ (by decide), sm_1 _ (by decide)⟩
    have sq : Sm 4 1 0 q 1 := ⟨sm_1 _ (by decide), sm_0 _ (by decide), nq.sm (by omega), sm_1 _ (by decide)⟩
    have j1 : callN prog W (k + 3) 36 [ch a b c d, ch 1 p 0 1] M = some (ch a (a * p + b) c (c * p + d), M) := by
      rw [law_joined_ok k M (h.Sm h6) sp (by omega)]
      rw [ch_eq (a' := a) (b' := a * p + b) (c' := c) (d' := c * p + d)] <;> grind
    have j2 : callN prog W (k + 3) 36 [ch a (a * p + b) c (c * p + d), ch 1 0 q 1] M = some (ch ((a * p + b) * q + a) (a * p + b) ((c * p + d) * q + c) (c * p + d), M) := by
      rw [law_joined_ok k M (r1.Sm h5) sq (by omega)]
      rw [ch_eq (a' := (a * p + b) * q + a) (b' := a * p + b) (c' := (c * p + d) * q + c) (d' := c * p + d)] <;> grind
    obtain ⟨a', b', c', d', o3, o4, e, s', hd'⟩ := chain_loop k M L body hB s h2 h1 vs _ _ _ _ _ _ (some (fr p)) (some (fr q)) r2 (by grind) hpow fun w hw => hv w (List.mem_cons_of_mem _ hw)
    refine ⟨a', b', c', d', o3, o4, ?_, s', hd'⟩
    have e1 : execs (callN prog W (k + 3)) W body [some L, some (ch a b c d), some (fr p), some (fr q)] M = some (.nx [some L, some (ch ((a * p + b) * q + a) (a * p + b) ((c * p + d) * q + c) (c * p + d)), some (fr p), some (fr q)] M) := by
      rw [hB]
      unfold ch at *
      clear hv hpow h3 h4 h5 h6 sp sq r1 r2 h hd hN e s' hd' hB
      walk_at "evf"
    rw [forL_c, bindT_tp, if_pos (by rfl), Option.bind_some]
    show nxt (execs (callN prog W (k + 3)) W body [some L, some (ch a b c d), some (fr p), some (fr q)] M) _ = _
    rw [e1, nxt_nx]
    exact e
theorem chain_of_ok (k : Nat) (M : Mem) (vs : List PV) (s : Nat) (h2 : s ≤ 9) (h1 : 1 ≤ s) (hN : (2 * s) ^ (2 * vs.length) < 2 ^ 31) (hv : ∀ v ∈ vs, IsRg s v) :
    ∃ a b c d, callN prog W (k + 4) 40 [.tup vs] M = some (ch a b c d, M) ∧ Sm 31 a b c d ∧ a * d - b * c = 1 := by
  have c0 : Cm 1 1 1 0 0 1 := ⟨⟨1, by decide +kernel, by decide⟩, ⟨0, by decide +kernel, by decide⟩, ⟨0, by decide +kernel, by decide⟩, ⟨1, by decide +kernel, by decide⟩, by decide, by decide⟩
  rw [u__law_chain_of]
  unfold m__law_chain_of
  generalize hB : (Ss.cons (.set 1 (.call 36 (.cons (.var 1) (.cons (.tup (.cons (.tup (.cons (.cst (.int (1))) (.cons (.cst (.int (1))) .nil))) (.cons (.var 2) (.cons (.tup (.cons (.cst (.int (0))) (.cons (.cst (.int (1))) .nil))) (.cons (.tup (.cons (.cst (.int (1))) (.cons (.cst (.int (1))) .nil))) .nil))))) .nil)))) (.cons (.set 1 (.call 36 (.cons (.var 1) (.cons (.tup (.cons (.tup (.cons (.cst (.int (1))) (.cons (.cst (.int (1))) .nil))) (.cons (.tup (.cons (.cst (.int (0))) (.cons (.cst (.int (1))) .nil))) (.cons (.var 3) (.cons (.tup (.cons (.cst (.int (1))) (.cons (.cst (.int (1))) .nil))) .nil))))) .nil)))) .nil)) = body
  obtain ⟨a, b, c, d, o3, o4, e, s', hd⟩ := chain_loop k M (.tup vs) body hB.symm s h2 h1 vs 1 1 1 0 0 1 none none c0 (by grind) (by simpa using hN) hv
  refine ⟨a, b, c, d, ?_, s', hd⟩
  unfold ch at *
  clear s' hd hB c0 hv hN h1 h2
  walk_at "evf"

theorem any_chain_ok (k : Nat) {x y : Int} (T : Mem) (h : CupB x y) (s : Nat) (h1 : 1 ≤ s) (h2 : s ≤ 9) :
    ∃ a b c d x' y', callN prog W (k + 4) 37 [.ref 0, .int s] (cup x y :: T) = some (ch a b c d, cup x' y' :: T) ∧ CupB x' y' ∧ Sm 31 a b c d ∧ a * d - b * c = 1 := by
  rw [u__law_any_chain]
  unfold m__law_any_chain
  generalize hE : (E.call 31 (.cons (.bin .sub false (.call 28 (.cons (.var 0) (.cons (.bin .add false (.bin .mul false (.cst (.int (2))) (.var 1)) (.cst (.int (1)))) .nil))) (.var 1)) (.cons (.bin .add false (.cst (.int (1))) (.call 28 (.cons (.var 0) (.cons (.var 1) .nil)))) .nil))) = el
  have b1 : (decide (-2 ^ 62 ≤ (0 : Int)) && decide ((0 : Int) < 2 ^ 62) && decide (-2 ^ 62 ≤ (3 : Int)) && decide ((3 : Int) < 2 ^ 62)) = true := by decide
  obtain ⟨vs, M', e, el, hp, x2, y2, rfl, c2⟩ := lcL_draw (t := .nm 5) (cond := fun _ M => some (true, M)) (elt := eval (callN prog W (k + 3)) el)
    (env := [some (.ref 0), some (.int s), none, none, none, none]) (fun v => ∃ q, v = fr q ∧ nb 9 q) (fun M => ∃ x y, M = cup x y :: T ∧ CupB x y) (rngI 0 (Int.toNat 3)) [] (cup x y :: T) ⟨x, y, rfl, h⟩ (by
      rintro v hv _ ⟨x, y, rfl, c⟩
      obtain ⟨r, x1, y1, e1, c1, p1, q1⟩ := roll_ok (k + 2) (many := 2 * (s : Int) + 1) T c (by omega) (lt2.mono (n := 5) (lt2_of (m := 19) (by omega) (by decide)) (by decide))
      obtain ⟨r2, x2, y2, e2, c2, p2, q2⟩ := roll_ok (k + 2) (many := s) T c1 (by omega) (lt2.mono (n := 4) (lt2_of (m := 9) (by omega) (by decide)) (by decide))
      have f := l_least_ok (k + 2) (r - s) (1 + r2) (cup x2 y2 :: T) (n := 4) (lt2_of (m := 9) (by omega) (by decide)) (by omega) (by decide)
      have m1 : mulOk 2 (s : Int) = true := mulOk_smallL (by decide)
      refine ⟨_, _, cup x2 y2 :: T, bindT_nm _ _, rfl, ?_, ⟨_, rfl, low_nb (a := r - s) (b := 1 + r2) (by omega) (by omega) (by omega)⟩, x2, y2, rfl, c2⟩
      rw [← hE]
      clear hE
      walk_at "evf")
  rw [List.nil_append] at e
  obtain ⟨v1, v2, v3, rfl⟩ : ∃ v1 v2 v3, vs = [v1, v2, v3] := by
    have el' : vs.length = 3 := el
    match vs, el' with
    | [v1, v2, v3], _ => exact ⟨v1, v2, v3, rfl⟩
  obtain ⟨a, rfl, na⟩ := hp v1 (by simp)
  obtain ⟨b, rfl, nB⟩ := hp v2 (by simp)
  obtain ⟨c, rfl, nc⟩ := hp v3 (by simp)
  have sa : sm 4 a := na.sm (by decide)
  have sb : sm 4 b := nB.sm (by decide)
  have sc : sm 4 c := nc.sm (by decide)
  have b2 : ∀ env, bindT (.ls [2, 3, 4]) (.lst [fr a, fr b, fr c]) env = some (setAll env [2, 3, 4] [fr a, fr b, fr c]) := fun env => by
    rw [bindT_ls0, if_pos (by rfl)]
  have hw := fun v => leave_cup (cup x2 y2) v T
  have m1 : sm 4 (-1) := ⟨by unfold lt2; decide, by decide⟩
  clear hE el hp
  by_cases ha : a = 0
  · subst ha
    by_cases hb : b = 0
    · subst hb
      have f := fun k => l_over_ok k (cup x2 y2 :: T) m1 (sm_1 4 (by decide)) (by omega) (by decide)
      refine ⟨0, 1, (-1) / 1, c, x2, y2, ?_, c2, ⟨sm_0 _ (by decide), sm_1 _ (by decide), (sm_div m1 (sm_1 4 (by decide)) (by decide)).mono (by decide), sc.mono (by decide)⟩, by grind⟩
      unfold ch
      clear sa sb sc na nB nc c2
      walk_at "evf"
    · have f := fun k => l_over_ok k (cup x2 y2 :: T) m1 sb (by omega) hb
      refine ⟨0, b, (-1) / b, c, x2, y2, ?_, c2, ⟨sm_0 _ (by decide), sb.mono (by decide), (sm_div m1 sb hb).mono (by decide), sc.mono (by decide)⟩, ?_⟩
      · unfold ch
        clear sa sb sc na nB nc c2
        walk_at "evf"
      · have : (-1) / b * b = -1 := Rat.div_mul_cancel hb
        grind
  · have f := fun k => l_times_ok k (cup x2 y2 :: T) sb sc (by omega)
    have f2 := fun k => l_plus_ok k (cup x2 y2 :: T) (sm_1 1 (by decide)) (sm_mul sb sc) (by omega)
    have f3 := fun k => l_over_ok k (cup x2 y2 :: T) (sm_add (sm_1 1 (by decide)) (sm_mul sb sc)) sa (by omega) ha
    refine ⟨a, b, c, (1 + b * c) / a, x2, y2, ?_, c2, ⟨sa.mono (by decide), sb.mono (by decide), sc.mono (by decide), (sm_div (sm_add (sm_1 1 (by decide)) (sm_mul sb sc)) sa ha).mono (by decide)⟩, ?_⟩
    · unfold ch
      clear sa sb sc na nB nc c2
      walk_at "evf"
    · have : (1 + b * c) / a * a = 1 + b * c := Rat.div_mul_cancel ha
      grind

/-! ### the law -/
theorem forL_inv {t : T} {body : Env → Mem → Option R} (P : Env → Mem → Prop) : ∀ (xs : List PV) (env : Env) (M : Mem), P env M → (∀ x ∈ xs, ∀ env M, P env M → ∃ env1 env' M', bindT t x env = some env1 ∧ body env1 M = some (.nx env' M') ∧ P env' M') →
    ∃ env' M', forL t [] body xs env M = some (.nx env' M') ∧ P env' M'
  | [], env, M, h, _ => ⟨env, M, forL_n, h⟩
  | x :: xs, env, M, h, hb => by
    obtain ⟨env1, env2, M2, e1, e2, h2⟩ := hb x List.mem_cons_self env M h
    obtain ⟨env', M', e, h'⟩ := forL_inv P xs env2 M2 h2 fun y hy => hb y (List.mem_cons_of_mem _ hy)
    refine ⟨env', M', ?_, h'⟩
    rw [forL_c, e1, Option.bind_some, e2, nxt_nx]
    exact e
def bodyL : Ss := .cons (.ite (.not (.call 41 (.cons (.call 40 (.cons (.call 39 (.cons (.var 1) (.cons (.var 6) (.cons (.var 7) .nil)))) .nil)) .nil))) (.cons (.ret (.cst (.bl false))) .nil) .nil) .nil
def bodyA : Ss := .cons (.ite (.not (.call 41 (.cons (.call 37 (.cons (.var 1) (.cons (.var 7) .nil))) .nil))) (.cons (.ret (.cst (.bl false))) .nil) .nil) .nil
def bodyR : Ss := .cons (.ite (.not (.call 41 (.cons (.var 12) .nil))) (.cons (.ret (.cst (.bl false))) .nil) .nil) .nil
theorem lad_step (k : Nat) (E0 E2 E3 E4 E5 e6 e7 : Option PV) (T : Mem) {x y : Int} (h : CupB x y) (m s : Nat) (hm : m ≤ 9) (h1 : 1 ≤ s) (h2 : s ≤ 9) (hN : (2 * s) ^ (2 * m) < 2 ^ 31) :
    ∃ x' y', execs (callN prog W (k + 29)) W bodyL [E0, some (.ref 0), E2, E3, E4, E5, some (.int m), some (.int s), none, none, none, none, none] (cup x y :: T) =
      some (.nx [E0, some (.ref 0), E2, E3, E4, E5, some (.int m), some (.int s), none, none, none, none, none] (cup x' y' :: T)) ∧ CupB x' y' := by
  obtain ⟨vs, x1, y1, e1, c1, hl, hv⟩ := law_ladder_ok (k + 26) T h m s hm h1 h2
  obtain ⟨a, b, c, d, e2, h3, hd⟩ := chain_of_ok (k + 25) (cup x1 y1 :: T) vs s h2 h1 (Nat.lt_of_le_of_lt (Nat.pow_le_pow_right (by omega) (by omega)) hN) hv
  have e3 := right_ok (k + 9) (cup x1 y1 :: T) h3 hd
  refine ⟨x1, y1, ?_, c1⟩
  unfold bodyL
  clear hv hl c1 h3 hd hN
  walk_at "evf"
theorem any_step (k : Nat) (E0 E2 E3 E4 E5 e6 : Option PV) (T : Mem) {x y : Int} (h : CupB x y) (s : Nat) (h1 : 1 ≤ s) (h2 : s ≤ 9) :
    ∃ x' y', execs (callN prog W (k + 29)) W bodyA [E0, some (.ref 0), E2, E3, E4, E5, e6, some (.int s), none, none, none, none, none] (cup x y :: T) =
      some (.nx [E0, some (.ref 0), E2, E3, E4, E5, e6, some (.int s), none, none, none, none, none] (cup x' y' :: T)) ∧ CupB x' y' := by
  obtain ⟨a, b, c, d, x1, y1, e1, c1, h3, hd⟩ := any_chain_ok (k + 25) T h s h1 h2
  have e3 := right_ok (k + 9) (cup x1 y1 :: T) h3 hd
  refine ⟨x1, y1, ?_, c1⟩
  unfold bodyA
  clear c1 h3 hd
  walk_at "evf"
theorem loop_lad (k : Nat) (E0 E2 E3 E4 E5 : Option PV) (T : Mem) {x y : Int} (h : CupB x y) :
    ∃ e6 e7 x' y', forL (.tp [6, 7]) [] (execs (callN prog W (k + 29)) W bodyL) [.tup [.int 1, .int 9], .tup [.int 3, .int 6], .tup [.int 5, .int 4]] [E0, some (.ref 0), E2, E3, E4, E5, none, none, none, none, none, none, none] (cup x y :: T) =
      some (.nx [E0, some (.ref 0), E2, E3, E4, E5, e6, e7, none, none, none, none, none] (cup x' y' :: T)) ∧ CupB x' y' := by
  obtain ⟨env', M', e, e6, e7, x', y', rfl, rfl, c⟩ := forL_inv (t := .tp [6, 7]) (body := execs (callN prog W (k + 29)) W bodyL) (fun env M => ∃ e6 e7 x y, env = [E0, some (.ref 0), E2, E3, E4, E5, e6, e7, none, none, none, none, none] ∧ M = cup x y :: T ∧ CupB x y)
    [.tup [.int 1, .int 9], .tup [.int 3, .int 6], .tup [.int 5, .int 4]] [E0, some (.ref 0), E2, E3, E4, E5, none, none, none, none, none, none, none] (cup x y :: T) ⟨none, none, x, y, rfl, rfl, h⟩ (by
      rintro v hv _ _ ⟨e6, e7, x, y, rfl, rfl, c⟩
      have key : ∀ m s : Nat, m ≤ 9 → 1 ≤ s → s ≤ 9 → (2 * s) ^ (2 * m) < 2 ^ 31 → v = .tup [.int m, .int s] → (∃ env1 env' M', bindT (.tp [6, 7]) v [E0, some (.ref 0), E2, E3, E4, E5, e6, e7, none, none, none, none, none] = some env1 ∧ execs (callN prog W (k + 29)) W bodyL env1 (cup x y :: T) = some (.nx env' M') ∧ ∃ e6 e7 x y, env' = [E0, some (.ref 0), E2, E3, E4, E5, e6, e7, none, none, none, none, none] ∧ M' = cup x y :: T ∧ CupB x y) := fun m s h1 h2 h3 h4 hv => by
        obtain ⟨x1, y1, e1, c1⟩ := lad_step k E0 E2 E3 E4 E5 e6 e7 T c m s h1 h2 h3 h4
        exact ⟨_, _, _, by rw [hv, bindT_tp, if_pos (by rfl)]; rfl, e1, _, _, x1, y1, rfl, rfl, c1⟩
      rcases List.mem_cons.mp hv with hv | hv
      · exact key 1 9 (by decide) (by decide) (by decide) (by decide) hv
      · rcases List.mem_cons.mp hv with hv | hv
        · exact key 3 6 (by decide) (by decide) (by decide) (by decide) hv
        · rcases List.mem_cons.mp hv with hv | hv
          · exact key 5 4 (by decide) (by decide) (by decide) (by decide) hv
          · cases hv)
  exact ⟨e6, e7, x', y', e, c⟩
theorem loop_any (k : Nat) (E0 E2 E3 E4 E5 e6 e7 : Option PV) (T : Mem) {x y : Int} (h : CupB x y) :
    ∃ e7' x' y', forL (.nm 7) [] (execs (callN prog W (k + 29)) W bodyA) [.int 2, .int 4, .int 9] [E0, some (.ref 0), E2, E3, E4, E5, e6, e7, none, none, none, none, none] (cup x y :: T) =
      some (.nx [E0, some (.ref 0), E2, E3, E4, E5, e6, e7', none, none, none, none, none] (cup x' y' :: T)) ∧ CupB x' y' := by
  obtain ⟨env', M', e, e7, x', y', rfl, rfl, c⟩ := forL_inv (t := .nm 7) (body := execs (callN prog W (k + 29)) W bodyA) (fun env M => ∃ e7 x y, env = [E0, some (.ref 0), E2, E3, E4, E5, e6, e7, none, none, none, none, none] ∧ M = cup x y :: T ∧ CupB x y)
    [.int 2, .int 4, .int 9] [E0, some (.ref 0), E2, E3, E4, E5, e6, e7, none, none, none, none, none] (cup x y :: T) ⟨e7, x, y, rfl, rfl, h⟩ (by
      rintro v hv _ _ ⟨e7, x, y, rfl, rfl, c⟩
      have key : ∀ s : Nat, 1 ≤ s → s ≤ 9 → v = .int s → (∃ env1 env' M', bindT (.nm 7) v [E0, some (.ref 0), E2, E3, E4, E5, e6, e7, none, none, none, none, none] = some env1 ∧ execs (callN prog W (k + 29)) W bodyA env1 (cup x y :: T) = some (.nx env' M') ∧ ∃ e7 x y, env' = [E0, some (.ref 0), E2, E3, E4, E5, e6, e7, none, none, none, none, none] ∧ M' = cup x y :: T ∧ CupB x y) := fun s h2 h3 hv => by
        obtain ⟨x1, y1, e1, c1⟩ := any_step k E0 E2 E3 E4 E5 e6 T c s h2 h3
        exact ⟨_, _, _, by rw [hv, bindT_nm]; rfl, e1, _, x1, y1, rfl, rfl, c1⟩
      rcases List.mem_cons.mp hv with hv | hv
      · exact key 2 (by decide) (by decide) hv
      · rcases List.mem_cons.mp hv with hv | hv
        · exact key 4 (by decide) (by decide) hv
        · rcases List.mem_cons.mp hv with hv | hv
          · exact key 9 (by decide) (by decide) hv
          · cases hv)
  exact ⟨e7, x', y', e, c⟩
theorem loop_rows (k : Nat) (M : Mem) : ∀ (vs : List PV) (env : Env), (∃ a b c d e f g h i j l m n, env = [a, b, c, d, e, f, g, h, i, j, l, m, n]) → (∀ v ∈ vs, ∃ a b c d, v = ch a b c d ∧ Sm 31 a b c d ∧ a * d - b * c = 1) →
    ∃ env', forL (.nm 12) [] (execs (callN prog W (k + 29)) W bodyR) vs env M = some (.nx env' M)
  | [], env, _, _ => ⟨env, forL_n⟩
  | v :: vs, _, ⟨a, b, c, d, e, f, g, h, i, j, l, m, n, rfl⟩, hv => by
    obtain ⟨p, q, r, s, rfl, h1, h2⟩ := hv v List.mem_cons_self
    have e3 := right_ok (k + 9) M h1 h2
    obtain ⟨env', e'⟩ := loop_rows k M vs [a, b, c, d, e, f, g, h, i, j, l, m, some (ch p q r s)] ⟨_, _, _, _, _, _, _, _, _, _, _, _, _, rfl⟩ fun w hw => hv w (List.mem_cons_of_mem _ hw)
    refine ⟨env', ?_⟩
    have e1 : execs (callN prog W (k + 29)) W bodyR [a, b, c, d, e, f, g, h, i, j, l, m, some (ch p q r s)] M = some (.nx [a, b, c, d, e, f, g, h, i, j, l, m, some (ch p q r s)] M) := by
      unfold bodyR
      clear hv h1 h2 e'
      walk_at "evf"
    rw [forL_c, bindT_nm, Option.bind_some]
    show nxt (execs (callN prog W (k + 29)) W bodyR [a, b, c, d, e, f, g, h, i, j, l, m, some (ch p q r s)] M) _ = _
    rw [e1, nxt_nx]
    exact e'

theorem sm2 : sm 31 2 := ⟨by unfold lt2; decide +kernel, by decide +kernel⟩
theorem sm3 : sm 31 3 := ⟨by unfold lt2; decide +kernel, by decide +kernel⟩
theorem smh : sm 31 (1 / 2) := ⟨by unfold lt2; decide +kernel, by decide +kernel⟩
theorem smm : sm 31 (-1) := ⟨by unfold lt2; decide +kernel, by decide +kernel⟩
theorem sm5 : sm 31 (-1 / 5) := ⟨by unfold lt2; decide +kernel, by decide +kernel⟩
theorem sml : sm 31 (999999 / 1000000) := ⟨by unfold lt2; decide +kernel, by decide +kernel⟩
theorem fr_h : fr (1 / 2) = .tup [.int 1, .int 2] := by
  have e1 : (1 / 2 : Rat).num = 1 := by decide +kernel
  have e2 : (1 / 2 : Rat).den = 2 := by decide +kernel
  unfold fr
  rw [e1, e2]
  rfl
theorem fr_5 : fr (-1 / 5) = .tup [.int (-1), .int 5] := by
  have e1 : (-1 / 5 : Rat).num = -1 := by decide +kernel
  have e2 : (-1 / 5 : Rat).den = 5 := by decide +kernel
  unfold fr
  rw [e1, e2]
  rfl
theorem fr_l : fr (999999 / 1000000) = .tup [.int 999999, .int 1000000] := by
  have e1 : (999999 / 1000000 : Rat).num = 999999 := by decide +kernel
  have e2 : (999999 / 1000000 : Rat).den = 1000000 := by decide +kernel
  unfold fr
  rw [e1, e2]
  rfl
theorem fr_2 : fr 2 = .tup [.int 2, .int 1] := rfl
theorem fr_3 : fr 3 = .tup [.int 3, .int 1] := rfl
theorem nil_of (xs : List PV) : (xs : List PV) = xs := rfl
local macro_rules | `(tactic| walk_at "evl") => `(tactic| simp -implicitDefEqProofs only [execs, exec, eval, evals, evalI, conds, bnd_some, bnd_none, bifb_t, bifb_f, bifb_d, bifb_b, iff_t, iff_d, nxt_nx, nxt_rt, binop, cmpop, addOp_ii, addOp_tt, addOp_ll, subOp_ii, mulOp_ii, fdivOp_ii, modOp_ii, cmpI_ii, tru_bl, tru_int, absB_i, intB_i, asM_int, asM_bl, asM_tup, asM_false, isOp_n, isOp_bb, isNon, setAll_nil, setAll_cons, bindT_nm, bindT_tp, fin_rt, fin_nx, leave_same, bltOp, idx_tup0, idx_tup1, idx_tup2, idx_tup3, idx_lst0, idx_lst1, idx_lst2, idx_lst3, eqD_ii, eqD_bb, eqD_fr, Option.map_some, Option.map_none, Option.bind_some, List.getElem?_cons_zero, List.getElem?_cons_succ, List.set_cons_zero, List.set_cons_succ, List.length_cons, List.length_nil, if_true, if_false, decide_true, decide_false, Bool.not_true, Bool.not_false, decide_eq_true_eq, sizeL, Nat.reduceAdd, Nat.reduceLeDiff, Nat.zero_add, beq_self_eq_true, seqG_tup, seqG_lst, lenB_tup, lenB_lst, idx_cup0, idx_cup1, setAt0, setAt1, cup, isTy, Bool.false_eq_true, newL_f, newL_t, fin_rtk, List.nil_append, wipeE, Int.reduceNe, Int.reduceEq, Int.reduceLT, Int.reduceLE, Int.reduceAdd, Int.reduceSub, Int.reduceMul, Int.reduceNeg, Int.reduceGT, asM_lst, Nat.reduceLT, fr_0', fr_1', fr_m1', idx_fr0, idx_fr1, List.cons_append, List.append_nil, cmpop, k_ONE, k_NONE, k_PLAIN, k_MANY, k_DIGITS, not_true_eq_false, not_false_eq_true, ite_true, ite_false, *])
theorem law_ok (k : Nat) (ns : List Int) (hl : ns.length ≤ 63) : ∃ M', callN prog W (k + 30) 42 [.rol (ns.map PV.int)] [] = some (.bl true, M') := by
  obtain ⟨x, y, e0, c0⟩ := cup_ok (k + 28) ns hl
  have s0 := sm_0 31 (by decide)
  have s1 := sm_1 31 (by decide)
  have w {a b c d : Rat} (h : Sm 31 a b c d) : Sm 132 a b c d := h.w (by decide)
  have q1 : ((2 : Rat) - 1) / 1 = 1 := by decide +kernel
  have q2 : ((1 : Rat) - 1) / 1 = 0 := by decide +kernel
  have t1 : ∀ k M, callN prog W (k + 6) 18 [.tup [.tup [.int 2, .int 1], fr 1, fr 1, fr 1]] M = some (.bl true, M) := fun k M =>
    (is_told_chain_ok k M (w ⟨sm2, s1, s1, s1⟩) (by decide +kernel)).trans (by rw [decide_eq_true (by decide +kernel)])
  have t2 : ∀ k M, callN prog W (k + 6) 18 [.tup [fr 0, fr 1, fr (-1), fr 0]] M = some (.bl false, M) := fun k M =>
    (is_told_chain_ok k M (w ⟨s0, s1, smm, s0⟩) (by decide +kernel)).trans (by rw [decide_eq_false (by decide +kernel)])
  have t3 : ∀ k M, callN prog W (k + 6) 19 [.tup [.tup [.int 2, .int 1], fr 1, fr 1, fr 1]] M = some (.tup [fr 1, fr 1, fr 0], M) := fun k M =>
    (star_ok k M (w ⟨sm2, s1, s1, s1⟩) (by decide +kernel)).trans (by rw [if_pos (by decide +kernel), if_neg (by decide +kernel), q1, q2])
  have t4 : ∀ k M, callN prog W (k + 6) 20 [.tup [.tup [.int 2, .int 1], fr 1, fr 1, fr 1]] M = some (.tup [fr 0, fr 1, fr 1], M) := fun k M =>
    (ring_ok k M (w ⟨sm2, s1, s1, s1⟩) (by decide +kernel)).trans (by rw [if_pos (by decide +kernel), if_neg (by decide +kernel), q1, q2])
  have t5 : ∀ k M, callN prog W (k + 6) 19 [.tup [fr 1, .tup [.int 3, .int 1], fr 0, fr 1]] M = some (.tup [.tup [.int 3, .int 1], fr 0, fr 0], M) := fun k M =>
    (star_ok k M (w ⟨s1, sm3, s0, s1⟩) (by decide +kernel)).trans (by rw [if_pos (by decide +kernel), if_pos (by decide +kernel)]; rfl)
  have t6 : ∀ k M, callN prog W (k + 6) 20 [.tup [fr 1, .tup [.int 3, .int 1], fr 0, fr 1]] M = some (.tup [fr 0, .tup [.int 3, .int 1], fr 0], M) := fun k M =>
    (ring_ok k M (w ⟨s1, sm3, s0, s1⟩) (by decide +kernel)).trans (by
      have e : ((1 : Rat) - 1) / 3 = 0 := by decide +kernel
      rw [if_pos (by decide +kernel), if_neg (by decide +kernel), e]; rfl)
  have t7 : ∀ k M, callN prog W (k + 6) 20 [.tup [fr 1, fr 0, .tup [.int 1, .int 2], fr 1]] M = some (.non, M) := fun k M => by
    rw [← fr_h]
    exact (ring_ok k M (w ⟨s1, s0, smh, s1⟩) (by decide +kernel)).trans (by rw [if_pos (by decide +kernel), if_pos (by decide +kernel)])
  have t8 : ∀ k M, callN prog W (k + 6) 19 [.tup [.tup [.int 1, .int 2], fr 0, fr 0, .tup [.int 2, .int 1]]] M = some (.non, M) := fun k M => by
    rw [← fr_h]
    exact (star_ok k M (w ⟨smh, s0, s0, sm2⟩) (by decide +kernel)).trans (by rw [if_neg (by decide +kernel)])
  generalize hL1 : [PV.bl true, PV.bl false, PV.tup [fr 1, fr 1, fr 0], PV.tup [fr 0, fr 1, fr 1]] = l1
  generalize hL2 : [PV.bl true, PV.bl false, PV.tup [fr 1, fr 1, fr 0], PV.tup [fr 0, fr 1, fr 1], .tup [.tup [.int 3, .int 1], fr 0, fr 0], .tup [fr 0, .tup [.int 3, .int 1], fr 0], .non, .non] = l2
  generalize hL3 : [PV.bl true, PV.bl false, PV.tup [fr 1, fr 1, fr 0], PV.tup [fr 0, fr 1, fr 1], .tup [.tup [.int 3, .int 1], fr 0, fr 0], .tup [fr 0, .tup [.int 3, .int 1], fr 0], .non] = l3
  have n1 : l1.length = 4 := by rw [← hL1]; rfl
  have n2 : l2.length = 8 := by rw [← hL2]; rfl
  have n3 : l3.length = 7 := by rw [← hL3]; rfl
  have a1 : addOp [cup x y, .lst l1] (.ref 1) (.lst [.tup [.tup [.int 3, .int 1], fr 0, fr 0], .tup [fr 0, .tup [.int 3, .int 1], fr 0], .non]) = some (.lst l3) := by rw [← hL1, ← hL3]; rfl
  have a2 : l3 ++ [.non] = l2 := by rw [← hL2, ← hL3]; rfl
  have a3 : ∀ x y, leave 0 (.bl true) [cup x y, .lst l1, .lst l2] = some (.bl true, []) := fun x y => rfl
  have lk : callN prog W (k + 29) 30 [.ref 2, .lst l2] [cup x y, .lst l1, .lst l2] = some (.bl true, [cup x y, .lst l1, .lst l2]) := by
    refine like_ref (k + 26) 2 l2 _ rfl ?_ ?_
    · rw [← hL2]; rfl
    · rw [← hL2]; exact Nat.le_trans (Nat.le_of_ble_eq_true (n := dpts _) (m := 10) rfl) (by omega)
  obtain ⟨e6, e7, x1, y1, e1, c1⟩ := loop_lad k (some (.rol (ns.map PV.int))) (some (.tup [.tup [.int 2, .int 1], fr 1, fr 1, fr 1])) (some (.tup [fr 1, .tup [.int 3, .int 1], fr 0, fr 1])) (some (.ref 2)) (some (.lst l2)) [.lst l1, .lst l2] c0
  obtain ⟨e7', x2, y2, e2, c2⟩ := loop_any k (some (.rol (ns.map PV.int))) (some (.tup [.tup [.int 2, .int 1], fr 1, fr 1, fr 1])) (some (.tup [fr 1, .tup [.int 3, .int 1], fr 0, fr 1])) (some (.ref 2)) (some (.lst l2)) e6 e7 [.lst l1, .lst l2] c1
  obtain ⟨r, x3, y3, e3, c3, m3⟩ := number_ok (k + 27) [.lst l1, .lst l2] c2 9 (by decide) (by decide)
  obtain ⟨g, x4, y4, e4, c4, m4⟩ := number_ok (k + 27) [.lst l1, .lst l2] c3 9 (by decide) (by decide)
  have t9 : ∀ k M, callN prog W (k + 2) 34 [fr 1, .tup [.int 999999, .int 1000000]] M = some (fr (1 / (999999 / 1000000)), M) := fun k M => by
    rw [← fr_l]
    exact l_over_ok k M s1 sml (by omega) (by decide +kernel)
  have p6 : powOp (.int 10) (.int 6) = some (.int 1000000) := rfl
  obtain ⟨env', e5⟩ := loop_rows k [cup x4 y4, .lst l1, .lst l2] [.tup [fr 1, fr r, fr 0, fr 1], .tup [fr 1, fr 0, fr g, fr 1], .tup [.tup [.int 999999, .int 1000000], fr 0, fr 0, fr (1 / (999999 / 1000000))], .tup [fr 1, .tup [.int (-1), .int 5], fr 0, fr 1]]
    [some (.rol (ns.map PV.int)), some (.ref 0), some (.tup [.tup [.int 2, .int 1], fr 1, fr 1, fr 1]), some (.tup [fr 1, .tup [.int 3, .int 1], fr 0, fr 1]), some (.ref 2), some (.lst l2), e6, e7', some (fr r), some (fr g), some (.tup [.int 999999, .int 1000000]),
      some (.lst [.tup [fr 1, fr r, fr 0, fr 1], .tup [fr 1, fr 0, fr g, fr 1], .tup [.tup [.int 999999, .int 1000000], fr 0, fr 0, fr (1 / (999999 / 1000000))]]), none] ⟨_, _, _, _, _, _, _, _, _, _, _, _, _, rfl⟩ (by
      intro v hv
      rcases List.mem_cons.mp hv with rfl | hv
      · exact ⟨1, r, 0, 1, rfl, ⟨s1, (m3.sm (n := 4) (by decide)).mono (by decide), s0, s1⟩, by grind⟩
      rcases List.mem_cons.mp hv with rfl | hv
      · exact ⟨1, 0, g, 1, rfl, ⟨s1, s0, (m4.sm (n := 4) (by decide)).mono (by decide), s1⟩, by grind⟩
      rcases List.mem_cons.mp hv with rfl | hv
      · exact ⟨999999 / 1000000, 0, 0, 1 / (999999 / 1000000), by rw [← fr_l]; rfl, ⟨sml, s0, s0, ⟨by unfold lt2; decide +kernel, by decide +kernel⟩⟩, by decide +kernel⟩
      rcases List.mem_cons.mp hv with rfl | hv
      · exact ⟨1, -1 / 5, 0, 1, by rw [← fr_5]; rfl, ⟨s1, sm5, s0, s1⟩, by decide +kernel⟩
      · cases hv)
  rw [u_law]
  unfold m_law
  rw [show (Ss.cons (.ite (.not (.call 41 (.cons (.call 40 (.cons (.call 39 (.cons (.var 1) (.cons (.var 6) (.cons (.var 7) .nil)))) .nil)) .nil))) (.cons (.ret (.cst (.bl false))) .nil) .nil) .nil) = bodyL from rfl, show (Ss.cons (.ite (.not (.call 41 (.cons (.call 37 (.cons (.var 1) (.cons (.var 7) .nil))) .nil))) (.cons (.ret (.cst (.bl false))) .nil) .nil) .nil) = bodyA from rfl, show (Ss.cons (.ite (.not (.call 41 (.cons (.var 12) .nil))) (.cons (.ret (.cst (.bl false))) .nil) .nil) .nil) = bodyR from rfl]
  have e3 : callN prog W (k + 27 + 2) 38 [.ref 0, .int 9] [cup x2 y2, .lst l1, .lst l2] = some (fr r, [cup x3 y3, .lst l1, .lst l2]) := e3
  have e4 : callN prog W (k + 27 + 2) 38 [.ref 0, .int 9] [cup x3 y3, .lst l1, .lst l2] = some (fr g, [cup x4 y4, .lst l1, .lst l2]) := e4
  clear m3 m4 c0 c1 c2 c3 c4 w s0 s1 q1 q2
  refine ⟨[], ?_⟩
  walk_at "evl"

end Lw

namespace Lw
theorem pure (ns : List Int) (hl : ns.length ≤ 63) (hb : ∀ z ∈ ns, PySem.Builtin.Int.intBits z ≤ 1048576) : ∃ M', Ev.callN prog W 60 42 [.rol (ns.map Ev.PV.int)] [] = some (.bl true, M') := law_ok 30 ns hl
end Lw
namespace Lw
open PySem PySem.Spec PyProof.Rows L2 Ev
theorem law_end {P : Program} {w : World} {K : PySem.W.Frag} {mg : Str → Option Value} {fa : Addr} {W : Nat} (hfa : mg "law" = some (.ref fa)) (d_is_integer : DefOf K mg "is_integer" s_is_integer) (d_is_tuple_of : DefOf K mg "is_tuple_of" s_is_tuple_of) (d_divisor_of : DefOf K mg "divisor_of" s_divisor_of) (d_lowest : DefOf K mg "lowest" s_lowest) (d_sum_of : DefOf K mg "sum_of" s_sum_of) (d_less_by : DefOf K mg "less_by" s_less_by) (d_product_of : DefOf K mg "product_of" s_product_of) (d_part_of : DefOf K mg "part_of" s_part_of) (d_is_under : DefOf K mg "is_under" s_is_under) (d_fits_fraction : DefOf K mg "fits_fraction" s_fits_fraction) (d_fits_chain : DefOf K mg "fits_chain" s_fits_chain) (d_need_chain : DefOf K mg "need_chain" s_need_chain) (d_is_from_none : DefOf K mg "is_from_none" s_is_from_none) (d_joined_chain : DefOf K mg "joined_chain" s_joined_chain) (d_product_in : DefOf K mg "product_in" s_product_in) (d_turned_chain : DefOf K mg "turned_chain" s_turned_chain) (d_is_told_in : DefOf K mg "is_told_in" s_is_told_in) (d_chain_turned : DefOf K mg "chain_turned" s_chain_turned) (d_is_told_chain : DefOf K mg "is_told_chain" s_is_told_chain) (d_star_of_chain : DefOf K mg "star_of_chain" s_star_of_chain) (d_ring_of_chain : DefOf K mg "ring_of_chain" s_ring_of_chain) (d_fits_rung : DefOf K mg "fits_rung" s_fits_rung) (d_fits_ladder : DefOf K mg "fits_ladder" s_fits_ladder) (d_need_ladder : DefOf K mg "need_ladder" s_need_ladder) (d_chain_in : DefOf K mg "chain_in" s_chain_in) (d_is_ladder : DefOf K mg "is_ladder" s_is_ladder) (d_ladder_chain : DefOf K mg "ladder_chain" s_ladder_chain) (d__law_cup : DefOf K mg "_law_cup" s__law_cup) (d__law_roll : DefOf K mg "_law_roll" s__law_roll) (d__law_sort : DefOf K mg "_law_sort" s__law_sort) (d__law_like : DefOf K mg "_law_like" s__law_like) (d__law_least : DefOf K mg "_law_least" s__law_least) (d__law_plus : DefOf K mg "_law_plus" s__law_plus) (d__law_times : DefOf K mg "_law_times" s__law_times) (d__law_over : DefOf K mg "_law_over" s__law_over) (d__law_under : DefOf K mg "_law_under" s__law_under) (d__law_joined : DefOf K mg "_law_joined" s__law_joined) (d__law_any_chain : DefOf K mg "_law_any_chain" s__law_any_chain) (d__law_number : DefOf K mg "_law_number" s__law_number) (d__law_ladder : DefOf K mg "_law_ladder" s__law_ladder) (d__law_chain_of : DefOf K mg "_law_chain_of" s__law_chain_of) (d__law_right : DefOf K mg "_law_right" s__law_right) (d_law : DefOf K mg "law" s_law) (c_DIGITS : ∃ z u, mg "DIGITS" = some u ∧ RelV z u ∧ Con K k_DIGITS z) (c_ONE : ∃ z u, mg "ONE" = some u ∧ RelV z u ∧ Con K k_ONE z) (c_PLAIN : ∃ z u, mg "PLAIN" = some u ∧ RelV z u ∧ Con K k_PLAIN z) (c_NONE : ∃ z u, mg "NONE" = some u ∧ RelV z u ∧ Con K k_NONE z) (c_MANY : ∃ z u, mg "MANY" = some u ∧ RelV z u ∧ Con K k_MANY z) (z_isinstance : mg "isinstance" = none) (z_bool : mg "bool" = none) (z_int : mg "int" = none) (z_len : mg "len" = none) (z_tuple : mg "tuple" = none) (z_abs : mg "abs" = none) (z_all : mg "all" = none) (z_list : mg "list" = none) (z_str : mg "str" = none) (z_zip : mg "zip" = none) (z_range : mg "range" = none) :
    ∃ fd : FuncData, (∀ (s : Shared) (v : Value), BindsTo s fd ⟨[v], []⟩ [("script", v)]) ∧ ∀ base : Heap, K.In base → base.Ns mainGlobals mg → FnOk P w K mg base CX0 60 fa fd ["script"] (spC K (callN prog W 60) 42) := by
  obtain ⟨f, fd, e1, F⟩ := id d_law
  obtain rfl : fa = f := by rw [hfa] at e1; cases e1; rfl
  refine ⟨fd, fun s v => ?_, fun base _ _ => fn_ok F sc_law rfl rfl rfl (b_law (tops (P := P) (w := w) (base := base) (W := W) d_is_integer d_is_tuple_of d_divisor_of d_lowest d_sum_of d_less_by d_product_of d_part_of d_is_under d_fits_fraction d_fits_chain d_need_chain d_is_from_none d_joined_chain d_product_in d_turned_chain d_is_told_in d_chain_turned d_is_told_chain d_star_of_chain d_ring_of_chain d_fits_rung d_fits_ladder d_need_ladder d_chain_in d_is_ladder d_ladder_chain d__law_cup d__law_roll d__law_sort d__law_like d__law_least d__law_plus d__law_times d__law_over d__law_under d__law_joined d__law_any_chain d__law_number d__law_ladder d__law_chain_of d__law_right d_law c_DIGITS c_ONE c_PLAIN c_NONE c_MANY z_isinstance z_bool z_int z_len z_tuple z_abs z_all z_list z_str z_zip z_range 59) fa)⟩
  obtain ⟨oc, od, kV, doc, pm, an, cdv, ct, osl, rfl, lk, hcd⟩ := F.ex
  exact .of_eq (bi_law _ _ _ _ _ _ [v] rfl)
end Lw
open PySem PySem.W PyProof.Rows L2 Ev
set_option maxHeartbeats 0 in
theorem PySem.Challenge.cw_endsmeasured_k47_whole_stars_and_rings_holds : PySem.Challenge.rw_endsmeasured_k47_whole_stars_and_rings.Holds := by
  w_on; o_law; k_head; (case hw => w_witness2)
  k_fill
  refine L2.walk_ofB (l := PySem.Challenge.rw_endsmeasured_k47_whole_stars_and_rings) (n := 63) (k := 60) (x := "script") (CX := fun _ => L2.CX0) (sp := fun w => spC _ (callN Lw.prog Lw.W 60) 42) rfl (by decide) rfl ⟨rfl, by decide, by decide⟩ (fun w h Y => PySem.W.kIn_of Y) ?F (fun _ _ a ns hl hb _ hS => let ⟨_, h⟩ := Lw.pure ns hl hb; law_sp hS h) (fun _ _ _ _ _ h => h)
  case F =>
    intro w mg fa h KX G hmg
    refine' Lw.law_end hmg (def_mk (x := "is_integer") (st := Lw.s_is_integer) KX G ?a0 ?l1 ?c2 ?k3)
      (def_mk (x := "is_tuple_of") (st := Lw.s_is_tuple_of) KX G ?a4 ?l5 ?c6 ?k7)
      (def_mk (x := "divisor_of") (st := Lw.s_divisor_of) KX G ?a8 ?l9 ?c10 ?k11)
      (def_mk (x := "lowest") (st := Lw.s_lowest) KX G ?a12 ?l13 ?c14 ?k15)
      (def_mk (x := "sum_of") (st := Lw.s_sum_of) KX G ?a16 ?l17 ?c18 ?k19)
      (def_mk (x := "less_by") (st := Lw.s_less_by) KX G ?a20 ?l21 ?c22 ?k23)
      (def_mk (x := "product_of") (st := Lw.s_product_of) KX G ?a24 ?l25 ?c26 ?k27)
      (def_mk (x := "part_of") (st := Lw.s_part_of) KX G ?a28 ?l29 ?c30 ?k31)
      (def_mk (x := "is_under") (st := Lw.s_is_under) KX G ?a32 ?l33 ?c34 ?k35)
      (def_mk (x := "fits_fraction") (st := Lw.s_fits_fraction) KX G ?a36 ?l37 ?c38 ?k39)
      (def_mk (x := "fits_chain") (st := Lw.s_fits_chain) KX G ?a40 ?l41 ?c42 ?k43)
      (def_mk (x := "need_chain") (st := Lw.s_need_chain) KX G ?a44 ?l45 ?c46 ?k47)
      (def_mk (x := "is_from_none") (st := Lw.s_is_from_none) KX G ?a48 ?l49 ?c50 ?k51)
      (def_mk (x := "joined_chain") (st := Lw.s_joined_chain) KX G ?a52 ?l53 ?c54 ?k55)
      (def_mk (x := "product_in") (st := Lw.s_product_in) KX G ?a56 ?l57 ?c58 ?k59)
      (def_mk (x := "turned_chain") (st := Lw.s_turned_chain) KX G ?a60 ?l61 ?c62 ?k63)
      (def_mk (x := "is_told_in") (st := Lw.s_is_told_in) KX G ?a64 ?l65 ?c66 ?k67)
      (def_mk (x := "chain_turned") (st := Lw.s_chain_turned) KX G ?a68 ?l69 ?c70 ?k71)
      (def_mk (x := "is_told_chain") (st := Lw.s_is_told_chain) KX G ?a72 ?l73 ?c74 ?k75)
      (def_mk (x := "star_of_chain") (st := Lw.s_star_of_chain) KX G ?a76 ?l77 ?c78 ?k79)
      (def_mk (x := "ring_of_chain") (st := Lw.s_ring_of_chain) KX G ?a80 ?l81 ?c82 ?k83)
      (def_mk (x := "fits_rung") (st := Lw.s_fits_rung) KX G ?a84 ?l85 ?c86 ?k87)
      (def_mk (x := "fits_ladder") (st := Lw.s_fits_ladder) KX G ?a88 ?l89 ?c90 ?k91)
      (def_mk (x := "need_ladder") (st := Lw.s_need_ladder) KX G ?a92 ?l93 ?c94 ?k95)
      (def_mk (x := "chain_in") (st := Lw.s_chain_in) KX G ?a96 ?l97 ?c98 ?k99)
      (def_mk (x := "is_ladder") (st := Lw.s_is_ladder) KX G ?a100 ?l101 ?c102 ?k103)
      (def_mk (x := "ladder_chain") (st := Lw.s_ladder_chain) KX G ?a104 ?l105 ?c106 ?k107)
      (def_mk (x := "_law_cup") (st := Lw.s__law_cup) KX G ?a108 ?l109 ?c110 ?k111)
      (def_mk (x := "_law_roll") (st := Lw.s__law_roll) KX G ?a112 ?l113 ?c114 ?k115)
      (def_mk (x := "_law_sort") (st := Lw.s__law_sort) KX G ?a116 ?l117 ?c118 ?k119)
      (def_mk (x := "_law_like") (st := Lw.s__law_like) KX G ?a120 ?l121 ?c122 ?k123)
      (def_mk (x := "_law_least") (st := Lw.s__law_least) KX G ?a124 ?l125 ?c126 ?k127)
      (def_mk (x := "_law_plus") (st := Lw.s__law_plus) KX G ?a128 ?l129 ?c130 ?k131)
      (def_mk (x := "_law_times") (st := Lw.s__law_times) KX G ?a132 ?l133 ?c134 ?k135)
      (def_mk (x := "_law_over") (st := Lw.s__law_over) KX G ?a136 ?l137 ?c138 ?k139)
      (def_mk (x := "_law_under") (st := Lw.s__law_under) KX G ?a140 ?l141 ?c142 ?k143)
      (def_mk (x := "_law_joined") (st := Lw.s__law_joined) KX G ?a144 ?l145 ?c146 ?k147)
      (def_mk (x := "_law_any_chain") (st := Lw.s__law_any_chain) KX G ?a148 ?l149 ?c150 ?k151)
      (def_mk (x := "_law_number") (st := Lw.s__law_number) KX G ?a152 ?l153 ?c154 ?k155)
      (def_mk (x := "_law_ladder") (st := Lw.s__law_ladder) KX G ?a156 ?l157 ?c158 ?k159)
      (def_mk (x := "_law_chain_of") (st := Lw.s__law_chain_of) KX G ?a160 ?l161 ?c162 ?k163)
      (def_mk (x := "_law_right") (st := Lw.s__law_right) KX G ?a164 ?l165 ?c166 ?k167)
      (def_mk (x := "law") (st := Lw.s_law) KX G ?a168 ?l169 ?c170 ?k171)
      (con_ofI KX G ?v172)
      (con_of (z := .ref _) KX G ?v173 rfl (con_tupA ?l174 ?e175 ?y176))
      (con_of (z := .ref _) KX G ?v177 rfl (con_tupR ?l178 ?h179 ?y180))
      (con_of (z := .ref _) KX G ?v181 rfl (con_tupA ?l182 ?e183 ?y184))
      (con_ofI KX G ?v185)
      (PySem.W.mg_none_of KX G ?z186)
      (PySem.W.mg_none_of KX G ?z187)
      (PySem.W.mg_none_of KX G ?z188)
      (PySem.W.mg_none_of KX G ?z189)
      (PySem.W.mg_none_of KX G ?z190)
      (PySem.W.mg_none_of KX G ?z191)
      (PySem.W.mg_none_of KX G ?z192)
      (PySem.W.mg_none_of KX G ?z193)
      (PySem.W.mg_none_of KX G ?z194)
      (PySem.W.mg_none_of KX G ?z195)
      (PySem.W.mg_none_of KX G ?z196)
    (case a0 => k_is)
    (case l1 => k_is)
    (case c2 => k_is)
    (case k3 => k_is)
    (case a4 => k_is)
    (case l5 => k_is)
    (case c6 => k_is)
    (case k7 => k_is)
    (case a8 => k_is)
    (case l9 => k_is)
    (case c10 => k_is)
    (case k11 => k_is)
    (case a12 => k_is)
    (case l13 => k_is)
    (case c14 => k_is)
    (case k15 => k_is)
    (case a16 => k_is)
    (case l17 => k_is)
    (case c18 => k_is)
    (case k19 => k_is)
    (case a20 => k_is)
    (case l21 => k_is)
    (case c22 => k_is)
    (case k23 => k_is)
    (case a24 => k_is)
    (case l25 => k_is)
    (case c26 => k_is)
    (case k27 => k_is)
    (case a28 => k_is)
    (case l29 => k_is)
    (case c30 => k_is)
    (case k31 => k_is)
    (case a32 => k_is)
    (case l33 => k_is)
    (case c34 => k_is)
    (case k35 => k_is)
    (case a36 => k_is)
    (case l37 => k_is)
    (case c38 => k_is)
    (case k39 => k_is)
    (case a40 => k_is)
    (case l41 => k_is)
    (case c42 => k_is)
    (case k43 => k_is)
    (case a44 => k_is)
    (case l45 => k_is)
    (case c46 => k_is)
    (case k47 => k_is)
    (case a48 => k_is)
    (case l49 => k_is)
    (case c50 => k_is)
    (case k51 => k_is)
    (case a52 => k_is)
    (case l53 => k_is)
    (case c54 => k_is)
    (case k55 => k_is)
    (case a56 => k_is)
    (case l57 => k_is)
    (case c58 => k_is)
    (case k59 => k_is)
    (case a60 => k_is)
    (case l61 => k_is)
    (case c62 => k_is)
    (case k63 => k_is)
    (case a64 => k_is)
    (case l65 => k_is)
    (case c66 => k_is)
    (case k67 => k_is)
    (case a68 => k_is)
    (case l69 => k_is)
    (case c70 => k_is)
    (case k71 => k_is)
    (case a72 => k_is)
    (case l73 => k_is)
    (case c74 => k_is)
    (case k75 => k_is)
    (case a76 => k_is)
    (case l77 => k_is)
    (case c78 => k_is)
    (case k79 => k_is)
    (case a80 => k_is)
    (case l81 => k_is)
    (case c82 => k_is)
    (case k83 => k_is)
    (case a84 => k_is)
    (case l85 => k_is)
    (case c86 => k_is)
    (case k87 => k_is)
    (case a88 => k_is)
    (case l89 => k_is)
    (case c90 => k_is)
    (case k91 => k_is)
    (case a92 => k_is)
    (case l93 => k_is)
    (case c94 => k_is)
    (case k95 => k_is)
    (case a96 => k_is)
    (case l97 => k_is)
    (case c98 => k_is)
    (case k99 => k_is)
    (case a100 => k_is)
    (case l101 => k_is)
    (case c102 => k_is)
    (case k103 => k_is)
    (case a104 => k_is)
    (case l105 => k_is)
    (case c106 => k_is)
    (case k107 => k_is)
    (case a108 => k_is)
    (case l109 => k_is)
    (case c110 => k_is)
    (case k111 => k_is)
    (case a112 => k_is)
    (case l113 => k_is)
    (case c114 => k_is)
    (case k115 => k_is)
    (case a116 => k_is)
    (case l117 => k_is)
    (case c118 => k_is)
    (case k119 => k_is)
    (case a120 => k_is)
    (case l121 => k_is)
    (case c122 => k_is)
    (case k123 => k_is)
    (case a124 => k_is)
    (case l125 => k_is)
    (case c126 => k_is)
    (case k127 => k_is)
    (case a128 => k_is)
    (case l129 => k_is)
    (case c130 => k_is)
    (case k131 => k_is)
    (case a132 => k_is)
    (case l133 => k_is)
    (case c134 => k_is)
    (case k135 => k_is)
    (case a136 => k_is)
    (case l137 => k_is)
    (case c138 => k_is)
    (case k139 => k_is)
    (case a140 => k_is)
    (case l141 => k_is)
    (case c142 => k_is)
    (case k143 => k_is)
    (case a144 => k_is)
    (case l145 => k_is)
    (case c146 => k_is)
    (case k147 => k_is)
    (case a148 => k_is)
    (case l149 => k_is)
    (case c150 => k_is)
    (case k151 => k_is)
    (case a152 => k_is)
    (case l153 => k_is)
    (case c154 => k_is)
    (case k155 => k_is)
    (case a156 => k_is)
    (case l157 => k_is)
    (case c158 => k_is)
    (case k159 => k_is)
    (case a160 => k_is)
    (case l161 => k_is)
    (case c162 => k_is)
    (case k163 => k_is)
    (case a164 => k_is)
    (case l165 => k_is)
    (case c166 => k_is)
    (case k167 => k_is)
    (case a168 => k_is)
    (case l169 => k_is)
    (case c170 => k_is)
    (case k171 => k_is)
    (case v172 => k_is)
    (case v173 => k_is)
    (case l174 => k_is)
    (case e175 => rfl)
    (case y176 => decide)
    (case v177 => k_is)
    (case l178 => k_is)
    (case h179 => exact (.cons ⟨.ref _, rfl, con_tupA (by k_is) (by rfl) (by decide)⟩ (.cons ⟨.ref _, rfl, con_tupA (by k_is) (by rfl) (by decide)⟩ (.cons ⟨.ref _, rfl, con_tupA (by k_is) (by rfl) (by decide)⟩ (.cons ⟨.ref _, rfl, con_tupA (by k_is) (by rfl) (by decide)⟩ .nil)))))
    (case y180 => decide)
    (case v181 => k_is)
    (case l182 => k_is)
    (case e183 => rfl)
    (case y184 => decide)
    (case v185 => k_is)
    (case z186 => k_is)
    (case z187 => k_is)
    (case z188 => k_is)
    (case z189 => k_is)
    (case z190 => k_is)
    (case z191 => k_is)
    (case z192 => k_is)
    (case z193 => k_is)
    (case z194 => k_is)
    (case z195 => k_is)
    (case z196 => k_is)
