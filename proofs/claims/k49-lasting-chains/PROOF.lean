import PyProof.Rows.All
import HandS.ForMost
import PyProof.MaxThree
import HandS.IsInst
import HandS.TupAny
import HandS.Zip
import HandS.Wide
import HandS.Flow
import HandS.Sort
import HandS.Style
import HandS.Codes
import HandS.TupMul
import HandS.Iter
import HandS.NoneIn
import KE.KDictZip
import HandS.Words
import PySem.Challenge.RW_endsmeasured_k49_whole_lasting_chains
import HandS.EndBits
set_option Elab.async false
set_option linter.all false
set_option maxRecDepth 100000
namespace Ev
open PySem PySem.Spec PyProof.Rows L2
theorem args_max4 (a b c d : Value) : argsOk "max" ⟨[a, b, c, d], []⟩ := by unfold argsOk; kernel_rfl
section
variable {prog : Program} {w : World} {A : Around} {E : Value → Shared → Prop} {s : Shared}
theorem call_max_four {a b c d : Value} {Q : Value → Shared → Prop}
    (h : wpAny (model prog w) A.in1 (pyIter (.ref s.heap.objs.size)) (fun it s₂ => ∃ I fp wr n P St bt, it = .ref I ∧ Walks prog w A.in1 I fp wr n P St ∧ St 0 s₂.heap ∧ (∀ b ∈ fp, b < s₂.heap.objs.size) ∧ 0 < n ∧ CmpOf prog w A.in1 .Gt P bt ∧
      ∀ v h' tk, P (argBest bt (n - 1)) v → (∀ b o, b ∉ wr → s₂.heap.get? b = some o → h'.get? b = some o) → Q v { s₂ with heap := h', toks := tk }) E
      { s with heap := s.heap.push { cls := .type "tuple", data := .seq #[a, b, c, d] } }) :
    wpAny (model prog w) A (call (.builtin "max") [a, b, c, d]) Q E s := by
  have hname : (toString "max" ++ toString ".loop" : String) = "max.loop" := by decide
  refine call_function_tree F.kind_max F.plain_max F.entry_max (args_max4 _ _ _ _) ?_
  show wpAny _ A.in1 (Builtin.Builtins.bindParams "max" ["key", "default"] 0 ⟨[], []⟩ >>= _) _ _ s
  refine wpAny_bind (wpAny_of_eq (show Builtin.Builtins.bindParams "max" ["key", "default"] 0 ⟨[], []⟩ = pure [none, none] from rfl) ?_)
  show wpAny _ A.in1 (newTuple [a, b, c, d] >>= _) _ _ s
  refine wpAny_bind (wpAny_newObj_type ?_)
  refine wpAny_bind (wpAny_mono h (fun it s₂ h₂ => ?_) fun _ _ e => e)
  obtain ⟨I, fp, wr, n, P, St, bt, rfl, W, hst, hfp, hn, hcmp, hQ⟩ := h₂
  refine wpAny_bind (wpAny_newObj_type ?_)
  have hSf : s₂.heap.objs.size ∉ fp := fun hm => Nat.lt_irrefl _ (hfp _ hm)
  rw [hname]
  refine wpAny_pure ⟨plainId_quiet F.plain_max_loop _, codeAny_max_loop_first W bt hcmp s₂.heap.objs.size hSf hn (W.frame _ _ _ hst fun b _ o e => Heap.get?_push_of_some _ e) (Heap.get?_push_size _ rfl) fun v h' tk hP hk => ?_⟩
  exact hQ v h' tk hP fun b o hbw e => hk b o hbw (Nat.ne_of_lt (Heap.lt_size e)) (Heap.get?_push_of_some _ e)
theorem max_four_ints {a b c d : Int} {t u x y : Tok} {Q : Value → Shared → Prop} (hh : A.handled = none)
    (h : ∀ h' tk m t', (∀ d o, s.heap.get? d = some o → h'.get? d = some o) → m ∈ [a, b, c, d] → (∀ z ∈ [a, b, c, d], z ≤ m) → Q (.int m t') { s with heap := h', toks := tk }) :
    wpAny (model prog w) A (call (.builtin "max") [.int a t, .int b u, .int c x, .int d y]) Q E s := by
  have hT : (s.heap.push { cls := .type "tuple", data := .seq #[.int a t, .int b u, .int c x, .int d y] }).IsTuple s.heap.objs.size (intItems #[(a, t), (b, u), (c, x), (d, y)]) := ⟨_, Heap.get?_push_size _ rfl, rfl, 0, by simp [intItems]⟩
  refine call_max_four (wpAny_pyIter_tuple hT ?_)
  have hsz : (s.heap.push { cls := .type "tuple", data := .seq #[.int a t, .int b u, .int c x, .int d y] }).objs.size = s.heap.objs.size + 1 := Heap.size_push ..
  refine ⟨_, [_, s.heap.objs.size], [_], _, _, _, _, rfl, Walks.tuple (A := A.in1) hh _ s.heap.objs.size (by rw [hsz]; exact Nat.ne_of_lt (Nat.lt_succ_self _)) (intItems #[(a, t), (b, u), (c, x), (d, y)]),
    ⟨⟨_, Heap.get?_push_size _ rfl, rfl, rfl⟩, hT.push _⟩, fun d hd => ?_, by simp [intItems], CmpOf.ints_gt (numAt #[(a, t), (b, u), (c, x), (d, y)]) (fun _ _ => intItems_at), fun v h' tk hP hk => ?_⟩
  · show d < ((s.heap.push _).push _).objs.size
    rw [Heap.size_push, hsz]
    rcases List.mem_cons.mp hd with rfl | hd
    · rw [hsz]; exact Nat.lt_succ_self _
    · rcases List.mem_cons.mp hd with rfl | hd
      · exact Nat.lt_succ_of_lt (Nat.lt_succ_self _)
      · cases hd
  · have hold : ∀ d o, s.heap.get? d = some o → h'.get? d = some o := fun d o e => by
      refine hk d o (fun hm => ?_) (Heap.get?_push_of_some _ (Heap.get?_push_of_some _ e))
      rcases List.mem_cons.mp hm with e1 | hm
      · have := Heap.lt_size e; rw [e1, hsz] at this; exact Nat.lt_irrefl _ (Nat.lt_of_succ_lt this)
      · cases hm
    have hsz2 : (intItems #[(a, t), (b, u), (c, x), (d, y)]).size - 1 = 3 := by simp [intItems]
    rw [hsz2] at hP
    obtain ⟨t', rfl⟩ := intItems_at hP
    obtain ⟨h1, h2⟩ := argBest_gt (numAt #[(a, t), (b, u), (c, x), (d, y)]) 3
    refine h h' tk _ t' hold ?_ fun z hz => ?_
    · generalize argBest _ 3 = j at h1
      rcases (show j = 0 ∨ j = 1 ∨ j = 2 ∨ j = 3 by omega) with rfl | rfl | rfl | rfl <;> simp [numAt]
    · simp only [List.mem_cons, List.not_mem_nil, or_false] at hz
      rcases hz with rfl | rfl | rfl | rfl
      · exact h2 0 (by omega)
      · exact h2 1 (by omega)
      · exact h2 2 (by omega)
      · exact h2 3 (by omega)
end
theorem call_max4 {X : Cx} (hc : X.calm = true) : CallR X (.builtin "max") (fun xs H Q => ∃ i j k l, xs = [.int i, .int j, .int k, .int l] ∧ ∀ m, m ∈ [i, j, k, l] → (∀ z ∈ [i, j, k, l], z ≤ m) → Q (.int m) H) := by
  intro pins s σ H xs us Q I r h
  obtain ⟨i, j, k, l, rfl, q⟩ := h
  cases r with
  | cons r1 r =>
  cases r with
  | cons r2 r =>
  cases r with
  | cons r3 r =>
  cases r with
  | cons r4 r =>
  cases r
  obtain ⟨t1, rfl⟩ := r1
  obtain ⟨t2, rfl⟩ := r2
  obtain ⟨t3, rfl⟩ := r3
  obtain ⟨t4, rfl⟩ := r4
  exact max_four_ints (I.ok.hd hc) fun h' tk m t' kp h1 h2 => ⟨.int m, H, I.kept kp, ⟨_, rfl⟩, q m h1 h2⟩
end Ev

/-! A pure interpreter for the programs' common subset: values, expressions, statements. -/
namespace Ev
open PySem L2

/-- values: tuples and read-only lists by value; `ref n` is the n-th mutable cell; `rol` a list that is only read -/
inductive PV where
  | non | bl (b : Bool) | int (i : Int) | str (s : Str)
  | tup (xs : List PV) | lst (xs : List PV) | rol (xs : List PV) | ref (n : Nat)
deriving Inhabited

inductive Cell where
  | lst (xs : List PV)
  | dic (kvs : List (PV × PV))
deriving Inhabited

abbrev Mem := List Cell
abbrev Env := List (Option PV)

inductive Bop where | add | sub | mul | fdiv | mod | pow
inductive Cm where | eq | ne | lt | le | gt | ge | is | isn | isin | notin
inductive Ty where | int | bool | str | tuple | list
inductive Bl where | abs | int | list | tuple | len | sum | all | any | max | min | ztup

/-- a part of a nested target -/
inductive Tp1 where | n (i : Nat) | t (is : List Nat)
mutual
inductive E where
  | var (i : Nat) | cst (v : PV)
  | bin (o : Bop) (f : Bool) (a b : E) | neg (a : E) | not (a : E) | and (a b : E) | or (a b : E)
  | cmp (o : Cm) (a b : E) | chn (o o' : Cm) (a b c : E) | ite (c a b : E)
  | tup (es : Es) | lst (m : Bool) (es : Es)
  | idx (a b : E) | slc (a : E) (bl bh : Bool) (lo hi : E) | rev (a : E)
  | call (f : Nat) (es : Es) | blt (b : Bl) (m : Bool) (es : Es) | isi (a : E) (t : Ty)
  | app (a e : E) | tab (kvs : List (Int × PV)) (e : E)
  | lc (m : Bool) (w : List Nat) (t : T) (it : I) (cs : Es) (e : E)
inductive Es where | nil | cons (e : E) (es : Es)
inductive I where | seq (e : E) | rng (a b : E) | zip (a b : E) | enm (e : E)
inductive T where | nm (i : Nat) | tp (is : List Nat) | ls (is : List Nat) | t2 (ps : List Tp1)
end

mutual
inductive S where
  | set (i : Nat) (e : E) | par (i j : Nat) (a b : E) | par3 (i j l : Nat) (a b c : E) | asg (t : T) (e : E) | seti (o i e : E)
  | exp (e : E) | ite (c : E) (a b : Ss) | whl (c : E) (b : Ss) | for_ (t : T) (it : I) (b : Ss)
  | ret (e : E) | rais
inductive Ss where | nil | cons (s : S) (ss : Ss)
end

/-! ### the operations -/
def items (M : Mem) : PV → Option (List PV)
  | .lst xs | .rol xs => some xs
  | .ref n => match M[n]? with | some (.lst xs) => some xs | _ => none
  | _ => none
def itemsT (M : Mem) : PV → Option (List PV)
  | .tup xs => some xs
  | v => items M v

mutual
def toD : PV → Option PyData
  | .non => some .none
  | .bl b => some (.bool b)
  | .int i => some (.int i)
  | .str s => some (.str s)
  | .tup xs => (toDs xs).map .tuple
  | .lst xs | .rol xs => (toDs xs).map .list
  | .ref _ => none
def toDs : List PV → Option (List PyData)
  | [] => some []
  | x :: xs => match toD x, toDs xs with
    | some d, some ds => some (d :: ds)
    | _, _ => none
end
def toDM (M : Mem) : PV → Option PyData
  | .ref n => match M[n]? with | some (.lst xs) => (toDs xs).map .list | _ => none
  | v => toD v

def truthy (M : Mem) : PV → Option Bool
  | .non => some false
  | .bl b => some b
  | .int i => some (i != 0)
  | .str s => if s.length ≤ sizeLine then some ((s.length : Int) != 0) else none
  | .tup xs | .lst xs | .rol xs => some (!xs.isEmpty)
  | .ref n => match M[n]? with | some (.lst xs) => some (!xs.isEmpty) | _ => none

def iff' {α : Type} (b : Bool) (x : α) : Option α := match b with
  | true => some x
  | false => none
def mulOk (i j : Int) : Bool := decide ((-(2 ^ 64) < i ∧ i < 2 ^ 64) ∨ (-(2 ^ 64) < j ∧ j < 2 ^ 64)) || decide (i.natAbs.log2 + j.natAbs.log2 < 1000000)
def divOk (_i j : Int) : Bool := decide (j ≠ 0) && decide (j.natAbs.log2 < 9000)

/-- lists that may be joined: not the read-only ones -/
def itemsW (M : Mem) : PV → Option (List PV)
  | .lst xs => some xs
  | .ref n => match M[n]? with | some (.lst xs) => some xs | _ => none
  | _ => none

def addOp (M : Mem) (a b : PV) : Option PV := match a, b with
  | .int i, .int j => some (.int (i + j))
  | .tup xs, .tup ys => if decide (xs.length + ys.length ≤ sizeLine) then some (.tup (xs ++ ys)) else none
  | .str x, .str y => if decide (x.length + y.length ≤ sizeLine) then some (.str (x ++ y)) else none
  | a, b => match itemsW M a, itemsW M b with
    | some xs, some ys => if decide (xs.length + ys.length ≤ sizeLine) then some (.lst (xs ++ ys)) else none
    | _, _ => none
def subOp (a b : PV) : Option PV := match a, b with
  | .int i, .int j => some (.int (i - j))
  | .bl a, .bl b => some (.int ((if a then 1 else 0) - (if b then 1 else 0)))
  | _, _ => none
def mulOp (M : Mem) (a b : PV) : Option PV := match a, b with
  | .int i, .int j => if mulOk i j then some (.int (i * j)) else none
  | .tup [], .int k => if decide (-(2 ^ 63) ≤ k) && decide (k < 2 ^ 63) then some (.tup []) else none
  | .tup (x :: xs), .int k => if decide (2 ≤ k) && decide (k ≤ 1000) && decide ((x :: xs).length ≤ 1000) then some (.tup (List.replicate k.toNat (x :: xs)).flatten) else none
  | a, .int k => match itemsW M a with
    | some xs => if decide (-(2 ^ 63) ≤ k) && decide (k < 2 ^ 63) && decide (xs.length * k.toNat ≤ sizeLine) then some (.lst (List.replicate k.toNat xs).flatten) else none
    | _ => none
  | _, _ => none
def fdivOp (a b : PV) : Option PV := match a, b with
  | .int i, .int j => if divOk i j then some (.int (i.fdiv j)) else none
  | _, _ => none
def modOp (a b : PV) : Option PV := match a, b with
  | .int i, .int j => if decide (j ≠ 0) then some (.int (i.fmod j)) else none
  | _, _ => none
def powOp (a b : PV) : Option PV := match a, b with
  | .int i, .int j => if decide (0 ≤ j) && decide (j ≤ 1000000) && decide (i.natAbs < 2 ^ 64) then some (.int (i ^ j.toNat)) else none
  | _, _ => none
def binop (M : Mem) : Bop → PV → PV → Option PV
  | .add => addOp M
  | .sub => subOp
  | .mul => mulOp M
  | .fdiv => fdivOp
  | .mod => modOp
  | .pow => powOp

def eqD (M : Mem) (a b : PV) : Option Bool :=
  match toDM M a, toDM M b with
  | some d, some e => if SeqAt.shaped d && SeqAt.shaped e then some (PyData.eqv d e) else none
  | _, _ => none
/-- x in a list or a tuple of plain values -/
def flatP : PV → Bool
  | .non | .bl _ | .int _ | .str _ => true
  | _ => false
def pvToV : PV → V
  | .non => .non
  | .bl b => .bl b
  | .int i => .int i
  | .str s => .str s
  | _ => .non
def inOp (M : Mem) (a b : PV) : Option Bool :=
  match itemsT M b with
  | some xs => if flatP a && xs.all flatP && (flatV (pvToV a) && (xs.map pvToV).all flatV) then some (inV (pvToV a) (xs.map pvToV)) else none
  | none => none

def cmpI (p : Int → Int → Bool) (a b : PV) : Option Bool := match a, b with
  | .int i, .int j => some (p i j)
  | _, _ => none
def isNon : PV → Bool
  | .non => true
  | _ => false
def isOp (a b : PV) : Option Bool := match a, b with
  | a, .non => some (isNon a)
  | .bl a, .bl b => some (decide (a = b))
  | _, _ => none
def cmpop (M : Mem) : Cm → PV → PV → Option Bool
  | .eq => eqD M
  | .ne => fun a b => (eqD M a b).map (!·)
  | .lt => cmpI fun i j => decide (i < j)
  | .le => cmpI fun i j => decide (i ≤ j)
  | .gt => cmpI fun i j => decide (j < i)
  | .ge => cmpI fun i j => decide (j ≤ i)
  | .is => isOp
  | .isn => fun a b => (isOp a b).map (!·)
  | .isin => inOp M
  | .notin => fun a b => (inOp M a b).map (!·)

def idxOp (M : Mem) (a b : PV) : Option PV :=
  match b, itemsT M a with
  | .int i, some xs => atI xs i
  | _, _ => none
def cut (xs : List PV) (lo hi : Option Int) : List PV := (xs.drop (HT.sIx xs.length 0 lo)).take (HT.sIx xs.length xs.length hi - HT.sIx xs.length 0 lo)
def part : Bool → PV → Option (Option Int)
  | false, _ => some none
  | true, .int i => some (some i)
  | true, _ => none
def slcV (M : Mem) (a : PV) (l h : Option Int) : Option PV := match a with
  | .tup xs => some (.tup (cut xs l h))
  | _ => (items M a).map fun xs => .lst (cut xs l h)
def slcOp (M : Mem) (a : PV) (bl bh : Bool) (lo hi : PV) : Option PV :=
  (part bl lo).bind fun l => (part bh hi).bind fun h => slcV M a l h
def revOp (M : Mem) (a : PV) : Option PV :=
  match a with
  | .tup xs => some (.tup xs.reverse)
  | _ => (items M a).map fun xs => .lst xs.reverse

def intsOf : List PV → Option (List Int)
  | [] => some []
  | .int i :: xs => (intsOf xs).map (i :: ·)
  | _ :: _ => none
def boolsOf : List PV → Option (List Bool)
  | [] => some []
  | .bl b :: xs => (boolsOf xs).map (b :: ·)
  | _ :: _ => none

def absB (vs : List PV) : Option PV := match vs with
  | [.int i] => some (.int (if i < 0 then -i else i))
  | _ => none
def intB (vs : List PV) : Option PV := match vs with
  | [.int i] => some (.int i)
  | [.bl b] => some (.int (if b then 1 else 0))
  | _ => none
def listB (M : Mem) (vs : List PV) : Option PV := match vs with
  | [a] => (itemsT M a).map .lst
  | _ => none
def tupleB (M : Mem) (vs : List PV) : Option PV := match vs with
  | [.tup xs] => some (.tup xs)
  | [a] => (items M a).map .tup
  | _ => none
def lenB (M : Mem) (vs : List PV) : Option PV := match vs with
  | [.str s] => iff' (decide (s.length ≤ sizeLine)) (.int s.length)
  | [a] => (itemsT M a).map fun xs => .int xs.length
  | _ => none
def sumB (M : Mem) (vs : List PV) : Option PV := match vs with
  | [a] => (items M a).bind fun xs => (intsOf xs).map fun ns => .int ns.sum
  | _ => none
def allB (M : Mem) (vs : List PV) : Option PV := match vs with
  | [a] => (items M a).bind fun xs => (boolsOf xs).map fun bs => .bl (bs.all id)
  | _ => none
def anyB (M : Mem) (vs : List PV) : Option PV := match vs with
  | [a] => (items M a).bind fun xs => (boolsOf xs).map fun bs => .bl (bs.any id)
  | _ => none
def maxI : List Int → Option Int
  | [] => none
  | x :: xs => some (xs.foldl max x)
def minI : List Int → Option Int
  | [] => none
  | x :: xs => some (xs.foldl min x)
def maxB (M : Mem) (vs : List PV) : Option PV := match vs with
  | [.int i, .int j] => some (.int (if j > i then j else i))
  | [.int i, .int j, .int k, .int l] => some (.int (max (max (max i j) k) l))
  | [a] => (items M a).bind fun xs => (intsOf xs).bind fun ns => (maxI ns).map .int
  | _ => none
def minB (M : Mem) (vs : List PV) : Option PV := match vs with
  | [.int i, .int j] => some (.int (if j < i then j else i))
  | [a] => (items M a).bind fun xs => (intsOf xs).bind fun ns => (minI ns).map .int
  | _ => none
def pairP (x y : PV) : PV := .tup [x, y]
/-- tuple(zip(a, b)) of two lists -/
def ztupB (M : Mem) (vs : List PV) : Option PV := match vs with
  | [a, b] => (items M a).bind fun xs => (items M b).map fun ys => .tup (List.zipWith pairP xs ys)
  | _ => none
def bltOp (M : Mem) : Bl → List PV → Option PV
  | .abs => absB
  | .int => intB
  | .list => listB M
  | .tuple => tupleB M
  | .len => lenB M
  | .sum => sumB M
  | .all => allB M
  | .any => anyB M
  | .max => maxB M
  | .min => minB M
  | .ztup => ztupB M

def isTy : Ty → PV → Bool
  | .int, .int _ | .int, .bl _ | .bool, .bl _ | .str, .str _ | .tuple, .tup _ => true
  | .list, .lst _ | .list, .rol _ | .list, .ref _ => true
  | _, _ => false

def setAt (xs : List PV) (i : Int) (v : PV) : Option (List PV) := (ixN xs.length i).map fun j => xs.set j v

mutual
def pbeq : PV → PV → Bool
  | .non, .non => true
  | .bl a, .bl b => a == b
  | .int a, .int b => decide (a = b)
  | .str a, .str b => decide (a = b)
  | .tup a, .tup b => pbeqs a b
  | .lst a, .lst b => pbeqs a b
  | .rol a, .rol b => pbeqs a b
  | .ref a, .ref b => Nat.beq a b
  | _, _ => false
def pbeqs : List PV → List PV → Bool
  | [], [] => true
  | x :: xs, y :: ys => pbeq x y && pbeqs xs ys
  | _, _ => false
end
mutual
theorem pbeq_eq : ∀ {a b : PV}, pbeq a b = true → a = b
  | .non, .non, _ => rfl
  | .bl a, .bl b, h => by rw [show a = b from eq_of_beq h]
  | .int a, .int b, h => by rw [show a = b from of_decide_eq_true h]
  | .str a, .str b, h => by rw [show a = b from of_decide_eq_true h]
  | .tup a, .tup b, h => by rw [pbeqs_eq (a := a) (b := b) h]
  | .lst a, .lst b, h => by rw [pbeqs_eq (a := a) (b := b) h]
  | .rol a, .rol b, h => by rw [pbeqs_eq (a := a) (b := b) h]
  | .ref a, .ref b, h => by rw [Nat.eq_of_beq_eq_true h]
theorem pbeqs_eq : ∀ {a b : List PV}, pbeqs a b = true → a = b
  | [], [], _ => rfl
  | x :: xs, y :: ys, h => by
    have h' : (pbeq x y && pbeqs xs ys) = true := h
    rw [Bool.and_eq_true] at h'
    rw [pbeq_eq h'.1, pbeqs_eq h'.2]
end
mutual
theorem pbeq_self : ∀ a : PV, pbeq a a = true
  | .non => rfl
  | .bl a => beq_self_eq_true a
  | .int a => decide_eq_true rfl
  | .str a => decide_eq_true rfl
  | .tup a => pbeqs_self a
  | .lst a => pbeqs_self a
  | .rol a => pbeqs_self a
  | .ref a => Nat.beq_refl a
theorem pbeqs_self : ∀ a : List PV, pbeqs a a = true
  | [] => rfl
  | x :: xs => by
    show (pbeq x x && pbeqs xs xs) = true
    rw [pbeq_self x, pbeqs_self xs]
    rfl
end
/-- mutable lists that are walked: they must stay -/
abbrev Gd := List (Nat × List PV)
def gOk : Gd → Mem → Bool
  | [], _ => true
  | (n, xs) :: g, M => (match M[n]? with
    | some (.lst ys) => pbeqs ys xs
    | _ => false) && gOk g M
/-- the items of a sequence that is walked: is it a tuple? the items, what must stay -/
def seqG (M : Mem) : PV → Option (Bool × List PV × Gd)
  | .tup xs => some (true, xs, [])
  | .lst xs => some (false, xs, [])
  | .rol xs => some (false, xs, [])
  | .ref n => match M[n]? with
    | some (.lst xs) => some (false, xs, [(n, xs)])
    | _ => none
  | _ => none

/-- bind a target -/
def setAll (env : Env) : List Nat → List PV → Env
  | i :: is, v :: vs => setAll (env.set i (some v)) is vs
  | _, _ => env
def bindP (p : Tp1) (v : PV) (env : Env) : Option Env :=
  match p with
  | .n i => some (env.set i (some v))
  | .t is => match v with
    | .tup vs => if decide (vs.length = is.length) then some (setAll env is vs) else none
    | _ => none
def bindPs : List Tp1 → List PV → Env → Option Env
  | [], [], env => some env
  | p :: ps, v :: vs, env => (bindP p v env).bind fun env1 => bindPs ps vs env1
  | _, _, _ => none
def bindT (t : T) (v : PV) (env : Env) : Option Env :=
  match t with
  | .nm i => some (env.set i (some v))
  | .tp is => match v with
    | .tup vs => if decide (vs.length = is.length) then some (setAll env is vs) else none
    | _ => none
  | .ls is => match v with
    | .lst vs => if decide (vs.length = is.length) then some (setAll env is vs) else none
    | _ => none
  | .t2 ps => match v with
    | .tup vs => bindPs ps vs env
    | _ => none

def wipeE (env : Env) : List Nat → Env
  | [] => env
  | v :: vs => (wipeE env vs).set v none

/-- a loop over items; the body may end the def -/
inductive R where | nx (env : Env) (M : Mem) | rt (v : PV) (M : Mem)
def forL (t : T) (g : Gd) (body : Env → Mem → Option R) : List PV → Env → Mem → Option R
  | [], env, M => match gOk g M with
    | true => some (.nx env M)
    | false => none
  | x :: xs, env, M => match gOk g M with
    | true => (match bindT t x env with
      | some env1 => (match body env1 M with
        | some (.nx env2 M2) => forL t g body xs env2 M2
        | r => r)
      | none => none)
    | false => none
def whlL (c : Env → Mem → Option (Bool × Mem)) (body : Env → Mem → Option R) : Nat → Env → Mem → Option R
  | 0, _, _ => none
  | n + 1, env, M => match c env M with
    | some (true, M1) => (match body env M1 with
      | some (.nx env2 M2) => whlL c body n env2 M2
      | r => r)
    | some (false, M1) => some (.nx env M1)
    | none => none
/-- a table of the module: ints to plain values -/
def tabV (kvs : List (Int × PV)) (x : PV) : Option PV := match x with
  | .int i => (kvs.find? fun kv => decide (kv.1 = i)).map (·.2)
  | _ => none
/-- a comprehension: acc in order -/
def lcL (t : T) (g : Gd) (cond : Env → Mem → Option (Bool × Mem)) (elt : Env → Mem → Option (PV × Mem)) (env : Env) : List PV → List PV → Mem → Option (List PV × Mem)
  | [], acc, M => match gOk g M with
    | true => some (acc, M)
    | false => none
  | x :: xs, acc, M => match gOk g M with
    | true => (match bindT t x env with
      | some env1 => (match cond env1 M with
        | some (true, M1) => (match elt env1 M1 with
          | some (v, M2) => lcL t g cond elt env xs (acc ++ [v]) M2
          | none => none)
        | some (false, M1) => lcL t g cond elt env xs acc M1
        | none => none)
      | none => none)
    | false => none
def rngI (a : Int) : Nat → List PV
  | 0 => []
  | n + 1 => .int a :: rngI (a + 1) n
def zipP : List PV → List PV → List PV
  | x :: xs, y :: ys => .tup [x, y] :: zipP xs ys
  | _, _ => []
def enmP : Nat → List PV → List PV
  | _, [] => []
  | n, x :: xs => .tup [.int n, x] :: enmP (n + 1) xs

/-- a new list: a mutable cell, or by value -/
def newL (m : Bool) (xs : List PV) (M : Mem) : PV × Mem := if m then (.ref M.length, M ++ [.lst xs]) else (.lst xs, M)
def asM (m : Bool) (v : PV) (M : Mem) : PV × Mem := match m, v with
  | true, .lst xs => (.ref M.length, M ++ [.lst xs])
  | _, _ => (v, M)

/-- a step, then the next with its value and the memory behind it -/
def bnd {α β : Type} (x : Option (α × Mem)) (f : α → Mem → Option β) : Option β := match x with
  | some (a, M) => f a M
  | none => none
def bifb {β : Type} (b : Option Bool) (x y : Option β) : Option β := match b with
  | some true => x
  | some false => y
  | none => none
def iff_ {β : Type} (b : Bool) (x : Option β) : Option β := match b with
  | true => x
  | false => none
def nxt (r : Option R) (f : Env → Mem → Option R) : Option R := match r with
  | some (.nx env M) => f env M
  | r => r
section
variable (call : Nat → List PV → Mem → Option (PV × Mem)) (W : Nat)
mutual
def eval : E → Env → Mem → Option (PV × Mem)
  | .var i, env, M => match env[i]? with | some (some v) => some (v, M) | _ => none
  | .cst v, _, M => some (v, M)
  | .bin o f a b, env, M => bnd (eval a env M) fun x M1 => bnd (eval b env M1) fun y M2 => (binop M2 o x y).map fun z => asM f z M2
  | .neg a, env, M => bnd (eval a env M) fun x M1 => match x with | .int i => some (.int (-i), M1) | _ => none
  | .not a, env, M => bnd (eval a env M) fun x M1 => (truthy M1 x).map fun b => (.bl (!b), M1)
  | .and a b, env, M => bnd (eval a env M) fun x M1 => bifb (truthy M1 x) (eval b env M1) (some (x, M1))
  | .or a b, env, M => bnd (eval a env M) fun x M1 => bifb (truthy M1 x) (some (x, M1)) (eval b env M1)
  | .cmp o a b, env, M => bnd (eval a env M) fun x M1 => bnd (eval b env M1) fun y M2 => (cmpop M2 o x y).map fun z => (.bl z, M2)
  | .chn o o' a b c, env, M => bnd (eval a env M) fun x M1 => bnd (eval b env M1) fun y M2 =>
      bifb (cmpop M2 o x y) (bnd (eval c env M2) fun z M3 => (cmpop M3 o' y z).map fun r => (.bl r, M3)) (some (.bl false, M2))
  | .ite c a b, env, M => bnd (eval c env M) fun x M1 => bifb (truthy M1 x) (eval a env M1) (eval b env M1)
  | .tup es, env, M => bnd (evals es env M) fun vs M1 => iff_ (decide (vs.length ≤ sizeLine)) (some (.tup vs, M1))
  | .lst m es, env, M => bnd (evals es env M) fun vs M1 => iff_ (decide (vs.length ≤ sizeLine)) (some (newL m vs M1))
  | .idx a b, env, M => bnd (eval a env M) fun x M1 => bnd (eval b env M1) fun y M2 => (idxOp M2 x y).map fun z => (z, M2)
  | .slc a bl bh lo hi, env, M => bnd (eval a env M) fun x M1 => bnd (eval lo env M1) fun l M2 => bnd (eval hi env M2) fun h M3 => (slcOp M3 x bl bh l h).map fun z => (z, M3)
  | .rev a, env, M => bnd (eval a env M) fun x M1 => (revOp M1 x).map fun z => (z, M1)
  | .call f es, env, M => bnd (evals es env M) fun vs M1 => call f vs M1
  | .blt b m es, env, M => bnd (evals es env M) fun vs M1 => (bltOp M1 b vs).map fun z => asM m z M1
  | .isi a t, env, M => bnd (eval a env M) fun x M1 => some (.bl (isTy t x), M1)
  | .app a e, env, M => bnd (eval a env M) fun x M1 => match x with
    | .ref n => bnd (eval e env M1) fun v M2 => (match M2[n]? with
        | some (.lst xs) => iff_ (decide (xs.length < sizeLine)) (some (.non, M2.set n (.lst (xs ++ [v]))))
        | _ => none)
    | _ => none
  | .tab kvs e, env, M => bnd (eval e env M) fun x M1 => (tabV kvs x).map fun z => (z, M1)
  | .lc m w t it cs e, env, M => bnd (evalI it env M) fun xg M1 => bnd (lcL t xg.2 (conds cs) (eval e) (wipeE env w) xg.1 [] M1) fun vs M2 => iff_ (decide (vs.length ≤ sizeLine)) (some (newL m vs M2))
def evals : Es → Env → Mem → Option (List PV × Mem)
  | .nil, _, M => some ([], M)
  | .cons e es, env, M => bnd (eval e env M) fun v M1 => bnd (evals es env M1) fun vs M2 => some (v :: vs, M2)
def conds : Es → Env → Mem → Option (Bool × Mem)
  | .nil, _, M => some (true, M)
  | .cons e es, env, M => bnd (eval e env M) fun v M1 => bifb (truthy M1 v) (conds es env M1) (some (false, M1))
def evalI : I → Env → Mem → Option ((List PV × Gd) × Mem)
  | .seq e, env, M => bnd (eval e env M) fun x M1 => (seqG M1 x).map fun s => (s.2, M1)
  | .rng a b, env, M => bnd (eval a env M) fun x M1 => bnd (eval b env M1) fun y M2 => match x, y with
    | .int i, .int j => iff_ (decide (-(2 ^ 62) ≤ i) && decide (i < 2 ^ 62) && decide (-(2 ^ 62) ≤ j) && decide (j < 2 ^ 62)) (some ((rngI i (j - i).toNat, []), M2))
    | _, _ => none
  | .zip a b, env, M => bnd (eval a env M) fun x M1 => bnd (eval b env M1) fun y M2 => match seqG M2 x, seqG M2 y with
    | some (k, xs, g), some (k', ys, g') => iff_ (k == k') (some ((zipP xs ys, g ++ g'), M2))
    | _, _ => none
  | .enm e, env, M => bnd (eval e env M) fun x M1 => match seqG M1 x with
    | some (k, xs, g) => iff_ (!k) (some ((enmP 0 xs, g), M1))
    | _ => none
end

mutual
def exec : S → Env → Mem → Option R
  | .set i e, env, M => bnd (eval call e env M) fun v M1 => some (.nx (env.set i (some v)) M1)
  | .par i j a b, env, M => bnd (eval call a env M) fun x M1 => bnd (eval call b env M1) fun y M2 => some (.nx ((env.set i (some x)).set j (some y)) M2)
  | .par3 i j l a b c, env, M => bnd (eval call a env M) fun x M1 => bnd (eval call b env M1) fun y M2 => bnd (eval call c env M2) fun z M3 => some (.nx (((env.set i (some x)).set j (some y)).set l (some z)) M3)
  | .asg t e, env, M => bnd (eval call e env M) fun v M1 => (bindT t v env).map fun env1 => .nx env1 M1
  | .seti o i e, env, M => bnd (eval call e env M) fun v M1 => bnd (eval call o env M1) fun x M2 => match x with
    | .ref n => bnd (eval call i env M2) fun y M3 => (match y with
      | .int k => (match M3[n]? with
          | some (.lst xs) => (setAt xs k v).map fun ys => .nx env (M3.set n (.lst ys))
          | _ => none)
      | _ => none)
    | _ => none
  | .exp e, env, M => bnd (eval call e env M) fun _ M1 => some (.nx env M1)
  | .ite c a b, env, M => bnd (eval call c env M) fun x M1 => bifb (truthy M1 x) (execs a env M1) (execs b env M1)
  | .whl c b, env, M => whlL (fun env M => bnd (eval call c env M) fun x M1 => (truthy M1 x).map fun k => (k, M1)) (execs b) W env M
  | .for_ t it b, env, M => bnd (evalI call it env M) fun xg M1 => forL t xg.2 (execs b) xg.1 env M1
  | .ret e, env, M => bnd (eval call e env M) fun v M1 => some (.rt v M1)
  | .rais, _, _ => none
def execs : Ss → Env → Mem → Option R
  | .nil, env, M => some (.nx env M)
  | .cons s ss, env, M => nxt (exec s env M) fun env1 M1 => execs ss env1 M1
end
end

/-! ### calls: a def's new cells go when it is left, unless what it hands back is one (kept) -/
mutual
/-- no reference at or above n -/
def under (n : Nat) : PV → Bool
  | .tup xs | .lst xs | .rol xs => unders n xs
  | .ref k => decide (k < n)
  | _ => true
def unders (n : Nat) : List PV → Bool
  | [] => true
  | x :: xs => under n x && unders n xs
end
def cellUnder (n : Nat) : Cell → Bool
  | .lst xs => unders n xs
  | .dic kvs => unders n (kvs.map (·.1)) && unders n (kvs.map (·.2))
/-- behind a call from memory M0 -/
def leave (n : Nat) (v : PV) (M : Mem) : Option (PV × Mem) :=
  if M.length = n then some (v, M) else
  if (M.take n).all (cellUnder n) then
    (if under n v then some (v, M.take n) else match v with
      | .ref k => (match M[k]? with
        | some (.lst xs) => if unders n xs then some (.lst xs, M.take n) else none
        | _ => none)
      | _ => none)
  else none

structure Fn where
  slots : Nat        -- how many names
  params : Nat
  keep : Bool        -- the new cells stay (what is handed back is one)
  body : Ss

def runFn (call : Nat → List PV → Mem → Option (PV × Mem)) (W : Nat) (f : Fn) (vs : List PV) (M : Mem) : Option (PV × Mem) :=
  if vs.length = f.params then
    match execs call W f.body (vs.map some ++ List.replicate (f.slots - f.params) none) M with
    | some (.rt v M1) => if f.keep then some (v, M1) else leave M.length v M1
    | some (.nx _ M1) => if f.keep then some (.non, M1) else leave M.length .non M1
    | none => none
  else none

def callN (prog : List Fn) (W : Nat) : Nat → Nat → List PV → Mem → Option (PV × Mem)
  | 0, _, _, _ => none
  | k + 1, f, vs, M => match prog[f]? with
    | some fn => runFn (callN prog W k) W fn vs M
    | none => none
end Ev

/-! How the interpreter's values lie in the heap; what a step keeps. -/
namespace Ev
open PySem PySem.Spec PyProof.Rows L2

/-- the cells, by index; and lists that are being made -/
structure Ph where
  c : List Addr
  r : List Addr
def RolAt (K : PySem.W.Frag) (φ : Ph) (H : Hp) (a : Addr) (vs : List V) : Prop :=
  (∃ o, H a = some (.frz o (.lst vs))) ∨ (H a = some (.lst vs) ∧ a ∉ φ.c ∧ a ∉ φ.r) ∨
    ∃ (o : Obj) (its : Array Value) (n : Nat), K.lookup a = some o ∧ o.cls = .type "list" ∧ o.dict = none ∧ o.data = .seq its n ∧ its.size ≤ sizeLine ∧ Vals vs its.toList
theorem RolAt.sq {K : PySem.W.Frag} {φ : Ph} {H : Hp} {a : Addr} {vs : List V} (h : RolAt K φ H a vs) : SqL K H a vs := by
  rcases h with ⟨o, h⟩ | ⟨h, _⟩ | h
  · exact .inl (.inr ⟨o, h⟩)
  · exact .inl (.inl h)
  · exact .inr h
mutual
inductive Rp (K : PySem.W.Frag) (φ : Ph) (H : Hp) : PV → V → Prop
  | non : Rp K φ H .non .non
  | bl (b : Bool) : Rp K φ H (.bl b) (.bl b)
  | int (i : Int) : Rp K φ H (.int i) (.int i)
  | str (s : Str) : Rp K φ H (.str s) (.str s)
  | tup {a : Addr} {vs : List V} {xs : List PV} (h : SqT K H a vs) (r : Rps K φ H xs vs) : Rp K φ H (.tup xs) (.ref a)
  | lst {a : Addr} {vs : List V} {xs : List PV} (h : H a = some (.lst vs)) (n : a ∉ φ.c ∧ a ∉ φ.r) (r : Rps K φ H xs vs) : Rp K φ H (.lst xs) (.ref a)
  | rol {a : Addr} {vs : List V} {xs : List PV} (h : RolAt K φ H a vs) (r : Rps K φ H xs vs) : Rp K φ H (.rol xs) (.ref a)
  | ref {n : Nat} {a : Addr} (h : φ.c[n]? = some a) : Rp K φ H (.ref n) (.ref a)
inductive Rps (K : PySem.W.Frag) (φ : Ph) (H : Hp) : List PV → List V → Prop
  | nil : Rps K φ H [] []
  | cons {x : PV} {v : V} {xs : List PV} {vs : List V} (h : Rp K φ H x v) (r : Rps K φ H xs vs) : Rps K φ H (x :: xs) (v :: vs)
end

def isCell : HO → Bool
  | .lst _ | .dK _ | .dT _ => true
  | _ => false
structure Xt (φ : Ph) (H : Hp) (φ' : Ph) (H' : Hp) : Prop where
  pre : ∃ e, φ'.c = φ.c ++ e
  res : ∀ a, a ∈ φ.r → a ∈ φ'.r
  keep : ∀ a o, H a = some o → (a ∈ φ.c → isCell o = false) → H' a = some o
  fresh : ∀ a, a ∈ φ'.c → a ∉ φ.c → H a = none
  freshr : ∀ a, a ∈ φ'.r → a ∉ φ.r → H a = none
  there : ∀ a o, H a = some o → ∃ o', H' a = some o'
def CellOk (K : PySem.W.Frag) (φ : Ph) (H : Hp) (a : Addr) : Cell → Prop
  | .lst xs => ∃ vs, H a = some (.lst vs) ∧ Rps K φ H xs vs
  | .dic _ => False
structure RM (K : PySem.W.Frag) (φ : Ph) (H : Hp) (M : Mem) : Prop where
  len : φ.c.length = M.length
  nd : φ.c.Nodup
  res : ∀ a, a ∈ φ.r → ∃ o, H a = some o
  cells : ∀ (n : Nat) (a : Addr) (c : Cell), φ.c[n]? = some a → M[n]? = some c → CellOk K φ H a c
structure RE (K : PySem.W.Frag) (φ : Ph) (H : Hp) (env : Env) (σ : L2.St) : Prop where
  len : env.length ≤ σ.length
  at_ : ∀ (i : Nat) (v : PV), env[i]? = some (some v) → ∃ u, σ[i]? = some (some u) ∧ Rp K φ H v u

section
variable {K : PySem.W.Frag} {φ φ' φ2 : Ph} {H H' H2 : Hp} {M M' : Mem} {env : Env} {σ : L2.St}
theorem Xt.refl : Xt φ H φ H := ⟨⟨[], by simp⟩, fun _ h => h, fun _ _ h _ => h, fun _ h n => absurd h n, fun _ h n => absurd h n, fun _ o h => ⟨o, h⟩⟩
theorem Xt.back (x : Xt φ H φ' H') {a : Addr} (h : H' a = none) : H a = none := by
  cases e : H a with
  | none => rfl
  | some o =>
    obtain ⟨o', e'⟩ := x.there a o e
    rw [h] at e'; cases e'
theorem Xt.sub (x : Xt φ H φ' H') {a : Addr} (h : a ∈ φ.c) : a ∈ φ'.c := by
  obtain ⟨e, h2⟩ := x.pre
  rw [h2]
  exact List.mem_append_left _ h
theorem Xt.trans (x : Xt φ H φ' H') (y : Xt φ' H' φ2 H2) : Xt φ H φ2 H2 := by
  refine ⟨?_, fun a h => y.res a (x.res a h), fun a o h hc => ?_, fun a h n => ?_, fun a h n => ?_, fun a o h => ?_⟩
  · obtain ⟨e, h1⟩ := x.pre
    obtain ⟨e2, h2⟩ := y.pre
    exact ⟨e ++ e2, by rw [h2, h1, List.append_assoc]⟩
  · refine y.keep a o (x.keep a o h hc) fun h' => ?_
    by_cases k : a ∈ φ.c
    · exact hc k
    · have := x.fresh a h' k
      rw [h] at this; cases this
  · by_cases k : a ∈ φ'.c
    · exact x.fresh a k n
    · exact x.back (y.fresh a h k)
  · by_cases k : a ∈ φ'.r
    · exact x.freshr a k n
    · exact x.back (y.freshr a h k)
  · obtain ⟨o', h'⟩ := x.there a o h
    exact y.there a o' h'
theorem Xt.get (x : Xt φ H φ' H') {n : Nat} {a : Addr} (h : φ.c[n]? = some a) : φ'.c[n]? = some a := by
  obtain ⟨e, h2⟩ := x.pre
  have hl : n < φ.c.length := (List.getElem?_eq_some_iff.mp h).1
  rw [h2, List.getElem?_append_left hl]
  exact h
theorem Xt.tup (x : Xt φ H φ' H') {a : Addr} {vs : List V} (h : SqT K H a vs) : SqT K H' a vs := by
  rcases h with (h | ⟨o, h⟩) | h
  · exact .inl (.inl (x.keep _ _ h fun _ => rfl))
  · exact .inl (.inr ⟨o, x.keep _ _ h fun _ => rfl⟩)
  · exact .inr h
theorem Xt.notin (x : Xt φ H φ' H') {a : Addr} {o : HO} (h : H a = some o) (n : a ∉ φ.c) : a ∉ φ'.c := fun k => by
  have := x.fresh a k n
  rw [h] at this; cases this
theorem Xt.notin2 (x : Xt φ H φ' H') {a : Addr} {o : HO} (h : H a = some o) (n : a ∉ φ.c ∧ a ∉ φ.r) : a ∉ φ'.c ∧ a ∉ φ'.r := ⟨x.notin h n.1, fun k => by
  have := x.freshr a k n.2
  rw [h] at this; cases this⟩
theorem Xt.rol (x : Xt φ H φ' H') {a : Addr} {vs : List V} (h : RolAt K φ H a vs) : RolAt K φ' H' a vs := by
  rcases h with ⟨o, h⟩ | ⟨h, n⟩ | h
  · exact .inl ⟨o, x.keep _ _ h fun _ => rfl⟩
  · exact .inr (.inl ⟨x.keep _ _ h fun z => absurd z n.1, x.notin2 h n⟩)
  · exact .inr (.inr h)
mutual
theorem Rp.mono (x : Xt φ H φ' H') : ∀ {v : PV} {u : V}, Rp K φ H v u → Rp K φ' H' v u
  | _, _, .non => .non
  | _, _, .bl b => .bl b
  | _, _, .int i => .int i
  | _, _, .str s => .str s
  | _, _, .tup h r => .tup (x.tup h) (Rps.mono x r)
  | _, _, .lst h n r => .lst (x.keep _ _ h fun z => absurd z n.1) (x.notin2 h n) (Rps.mono x r)
  | _, _, .rol h r => .rol (x.rol h) (Rps.mono x r)
  | _, _, .ref h => .ref (x.get h)
theorem Rps.mono (x : Xt φ H φ' H') : ∀ {v : List PV} {u : List V}, Rps K φ H v u → Rps K φ' H' v u
  | _, _, .nil => .nil
  | _, _, .cons h r => .cons (Rp.mono x h) (Rps.mono x r)
end
theorem RE.mono (x : Xt φ H φ' H') (r : RE K φ H env σ) : RE K φ' H' env σ := ⟨r.len, fun i v h => by
  obtain ⟨u, h1, h2⟩ := r.at_ i v h
  exact ⟨u, h1, h2.mono x⟩⟩
theorem RE.set (r : RE K φ H env σ) {v : PV} {u : V} (h : Rp K φ H v u) (i : Nat) : RE K φ H (env.set i (some v)) (σ.set i (some u)) := by
  refine ⟨by simpa using r.len, fun j w e => ?_⟩
  by_cases k : i = j
  · subst k
    have hi : i < env.length := by
      have := (List.getElem?_eq_some_iff.mp e).1
      simpa using this
    rw [List.getElem?_set_self hi] at e
    cases e
    exact ⟨u, List.getElem?_set_self (Nat.lt_of_lt_of_le hi r.len), h⟩
  · rw [List.getElem?_set_ne k] at e
    obtain ⟨u', h1, h2⟩ := r.at_ j w e
    exact ⟨u', by rw [List.getElem?_set_ne k]; exact h1, h2⟩
theorem RM.at_ (r : RM K φ H M) {n : Nat} {c : Cell} (h : M[n]? = some c) : ∃ a, φ.c[n]? = some a ∧ CellOk K φ H a c := by
  have hn : n < φ.c.length := by rw [r.len]; exact (List.getElem?_eq_some_iff.mp h).1
  exact ⟨φ.c[n], List.getElem?_eq_getElem hn, r.cells n _ c (List.getElem?_eq_getElem hn) h⟩
theorem CellOk.some_ {a : Addr} {c : Cell} (h : CellOk K φ H a c) : ∃ o, H a = some o ∧ isCell o = true := by
  cases c with
  | lst xs => obtain ⟨vs, h, _⟩ := h; exact ⟨_, h, rfl⟩
  | dic k => exact h.elim
theorem RM.some_ (r : RM K φ H M) {a : Addr} (h : a ∈ φ.c) : ∃ o, H a = some o ∧ isCell o = true := by
  obtain ⟨n, hn, e⟩ := List.getElem_of_mem h
  have hm : n < M.length := by rw [← r.len]; exact hn
  exact (r.cells n a M[n] (by rw [List.getElem?_eq_getElem hn, e]) (List.getElem?_eq_getElem hm)).some_
theorem RM.notin (r : RM K φ H M) {p : Addr} (h : H p = none) : p ∉ φ.c := fun k => by
  obtain ⟨o, e, _⟩ := r.some_ k
  rw [h] at e; cases e
theorem RM.notin2 (r : RM K φ H M) {p : Addr} (h : H p = none) : p ∉ φ.c ∧ p ∉ φ.r := ⟨r.notin h, fun k => by
  obtain ⟨o, e⟩ := r.res p k
  rw [h] at e; cases e⟩
theorem xt_new {p : Addr} {o : HO} (h : H p = none) : Xt φ H φ (upd H p o) :=
  ⟨⟨[], by simp⟩, fun _ h => h, fun a u e _ => by rw [upd_ne (ne_of_none e h)]; exact e, fun _ a n => absurd a n, fun _ a n => absurd a n, fun a u e => ⟨u, by rw [upd_ne (ne_of_none e h)]; exact e⟩⟩
theorem CellOk.mono_same {a : Addr} {c : Cell} (x : Xt φ H φ' H') (k : ∀ o, H a = some o → H' a = some o) (h : CellOk K φ H a c) : CellOk K φ' H' a c := by
  cases c with
  | lst xs => obtain ⟨vs, h, r⟩ := h; exact ⟨vs, k _ h, r.mono x⟩
  | dic _ => exact h
theorem res_upd {p : Addr} {o : HO} (r : ∀ a, a ∈ φ.r → ∃ o, H a = some o) : ∀ a, a ∈ φ.r → ∃ o', upd H p o a = some o' := fun a h => by
  by_cases e : a = p
  · subst e; exact ⟨_, upd_same⟩
  · rw [upd_ne e]; exact r a h
theorem RM.new (r : RM K φ H M) {p : Addr} {o : HO} (h : H p = none) : RM K φ (upd H p o) M :=
  ⟨r.len, r.nd, res_upd r.res, fun n a c h1 h2 => (r.cells n a c h1 h2).mono_same (xt_new h) fun u e => by rw [upd_ne (ne_of_none e h)]; exact e⟩
/-- one cell more -/
def Ph.add (φ : Ph) (p : Addr) : Ph := ⟨φ.c ++ [p], φ.r⟩
theorem xt_cell {p : Addr} {o : HO} (h : H p = none) : Xt φ H (φ.add p) (upd H p o) :=
  ⟨⟨[p], rfl⟩, fun _ h => h, fun a u e _ => by rw [upd_ne (ne_of_none e h)]; exact e, fun a k n => by
    rcases List.mem_append.mp k with k | k
    · exact absurd k n
    · have : a = p := by simpa using k
      rw [this]; exact h, fun _ a n => absurd a n, fun a u e => ⟨u, by rw [upd_ne (ne_of_none e h)]; exact e⟩⟩
theorem RM.cell (r : RM K φ H M) {p : Addr} {xs : List PV} {vs : List V} (h : H p = none) (q : Rps K φ H xs vs) : RM K (φ.add p) (upd H p (.lst vs)) (M ++ [.lst xs]) := by
  refine ⟨by simp [r.len, Ph.add], ?_, res_upd r.res, fun n a c h1 h2 => ?_⟩
  · show (φ.c ++ [p]).Nodup
    rw [List.nodup_append]
    refine ⟨r.nd, by simp, fun a ha b hb e => ?_⟩
    have : b = p := by simpa using hb
    subst this
    exact r.notin h (e ▸ ha)
  · change (φ.c ++ [p])[n]? = some a at h1
    by_cases k : n < φ.c.length
    · rw [List.getElem?_append_left k] at h1
      rw [List.getElem?_append_left (by rw [← r.len]; exact k)] at h2
      exact (r.cells n a c h1 h2).mono_same (xt_cell h) fun u e => by rw [upd_ne (ne_of_none e h)]; exact e
    · have k2 : n = φ.c.length := by
        have := (List.getElem?_eq_some_iff.mp h1).1
        simp at this
        omega
      subst k2
      rw [List.getElem?_append_right (Nat.le_refl _)] at h1
      rw [r.len, List.getElem?_append_right (Nat.le_refl _)] at h2
      simp at h1 h2
      subst h1 h2
      exact ⟨vs, upd_same, q.mono (xt_cell h)⟩
theorem RM.eq_of (r : RM K φ H M) {m n : Nat} {a : Addr} (h : φ.c[m]? = some a) (h' : φ.c[n]? = some a) : m = n := by
  obtain ⟨h1, e1⟩ := List.getElem?_eq_some_iff.mp h
  obtain ⟨h2, e2⟩ := List.getElem?_eq_some_iff.mp h'
  exact (List.getElem_inj r.nd).mp (e1.trans e2.symm)
theorem xt_set (r : RM K φ H M) {n : Nat} {a : Addr} {o : HO} (h : φ.c[n]? = some a) : Xt φ H φ (upd H a o) := by
  refine ⟨⟨[], by simp⟩, fun _ h => h, fun b u e k => ?_, fun _ k n => absurd k n, fun _ k n => absurd k n, fun b u e => ?_⟩
  rotate_left
  · by_cases z : b = a
    · subst z; exact ⟨_, upd_same⟩
    · exact ⟨u, by rw [upd_ne z]; exact e⟩
  have hm : a ∈ φ.c := List.mem_of_getElem? h
  have ne : b ≠ a := fun z => by
    subst z
    obtain ⟨o', e', c⟩ := r.some_ hm
    rw [e] at e'; cases e'
    rw [k hm] at c; cases c
  rw [upd_ne ne]; exact e
theorem RM.set (r : RM K φ H M) {n : Nat} {a : Addr} {xs : List PV} {vs : List V} (h : φ.c[n]? = some a) (q : Rps K φ H xs vs) : RM K φ (upd H a (.lst vs)) (M.set n (.lst xs)) := by
  refine ⟨by simp [r.len], r.nd, res_upd r.res, fun m b c h1 h2 => ?_⟩
  by_cases k : n = m
  · subst k
    have hn : n < M.length := by rw [← r.len]; exact (List.getElem?_eq_some_iff.mp h).1
    rw [List.getElem?_set_self hn] at h2
    rw [h] at h1
    cases h1; cases h2
    exact ⟨vs, upd_same, q.mono (xt_set r h)⟩
  · rw [List.getElem?_set_ne k] at h2
    have ne : b ≠ a := fun z => by
      subst z
      exact k (r.eq_of h h1)
    exact (r.cells m b c h1 h2).mono_same (xt_set r h) fun u e => by rw [upd_ne ne]; exact e
/-! ### a list that is being made at D -/
theorem ne_mem {l : List Addr} {a D : Addr} (h : D ∈ l) (n : a ∉ l) : a ≠ D := fun z => n (by rw [z]; exact h)
def Ph.hide (φ : Ph) (D : Addr) : Ph := ⟨φ.c, D :: φ.r⟩
theorem xt_hide {D : Addr} {o : HO} (h : H D = none) : Xt φ H (φ.hide D) (upd H D o) :=
  ⟨⟨[], by simp [Ph.hide]⟩, fun _ k => List.mem_cons_of_mem _ k, fun a u e _ => by rw [upd_ne (ne_of_none e h)]; exact e, fun _ a n => absurd a n, fun a k n => by
    rcases List.mem_cons.mp k with k | k
    · rw [k]; exact h
    · exact absurd k n, fun a u e => ⟨u, by rw [upd_ne (ne_of_none e h)]; exact e⟩⟩
mutual
/-- what lies at a hidden place changes -/
theorem Rp.under {D : Addr} {ws : List V} {o : HO} (h : H D = some (.lst ws)) (hd : D ∈ φ.r) : ∀ {v : PV} {u : V}, Rp K φ H v u → Rp K φ (upd H D o) v u
  | _, _, .non => .non
  | _, _, .bl b => .bl b
  | _, _, .int i => .int i
  | _, _, .str s => .str s
  | _, _, .tup k r => .tup (by
      rcases k with (k | ⟨o, k⟩) | k
      · exact .inl (.inl (by rw [upd_ne (ne_of k h (by intro z; cases z))]; exact k))
      · exact .inl (.inr ⟨o, by rw [upd_ne (ne_of k h (by intro z; cases z))]; exact k⟩)
      · exact .inr k) (Rps.under h hd r)
  | _, _, .lst k n r => .lst (by rw [upd_ne (ne_mem hd n.2)]; exact k) n (Rps.under h hd r)
  | _, _, .rol k r => .rol (by
      rcases k with ⟨o, k⟩ | ⟨k, n⟩ | k
      · exact .inl ⟨o, by rw [upd_ne (ne_of k h (by intro z; cases z))]; exact k⟩
      · exact .inr (.inl ⟨by rw [upd_ne (ne_mem hd n.2)]; exact k, n⟩)
      · exact .inr (.inr k)) (Rps.under h hd r)
  | _, _, .ref k => .ref k
theorem Rps.under {D : Addr} {ws : List V} {o : HO} (h : H D = some (.lst ws)) (hd : D ∈ φ.r) : ∀ {v : List PV} {u : List V}, Rps K φ H v u → Rps K φ (upd H D o) v u
  | _, _, .nil => .nil
  | _, _, .cons k r => .cons (Rp.under h hd k) (Rps.under h hd r)
end
mutual
theorem Rp.less {l : List Addr} (s : ∀ a, a ∈ l → a ∈ φ.r) : ∀ {v : PV} {u : V}, Rp K φ H v u → Rp K ⟨φ.c, l⟩ H v u
  | _, _, .non => .non
  | _, _, .bl b => .bl b
  | _, _, .int i => .int i
  | _, _, .str s => .str s
  | _, _, .tup k r => .tup k (Rps.less s r)
  | _, _, .lst k n r => .lst k ⟨n.1, fun z => n.2 (s _ z)⟩ (Rps.less s r)
  | _, _, .rol k r => .rol (by
      rcases k with ⟨o, k⟩ | ⟨k, n⟩ | k
      · exact .inl ⟨o, k⟩
      · exact .inr (.inl ⟨k, n.1, fun z => n.2 (s _ z)⟩)
      · exact .inr (.inr k)) (Rps.less s r)
  | _, _, .ref k => .ref k
theorem Rps.less {l : List Addr} (s : ∀ a, a ∈ l → a ∈ φ.r) : ∀ {v : List PV} {u : List V}, Rps K φ H v u → Rps K ⟨φ.c, l⟩ H v u
  | _, _, .nil => .nil
  | _, _, .cons k r => .cons (Rp.less s k) (Rps.less s r)
end
mutual
/-- a hidden place becomes a cell -/
theorem Rp.shift {l : List Addr} {D : Addr} (s : ∀ a, a ∈ l → a ∈ φ.r) (hd : D ∈ φ.r) : ∀ {v : PV} {u : V}, Rp K φ H v u → Rp K (Ph.add ⟨φ.c, l⟩ D) H v u
  | _, _, .non => .non
  | _, _, .bl b => .bl b
  | _, _, .int i => .int i
  | _, _, .str s => .str s
  | _, _, .tup k r => .tup k (Rps.shift s hd r)
  | _, _, .lst k n r => .lst k ⟨fun z => (List.mem_append.mp z).elim n.1 fun z => n.2 (by rw [List.mem_singleton.mp z]; exact hd), fun z => n.2 (s _ z)⟩ (Rps.shift s hd r)
  | _, _, .rol k r => .rol (by
      rcases k with ⟨o, k⟩ | ⟨k, n⟩ | k
      · exact .inl ⟨o, k⟩
      · exact .inr (.inl ⟨k, fun z => (List.mem_append.mp z).elim n.1 fun z => n.2 (by rw [List.mem_singleton.mp z]; exact hd), fun z => n.2 (s _ z)⟩)
      · exact .inr (.inr k)) (Rps.shift s hd r)
  | _, _, .ref k => .ref (by
      have hl := (List.getElem?_eq_some_iff.mp k).1
      show (φ.c ++ [D])[_]? = _
      rw [List.getElem?_append_left hl]; exact k)
theorem Rps.shift {l : List Addr} {D : Addr} (s : ∀ a, a ∈ l → a ∈ φ.r) (hd : D ∈ φ.r) : ∀ {v : List PV} {u : List V}, Rps K φ H v u → Rps K (Ph.add ⟨φ.c, l⟩ D) H v u
  | _, _, .nil => .nil
  | _, _, .cons k r => .cons (Rp.shift s hd k) (Rps.shift s hd r)
end
theorem RM.enter (m : RM K φ H M) {D : Addr} {o : HO} (h : H D = none) : RM K (φ.hide D) (upd H D o) M :=
  ⟨m.len, m.nd, fun a k => by
    by_cases e : a = D
    · subst e; exact ⟨_, upd_same⟩
    · rw [upd_ne e]
      exact m.res a ((List.mem_cons.mp k).resolve_left e), fun n a c h1 h2 =>
    (m.cells n a c h1 h2).mono_same (xt_hide h) fun u e => by rw [upd_ne (ne_of_none e h)]; exact e⟩
theorem RM.under (m : RM K φ H M) {D : Addr} {ws : List V} {o : HO} (h : H D = some (.lst ws)) (hd : D ∈ φ.r) (hc : D ∉ φ.c) : RM K φ (upd H D o) M :=
  ⟨m.len, m.nd, res_upd m.res, fun n a c h1 h2 => by
    have k := m.cells n a c h1 h2
    have ne : a ≠ D := fun z => hc (z ▸ List.mem_of_getElem? h1)
    cases c with
    | lst xs =>
      obtain ⟨vs, h3, h4⟩ := k
      exact ⟨vs, by rw [upd_ne ne]; exact h3, h4.under h hd⟩
    | dic _ => exact k⟩
theorem RM.less (m : RM K φ H M) {l : List Addr} (s : ∀ a, a ∈ l → a ∈ φ.r) : RM K ⟨φ.c, l⟩ H M :=
  ⟨m.len, m.nd, fun a k => m.res a (s a k), fun n a c h1 h2 => by
    have k := m.cells n a c h1 h2
    cases c with
    | lst xs =>
      obtain ⟨vs, h3, h4⟩ := k
      exact ⟨vs, h3, h4.less s⟩
    | dic _ => exact k⟩

/-! ### lists of values -/
theorem Rps.length : ∀ {xs : List PV} {vs : List V}, Rps K φ H xs vs → xs.length = vs.length
  | _, _, .nil => rfl
  | _, _, .cons _ r => by simp [Rps.length r]
theorem Rps.append : ∀ {xs ys : List PV} {vs ws : List V}, Rps K φ H xs vs → Rps K φ H ys ws → Rps K φ H (xs ++ ys) (vs ++ ws)
  | _, _, _, _, .nil, q => q
  | _, _, _, _, .cons h r, q => .cons h (Rps.append r q)
theorem Rps.get : ∀ {xs : List PV} {vs : List V} {i : Nat} {x : PV}, Rps K φ H xs vs → xs[i]? = some x → ∃ v, vs[i]? = some v ∧ Rp K φ H x v
  | _, _, _, _, .nil, e => by simp at e
  | _, _, 0, _, .cons h _, e => by simp at e; subst e; exact ⟨_, rfl, h⟩
  | _, _, i + 1, _, .cons _ r, e => by
    obtain ⟨v, h1, h2⟩ := Rps.get (i := i) r (by simpa using e)
    exact ⟨v, by simpa using h1, h2⟩
theorem Rps.set : ∀ {xs : List PV} {vs : List V} (i : Nat) {x : PV} {v : V}, Rps K φ H xs vs → Rp K φ H x v → Rps K φ H (xs.set i x) (vs.set i v)
  | _, _, _, _, _, .nil, _ => .nil
  | _, _, 0, _, _, .cons _ r, q => .cons q r
  | _, _, i + 1, _, _, .cons h r, q => .cons h (Rps.set i r q)
theorem Rps.take : ∀ {xs : List PV} {vs : List V} (n : Nat), Rps K φ H xs vs → Rps K φ H (xs.take n) (vs.take n)
  | _, _, 0, _ => .nil
  | _, _, _ + 1, .nil => .nil
  | _, _, n + 1, .cons h r => .cons h (Rps.take n r)
theorem Rps.drop : ∀ {xs : List PV} {vs : List V} (n : Nat), Rps K φ H xs vs → Rps K φ H (xs.drop n) (vs.drop n)
  | _, _, 0, r => r
  | _, _, _ + 1, .nil => .nil
  | _, _, n + 1, .cons _ r => Rps.drop n r
theorem Rps.rev : ∀ {xs : List PV} {vs : List V}, Rps K φ H xs vs → Rps K φ H xs.reverse vs.reverse
  | _, _, .nil => .nil
  | _, _, .cons h r => by
    rw [List.reverse_cons, List.reverse_cons]
    exact (Rps.rev r).append (.cons h .nil)
theorem Rps.rep {xs : List PV} {vs : List V} (r : Rps K φ H xs vs) : ∀ n : Nat, Rps K φ H (List.replicate n xs).flatten (List.replicate n vs).flatten
  | 0 => .nil
  | n + 1 => by
    rw [List.replicate_succ, List.replicate_succ, List.flatten_cons, List.flatten_cons]
    exact r.append (Rps.rep r n)
theorem Rps.atI {xs : List PV} {vs : List V} {i : Int} {x : PV} (r : Rps K φ H xs vs) (h : atI xs i = some x) : ∃ v, L2.atI vs i = some v ∧ Rp K φ H x v := by
  unfold L2.atI at h ⊢
  rw [← r.length]
  cases e : ixN xs.length i with
  | none => rw [e] at h; cases h
  | some j =>
    rw [e] at h
    exact r.get (i := j) h
theorem Rps.isEmpty {xs : List PV} {vs : List V} (r : Rps K φ H xs vs) : xs.isEmpty = vs.isEmpty := by
  cases r <;> rfl
/-- the items of a list -/
theorem items_sq (m : RM K φ H M) {v : PV} {u : V} {xs : List PV} (r : Rp K φ H v u) (h : items M v = some xs) : ∃ a vs, u = .ref a ∧ SqL K H a vs ∧ Rps K φ H xs vs := by
  cases r with
  | lst h1 n r1 => cases h; exact ⟨_, _, rfl, .inl (.inl h1), r1⟩
  | rol h1 r1 => cases h; exact ⟨_, _, rfl, h1.sq, r1⟩
  | @ref n a h1 =>
    unfold items at h
    simp only at h
    split at h
    · rename_i ys e
      cases h
      obtain ⟨b, h2, vs, h3, h4⟩ := m.at_ e
      rw [h1] at h2; cases h2
      exact ⟨_, _, rfl, .inl (.inl h3), h4⟩
    · cases h
  | non | bl | int | str | tup => cases h
theorem itemsW_sq (m : RM K φ H M) {v : PV} {u : V} {xs : List PV} (r : Rp K φ H v u) (h : itemsW M v = some xs) : ∃ a vs, u = .ref a ∧ H a = some (.lst vs) ∧ Rps K φ H xs vs := by
  cases r with
  | lst h1 n r1 => cases h; exact ⟨_, _, rfl, h1, r1⟩
  | @ref n a h1 =>
    unfold itemsW at h
    simp only at h
    split at h
    · rename_i ys e
      cases h
      obtain ⟨b, h2, vs, h3, h4⟩ := m.at_ e
      rw [h1] at h2; cases h2
      exact ⟨_, _, rfl, h3, h4⟩
    · cases h
  | non | bl | int | str | tup | rol => cases h
theorem itemsT_sq (m : RM K φ H M) {v : PV} {u : V} {xs : List PV} (r : Rp K φ H v u) (h : itemsT M v = some xs) : ∃ a vs, u = .ref a ∧ (SqL K H a vs ∨ SqT K H a vs) ∧ Rps K φ H xs vs := by
  cases r with
  | tup h1 r1 => cases h; exact ⟨_, _, rfl, .inr h1, r1⟩
  | lst h1 n r1 =>
    obtain ⟨a, vs, e, h2, h3⟩ := items_sq m (.lst h1 n r1) h
    exact ⟨a, vs, e, .inl h2, h3⟩
  | rol h1 r1 =>
    obtain ⟨a, vs, e, h2, h3⟩ := items_sq m (.rol h1 r1) h
    exact ⟨a, vs, e, .inl h2, h3⟩
  | ref h1 =>
    obtain ⟨a, vs, e, h2, h3⟩ := items_sq m (.ref h1) h
    exact ⟨a, vs, e, .inl h2, h3⟩
  | non | bl | int | str => cases h
/-! ### data -/
mutual
theorem toD_dp : ∀ {v : PV} {u : V} {d : PyData}, Rp K φ H v u → toD v = some d → Dp K H u d
  | .non, _, _, .non, e => by cases e; exact .non
  | .bl b, _, _, .bl _, e => by cases e; exact .bl b
  | .int i, _, _, .int _, e => by cases e; exact .int i
  | .str s, _, _, .str _, e => by cases e; exact .str s
  | .tup xs, _, d, .tup h r, e => by
    unfold toD at e
    cases k : toDs xs with
    | none => rw [k] at e; cases e
    | some ds => rw [k] at e; cases e; exact .tup h (toDs_dp r k)
  | .lst xs, _, d, .lst h n r, e => by
    unfold toD at e
    cases k : toDs xs with
    | none => rw [k] at e; cases e
    | some ds => rw [k] at e; cases e; exact .lst (.inl (.inl h)) (toDs_dp r k)
  | .rol xs, _, d, .rol h r, e => by
    unfold toD at e
    cases k : toDs xs with
    | none => rw [k] at e; cases e
    | some ds => rw [k] at e; cases e; exact .lst h.sq (toDs_dp r k)
  | .ref n, _, _, .ref h, e => by cases e
theorem toDs_dp : ∀ {v : List PV} {u : List V} {d : List PyData}, Rps K φ H v u → toDs v = some d → DpAll K H u d
  | [], _, _, .nil, e => by cases e; exact .nil
  | x :: xs, _, d, .cons h r, e => by
    unfold toDs at e
    cases k1 : toD x with
    | none => rw [k1] at e; cases e
    | some d1 =>
      cases k2 : toDs xs with
      | none => rw [k1, k2] at e; cases e
      | some ds => rw [k1, k2] at e; cases e; exact .cons (toD_dp h k1) (toDs_dp r k2)
end
theorem toDM_dp (m : RM K φ H M) {v : PV} {u : V} {d : PyData} (r : Rp K φ H v u) (e : toDM M v = some d) : Dp K H u d := by
  cases r with
  | ref h1 =>
    unfold toDM at e
    simp only at e
    split at e
    · rename_i xs e1
      obtain ⟨b, h2, vs, h3, h4⟩ := m.at_ e1
      rw [h1] at h2; cases h2
      cases k : toDs xs with
      | none => rw [k] at e; cases e
      | some ds => rw [k] at e; cases e; exact .lst (.inl (.inl h3)) (toDs_dp h4 k)
    · cases e
  | non => exact toD_dp (φ := φ) .non e
  | bl b => exact toD_dp (φ := φ) (.bl b) e
  | int i => exact toD_dp (φ := φ) (.int i) e
  | str i => exact toD_dp (φ := φ) (.str i) e
  | tup h r => exact toD_dp (.tup h r) e
  | lst h n r => exact toD_dp (.lst h n r) e
  | rol h r => exact toD_dp (.rol h r) e
theorem truthy_tru (m : RM K φ H M) {v : PV} {u : V} {b : Bool} (r : Rp K φ H v u) (e : truthy M v = some b) : TruV K u H b := by
  cases r with
  | non => cases e; rfl
  | bl b => cases e; rfl
  | int i => cases e; rfl
  | str s =>
    unfold truthy at e
    simp only at e
    split at e
    · rename_i h; cases e; exact ⟨h, rfl⟩
    · cases e
  | tup h r => cases e; exact .inr (.inl ⟨_, h, by rw [r.isEmpty]⟩)
  | lst h n r => cases e; exact .inl ⟨_, .inl (.inl h), by rw [r.isEmpty]⟩
  | rol h r => cases e; exact .inl ⟨_, h.sq, by rw [r.isEmpty]⟩
  | ref h1 =>
    unfold truthy at e
    simp only at e
    split at e
    · rename_i xs e1
      cases e
      obtain ⟨b, h2, vs, h3, h4⟩ := m.at_ e1
      rw [h1] at h2; cases h2
      exact .inl ⟨_, .inl (.inl h3), by rw [h4.isEmpty]⟩
    · cases e
end
end Ev

/-! The operations on values, over the interpreter's. -/
namespace Ev
section
open PySem PySem.Spec PyProof.Rows L2
theorem tuple_mulE (l : Addr) (n : Nat) (dd : Option Addr) (sl : Array (Option Value)) (x : Int) (u : Tok) (c0 : (decide (x < -(2 ^ 63)) || decide (x ≥ 2 ^ 63)) = false) :
    Meets (Builtin.«tuple.__mul__» ⟨[.ref l, .int x u], []⟩) (fun _ R s => s.heap.get? l = some { cls := .type "tuple", dict := dd, data := .seq #[] n, slots := sl } ∧ R (.ok (.ret (.ref l))) s) :=
  .of_wp fun prog w A R s h => by
    obtain ⟨hp, g, d, tk, os⟩ := s
    obtain ⟨hl, h⟩ := h
    have f1 := AutoSeq1.idx_int
    have hT : Shared.TypeIs ⟨hp, g, d, tk, os⟩ (.ref l) "tuple" := ⟨_, hl, rfl⟩
    have c1 : ((#[] : Array Value).isEmpty || x == 1) = true := by simp
    wp_walk using wpAny_loadPart' hl, wpAny_typeOf hT
    repeat (first
      | (refine wpAny_ite_false (decide_eq_false (by rw [c0]; exact Bool.false_ne_true)) ?_; wp_walk using wpAny_loadPart' hl, wpAny_typeOf hT)
      | (refine wpAny_ite_true (decide_eq_true (by first | exact c1 | rfl)) ?_; wp_walk using wpAny_loadPart' hl, wpAny_typeOf hT))
    exact ⟨_, rfl, h⟩
def rRepT0 (K : PySem.W.Frag) : R2 := fun x y H Q => ∃ l k, x = .ref l ∧ y = .int k ∧ SqT K H l [] ∧ -(2 ^ 63) ≤ k ∧ k < 2 ^ 63 ∧ Q (.ref l) H
theorem op_repT0 {X : Cx} : OpR X (binaryOp .Mult) (rRepT0 X.K) := by
  intro pins s σ H x y v u Q I rx ry h
  obtain ⟨l, k, rfl, rfl, hT, h1, h2, q⟩ := h
  cases rx
  obtain ⟨t, rfl⟩ := ry
  obtain ⟨its, r, ⟨⟨cls, dd, data, sl⟩, ho, hc, n, hd⟩, hs⟩ := I.tuple hT
  simp only at hc hd
  subst hc hd
  cases r
  have c0 : (decide (k < -(2 ^ 63)) || decide (k ≥ 2 ^ 63)) = false := by
    rw [decide_eq_false (by omega), decide_eq_false (by omega)] <;> rfl
  exact wpAny_binaryOp_repeat_ref (T := "tuple") (U := "int") (by decide) ⟨_, ho, rfl⟩ (fun s' => typeIs_int s' k t) noFill_tuple_mul F.fills_int_mul F.slot_int_rmul repeat_tuple F.slot_int_index.lookup
    (call_meets F.slot_int_rmul (typeIs_int s k t) F.entry_int_rmul (F.args_int_rmul_2 _ _) (int_rmul_tuple k t l #[] n dd sl)
      ⟨ho, rfl, ⟨_, ho, rfl⟩, call_meets F.slot_tuple_mul ⟨_, ho, rfl⟩ F.entry_tuple_mul (F.args_tuple_mul_2 _ _) (tuple_mulE l n dd sl k t c0) ⟨ho, ⟨.ref l, H, I, rfl, q⟩⟩⟩)
end
open PySem PySem.Spec PyProof.Rows L2
section
variable {K : PySem.W.Frag} {φ φ' φ2 : Ph} {H H' H2 : Hp} {M M' : Mem}
/-- what is wanted behind a step -/
def Pst (K : PySem.W.Frag) (φ : Ph) (H : Hp) (M : Mem) (z : PV) (Q : VK) : Prop := ∀ φ' H' u, Xt φ H φ' H' → RM K φ' H' M → Rp K φ' H' z u → Q u H'
theorem Pst.here {z : PV} {u : V} {Q : VK} (k : Pst K φ H M z Q) (m : RM K φ H M) (r : Rp K φ H z u) : Q u H := k φ H u .refl m r
theorem Pst.tup {xs : List PV} {vs : List V} {Q : VK} (k : Pst K φ H M (.tup xs) Q) (m : RM K φ H M) (r : Rps K φ H xs vs) {p : Addr} (h : H p = none) : Q (.ref p) (upd H p (.tup vs)) :=
  k φ _ _ (xt_new h) (m.new h) (.tup (.inl (.inl upd_same)) (r.mono (xt_new h)))
theorem Pst.lst {xs : List PV} {vs : List V} {Q : VK} (k : Pst K φ H M (.lst xs) Q) (m : RM K φ H M) (r : Rps K φ H xs vs) {p : Addr} (h : H p = none) : Q (.ref p) (upd H p (.lst vs)) :=
  k φ _ _ (xt_new h) (m.new h) (.lst upd_same (m.notin2 h) (r.mono (xt_new h)))
theorem Pst.cell {xs : List PV} {vs : List V} {Q : VK} (k : Pst K φ H (M ++ [.lst xs]) (.ref M.length) Q) (m : RM K φ H M) (r : Rps K φ H xs vs) {p : Addr} (h : H p = none) : Q (.ref p) (upd H p (.lst vs)) :=
  k (φ.add p) _ _ (xt_cell h) (m.cell h r) (.ref (by show (φ.c ++ [p])[M.length]? = some p; rw [← m.len, List.getElem?_append_right (Nat.le_refl _)]; simp))
theorem Pst.newL {b : Bool} {xs : List PV} {vs : List V} {Q : VK} (k : Pst K φ H (newL b xs M).2 (newL b xs M).1 Q) (m : RM K φ H M) (r : Rps K φ H xs vs) {p : Addr} (h : H p = none) : Q (.ref p) (upd H p (.lst vs)) := by
  cases b with
  | true => exact Pst.cell k m r h
  | false => exact Pst.lst k m r h
theorem Pst.asM {z : PV} {u : V} {Q : VK} {f : Bool} (k : Pst K φ H (Ev.asM f z M).2 (Ev.asM f z M).1 Q) (m : RM K φ H M) (r : Rp K φ H z u) (h : ∀ xs, z ≠ .lst xs := by intro _ h; cases h) : Q u H := by
  cases f with
  | false => exact k.here m r
  | true => cases z <;> first | exact k.here m r | exact absurd rfl (h _)
theorem Pst.asT {xs : List PV} {vs : List V} {Q : VK} {f : Bool} (k : Pst K φ H (Ev.asM f (.tup xs) M).2 (Ev.asM f (.tup xs) M).1 Q) (m : RM K φ H M) (r : Rps K φ H xs vs) {p : Addr} (h : H p = none) : Q (.ref p) (upd H p (.tup vs)) := by
  have k1 : Pst K φ H M (.tup xs) Q := by cases f <;> exact k
  exact k1.tup m r h
theorem Pst.asL {xs : List PV} {vs : List V} {Q : VK} {f : Bool} (k : Pst K φ H (Ev.asM f (.lst xs) M).2 (Ev.asM f (.lst xs) M).1 Q) (m : RM K φ H M) (r : Rps K φ H xs vs) {p : Addr} (h : H p = none) : Q (.ref p) (upd H p (.lst vs)) := by
  cases f with
  | false => exact Pst.lst k m r h
  | true => exact Pst.cell k m r h
def rB (K : PySem.W.Frag) (g : Bool) (f : Mem → PV → PV → Option PV) : R2 := fun x y H Q => ∃ φ M v w z, RM K φ H M ∧ Rp K φ H v x ∧ Rp K φ H w y ∧ f M v w = some z ∧ Pst K φ H (asM g z M).2 (asM g z M).1 Q
end
section
variable {X : Cx}
theorem op_fdivG : OpR X (binaryOp .FloorDiv) (L2.rI (fun i j => j ≠ 0 ∧ j.natAbs.log2 < 9000) fun i j => .int (i.fdiv j)) := opI fun i j _ _ _ _ _ hc q =>
  floordiv_int hc.1 q (.inl (PyProof.noPylong_of_log2 hc.2))
/-- () + t -/
theorem op_catT0 : OpR X (binaryOp .Add) (fun x y H Q => ∃ a b ys, x = .ref a ∧ y = .ref b ∧ SqT X.K H a [] ∧ SqT X.K H b ys ∧ Q (.ref b) H) := by
  intro pins s σ H x y v u Q I rx ry h
  obtain ⟨a, b, ys, rfl, rfl, ha, hb, q⟩ := h
  cases rx
  cases ry
  obtain ⟨its, r1, p1, _⟩ := I.tuple ha
  obtain ⟨its2, r2, p2, _⟩ := I.tuple hb
  cases r1
  obtain ⟨⟨cls, dd, data, sl⟩, ho, hc, n, hd⟩ := _root_.id p1
  obtain ⟨⟨cls2, dd2, data2, sl2⟩, ho2, hc2, n2, hd2⟩ := _root_.id p2
  simp only at hc hd hc2 hd2
  subst hc hd hc2 hd2
  exact concat_meets ⟨_, ho, rfl⟩ ⟨_, ho2, rfl⟩ noFill_tuple_add seq_tuple_add PySem.F.slot_tuple_add PySem.F.entry_tuple_add (PySem.F.args_tuple_add_2 _ _)
      (tuple_addW0 a b _ _ n n2 dd dd2 sl sl2 (by simp)) ⟨ho, ho2, ⟨.ref b, H, I, rfl, q⟩⟩
theorem orR {f : Value → Value → Sem Value} {r r' : R2} (h : OpR X f r) (h' : OpR X f r') : OpR X f (fun x y H Q => r x y H Q ∨ r' x y H Q) := OpR.or h h'
/-- a rule by another -/
theorem OpR.imp {f : Value → Value → Sem Value} {r r' : R2} (h : OpR X f r) (k : ∀ x y H Q, r' x y H Q → r x y H Q) : OpR X f r' :=
  fun pins s σ H x y v u Q I rx ry q => h pins s σ H x y v u Q I rx ry (k _ _ _ _ q)

theorem o_add {g : Bool} : OpR X (binaryOp .Add) (rB X.K g fun M => binop M .add) := by
  refine OpR.imp (orR op_add (orR op_catT (orR op_catT0 (orR op_add_str op_cat)))) fun x y H Q h => ?_
  obtain ⟨φ, M, v, w, z, m, r1, r2, e, k⟩ := h
  change addOp M v w = some z at e
  unfold addOp at e
  split at e
  · cases e; cases r1; cases r2
    exact .inl ⟨_, _, rfl, rfl, k.asM m (.int _)⟩
  · split at e
    · rename_i hz
      have hz := of_decide_eq_true hz
      cases e
      cases r1 with
      | tup h1 q1 =>
      cases r2 with
      | tup h2 q2 =>
      rename_i xs ys a vs b ws
      by_cases e0 : vs = []
      · subst e0
        cases q1
        exact .inr (.inr (.inl ⟨_, _, _, rfl, rfl, h1, h2, k.asM m (.tup h2 q2)⟩))
      · refine .inr (.inl ⟨_, _, _, _, rfl, rfl, h1, h2, e0, by rw [← q1.length, ← q2.length]; exact hz, fun e1 => ?_, fun _ p hp => k.asT m (q1.append q2) hp⟩)
        subst e1
        cases q2
        refine k.asM m (.tup h1 ?_)
        rw [List.append_nil]; exact q1
    · cases e
  · split at e
    · rename_i hz
      have hz := of_decide_eq_true hz
      cases e; cases r1; cases r2
      exact .inr (.inr (.inr (.inl ⟨_, _, rfl, rfl, hz, k.asM m (.str _)⟩)))
    · cases e
  · split at e
    · rename_i xs ys h1 h2
      split at e
      · rename_i hz
        have hz := of_decide_eq_true hz
        cases e
        obtain ⟨a, vs, rfl, ha, q1⟩ := itemsW_sq m r1 h1
        obtain ⟨b, ws, rfl, hb, q2⟩ := itemsW_sq m r2 h2
        exact .inr (.inr (.inr (.inr ⟨_, _, _, _, rfl, rfl, ha, hb, by rw [← q1.length, ← q2.length]; exact hz, fun p hp => k.asL m (q1.append q2) hp⟩)))
      · cases e
    · cases e
theorem op_subB : OpR X (binaryOp .Sub) (fun x y H Q => ∃ i k, x = .bl i ∧ y = .bl k ∧ Q (.int ((if i then 1 else 0) - (if k then 1 else 0))) H) := by
  intro pins s σ H x y v u Q I rx ry h
  obtain ⟨i, k, rfl, rfl, q⟩ := h
  cases rx
  cases ry
  exact PyProof.Rows.sub_bool ⟨.int ((if i then 1 else 0) - (if k then 1 else 0)), H, I.tok _, ⟨_, rfl⟩, q⟩
theorem o_sub {g : Bool} : OpR X (binaryOp .Sub) (rB X.K g fun M => binop M .sub) := by
  refine OpR.imp (orR op_sub op_subB) fun x y H Q h => ?_
  obtain ⟨φ, M, v, w, z, m, r1, r2, e, k⟩ := h
  change subOp v w = some z at e
  unfold subOp at e
  split at e
  · cases e; cases r1; cases r2
    exact .inl ⟨_, _, rfl, rfl, k.asM m (.int _)⟩
  · cases e; cases r1; cases r2
    exact .inr ⟨_, _, rfl, rfl, k.asM m (.int _)⟩
  · cases e
theorem o_fdiv {g : Bool} : OpR X (binaryOp .FloorDiv) (rB X.K g fun M => binop M .fdiv) := by
  refine OpR.imp op_fdivG fun x y H Q h => ?_
  obtain ⟨φ, M, v, w, z, m, r1, r2, e, k⟩ := h
  change fdivOp v w = some z at e
  unfold fdivOp at e
  split at e
  · split at e
    · rename_i hz
      unfold divOk at hz
      rw [Bool.and_eq_true] at hz
      cases e; cases r1; cases r2
      exact ⟨_, _, rfl, rfl, ⟨of_decide_eq_true hz.1, of_decide_eq_true hz.2⟩, k.asM m (.int _)⟩
    · cases e
  · cases e
theorem o_mod {g : Bool} : OpR X (binaryOp .Mod) (rB X.K g fun M => binop M .mod) := by
  refine OpR.imp op_modN fun x y H Q h => ?_
  obtain ⟨φ, M, v, w, z, m, r1, r2, e, k⟩ := h
  change modOp v w = some z at e
  unfold modOp at e
  split at e
  · split at e
    · rename_i hz
      cases e; cases r1; cases r2
      exact ⟨_, _, rfl, rfl, of_decide_eq_true hz, k.asM m (.int _)⟩
    · cases e
  · cases e
theorem o_pow {g : Bool} : OpR X (binaryOp .Pow) (rB X.K g fun M => binop M .pow) := by
  refine OpR.imp op_pow fun x y H Q h => ?_
  obtain ⟨φ, M, v, w, z, m, r1, r2, e, k⟩ := h
  change powOp v w = some z at e
  unfold powOp at e
  split at e
  · split at e
    · rename_i hz
      rw [Bool.and_eq_true, Bool.and_eq_true] at hz
      cases e; cases r1; cases r2
      exact ⟨_, _, rfl, rfl, ⟨of_decide_eq_true hz.1.1, of_decide_eq_true hz.1.2, of_decide_eq_true hz.2⟩, k.asM m (.int _)⟩
    · cases e
  · cases e
theorem o_mul {g : Bool} : OpR X (binaryOp .Mult) (rB X.K g fun M => binop M .mul) := by
  refine OpR.imp (orR op_mul (orR op_mulW (orR op_repT0 (orR op_repT op_rep)))) fun x y H Q h => ?_
  obtain ⟨φ, M, v, w, z, m, r1, r2, e, k⟩ := h
  change mulOp M v w = some z at e
  unfold mulOp at e
  split at e
  · split at e
    · rename_i hz
      unfold mulOk at hz
      rw [Bool.or_eq_true] at hz
      cases e; cases r1; cases r2
      rcases hz with hz | hz
      · have hz' := of_decide_eq_true hz
        exact .inl ⟨_, _, rfl, rfl, hz', k.asM m (.int _)⟩
      · have hz' := of_decide_eq_true hz
        exact .inr (.inl ⟨_, _, rfl, rfl, hz', k.asM m (.int _)⟩)
    · cases e
  · split at e
    · rename_i hz
      rw [Bool.and_eq_true] at hz
      cases e
      cases r2
      cases r1 with
      | tup ha q1 =>
      cases q1
      exact .inr (.inr (.inl ⟨_, _, rfl, rfl, ha, of_decide_eq_true hz.1, of_decide_eq_true hz.2, k.asM m (.tup ha .nil)⟩))
    · cases e
  · split at e
    · rename_i hz
      rw [Bool.and_eq_true, Bool.and_eq_true] at hz
      obtain ⟨⟨h2, h3⟩, h4⟩ := hz
      cases e
      cases r2
      cases r1 with
      | tup ha q1 =>
      refine .inr (.inr (.inr (.inl ⟨_, _, _, rfl, rfl, ha, fun z => ?_, of_decide_eq_true h2, of_decide_eq_true h3, by rw [← q1.length]; exact of_decide_eq_true h4, fun p hp => k.asT m (q1.rep _) hp⟩)))
      subst z
      cases q1
    · cases e
  · split at e
    · rename_i xs h1
      split at e
      · rename_i hz
        rw [Bool.and_eq_true, Bool.and_eq_true] at hz
        cases e
        cases r2
        obtain ⟨a, vs, rfl, ha, q1⟩ := itemsW_sq m r1 h1
        exact .inr (.inr (.inr (.inr ⟨_, _, _, rfl, rfl, ha, of_decide_eq_true hz.1.1, of_decide_eq_true hz.1.2, by rw [← q1.length]; exact of_decide_eq_true hz.2, fun p hp => k.asL m (q1.rep _) hp⟩)))
      · cases e
    · cases e
  · cases e
/-! ### comparisons -/
def rC (K : PySem.W.Frag) (f : Mem → PV → PV → Option Bool) : R2 := rB K false fun M v w => (f M v w).map .bl
theorem rC_get {f : Mem → PV → PV → Option Bool} {K : PySem.W.Frag} {x y : V} {H : Hp} {Q : VK} (h : rC K f x y H Q) : ∃ φ M v w b, RM K φ H M ∧ Rp K φ H v x ∧ Rp K φ H w y ∧ f M v w = some b ∧ Q (.bl b) H := by
  obtain ⟨φ, M, v, w, z, m, r1, r2, e, k⟩ := h
  cases e1 : f M v w with
  | none => simp only [e1] at e; cases e
  | some b =>
    simp only [e1] at e
    cases e
    exact ⟨φ, M, v, w, b, m, r1, r2, e1, k.here m (.bl b)⟩
theorem o_cmpI {op : CmpOp} {p : Int → Int → Bool} (h : OpR X (compareOp op) (rI0 fun i j => .bl (p i j))) : OpR X (compareOp op) (rC X.K fun _ => cmpI p) := by
  refine OpR.imp h fun x y H Q h => ?_
  obtain ⟨φ, M, v, w, b, m, r1, r2, e, k⟩ := rC_get h
  unfold cmpI at e
  split at e
  · cases e; cases r1; cases r2
    exact ⟨_, _, rfl, rfl, k⟩
  · cases e
theorem o_lt : OpR X (compareOp .Lt) (rC X.K fun M => cmpop M .lt) := o_cmpI op_lt
theorem o_le : OpR X (compareOp .LtE) (rC X.K fun M => cmpop M .le) := o_cmpI op_le
theorem o_gt : OpR X (compareOp .Gt) (rC X.K fun M => cmpop M .gt) := o_cmpI op_gt
theorem o_ge : OpR X (compareOp .GtE) (rC X.K fun M => cmpop M .ge) := o_cmpI op_ge
theorem eqD_get {K : PySem.W.Frag} {φ : Ph} {H : Hp} {M : Mem} {v w : PV} {x y : V} {b : Bool} (m : RM K φ H M) (r1 : Rp K φ H v x) (r2 : Rp K φ H w y) (e : eqD M v w = some b) :
    ∃ d f, Dp K H x d ∧ Dp K H y f ∧ SeqAt.shaped d = true ∧ SeqAt.shaped f = true ∧ PyData.eqv d f = b := by
  unfold eqD at e
  split at e
  · rename_i d f h1 h2
    split at e
    · rename_i hz
      rw [Bool.and_eq_true] at hz
      cases e
      exact ⟨d, f, toDM_dp m r1 h1, toDM_dp m r2 h2, hz.1, hz.2, rfl⟩
    · cases e
  · cases e
theorem o_eq (hu : X.A.units + 64 < cLine) : OpR X (compareOp .Eq) (rC X.K fun M => cmpop M .eq) := by
  refine OpR.imp (op_eqD hu) fun x y H Q h => ?_
  obtain ⟨φ, M, v, w, b, m, r1, r2, e, k⟩ := rC_get h
  obtain ⟨d, f, h1, h2, h3, h4, e⟩ := eqD_get m r1 r2 e
  subst e
  exact ⟨d, f, h1, h2, h3, h4, k⟩
theorem o_ne (hu : X.A.units + 64 < cLine) : OpR X (compareOp .NotEq) (rC X.K fun M => cmpop M .ne) := by
  refine OpR.imp (op_neD hu) fun x y H Q h => ?_
  obtain ⟨φ, M, v, w, b, m, r1, r2, e, k⟩ := rC_get h
  change (eqD M v w).map (!·) = some b at e
  cases e1 : eqD M v w with
  | none => rw [e1] at e; cases e
  | some b1 =>
    rw [e1] at e
    cases e
    obtain ⟨d, f, h1, h2, h3, h4, e⟩ := eqD_get m r1 r2 e1
    subst e
    exact ⟨d, f, h1, h2, h3, h4, k⟩
theorem isNon_eq {K : PySem.W.Frag} {φ : Ph} {H : Hp} {v : PV} {x : V} (r : Rp K φ H v x) : isNon v = decide (x = .non) := by
  cases r <;> rfl
theorem isOp_get {K : PySem.W.Frag} {φ : Ph} {H : Hp} {v w : PV} {x y : V} {b : Bool} (r1 : Rp K φ H v x) (r2 : Rp K φ H w y) (e : isOp v w = some b) :
    (y = .non ∧ b = decide (x = .non)) ∨ ∃ p q : Bool, x = .bl p ∧ y = .bl q ∧ b = decide (p = q) := by
  unfold isOp at e
  split at e
  · cases e; cases r2; exact .inl ⟨rfl, isNon_eq r1⟩
  · cases e; cases r1; cases r2; exact .inr ⟨_, _, rfl, rfl, rfl⟩
  · cases e
theorem o_is : OpR X (compareOp .Is) (rC X.K fun M => cmpop M .is) := by
  refine OpR.imp (orR op_isN op_isBl) fun x y H Q h => ?_
  obtain ⟨φ, M, v, w, b, m, r1, r2, e, k⟩ := rC_get h
  rcases isOp_get r1 r2 e with ⟨h1, rfl⟩ | ⟨p, q, h1, h2, rfl⟩
  · exact .inl ⟨h1, k⟩
  · exact .inr ⟨p, q, h1, h2, k⟩
theorem o_isn : OpR X (compareOp .IsNot) (rC X.K fun M => cmpop M .isn) := by
  refine OpR.imp (orR op_notN op_notBl) fun x y H Q h => ?_
  obtain ⟨φ, M, v, w, b, m, r1, r2, e, k⟩ := rC_get h
  change (isOp v w).map (!·) = some b at e
  cases e1 : isOp v w with
  | none => rw [e1] at e; cases e
  | some b1 =>
    rw [e1] at e
    cases e
    rcases isOp_get r1 r2 e1 with ⟨h1, rfl⟩ | ⟨p, q, h1, h2, rfl⟩
    · exact .inl ⟨h1, k⟩
    · exact .inr ⟨p, q, h1, h2, k⟩
theorem flat_pv {K : PySem.W.Frag} {φ : Ph} {H : Hp} {v : PV} {x : V} (r : Rp K φ H v x) (h : flatP v = true) : x = pvToV v := by
  cases r <;> first | rfl | cases h
theorem flat_pvs {K : PySem.W.Frag} {φ : Ph} {H : Hp} : ∀ {v : List PV} {x : List V}, Rps K φ H v x → v.all flatP = true → x = v.map pvToV
  | _, _, .nil, _ => rfl
  | _, _, .cons h r, e => by
    rw [List.all_cons, Bool.and_eq_true] at e
    rw [List.map_cons, flat_pv h e.1, flat_pvs r e.2]
theorem inOp_get {K : PySem.W.Frag} {φ : Ph} {H : Hp} {M : Mem} {v w : PV} {x y : V} {b : Bool} (m : RM K φ H M) (r1 : Rp K φ H v x) (r2 : Rp K φ H w y) (e : inOp M v w = some b) :
    ∃ p xs, y = .ref p ∧ (SqL K H p xs ∨ SqT K H p xs) ∧ flatV x = true ∧ xs.all flatV = true ∧ b = inV x xs := by
  unfold inOp at e
  split at e
  · rename_i xs h1
    split at e
    · rename_i hz
      cases e
      rw [Bool.and_eq_true, Bool.and_eq_true, Bool.and_eq_true] at hz
      obtain ⟨⟨h3, h4⟩, h5, h6⟩ := hz
      obtain ⟨a, vs, rfl, h7, h8⟩ := itemsT_sq m r2 h1
      have e1 := flat_pv r1 h3
      have e2 := flat_pvs h8 h4
      subst e1 e2
      exact ⟨a, _, rfl, h7, h5, h6, rfl⟩
    · cases e
  · cases e
theorem o_in : OpR X (compareOp .In) (rC X.K fun M => cmpop M .isin) := by
  refine OpR.imp op_in_seq fun x y H Q h => ?_
  obtain ⟨φ, M, v, w, b, m, r1, r2, e, k⟩ := rC_get h
  obtain ⟨p, xs, h1, h2, h3, h4, rfl⟩ := inOp_get m r1 r2 e
  exact ⟨p, xs, h1, h2, h3, h4, k⟩
theorem o_nin : OpR X (compareOp .NotIn) (rC X.K fun M => cmpop M .notin) := by
  refine OpR.imp op_notIn_seq fun x y H Q h => ?_
  obtain ⟨φ, M, v, w, b, m, r1, r2, e, k⟩ := rC_get h
  change (inOp M v w).map (!·) = some b at e
  cases e1 : inOp M v w with
  | none => rw [e1] at e; cases e
  | some b1 =>
    rw [e1] at e
    cases e
    obtain ⟨p, xs, h1, h2, h3, h4, rfl⟩ := inOp_get m r1 r2 e1
    exact ⟨p, xs, h1, h2, h3, h4, k⟩
end
end Ev

/-! Expressions: each construct's reading is the interpreter's. -/
namespace Ev
open PySem PySem.Spec PyProof.Rows L2
abbrev Cl := Nat → List PV → Mem → Option (PV × Mem)
section
variable (K : PySem.W.Frag) (call : Cl)
def tI (m : E) : TE := fun σ H Q => ∃ φ M env v M', RM K φ H M ∧ RE K φ H env σ ∧ Ev.eval call m env M = some (v, M') ∧ Pst K φ H M' v Q
def tIs (m : Es) : TA := fun σ H Q => ∃ φ M env vs M', RM K φ H M ∧ RE K φ H env σ ∧ Ev.evals call m env M = some (vs, M') ∧ ∀ φ' H' us, Xt φ H φ' H' → RM K φ' H' M' → Rps K φ' H' vs us → Q us H'
/-- as a test -/
def tT (m : E) : TT := fun σ H Q => ∃ φ M env v M' b, RM K φ H M ∧ RE K φ H env σ ∧ Ev.eval call m env M = some (v, M') ∧ truthy M' v = some b ∧ ∀ φ' H', Xt φ H φ' H' → RM K φ' H' M' → Q b H'
end
theorem _root_.L2.PE.imp {X : Cx} {e : Expr} {t t' : TE} (h : PE X e t) (k : ∀ σ H Q, t' σ H Q → t σ H Q) : PE X e t' := ⟨fun pins s σ H Q I q => h.run pins s σ H Q I (k _ _ _ q)⟩
theorem _root_.L2.PT.imp {X : Cx} {e : Expr} {t t' : TT} (h : PT X e t) (k : ∀ σ H Q, t' σ H Q → t σ H Q) : PT X e t' := ⟨fun pins s σ H Q I q => h.run pins s σ H Q I (k _ _ _ q)⟩
theorem _root_.L2.PW.imp {X : Cx} {e : Expr} {t t' : TT} (h : PW X e t) (k : ∀ σ H Q, t' σ H Q → t σ H Q) : PW X e t' := ⟨fun wh pins s σ H Q I q => h.run wh pins s σ H Q I (k _ _ _ q)⟩
theorem _root_.L2.PA.imp {X : Cx} {e : List Expr} {t t' : TA} (h : PA X e t) (k : ∀ σ H Q, t' σ H Q → t σ H Q) : PA X e t' := ⟨fun pos pins s σ H Q I q => h.run pos pins s σ H Q I (k _ _ _ q)⟩
section
variable {K : PySem.W.Frag} {call : Cl} {φ φ' φ1 : Ph} {H H' H1 : Hp} {M M' M1 : Mem} {env : Env} {σ : L2.St}
theorem Pst.mono {z : PV} {Q : VK} (x : Xt φ H φ1 H1) (k : Pst K φ H M z Q) : Pst K φ1 H1 M z Q := fun φ' H' u y => k φ' H' u (x.trans y)
/-- one part is run, then the rest -/
theorem tI.then_ {a : E} {v : PV} {Q : VK} (m : RM K φ H M) (r : RE K φ H env σ) (e : Ev.eval call a env M = some (v, M1))
    (k : ∀ φ1 H1 u, Xt φ H φ1 H1 → RM K φ1 H1 M1 → RE K φ1 H1 env σ → Rp K φ1 H1 v u → Q u H1) : tI K call a σ H Q :=
  ⟨φ, M, env, v, M1, m, r, e, fun φ' H' u x m' q => k φ' H' u x m' (r.mono x) q⟩
theorem tIs.then_ {a : Es} {v : List PV} {Q : List V → Hp → Prop} (m : RM K φ H M) (r : RE K φ H env σ) (e : Ev.evals call a env M = some (v, M1))
    (k : ∀ φ1 H1 u, Xt φ H φ1 H1 → RM K φ1 H1 M1 → RE K φ1 H1 env σ → Rps K φ1 H1 v u → Q u H1) : tIs K call a σ H Q :=
  ⟨φ, M, env, v, M1, m, r, e, fun φ' H' u x m' q => k φ' H' u x m' (r.mono x) q⟩
theorem tT.then_ {a : E} {v : PV} {b : Bool} {Q : Bool → Hp → Prop} (m : RM K φ H M) (r : RE K φ H env σ) (e : Ev.eval call a env M = some (v, M1)) (t : truthy M1 v = some b)
    (k : ∀ φ1 H1, Xt φ H φ1 H1 → RM K φ1 H1 M1 → RE K φ1 H1 env σ → Q b H1) : tT K call a σ H Q :=
  ⟨φ, M, env, v, M1, b, m, r, e, t, fun φ' H' x m' => k φ' H' x m' (r.mono x)⟩
/-- how an evaluation in two steps comes apart -/
theorem bindE {α β : Type} {x : Option (α × Mem)} {f : α → Mem → Option β} {y : β} (h : bnd x f = some y) : ∃ a, x = some a ∧ f a.1 a.2 = some y := by
  cases x with
  | none => cases h
  | some a => exact ⟨a, rfl, h⟩
theorem ifE {β : Type} {b : Bool} {x : Option β} {y : β} (h : iff_ b x = some y) : b = true ∧ x = some y := by
  cases b with
  | true => exact ⟨rfl, h⟩
  | false => cases h
theorem bifE {β : Type} {b : Option Bool} {x z : Option β} {y : β} (h : bifb b x z = some y) : (b = some true ∧ x = some y) ∨ (b = some false ∧ z = some y) := by
  cases b with
  | none => cases h
  | some b =>
    cases b with
    | true => exact .inl ⟨rfl, h⟩
    | false => exact .inr ⟨rfl, h⟩
theorem mapE {α β : Type} {x : Option α} {f : α → β} {y : β} (h : x.map f = some y) : ∃ a, x = some a ∧ f a = y := by
  cases x with
  | none => cases h
  | some a => exact ⟨a, rfl, Option.some.inj h⟩
end
section
variable {X : Cx} {call : Cl} {a b c : Expr} {ma mb mc : E} {pos : Pos}
theorem i_var {x : Str} (i : Nat) (hN : X.N[i]? = some x := by rfl) (hv : Vis X.env.scope x := by first | exact Or.inl rfl | exact Or.inr (Or.inl rfl) | exact Or.inr (Or.inr rfl)) (hd : (x == ("__debug__" : Str)) = false := by decide)
    (hcd : (x == ("__classdict__" : Str)) = false := by decide) : PE X (.Name x pos) (tI X.K call (.var i)) :=
  (pe_var hN hv hd hcd).imp fun σ H Q ⟨φ, M, env, v, M', m, r, e, k⟩ => by
    unfold Ev.eval at e
    split at e
    · rename_i w h
      cases e
      obtain ⟨u, h1, h2⟩ := r.at_ i _ h
      exact ⟨u, h1, k.here m h2⟩
    · cases e
theorem cst_of {v : PV} {t : TE} {e : Expr} (h : PE X e t) (k : ∀ σ H Q φ M, RM X.K φ H M → Pst X.K φ H M v Q → t σ H Q) : PE X e (tI X.K call (.cst v)) :=
  h.imp fun σ H Q ⟨φ, M, env, w, M', m, r, e, q⟩ => by
    unfold Ev.eval at e
    cases e
    exact k σ H Q φ M m q
theorem i_int {i : Int} {j} : PE X (.Constant (.int i) j pos) (tI X.K call (.cst (.int i))) := cst_of pe_int fun _ _ _ _ _ m k => k.here m (.int i)
theorem i_bl {b : Bool} {j} : PE X (.Constant (.bool b) j pos) (tI X.K call (.cst (.bl b))) := cst_of pe_bl fun _ _ _ _ _ m k => k.here m (.bl b)
theorem i_non {j} : PE X (.Constant .none j pos) (tI X.K call (.cst .non)) := cst_of pe_non fun _ _ _ _ _ m k => k.here m .non
theorem i_str {x : Str} {j} : PE X (.Constant (.str x) j pos) (tI X.K call (.cst (.str x))) := cst_of pe_str fun _ _ _ _ _ m k => k.here m (.str x)
/-- a module's constant -/
def Con (K : PySem.W.Frag) (v : PV) (u : V) : Prop := ∀ φ H, Rp K φ H v u
theorem i_glob {x : Str} {v : PV} {z : V} {u : Value} (hg : Gl X x) (hm : X.mg x = some u) (r : RelV z u) (c : Con X.K v z) (hd : (x == ("__debug__" : Str)) = false := by decide) : PE X (.Name x pos) (tI X.K call (.cst v)) :=
  cst_of (pe_glob hg hm r hd) fun _ _ _ _ _ m k => k.here m (c _ _)
theorem i_bin {op : Operator} {o : Bop} (g : Bool) (ho : OpR X (binaryOp op) (rB X.K g fun M => binop M o)) (ha : PE X a (tI X.K call ma)) (hb : PE X b (tI X.K call mb)) : PE X (.BinOp a op b pos) (tI X.K call (.bin o g ma mb)) :=
  (pe_op ho ha hb).imp fun σ H Q ⟨φ, M, env, v, M', m, r, e, k⟩ => by
    unfold Ev.eval at e
    obtain ⟨⟨x, M1⟩, e1, e⟩ := bindE e
    obtain ⟨⟨y, M2⟩, e2, e⟩ := bindE e
    obtain ⟨z, e3, e⟩ := mapE e
    refine tI.then_ m r e1 fun φ1 H1 u x1 m1 r1 q1 => tI.then_ m1 r1 e2 fun φ2 H2 w x2 m2 r2 q2 => ?_
    refine ⟨φ2, M2, x, y, z, m2, q1.mono x2, q2, e3, ?_⟩
    simp only at e
    rw [e]
    exact k.mono (x1.trans x2)
theorem i_neg (ha : PE X a (tI X.K call ma)) : PE X (.UnaryOp .USub a pos) (tI X.K call (.neg ma)) :=
  (pe_un un_neg ha).imp fun σ H Q ⟨φ, M, env, v, M', m, r, e, k⟩ => by
    unfold Ev.eval at e
    obtain ⟨⟨x, M1⟩, e1, e⟩ := bindE e
    simp only at e
    split at e
    · rename_i i
      cases e
      refine tI.then_ m r e1 fun φ1 H1 u x1 m1 r1 q1 => ?_
      cases q1
      exact ⟨i, rfl, k _ _ _ x1 m1 (.int _)⟩
    · cases e
/-! ### tests -/
theorem t_of (ha : PE X a (tI X.K call ma)) (he : ∀ whole, isTrue a X.env whole = (do let v ← whole; standAt a.pos; holding [v] (PySem.truthy v)) := by intro _; rfl) : PT X a (tT X.K call ma) :=
  (pt_truth ha he).imp fun σ H Q ⟨φ, M, env, v, M', b, m, r, e, t, k⟩ =>
    tI.then_ m r e fun φ1 H1 u x1 m1 r1 q1 => ⟨b, truthy_tru m1 q1 t, k _ _ x1 m1⟩
theorem t_not (ha : PT X a (tT X.K call ma)) : PT X (.UnaryOp .Not a pos) (tT X.K call (.not ma)) :=
  (pt_not ha).imp fun σ H Q ⟨φ, M, env, v, M', b, m, r, e, t, k⟩ => by
    unfold Ev.eval at e
    obtain ⟨⟨x, M1⟩, e1, e⟩ := bindE e
    obtain ⟨c, e2, e⟩ := mapE e
    cases e
    cases t
    exact tT.then_ m r e1 e2 fun φ1 H1 x1 m1 r1 => k _ _ x1 m1
theorem i_not (ha : PE X a (tI X.K call ma)) : PE X (.UnaryOp .Not a pos) (tI X.K call (.not ma)) :=
  (pe_notT ha).imp fun σ H Q ⟨φ, M, env, v, M', m, r, e, k⟩ => by
    unfold Ev.eval at e
    obtain ⟨⟨x, M1⟩, e1, e⟩ := bindE e
    obtain ⟨c, e2, e⟩ := mapE e
    cases e
    exact tI.then_ m r e1 fun φ1 H1 u x1 m1 r1 q1 => ⟨c, truthy_tru m1 q1 e2, k _ _ _ x1 m1 (.bl _)⟩
theorem i_and {rest : List Expr} (ha : PE X a (tI X.K call ma)) (hb : PE X (.BoolOp .And (b :: rest) pos) (tI X.K call mb)) : PE X (.BoolOp .And (a :: b :: rest) pos) (tI X.K call (.and ma mb)) :=
  (pe_andT ha hb).imp fun σ H Q ⟨φ, M, env, v, M', m, r, e, k⟩ => by
    unfold Ev.eval at e
    obtain ⟨⟨x, M1⟩, e1, e⟩ := bindE e
    refine tI.then_ m r e1 fun φ1 H1 u x1 m1 r1 q1 => ?_
    rcases bifE e with ⟨t, e⟩ | ⟨t, e⟩
    · exact ⟨true, truthy_tru m1 q1 t, by rw [if_pos rfl]; exact tI.then_ m1 r1 e fun φ2 H2 w x2 m2 r2 q2 => k _ _ _ (x1.trans x2) m2 q2⟩
    · cases e
      exact ⟨false, truthy_tru m1 q1 t, by rw [if_neg Bool.false_ne_true]; exact k _ _ _ x1 m1 q1⟩
theorem i_or {rest : List Expr} (ha : PE X a (tI X.K call ma)) (hb : PE X (.BoolOp .Or (b :: rest) pos) (tI X.K call mb)) : PE X (.BoolOp .Or (a :: b :: rest) pos) (tI X.K call (.or ma mb)) :=
  (pe_orT ha hb).imp fun σ H Q ⟨φ, M, env, v, M', m, r, e, k⟩ => by
    unfold Ev.eval at e
    obtain ⟨⟨x, M1⟩, e1, e⟩ := bindE e
    refine tI.then_ m r e1 fun φ1 H1 u x1 m1 r1 q1 => ?_
    rcases bifE e with ⟨t, e⟩ | ⟨t, e⟩
    · cases e
      exact ⟨true, truthy_tru m1 q1 t, by rw [if_pos rfl]; exact k _ _ _ x1 m1 q1⟩
    · exact ⟨false, truthy_tru m1 q1 t, by rw [if_neg Bool.false_ne_true]; exact tI.then_ m1 r1 e fun φ2 H2 w x2 m2 r2 q2 => k _ _ _ (x1.trans x2) m2 q2⟩
theorem i_one {op} (ha : PE X a (tI X.K call ma)) : PE X (.BoolOp op [a] pos) (tI X.K call ma) := pe_one ha
theorem w_and1 (ha : PT X a (tT X.K call ma)) : PW X (.BoolOp .And [a] pos) (tT X.K call ma) := pw_and1 ha
theorem w_or1 (ha : PT X a (tT X.K call ma)) : PW X (.BoolOp .Or [a] pos) (tT X.K call ma) := pw_or1 ha
theorem w_and {rest : List Expr} (ha : PT X a (tT X.K call ma)) (hb : PW X (.BoolOp .And (b :: rest) pos) (tT X.K call mb)) : PW X (.BoolOp .And (a :: b :: rest) pos) (tT X.K call (.and ma mb)) :=
  (pw_and ha hb).imp fun σ H Q ⟨φ, M, env, v, M', d, m, r, e, t, k⟩ => by
    unfold Ev.eval at e
    obtain ⟨⟨x, M1⟩, e1, e⟩ := bindE e
    rcases bifE e with ⟨t1, e⟩ | ⟨t1, e⟩
    · exact tT.then_ m r e1 t1 fun φ1 H1 x1 m1 r1 => by rw [if_pos rfl]; exact tT.then_ m1 r1 e t fun φ2 H2 x2 m2 r2 => k _ _ (x1.trans x2) m2
    · cases e
      rw [t1] at t
      cases t
      exact tT.then_ m r e1 t1 fun φ1 H1 x1 m1 r1 => by rw [if_neg Bool.false_ne_true]; exact k _ _ x1 m1
theorem w_or {rest : List Expr} (ha : PT X a (tT X.K call ma)) (hb : PW X (.BoolOp .Or (b :: rest) pos) (tT X.K call mb)) : PW X (.BoolOp .Or (a :: b :: rest) pos) (tT X.K call (.or ma mb)) :=
  (pw_or ha hb).imp fun σ H Q ⟨φ, M, env, v, M', d, m, r, e, t, k⟩ => by
    unfold Ev.eval at e
    obtain ⟨⟨x, M1⟩, e1, e⟩ := bindE e
    rcases bifE e with ⟨t1, e⟩ | ⟨t1, e⟩
    · cases e
      rw [t1] at t
      cases t
      exact tT.then_ m r e1 t1 fun φ1 H1 x1 m1 r1 => by rw [if_pos rfl]; exact k _ _ x1 m1
    · exact tT.then_ m r e1 t1 fun φ1 H1 x1 m1 r1 => by rw [if_neg Bool.false_ne_true]; exact tT.then_ m1 r1 e t fun φ2 H2 x2 m2 r2 => k _ _ (x1.trans x2) m2
theorem t_w (h : PW X a (tT X.K call ma)) : PT X a (tT X.K call ma) := h.pt
theorem cmp_rd {o : Cm} {σ : L2.St} {H : Hp} {Q : VK} (h : tI X.K call (.cmp o ma mb) σ H Q) : tOp (rC X.K fun M => cmpop M o) (tI X.K call ma) (tI X.K call mb) σ H Q := by
  obtain ⟨φ, M, env, v, M', m, r, e, k⟩ := h
  unfold Ev.eval at e
  obtain ⟨⟨x, M1⟩, e1, e⟩ := bindE e
  obtain ⟨⟨y, M2⟩, e2, e⟩ := bindE e
  obtain ⟨z, e3, e⟩ := mapE e
  cases e
  refine tI.then_ m r e1 fun φ1 H1 u x1 m1 r1 q1 => tI.then_ m1 r1 e2 fun φ2 H2 w x2 m2 r2 q2 => ?_
  exact ⟨φ2, M2, x, y, .bl z, m2, q1.mono x2, q2, by simp only [e3]; rfl, k.mono (x1.trans x2)⟩
theorem i_cmp {op : CmpOp} {o : Cm} (ho : OpR X (compareOp op) (rC X.K fun M => cmpop M o)) (ha : PE X a (tI X.K call ma)) (hb : PE X b (tI X.K call mb)) (hm : behindInMarks op b = false) :
    PE X (.Compare a [op] [b] pos) (tI X.K call (.cmp o ma mb)) :=
  (pe_cmpR ho ha hb hm).imp fun σ H Q h => cmp_rd h
theorem cmp_bl {o : Cm} {env : Env} {M M' : Mem} {v : PV} (e : Ev.eval call (.cmp o ma mb) env M = some (v, M')) : ∃ z, v = .bl z := by
  unfold Ev.eval at e
  obtain ⟨⟨x, M1⟩, e1, e⟩ := bindE e
  obtain ⟨⟨y, M2⟩, e2, e⟩ := bindE e
  obtain ⟨z, e3, e⟩ := mapE e
  cases e
  exact ⟨z, rfl⟩
theorem t_cmp {op : CmpOp} {o : Cm} (ho : OpR X (compareOp op) (rC X.K fun M => cmpop M o)) (ha : PE X a (tI X.K call ma)) (hb : PE X b (tI X.K call mb)) (hm : behindInMarks op b = false) :
    PT X (.Compare a [op] [b] pos) (tT X.K call (.cmp o ma mb)) :=
  (pt_cmpR ho ha hb hm).imp fun σ H Q ⟨φ, M, env, v, M', d, m, r, e, t, k⟩ => by
    obtain ⟨z, rfl⟩ := cmp_bl e
    obtain rfl : z = d := Option.some.inj t
    refine cmp_rd ⟨φ, M, env, .bl z, M', m, r, e, fun φ' H' u x m' q => ?_⟩
    cases q
    exact ⟨z, rfl, k _ _ x m'⟩
theorem chn_rd {o o' : Cm} {σ : L2.St} {H : Hp} {Q : VK} (h : tI X.K call (.chn o o' ma mb mc) σ H Q) :
    tChain (rC X.K fun M => cmpop M o) (rC X.K fun M => cmpop M o') (tI X.K call ma) (tI X.K call mb) (tI X.K call mc) σ H Q := by
  obtain ⟨φ, M, env, v, M', m, r, e, k⟩ := h
  unfold Ev.eval at e
  obtain ⟨⟨x, M1⟩, e1, e⟩ := bindE e
  obtain ⟨⟨y, M2⟩, e2, e⟩ := bindE e
  refine tI.then_ m r e1 fun φ1 H1 u x1 m1 r1 q1 => tI.then_ m1 r1 e2 fun φ2 H2 w x2 m2 r2 q2 => ?_
  rcases bifE e with ⟨e3, e⟩ | ⟨e3, e⟩
  · obtain ⟨⟨z, M3⟩, e4, e⟩ := bindE e
    obtain ⟨t, e5, e⟩ := mapE e
    cases e
    refine ⟨φ2, M2, x, y, .bl true, m2, q1.mono x2, q2, by simp only [e3]; rfl, fun φ3 H3 u3 x3 m3 q3 => ?_⟩
    cases q3
    refine ⟨true, rfl, ?_⟩
    rw [if_pos rfl]
    refine tI.then_ m3 (r2.mono x3) e4 fun φ4 H4 w4 x4 m4 r4 q4 => ?_
    exact ⟨φ4, M3, y, z, .bl t, m4, q2.mono (x3.trans x4), q4, by simp only [e5]; rfl, k.mono (x1.trans (x2.trans (x3.trans x4)))⟩
  · cases e
    refine ⟨φ2, M2, x, y, .bl false, m2, q1.mono x2, q2, by simp only [e3]; rfl, fun φ3 H3 u3 x3 m3 q3 => ?_⟩
    cases q3
    refine ⟨false, rfl, ?_⟩
    rw [if_neg Bool.false_ne_true]
    exact k _ _ _ (x1.trans (x2.trans x3)) m3 (.bl false)
theorem i_chn {op op' : CmpOp} {o o' : Cm} (ho : OpR X (compareOp op) (rC X.K fun M => cmpop M o)) (ho' : OpR X (compareOp op') (rC X.K fun M => cmpop M o')) (ha : PE X a (tI X.K call ma)) (hb : PE X b (tI X.K call mb)) (hc : PE X c (tI X.K call mc))
    (hm : lastMarks [op, op'] [b, c] = false := by with_unfolding_all rfl) : PE X (.Compare a [op, op'] [b, c] pos) (tI X.K call (.chn o o' ma mb mc)) :=
  (pe_chain ho ho' ha hb hc hm).imp fun σ H Q h => chn_rd h
theorem chn_bl {o o' : Cm} {env : Env} {M M' : Mem} {v : PV} (e : Ev.eval call (.chn o o' ma mb mc) env M = some (v, M')) : ∃ z, v = .bl z := by
  unfold Ev.eval at e
  obtain ⟨⟨x, M1⟩, e1, e⟩ := bindE e
  obtain ⟨⟨y, M2⟩, e2, e⟩ := bindE e
  rcases bifE e with ⟨e3, e⟩ | ⟨e3, e⟩
  · obtain ⟨⟨z, M3⟩, e4, e⟩ := bindE e
    obtain ⟨t, e5, e⟩ := mapE e
    cases e
    exact ⟨t, rfl⟩
  · cases e; exact ⟨false, rfl⟩
theorem t_chn {op op' : CmpOp} {o o' : Cm} (ho : OpR X (compareOp op) (rC X.K fun M => cmpop M o)) (ho' : OpR X (compareOp op') (rC X.K fun M => cmpop M o')) (ha : PE X a (tI X.K call ma)) (hb : PE X b (tI X.K call mb)) (hc : PE X c (tI X.K call mc))
    (hm : lastMarks [op, op'] [b, c] = false := by with_unfolding_all rfl) : PT X (.Compare a [op, op'] [b, c] pos) (tT X.K call (.chn o o' ma mb mc)) :=
  (pt_chain ho ho' ha hb hc hm).imp fun σ H Q ⟨φ, M, env, v, M', d, m, r, e, t, k⟩ => by
    obtain ⟨z, rfl⟩ := chn_bl e
    obtain rfl : z = d := Option.some.inj t
    refine chn_rd ⟨φ, M, env, .bl z, M', m, r, e, fun φ' H' u x m' q => ?_⟩
    cases q
    exact ⟨z, rfl, k _ _ x m'⟩
theorem i_ite (hc : PT X c (tT X.K call mc)) (ha : PE X a (tI X.K call ma)) (hb : PE X b (tI X.K call mb)) : PE X (.IfExp c a b pos) (tI X.K call (.ite mc ma mb)) :=
  (pe_ifExp hc ha hb).imp fun σ H Q ⟨φ, M, env, v, M', m, r, e, k⟩ => by
    unfold Ev.eval at e
    obtain ⟨⟨x, M1⟩, e1, e⟩ := bindE e
    rcases bifE e with ⟨t1, e⟩ | ⟨t1, e⟩
    · exact tT.then_ m r e1 t1 fun φ1 H1 x1 m1 r1 => by rw [if_pos rfl]; exact tI.then_ m1 r1 e fun φ2 H2 w x2 m2 r2 q2 => k _ _ _ (x1.trans x2) m2 q2
    · exact tT.then_ m r e1 t1 fun φ1 H1 x1 m1 r1 => by rw [if_neg Bool.false_ne_true]; exact tI.then_ m1 r1 e fun φ2 H2 w x2 m2 r2 q2 => k _ _ _ (x1.trans x2) m2 q2
/-! ### lists of expressions, displays -/
theorem is_nil : PA X [] (tIs X.K call .nil) := pa_nil.imp fun σ H Q ⟨φ, M, env, vs, M', m, r, e, k⟩ => by
  unfold Ev.evals at e
  cases e
  exact k _ _ _ .refl m .nil
theorem is_cons {es : List Expr} {ms : Es} (ha : PE X a (tI X.K call ma)) (hr : PA X es (tIs X.K call ms)) (hs : starEach (a :: es) X.env = (false, PySem.eval a X.env) :: starEach es X.env := by rfl) : PA X (a :: es) (tIs X.K call (.cons ma ms)) :=
  (pa_cons ha hr hs).imp fun σ H Q ⟨φ, M, env, vs, M', m, r, e, k⟩ => by
    unfold Ev.evals at e
    obtain ⟨⟨x, M1⟩, e1, e⟩ := bindE e
    obtain ⟨⟨y, M2⟩, e2, e⟩ := bindE e
    cases e
    refine tI.then_ m r e1 fun φ1 H1 u x1 m1 r1 q1 => tIs.then_ m1 r1 e2 fun φ2 H2 w x2 m2 r2 q2 => ?_
    exact k _ _ _ (x1.trans x2) m2 (.cons (q1.mono x2) q2)
theorem i_tup {es : List Expr} {ms : Es} {x1} (h : PA X es (tIs X.K call ms)) : PE X (.Tuple es x1 pos) (tI X.K call (.tup ms)) :=
  (pe_tup h).imp fun σ H Q ⟨φ, M, env, v, M', m, r, e, k⟩ => by
    unfold Ev.eval at e
    obtain ⟨⟨vs, M1⟩, e1, e⟩ := bindE e
    obtain ⟨hz, e⟩ := ifE e
    have hz := of_decide_eq_true hz
    cases e
    refine tIs.then_ m r e1 fun φ1 H1 u x1 m1 r1 q1 => ⟨by rw [← q1.length]; exact hz, fun p hp => ?_⟩
    exact (k.mono x1).tup m1 q1 hp
theorem i_lst {es : List Expr} {ms : Es} (b : Bool) (h : PA X es (tIs X.K call ms)) : PE X (.List es pos) (tI X.K call (.lst b ms)) :=
  (pe_lst h).imp fun σ H Q ⟨φ, M, env, v, M', m, r, e, k⟩ => by
    unfold Ev.eval at e
    obtain ⟨⟨vs, M1⟩, e1, e⟩ := bindE e
    obtain ⟨hz, e⟩ := ifE e
    have hz := of_decide_eq_true hz
    have e := Option.some.inj e
    refine tIs.then_ m r e1 fun φ1 H1 u x1 m1 r1 q1 => ⟨by rw [← q1.length]; exact hz, fun p hp => ?_⟩
    have k1 : Pst X.K φ1 H1 (newL b vs M1).2 (newL b vs M1).1 Q := by rw [e]; exact k.mono x1
    exact k1.newL m1 q1 hp
end
end Ev

/-! Subscripts, slices, calls, built-ins, targets, what a for walks. -/
namespace Ev
open PySem PySem.Spec PyProof.Rows L2
section
variable {prog : Program} {w : World} {A : Around} {E : Value → Shared → Prop} {s : Shared}
theorem places_back (n : Nat) : Builtin.Slice.sliceAdjust none none (-1) (n : Int) = ((n : Int) - 1, -1) := by
  unfold Builtin.Slice.sliceAdjust
  simp
theorem count_back (n : Nat) : Builtin.Slice.slicePlaces ((n : Int) - 1) (-1) (-1) = n := by
  unfold Builtin.Slice.slicePlaces
  have h1 : ¬ ((-1 : Int) > 0) := by omega
  have e : (- -1 : Int) = 1 := by decide
  simp only [h1, if_false, e, Int.ediv_one]
  split <;> omega
theorem fm_congr {α : Type} {f g : Nat → Option α} : ∀ (l : List Nat), (∀ m ∈ l, f m = g m) → l.filterMap f = l.filterMap g
  | [], _ => rfl
  | x :: xs, h => by
    rw [List.filterMap_cons, List.filterMap_cons, h x List.mem_cons_self, fm_congr xs fun m hm => h m (List.mem_cons_of_mem _ hm)]
theorem pick_back (items : Array Value) : ((List.range items.size).filterMap fun (m : Nat) => items[(((items.size : Int) - 1) + (m : Int) * (-1)).toNat]?).toArray = items.toList.reverse.toArray := by
  rw [← PySem.W.krv_pick]
  unfold PySem.slicePick
  rw [PySem.W.krv_bounds]
  show _ = ((PySem.sliceRange ((items.size : Int) - 1) (-1) (-1)).filterMap (items[·]?)).toArray
  rw [PySem.W.krv_sliceRange, List.filterMap_map]
  congr 1
  refine fm_congr _ fun m hm => ?_
  have := List.mem_range.mp hm
  have e : (((items.size : Int) - 1) + (m : Int) * (-1)).toNat = items.size - 1 - m := by omega
  rw [e]
  rfl
theorem getItem_tuple_rev {t sl : Addr} {items : Array Value} {k : Tok} {Q : Value → Shared → Prop} (ht : IsTup s.heap t items) (hs : s.heap.IsSliceOf sl .none .none (.int (-1) k))
    (h : Q (.ref s.heap.objs.size) { s with heap := s.heap.push { cls := .type "tuple", data := .seq items.toList.reverse.toArray } })
    (hsz : items.size ≤ sizeLine) : wpAny (model prog w) A (getItem (.ref t) (.ref sl)) Q E s := by
  have htake : sizeOk (.seq items.toList.reverse.toArray) := by
    show items.toList.reverse.toArray.size ≤ sizeLine
    rw [List.size_toArray, List.length_reverse, Array.length_toList]
    exact hsz
  obtain ⟨os, hos, hcs, hds⟩ := _root_.id hs
  have hTs : s.TypeIs (.ref sl) "slice" := ⟨os, hos, hcs⟩
  unfold getItem
  try with_reducible refine wpAny_holding ?_
  first | refine wpAny_bind (wpAny_pure ?_) | skip
  refine wpAny_bind (wpAny_sequenceKey ht.typeIs (by decide) ?_)
  refine wpAny_bind (wpAny_callSpecial?_slot (name := Str.ofString "__getitem__") ht.typeIs PyProof.Rows.slot_tuple_getitem
    (wpAny_call_entry PyProof.Rows.slot_tuple_getitem ht.typeIs entry_tuple_getitem ?_ (args_tuple_getitem _ _)))
  show wpAny _ _ (Builtin.Tuple.tupleItemsOf (.ref t) >>= _) _ _ s
  refine wpAny_bind (tupleItemsOf_ ht ?_)
  refine wpAny_bind (wpAny_typeOf hTs ?_)
  rw [if_pos (by decide)]
  refine wpAny_bind (m := Builtin.Slice.sliceApplied (.ref sl) (pure (items.size : Int))) ?_
  unfold Builtin.Slice.sliceApplied Builtin.Slice.sliceFields
  refine wpAny_bind (wpAny_bind (wpAny_field hos hds (x := .none) rfl (wpAny_bind (wpAny_field hos hds (x := .none) rfl (wpAny_bind (wpAny_field hos hds (x := .int (-1) k) rfl (wpAny_pure ?_)))))))
  refine wpAny_bind (slicePart_int ?_)
  show wpAny _ _ (if ((-1 : Int) == 0) = true then _ else _) _ _ s
  rw [if_neg (by decide)]
  refine wpAny_bind (HT.slicePart_ .none (wpAny_bind (HT.slicePart_ .none (wpAny_bind (wpAny_pure ?_)))))
  show wpAny _ _ (match Builtin.Slice.sliceAdjust none none (-1) (items.size : Int) with | (lo, hi) => pure (lo, (-1 : Int), Builtin.Slice.slicePlaces lo hi (-1))) _ _ s
  rw [places_back]
  show wpAny _ _ (pure (((items.size : Int) - 1), (-1 : Int), Builtin.Slice.slicePlaces ((items.size : Int) - 1) (-1) (-1))) _ _ s
  rw [count_back]
  refine wpAny_pure ?_
  show wpAny _ _ (if (((items.size : Int) - 1) == 0 && (-1 : Int) == 1 && items.size == items.size) = true then _ else _) _ _ s
  rw [if_neg (by rw [show ((-1 : Int) == 1) = false from rfl, Bool.and_false, Bool.false_and]; exact Bool.false_ne_true), pick_back]
  first
    | exact wpAny_bind (m := Builtin.Tuple.tupleExact _) (wpAny_newObj_type (wpAny_pure ⟨_, rfl, wpAny_pure h⟩) htake)
    | exact wpAny_bind (m := Builtin.Tuple.tupleExact _) (wpAny_newObj_type (wpAny_bind (wpAny_pure (wpAny_pure ⟨_, rfl, wpAny_pure h⟩))) htake)
    | exact wpAny_bind (wpAny_bind (m := Builtin.Tuple.tupleExact _) (wpAny_newObj_type (wpAny_pure (wpAny_pure ⟨_, rfl, wpAny_pure h⟩)) htake))
    | exact wpAny_bind (wpAny_bind (m := Builtin.Tuple.tupleExact _) (wpAny_newObj_type (wpAny_pure ⟨_, rfl, wpAny_pure h⟩) htake))
end
section
variable {X : Cx}
def tRevT (K : PySem.W.Frag) (te : TE) : TE := fun σ H Q => te σ H fun x H1 => ∃ a xs, x = .ref a ∧ SqT K H1 a xs ∧ ∀ p, H1 p = none → Q (.ref p) (upd H1 p (.tup xs.reverse))
theorem pe_revT {e : Expr} {te : TE} {k : Nat} {p1 p2 p3 pos : Pos} (he : PE X e te) : PE X (.Subscript e (.Slice none none (some (.UnaryOp .USub (.Constant (.int 1) k p1) p2)) p3) pos) (tRevT X.K te) := by
  refine ⟨fun pins s σ H Q I h => ?_⟩
  refine Subscript_ (thn (he.run pins s σ H _ I h) fun v s1 ⟨x, H1, I1, r1, q1⟩ => ?_)
  obtain ⟨a, xs, ex, hx, q⟩ := q1
  subst ex
  cases r1
  have hst : PO X (some (.UnaryOp .USub (.Constant (.int 1) k p1) p2)) (tPart (tUn (rU fun i => .int (-i)) (tC (.int 1)))) := po_some (pe_un un_neg pe_int)
  refine wpAny_Slice (thn (po_none.run pins s1 σ H1 (fun o H2 => o = none ∧ H2 = H1) I1 ⟨rfl, rfl⟩) fun vl s2 ⟨l, H2, I2, pl, el, e2⟩ => ?_)
  subst el e2
  refine thn (po_none.run pins s2 σ H2 (fun o H3 => o = none ∧ H3 = H2) I2 ⟨rfl, rfl⟩) fun vu s3 ⟨u, H3, I3, pu, eu, e3⟩ => ?_
  subst eu e3
  refine thn (hst.run pins s3 σ H3 (fun o H4 => o = some (-1) ∧ H4 = H3) I3 ⟨1, rfl, -1, rfl, rfl, rfl⟩) fun vs s4 ⟨o, H4, I4, ps, eo, e4⟩ => ?_
  subst eo e4
  cases pl
  cases pu
  cases ps with
  | int i tk =>
  have I5 : Inv X pins σ H4 { s4 with heap := s4.heap.push { cls := .type "slice", data := .fields #[.none, .none, .int (-1) tk] } } := I4.kept (t' := s4.toks) fun b ob q => Heap.get?_push_of_some _ q
  obtain ⟨its, r, ht, hz⟩ := I5.tuple hx
  have hlen := r.length
  show wpAny (model X.prog X.w) X.A (subscriptTail e (.Slice none none (some (.UnaryOp .USub (.Constant (.int 1) k p1) p2)) p3) (.ref a) (.ref s4.heap.objs.size)) (EP X pins σ Q) X.xe { s4 with heap := s4.heap.push { cls := .type "slice", data := .fields #[.none, .none, .int (-1) tk] } }
  refine tail_any (ops := [.ref a, .ref s4.heap.objs.size]) ht.typeIs (PyProof.Rows.slot_tuple_getitem.lookup) ?_ (by with_unfolding_all rfl)
  refine getItem_tuple_rev ht (Heap.IsSliceOf.new _ .none .none (.int (-1) tk)) ?_ (by rw [List.size_toArray]; omega)
  refine ⟨.ref _, _, I5.laid (t' := s4.toks) (o := .tup xs.reverse) (fun b ob q => Heap.get?_push_of_some _ q) (Nat.le_refl _) ?_, rfl, q _ (I5.hok.fresh (Nat.le_refl _))⟩
  exact ⟨by rw [List.length_reverse]; exact hz, _, r.reverse, IsTup.new _ _⟩
end
section
variable {X : Cx} {call : Cl} {a b c : Expr} {ma mb mc : E} {pos : Pos}
theorem revOp_get {M : Mem} {a z : PV} (e : revOp M a = some z) : (∃ xs, a = .tup xs ∧ z = .tup xs.reverse) ∨ ∃ xs, items M a = some xs ∧ z = .lst xs.reverse := by
  unfold revOp at e
  split at e
  · cases e; exact .inl ⟨_, rfl, rfl⟩
  · obtain ⟨xs, e5, e6⟩ := mapE e
    exact .inr ⟨xs, e5, e6.symm⟩
theorem i_rev {k : Nat} {p1 p2 p3 : Pos} (ha : PE X a (tI X.K call ma)) : PE X (.Subscript a (.Slice none none (some (.UnaryOp .USub (.Constant (.int 1) k p1) p2)) p3) pos) (tI X.K call (.rev ma)) := by
  refine ⟨fun pins s σ H Q I ⟨φ, M, env, v, M', m, r, e, k⟩ => ?_⟩
  unfold Ev.eval at e
  obtain ⟨⟨x, M1⟩, e1, e⟩ := bindE e
  obtain ⟨z, e2, e⟩ := mapE e
  cases e
  rcases revOp_get e2 with ⟨xs, rfl, rfl⟩ | ⟨xs, e3, rfl⟩
  · refine (pe_revT ha).run pins s σ H Q I (tI.then_ m r e1 fun φ1 H1 u x1 m1 r1 q1 => ?_)
    cases q1 with
    | tup h q =>
    exact ⟨_, _, rfl, h, fun p hp => (k.mono x1).tup m1 q.rev hp⟩
  · refine (pe_revL ha).run pins s σ H Q I (tI.then_ m r e1 fun φ1 H1 u x1 m1 r1 q1 => ?_)
    obtain ⟨a, vs, rfl, h, q⟩ := items_sq m1 q1 e3
    exact ⟨_, _, rfl, h, fun p hp => (k.mono x1).lst m1 q.rev hp⟩
theorem idxOp_get {M : Mem} {x y z : PV} (e : idxOp M x y = some z) : ∃ i xs, y = .int i ∧ itemsT M x = some xs ∧ L2.atI xs i = some z := by
  unfold idxOp at e
  split at e
  · rename_i i xs h
    exact ⟨_, _, rfl, h, e⟩
  · cases e
theorem i_idx (ha : PE X a (tI X.K call ma)) (hb : PE X b (tI X.K call mb)) (hs : PlainIx b := by intro _ _; rfl) : PE X (.Subscript a b pos) (tI X.K call (.idx ma mb)) :=
  (pe_ix (IxR.or ix_list ix_tup) ha hb hs).imp fun σ H Q ⟨φ, M, env, v, M', m, r, e, k⟩ => by
    unfold Ev.eval at e
    obtain ⟨⟨x, M1⟩, e1, e⟩ := bindE e
    obtain ⟨⟨y, M2⟩, e2, e⟩ := bindE e
    obtain ⟨z, e3, e⟩ := mapE e
    cases e
    refine tI.then_ m r e1 fun φ1 H1 u x1 m1 r1 q1 => tI.then_ m1 r1 e2 fun φ2 H2 w x2 m2 r2 q2 => ?_
    obtain ⟨i, xs, rfl, e4, e5⟩ := idxOp_get e3
    cases q2
    obtain ⟨p, vs, rfl, h, q⟩ := itemsT_sq m2 (q1.mono x2) e4
    obtain ⟨t, h1, h2⟩ := q.atI e5
    rcases h with h | h
    · exact .inl ⟨p, vs, _, t, rfl, rfl, h, h1, k _ _ _ (x1.trans x2) m2 h2⟩
    · exact .inr ⟨p, vs, _, t, rfl, rfl, h, h1, k _ _ _ (x1.trans x2) m2 h2⟩
/-- a slice's part -/
def tO (K : PySem.W.Frag) (call : Cl) (f : Bool) (m : E) : TO := fun σ H Q => ∃ φ M env v M' o, RM K φ H M ∧ RE K φ H env σ ∧ Ev.eval call m env M = some (v, M') ∧ part f v = some o ∧ ∀ φ' H', Xt φ H φ' H' → RM K φ' H' M' → Q o H'
theorem _root_.L2.PO.imp {X : Cx} {e : Option Expr} {t t' : TO} (h : PO X e t) (k : ∀ σ H Q, t' σ H Q → t σ H Q) : PO X e t' := ⟨fun pins s σ H Q I q => h.run pins s σ H Q I (k _ _ _ q)⟩
theorem o_none : PO X none (tO X.K call false (.cst .non)) := po_none.imp fun σ H Q ⟨φ, M, env, v, M', o, m, r, e, p, k⟩ => by
  unfold Ev.eval at e
  cases e; cases p
  exact k _ _ .refl m
theorem o_some (h : PE X a (tI X.K call ma)) : PO X (some a) (tO X.K call true ma) := (po_some h).imp fun σ H Q ⟨φ, M, env, v, M', o, m, r, e, p, k⟩ => by
  refine tI.then_ m r e fun φ1 H1 u x1 m1 r1 q1 => ?_
  cases q1 <;> try (cases p; done)
  cases p
  exact ⟨_, rfl, k _ _ x1 m1⟩
theorem cut_rps {K : PySem.W.Frag} {φ : Ph} {H : Hp} {xs : List PV} {vs : List V} (r : Rps K φ H xs vs) (l h : Option Int) : Rps K φ H (cut xs l h) (cutV vs l h) := by
  unfold cut cutV
  rw [r.length]
  exact (r.drop _).take _
theorem slcV_get {M : Mem} {a z : PV} {l h : Option Int} (e : slcV M a l h = some z) : (∃ xs, a = .tup xs ∧ z = .tup (cut xs l h)) ∨ ∃ xs, items M a = some xs ∧ z = .lst (cut xs l h) := by
  unfold slcV at e
  split at e
  · cases e; exact .inl ⟨_, rfl, rfl⟩
  · obtain ⟨xs, e5, e6⟩ := mapE e
    exact .inr ⟨xs, e5, e6.symm⟩
theorem i_slc {lo hi : Option Expr} {bl bh : Bool} {p2 : Pos} (ha : PE X a (tI X.K call ma)) (hl : PO X lo (tO X.K call bl mb)) (hh : PO X hi (tO X.K call bh mc)) : PE X (.Subscript a (.Slice lo hi none p2) pos) (tI X.K call (.slc ma bl bh mb mc)) :=
  (pe_slice (SlR.or sl_list sl_tupA) ha hl hh).imp fun σ H Q ⟨φ, M, env, v, M', m, r, e, k⟩ => by
    unfold Ev.eval at e
    obtain ⟨⟨x, M1⟩, e1, e⟩ := bindE e
    obtain ⟨⟨y, M2⟩, e2, e⟩ := bindE e
    obtain ⟨⟨y3, M3⟩, e3, e⟩ := bindE e
    obtain ⟨z, e4, e⟩ := mapE e
    cases e
    unfold slcOp at e4
    simp only at e4
    cases p1 : part bl y with
    | none => rw [p1] at e4; cases e4
    | some l =>
    cases p2 : part bh y3 with
    | none => rw [p1, p2] at e4; cases e4
    | some h =>
    rw [p1, p2] at e4
    change slcV M3 x l h = some _ at e4
    refine tI.then_ m r e1 fun φ1 H1 u x1 m1 r1 q1 => ⟨φ1, M1, env, y, M2, l, m1, r1, e2, p1, fun φ2 H2 x2 m2 => ⟨φ2, M2, env, y3, M3, h, m2, r1.mono x2, e3, p2, fun φ3 H3 x3 m3 => ?_⟩⟩
    have q3 := q1.mono (x2.trans x3)
    have k3 := k.mono (x1.trans (x2.trans x3))
    rcases slcV_get e4 with ⟨xs, rfl, rfl⟩ | ⟨xs, e5, rfl⟩
    · cases q3 with
      | tup h1 q =>
      refine .inr ⟨_, _, rfl, h1, fun ⟨w1, w2⟩ => ?_, fun _ p hp => k3.tup m3 (cut_rps q l h) hp⟩
      refine k3.here m3 (.tup h1 ?_)
      have := cut_rps q l h
      unfold cutV at this
      rw [w1, w2] at this
      simpa using this
    · obtain ⟨a, vs, rfl, h1, q⟩ := items_sq m3 q3 e5
      exact .inl ⟨_, _, rfl, h1, fun p hp => k3.lst m3 (cut_rps q l h) hp⟩
/-! ### calls -/
/-- a def that may be called by its name -/
structure Cal (P : Program) (w : World) (K : PySem.W.Frag) (mg : Str → Option Value) (base : Heap) (k : Nat) (x : Str) (sp : Sp) : Prop where
  ex : ∃ (f : Addr) (fd : FuncData) (ps : List Str), FnOk P w K mg base CX0 k f fd ps sp ∧ mg x = some (.ref f) ∧ PySem.W.keepIn K (.ref f) = true ∧ Binds K fd ps []
def spC (K : PySem.W.Frag) (call : Cl) (f : Nat) : Sp := fun vs H Q _ => ∃ φ M args v M', RM K φ H M ∧ Rps K φ H args vs ∧ call f args M = some (v, M') ∧ Pst K φ H M' v Q
theorem i_call {x : Str} {p : Pos} {k f : Nat} {es : List Expr} {ms : Es} (c : Cal X.prog X.w X.K X.mg X.base k x (spC X.K call f)) (hr : Room k X.A) (hg : Gl X x) (ha : PA X (a :: es) (tIs X.K call ms))
    (hdb : (x == ("__debug__" : Str)) = false := by decide) (he : starEach (a :: es) X.env = (false, PySem.eval a X.env) :: starEach es X.env := by rfl) (hpl : (backTo pos (starEach es X.env)).any (·.1) = false := by rfl) :
    PE X (.Call (.Name x p) (a :: es) [] pos) (tI X.K call (.call f ms)) := by
  obtain ⟨fa, fd, ps, F, hm, kp, b⟩ := c.ex
  refine (pe_call F hr hg hm kp b .nil (E := fun _ _ _ => False) pass0 ha hdb he hpl).imp fun σ H Q ⟨φ, M, env, v, M', m, r, e, k⟩ => ?_
  unfold Ev.eval at e
  obtain ⟨⟨vs, M1⟩, e1, e⟩ := bindE e
  refine tIs.then_ m r e1 fun φ1 H1 u x1 m1 r1 q1 => ?_
  rw [List.append_nil]
  exact ⟨φ1, M1, vs, v, M', m1, q1, e, k.mono x1⟩
theorem i_call0 {x : Str} {p : Pos} {k f : Nat} (c : Cal X.prog X.w X.K X.mg X.base k x (spC X.K call f)) (hr : Room k X.A) (hg : Gl X x)
    (hdb : (x == ("__debug__" : Str)) = false := by decide) : PE X (.Call (.Name x p) [] [] pos) (tI X.K call (.call f .nil)) := by
  obtain ⟨fa, fd, ps, F, hm, kp, b⟩ := c.ex
  refine (pe_call0 F hr hg hm kp b .nil (E := fun _ _ _ => False) pass0 hdb).imp fun σ H Q ⟨φ, M, env, v, M', m, r, e, k⟩ => ?_
  unfold Ev.eval at e
  obtain ⟨⟨vs, M1⟩, e1, e⟩ := bindE e
  unfold Ev.evals at e1
  cases e1
  exact ⟨φ, M, [], v, M', m, .nil, e, k⟩
/-! ### built-ins -/
def rBl (K : PySem.W.Frag) (b : Bl) (f : Bool) : List V → Hp → VK → Prop := fun xs H Q => ∃ φ M vs z, RM K φ H M ∧ Rps K φ H vs xs ∧ bltOp M b vs = some z ∧ Pst K φ H (asM f z M).2 (asM f z M).1 Q
theorem _root_.L2.CallR.imp {X : Cx} {f : Value} {r r' : List V → Hp → VK → Prop} (h : CallR X f r) (k : ∀ xs H Q, r' xs H Q → r xs H Q) : CallR X f r' := fun pins s σ H xs us Q I v q => h pins s σ H xs us Q I v (k _ _ _ q)
theorem blt_rd {bl : Bl} {f : Bool} {ms : Es} {σ : L2.St} {H : Hp} {Q : VK} (h : tI X.K call (.blt bl f ms) σ H Q) : tCB (rBl X.K bl f) (tIs X.K call ms) σ H Q := by
  obtain ⟨φ, M, env, v, M', m, r, e, k⟩ := h
  unfold Ev.eval at e
  obtain ⟨⟨vs, M1⟩, e1, e⟩ := bindE e
  obtain ⟨z, e2, e⟩ := mapE e
  refine tIs.then_ m r e1 fun φ1 H1 u x1 m1 r1 q1 => ⟨φ1, M1, vs, z, m1, q1, e2, ?_⟩
  simp only at e
  rw [e]
  exact k.mono x1
theorem i_bltB {x : Str} {p : Pos} {id : String} {bl : Bl} {f : Bool} {es : List Expr} {ms : Es} (hc : CallR X (.builtin id) (rBl X.K bl f)) (hg : Gl X x) (hm : X.mg x = none) (hv : bootBuiltins x = some (.builtin id)) (ha : PA X (a :: es) (tIs X.K call ms))
    (hn : x ≠ "__name__" := by decide) (hdb : (x == ("__debug__" : Str)) = false := by decide) (he : starEach (a :: es) X.env = (false, PySem.eval a X.env) :: starEach es X.env := by rfl) (hpl : (backTo pos (starEach es X.env)).any (·.1) = false := by rfl) :
    PE X (.Call (.Name x p) (a :: es) [] pos) (tI X.K call (.blt bl f ms)) := (pe_callB hc hg hm hv ha hn hdb he hpl).imp fun _ _ _ h => blt_rd h
theorem i_bltT {x : Str} {p : Pos} {T : String} {bl : Bl} {f : Bool} {es : List Expr} {ms : Es} (hc : CallR X (.type T) (rBl X.K bl f)) (hg : Gl X x) (hm : X.mg x = none) (hv : bootBuiltins x = some (.type T)) (ha : PA X (a :: es) (tIs X.K call ms))
    (hn : x ≠ "__name__" := by decide) (hdb : (x == ("__debug__" : Str)) = false := by decide) (he : starEach (a :: es) X.env = (false, PySem.eval a X.env) :: starEach es X.env := by rfl) (hpl : (backTo pos (starEach es X.env)).any (·.1) = false := by rfl) :
    PE X (.Call (.Name x p) (a :: es) [] pos) (tI X.K call (.blt bl f ms)) := (pe_callTy hc hg hm hv ha hn hdb he hpl).imp fun _ _ _ h => blt_rd h
theorem one_of {K : PySem.W.Frag} {φ : Ph} {H : Hp} {v : PV} {xs : List V} (r : Rps K φ H [v] xs) : ∃ u, xs = [u] ∧ Rp K φ H v u := by
  cases r with
  | cons h r => cases r; exact ⟨_, rfl, h⟩
theorem two_of {K : PySem.W.Frag} {φ : Ph} {H : Hp} {v w : PV} {xs : List V} (r : Rps K φ H [v, w] xs) : ∃ u t, xs = [u, t] ∧ Rp K φ H v u ∧ Rp K φ H w t := by
  cases r with
  | cons h r =>
    obtain ⟨t, rfl, h2⟩ := one_of r
    exact ⟨_, _, rfl, h, h2⟩
theorem c_abs {f : Bool} : CallR X (.builtin "abs") (rBl X.K .abs f) := call_abs.imp fun xs H Q ⟨φ, M, vs, z, m, r, e, k⟩ => by
  change absB vs = some z at e
  unfold absB at e
  split at e
  · cases e
    obtain ⟨u, rfl, h⟩ := one_of r
    cases h
    exact ⟨_, rfl, k.asM m (.int _) fun _ h => nomatch h⟩
  · cases e
theorem c_int {f : Bool} : CallR X (.type "int") (rBl X.K .int f) := call_int1.imp fun xs H Q ⟨φ, M, vs, z, m, r, e, k⟩ => by
  change intB vs = some z at e
  unfold intB at e
  split at e
  · cases e
    obtain ⟨u, rfl, h⟩ := one_of r
    cases h
    exact .inl ⟨_, rfl, k.asM m (.int _) fun _ h => nomatch h⟩
  · cases e
    obtain ⟨u, rfl, h⟩ := one_of r
    cases h
    exact .inr ⟨_, rfl, k.asM m (.int _) fun _ h => nomatch h⟩
  · cases e
theorem c_list {f : Bool} : CallR X (.type "list") (rBl X.K .list f) := call_list_of.imp fun xs H Q ⟨φ, M, vs, z, m, r, e, k⟩ => by
  change listB M vs = some z at e
  unfold listB at e
  split at e
  · obtain ⟨ys, e1, rfl⟩ := mapE e
    obtain ⟨u, rfl, h⟩ := one_of r
    obtain ⟨a, ws, rfl, h1, h2⟩ := itemsT_sq m h e1
    exact ⟨a, ws, rfl, h1, fun l hl => k.asL m h2 hl⟩
  · cases e
theorem c_tuple {f : Bool} : CallR X (.type "tuple") (rBl X.K .tuple f) := call_tuple_of.imp fun xs H Q ⟨φ, M, vs, z, m, r, e, k⟩ => by
  change tupleB M vs = some z at e
  unfold tupleB at e
  split at e
  · cases e
    obtain ⟨u, rfl, h⟩ := one_of r
    cases h with
    | tup h q => exact ⟨_, _, rfl, .inr ⟨h, k.asM m (.tup h q) fun _ h => nomatch h⟩⟩
  · obtain ⟨ys, e1, rfl⟩ := mapE e
    obtain ⟨u, rfl, h⟩ := one_of r
    obtain ⟨a, ws, rfl, h1, h2⟩ := items_sq m h e1
    refine ⟨a, ws, rfl, .inl ⟨h1, fun l hl => ?_⟩⟩
    have k1 : Pst X.K φ H M (.tup ys) Q := by cases f <;> exact k
    exact k1.tup m h2 hl
  · cases e
theorem c_len {f : Bool} : CallR X (.builtin "len") (rBl X.K .len f) := (CallR.or call_len_seq call_len_str).imp fun xs H Q ⟨φ, M, vs, z, m, r, e, k⟩ => by
  change lenB M vs = some z at e
  unfold lenB at e
  split at e
  · obtain ⟨u, rfl, h⟩ := one_of r
    cases h
    unfold iff' at e
    split at e
    · rename_i hz
      cases e
      exact .inr ⟨_, rfl, of_decide_eq_true hz, k.asM m (.int _) fun _ h => nomatch h⟩
    · cases e
  · obtain ⟨ys, e1, rfl⟩ := mapE e
    obtain ⟨u, rfl, h⟩ := one_of r
    obtain ⟨a, ws, rfl, h1, h2⟩ := itemsT_sq m h e1
    exact .inl ⟨a, ws, rfl, h1, by rw [← h2.length]; exact k.asM m (.int _) fun _ h => nomatch h⟩
  · cases e
theorem ints_rps {K : PySem.W.Frag} {φ : Ph} {H : Hp} : ∀ {xs : List PV} {vs : List V} {ns : List Int}, Rps K φ H xs vs → intsOf xs = some ns → vs = ns.map V.int
  | [], _, _, .nil, e => by cases e; rfl
  | x :: xs, _, ns, .cons h r, e => by
    cases h <;> first | (cases e; done) | skip
    obtain ⟨ms, e1, e2⟩ := mapE e
    subst e2
    rw [List.map_cons, ints_rps r e1]
theorem bools_rps {K : PySem.W.Frag} {φ : Ph} {H : Hp} : ∀ {xs : List PV} {vs : List V} {ns : List Bool}, Rps K φ H xs vs → boolsOf xs = some ns → vs = ns.map V.bl
  | [], _, _, .nil, e => by cases e; rfl
  | x :: xs, _, ns, .cons h r, e => by
    cases h <;> first | (cases e; done) | skip
    obtain ⟨ms, e1, e2⟩ := mapE e
    subst e2
    rw [List.map_cons, bools_rps r e1]
theorem obind {α β : Type} {x : Option α} {f : α → Option β} {y : β} (h : x.bind f = some y) : ∃ a, x = some a ∧ f a = some y := by
  cases x with
  | none => cases h
  | some a => exact ⟨a, rfl, h⟩
theorem c_sum (hc : X.calm = true) {f : Bool} : CallR X (.builtin "sum") (rBl X.K .sum f) := (cr_sum hc).imp fun xs H Q ⟨φ, M, vs, z, m, r, e, k⟩ => by
  change sumB M vs = some z at e
  unfold sumB at e
  split at e
  · obtain ⟨ys, e1, e⟩ := obind e
    obtain ⟨ns, e2, rfl⟩ := mapE e
    obtain ⟨u, rfl, h⟩ := one_of r
    obtain ⟨a, ws, rfl, h1, h2⟩ := items_sq m h e1
    exact ⟨a, ns, rfl, by rw [← ints_rps h2 e2]; exact h1, k.asM m (.int _) fun _ h => nomatch h⟩
  · cases e
theorem c_all (hc : X.calm = true) {f : Bool} : CallR X (.builtin "all") (rBl X.K .all f) := (cr_all hc).imp fun xs H Q ⟨φ, M, vs, z, m, r, e, k⟩ => by
  change allB M vs = some z at e
  unfold allB at e
  split at e
  · obtain ⟨ys, e1, e⟩ := obind e
    obtain ⟨ns, e2, rfl⟩ := mapE e
    obtain ⟨u, rfl, h⟩ := one_of r
    obtain ⟨a, ws, rfl, h1, h2⟩ := items_sq m h e1
    exact ⟨a, ns, rfl, by rw [← bools_rps h2 e2]; exact h1, k.asM m (.bl _) fun _ h => nomatch h⟩
  · cases e
theorem c_any (hc : X.calm = true) {f : Bool} : CallR X (.builtin "any") (rBl X.K .any f) := (cr_any hc).imp fun xs H Q ⟨φ, M, vs, z, m, r, e, k⟩ => by
  change anyB M vs = some z at e
  unfold anyB at e
  split at e
  · obtain ⟨ys, e1, e⟩ := obind e
    obtain ⟨ns, e2, rfl⟩ := mapE e
    obtain ⟨u, rfl, h⟩ := one_of r
    obtain ⟨a, ws, rfl, h1, h2⟩ := items_sq m h e1
    exact ⟨a, ns, rfl, by rw [← bools_rps h2 e2]; exact h1, k.asM m (.bl _) fun _ h => nomatch h⟩
  · cases e
theorem maxI_ok : ∀ {ns : List Int} {m n : Int}, maxI ns = some n → m ∈ ns → (∀ y, y ∈ ns → y ≤ m) → m = n := fun {ns m n} h hm hy => by
  cases ns with
  | nil => cases h
  | cons x xs =>
    have h' := Option.some.inj h
    have e : ∀ (l : List Int) (a : Int), (l.foldl max a = a ∨ l.foldl max a ∈ l) ∧ (a ≤ l.foldl max a) ∧ ∀ y ∈ l, y ≤ l.foldl max a := by
      intro l
      induction l with
      | nil => intro a; exact ⟨.inl rfl, Int.le_refl _, fun _ h => nomatch h⟩
      | cons b l ih =>
        intro a
        obtain ⟨h1, h2, h3⟩ := ih (max a b)
        rw [List.foldl_cons]
        refine ⟨?_, by omega, fun y hy => ?_⟩
        · rcases h1 with h1 | h1
          · rw [h1]
            rcases Int.le_total a b with k | k
            · first | (right; rw [Int.max_eq_right k]; exact List.mem_cons_self) | (left; exact Int.min_eq_left k)
            · first | (left; exact Int.max_eq_left k) | (right; rw [Int.min_eq_right k]; exact List.mem_cons_self)
          · exact .inr (List.mem_cons_of_mem _ h1)
        · rcases List.mem_cons.mp hy with rfl | hy
          · omega
          · exact h3 y hy
    obtain ⟨h1, h2, h3⟩ := e xs x
    rw [h'] at h1 h2 h3
    have a1 := hy n (by rcases h1 with h1 | h1; (rw [h1]; exact List.mem_cons_self); exact List.mem_cons_of_mem _ h1)
    rcases List.mem_cons.mp hm with q | q
    · subst q; omega
    · have := h3 m q; omega
theorem c_max (hc : X.calm = true) {f : Bool} : CallR X (.builtin "max") (rBl X.K .max f) := (CallR.or (call_max2 hc) (CallR.or (cr_max hc) (call_max4 hc))).imp fun xs H Q ⟨φ, M, vs, z, m, r, e, k⟩ => by
  change maxB M vs = some z at e
  unfold maxB at e
  split at e
  · cases e
    obtain ⟨u, t, rfl, h, h'⟩ := two_of r
    cases h; cases h'
    exact .inl ⟨_, _, rfl, k.asM m (.int _) fun _ h => nomatch h⟩
  · rename_i i1 i2 i3 i4
    cases e
    cases r with
    | cons h1 r =>
    cases r with
    | cons h2 r =>
    cases r with
    | cons h3 r =>
    cases r with
    | cons h4 r =>
    cases r
    cases h1; cases h2; cases h3; cases h4
    refine .inr (.inr ⟨_, _, _, _, rfl, fun m' hm hz => ?_⟩)
    have e : m' = max (max (max i1 i2) i3) i4 := by
      simp only [List.mem_cons, List.not_mem_nil, or_false] at hm
      have z1 := hz i1 (by simp)
      have z2 := hz i2 (by simp)
      have z3 := hz i3 (by simp)
      have z4 := hz i4 (by simp)
      omega
    rw [e]
    exact k.asM m (.int _) fun _ h => nomatch h
  · rename_i a
    cases h1 : items M a with
    | none => rw [h1] at e; cases e
    | some xs1 =>
    rw [h1] at e
    cases h2 : intsOf xs1 with
    | none => change (intsOf xs1).bind _ = _ at e; rw [h2] at e; cases e
    | some ns =>
    change (intsOf xs1).bind _ = _ at e
    rw [h2] at e
    obtain ⟨n, h3, rfl⟩ := mapE e
    obtain ⟨u, rfl, h⟩ := one_of r
    obtain ⟨p, ws, rfl, h4, h5⟩ := items_sq m h h1
    have e4 := ints_rps h5 h2
    subst e4
    refine .inr (.inl ⟨p, ns, rfl, h4, ?_, fun m' hm hy => ?_⟩)
    · cases ns with
      | nil => cases h3
      | cons _ _ => exact Nat.succ_pos _
    · rw [maxI_ok h3 hm hy]
      exact k.asM m (.int _) fun _ h => nomatch h
  · cases e
theorem minI_ok : ∀ {ns : List Int} {m n : Int}, minI ns = some n → m ∈ ns → (∀ y, y ∈ ns → m ≤ y) → m = n := fun {ns m n} h hm hy => by
  cases ns with
  | nil => cases h
  | cons x xs =>
    have h' := Option.some.inj h
    have e : ∀ (l : List Int) (a : Int), (l.foldl min a = a ∨ l.foldl min a ∈ l) ∧ (l.foldl min a ≤ a) ∧ ∀ y ∈ l, l.foldl min a ≤ y := by
      intro l
      induction l with
      | nil => intro a; exact ⟨.inl rfl, Int.le_refl _, fun _ h => nomatch h⟩
      | cons b l ih =>
        intro a
        obtain ⟨h1, h2, h3⟩ := ih (min a b)
        rw [List.foldl_cons]
        refine ⟨?_, by omega, fun y hy => ?_⟩
        · rcases h1 with h1 | h1
          · rw [h1]
            rcases Int.le_total a b with k | k
            · first | (right; rw [Int.max_eq_right k]; exact List.mem_cons_self) | (left; exact Int.min_eq_left k)
            · first | (left; exact Int.max_eq_left k) | (right; rw [Int.min_eq_right k]; exact List.mem_cons_self)
          · exact .inr (List.mem_cons_of_mem _ h1)
        · rcases List.mem_cons.mp hy with rfl | hy
          · omega
          · exact h3 y hy
    obtain ⟨h1, h2, h3⟩ := e xs x
    rw [h'] at h1 h2 h3
    have a1 := hy n (by rcases h1 with h1 | h1; (rw [h1]; exact List.mem_cons_self); exact List.mem_cons_of_mem _ h1)
    rcases List.mem_cons.mp hm with q | q
    · subst q; omega
    · have := h3 m q; omega
theorem c_min (hc : X.calm = true) {f : Bool} : CallR X (.builtin "min") (rBl X.K .min f) := (CallR.or (call_min2 hc) (cr_min hc)).imp fun xs H Q ⟨φ, M, vs, z, m, r, e, k⟩ => by
  change minB M vs = some z at e
  unfold minB at e
  split at e
  · cases e
    obtain ⟨u, t, rfl, h, h'⟩ := two_of r
    cases h; cases h'
    exact .inl ⟨_, _, rfl, k.asM m (.int _) fun _ h => nomatch h⟩
  · rename_i a
    cases h1 : items M a with
    | none => rw [h1] at e; cases e
    | some xs1 =>
    rw [h1] at e
    cases h2 : intsOf xs1 with
    | none => change (intsOf xs1).bind _ = _ at e; rw [h2] at e; cases e
    | some ns =>
    change (intsOf xs1).bind _ = _ at e
    rw [h2] at e
    obtain ⟨n, h3, rfl⟩ := mapE e
    obtain ⟨u, rfl, h⟩ := one_of r
    obtain ⟨p, ws, rfl, h4, h5⟩ := items_sq m h h1
    have e4 := ints_rps h5 h2
    subst e4
    refine .inr ⟨p, ns, rfl, h4, ?_, fun m' hm hy => ?_⟩
    · cases ns with
      | nil => cases h3
      | cons _ _ => exact Nat.succ_pos _
    · rw [minI_ok h3 hm hy]
      exact k.asM m (.int _) fun _ h => nomatch h
  · cases e
/-! ### isinstance -/
def tyS : Ty → String
  | .int => "int" | .bool => "bool" | .str => "str" | .tuple => "tuple" | .list => "list"
theorem kt_non (t : Ty) : kitB "NoneType" (tyS t) = some false := by cases t <;> decide +kernel
theorem kt_bl (t : Ty) : kitB "bool" (tyS t) = some (match t with | .int => true | .bool => true | _ => false) := by cases t <;> decide +kernel
theorem kt_int (t : Ty) : kitB "int" (tyS t) = some (match t with | .int => true | _ => false) := by cases t <;> decide +kernel
theorem kt_str (t : Ty) : kitB "str" (tyS t) = some (match t with | .str => true | _ => false) := by cases t <;> decide +kernel
theorem kt_tup (t : Ty) : kitB "tuple" (tyS t) = some (match t with | .tuple => true | _ => false) := by cases t <;> decide +kernel
theorem kt_lst (t : Ty) : kitB "list" (tyS t) = some (match t with | .list => true | _ => false) := by cases t <;> decide +kernel
theorem ty_of {K : PySem.W.Frag} {φ : Ph} {H : Hp} {M : Mem} {v : PV} {u : V} (m : RM K φ H M) (r : Rp K φ H v u) (t : Ty) : ∃ s : String, TyX K H u (.type s) ∧ kitB s (tyS t) = some (isTy t v) := by
  cases r with
  | non => exact ⟨_, .base .non, (kt_non t).trans (by cases t <;> rfl)⟩
  | bl b => exact ⟨_, .base (.bl b), (kt_bl t).trans (by cases t <;> rfl)⟩
  | int i => exact ⟨_, .base (.int i), (kt_int t).trans (by cases t <;> rfl)⟩
  | str i => exact ⟨_, .base (.str i), (kt_str t).trans (by cases t <;> rfl)⟩
  | @tup a _ _ h q =>
    have : TyX K H (.ref a) (.type "tuple") := by
      rcases h with (h | ⟨o, h⟩) | ⟨o, its, n, h1, h2, h3⟩
      · exact .base (.tup h)
      · exact .fTuple h
      · exact .kTuple h1 h2
    exact ⟨_, this, (kt_tup t).trans (by cases t <;> rfl)⟩
  | lst h n q => exact ⟨_, .base (.lst h), (kt_lst t).trans (by cases t <;> rfl)⟩
  | @rol a _ _ h q =>
    have : TyX K H (.ref a) (.type "list") := by
      rcases h with ⟨o, h⟩ | ⟨h, _⟩ | ⟨o, its, n, h1, h2, h3⟩
      · exact .base (.frz h)
      · exact .base (.lst h)
      · exact .kList h1 h2
    exact ⟨_, this, (kt_lst t).trans (by cases t <;> rfl)⟩
  | @ref n a h1 =>
    have hn : n < M.length := by rw [← m.len]; exact (List.getElem?_eq_some_iff.mp h1).1
    have h3 := m.cells n a M[n] h1 (List.getElem?_eq_getElem hn)
    cases hc : M[n] with
    | lst xs =>
      rw [hc] at h3
      obtain ⟨vs, h4, _⟩ := h3
      exact ⟨_, .base (.lst h4), (kt_lst t).trans (by cases t <;> rfl)⟩
    | dic xs => rw [hc] at h3; exact h3.elim
theorem i_isi {p p2 : Pos} {x : Str} {T : Ty} (hg : Gl X "isinstance") (hm : X.mg "isinstance" = none) (hgT : Gl X x) (hmT : X.mg x = none) (hv : bootBuiltins x = some (.type (tyS T))) (ha : PE X a (tI X.K call ma))
    (hn : x ≠ "__name__" := by decide) (hd : (x == ("__debug__" : Str)) = false := by decide) (he : starEach [a, .Name x p2] X.env = (false, PySem.eval a X.env) :: starEach [.Name x p2] X.env := by rfl) (hpl : (backTo pos (starEach [.Name x p2] X.env)).any (·.1) = false := by rfl) :
    PE X (.Call (.Name "isinstance" p) [a, .Name x p2] [] pos) (tI X.K call (.isi ma T)) :=
  (pe_callB call_isi hg hm (by decide +kernel) (pa_cons ha (pa_cons (pe_bltn hgT hmT hv (v := .ty (tyS T)) rfl hn hd) pa_nil) he) (by decide) (by decide) he hpl).imp fun σ H Q ⟨φ, M, env, v, M', m, r, e, k⟩ => by
    unfold Ev.eval at e
    obtain ⟨⟨y, M1⟩, e1, e⟩ := bindE e
    cases e
    refine tI.then_ m r e1 fun φ1 H1 u x1 m1 r1 q1 => ?_
    obtain ⟨s, h1, h2⟩ := ty_of m1 q1 T
    exact ⟨u, .ty (tyS T), .type s, .type (tyS T), _, rfl, .ty _, h1, kit_ty h2, k _ _ _ x1 m1 (.bl _)⟩
/-! ### l.append(e) -/
theorem i_app {apos cpos : Pos} (ha : PE X a (tI X.K call ma)) (hb : PA X [b] (tIs X.K call (.cons mb .nil)))
    (hbase : attributeBase a "append" X.env (PySem.eval a X.env) = PySem.eval a X.env := by rfl)
    (hfew : ((backTo cpos (starEach [b] X.env)).all (fun x => !x.1) && (backToKw cpos (keywordEach [] X.env)).all (fun x => x.1.isSome)
      && decide (([b] : List Expr).length + ([] : List Keyword).length + (if ([] : List Keyword).isEmpty then 0 else 1) < 30)) = true := by rfl)
    (hline : (apos.endLine == cpos.line) = true := by rfl) (hs : starEach [b] X.env = (false, PySem.eval b X.env) :: starEach [] X.env := by rfl) (hplain : (backTo cpos (starEach [] X.env)).any (·.1) = false := by rfl) :
    PE X (.Call (.Attribute a "append" apos) [b] [] cpos) (tI X.K call (.app ma mb)) :=
  (pe_bm PySem.F.plainAttrs_list PySem.F.slot_list_append PySem.F.type_list_append mt_append ha hb hbase hfew hline hs hplain).imp fun σ H Q ⟨φ, M, env, v, M', m, r, e, k⟩ => by
    unfold Ev.eval at e
    obtain ⟨⟨y, M1⟩, e1, e⟩ := bindE e
    simp only at e
    split at e
    · rename_i n
      obtain ⟨⟨t, M2⟩, e2, e⟩ := bindE e
      simp only at e
      split at e
      · rename_i xs e3
        obtain ⟨hz, e⟩ := ifE e
        cases e
        refine tI.then_ m r e1 fun φ1 H1 u x1 m1 r1 q1 => ?_
        cases q1 with
        | @ref _ ad h1 =>
        have hn : n < M1.length := by rw [← m1.len]; exact (List.getElem?_eq_some_iff.mp h1).1
        have h3 := m1.cells n _ M1[n] h1 (List.getElem?_eq_getElem hn)
        have h4 : ∃ ys, H1 ad = some (.lst ys) := by
          cases hc : M1[n] with
          | lst xs => rw [hc] at h3; obtain ⟨vs, h4, _⟩ := h3; exact ⟨vs, h4⟩
          | dic xs => rw [hc] at h3; exact h3.elim
        obtain ⟨ys, h4⟩ := h4
        have ev : Ev.evals call (.cons mb .nil) env M1 = some ([t], M2) := by
          unfold Ev.evals
          rw [e2]
          unfold Ev.evals
          rfl
        refine ⟨.inl ⟨rfl, ys, .inl (.inl h4)⟩, tIs.then_ m1 r1 ev fun φ2 H2 w x2 m2 r2 q2 => ?_⟩
        obtain ⟨z, rfl, q3⟩ := one_of q2
        have h5 := x2.get h1
        obtain ⟨b, h6, vs, h7, h8⟩ := m2.at_ e3
        rw [h5] at h6
        cases h6
        refine ⟨_, vs, z, rfl, rfl, h7, by rw [← h8.length]; exact of_decide_eq_true hz, ?_⟩
        exact k _ _ _ (x1.trans (x2.trans (xt_set m2 h5))) (m2.set h5 (h8.append (.cons q3 .nil))) .non
      · cases e
    · cases e
end
end Ev

/-! Targets, what a for walks, comprehensions. -/
namespace Ev
open PySem PySem.Spec PyProof.Rows L2
section
variable {K : PySem.W.Frag} {φ φ' φ1 : Ph} {H H' H1 : Hp} {M M' M1 : Mem} {env : Env} {σ : L2.St}
def gNames : List Nat → TGs
  | [] => gNil
  | i :: is => gCons (gName i) (gNames is)
def gP (K : PySem.W.Frag) : Tp1 → TG
  | .n i => gName i
  | .t is => gTup K is.length (gNames is)
def gPs (K : PySem.W.Frag) : List Tp1 → TGs
  | [] => gNil
  | p :: ps => gCons (gP K p) (gPs K ps)
def Tp1.ids : Tp1 → List Nat
  | .n i => [i]
  | .t is => is
def gT (K : PySem.W.Frag) : T → TG
  | .nm i => gName i
  | .tp is => gTup K is.length (gNames is)
  | .ls is => gUnl K is.length (gNames is)
  | .t2 ps => gTup K ps.length (gPs K ps)
def T.ids : T → List Nat
  | .nm i => [i]
  | .tp is => is
  | .ls is => is
  | .t2 ps => ps.flatMap Tp1.ids
theorem wipe_get (σ : L2.St) (j : Nat) : ∀ vs : List Nat, (wipe σ vs)[j]? = if j ∈ vs then (if j < σ.length then some none else none) else σ[j]?
  | [] => by simp [wipe]
  | v :: vs => by
    unfold wipe
    by_cases e : v = j
    · subst e
      rw [if_pos (by simp), List.getElem?_set]
      simp [wipe_length]
    · rw [List.getElem?_set_ne e, wipe_get σ j vs]
      have : (j ∈ v :: vs) ↔ j ∈ vs := by
        constructor
        · intro h
          rcases List.mem_cons.mp h with h | h
          · exact absurd h.symm e
          · exact h
        · exact List.mem_cons_of_mem _
      by_cases k : j ∈ vs
      · rw [if_pos k, if_pos (this.mpr k)]
      · rw [if_neg k, if_neg fun z => k (this.mp z)]
theorem wipe_set {σ : L2.St} {i : Nat} {x : Option V} {vs : List Nat} (h : i ∈ vs) : wipe (σ.set i x) vs = wipe σ vs := by
  apply List.ext_getElem?
  intro j
  rw [wipe_get, wipe_get, List.length_set]
  by_cases k : j ∈ vs
  · rw [if_pos k, if_pos k]
  · rw [if_neg k, if_neg k, List.getElem?_set_ne (fun e => k (by rw [← e]; exact h))]
theorem wipeE_get (env : Env) (j : Nat) : ∀ vs : List Nat, ∀ v, (wipeE env vs)[j]? = some (some v) → j ∉ vs ∧ env[j]? = some (some v)
  | [], v, h => ⟨by simp, h⟩
  | w :: vs, v, h => by
    unfold wipeE at h
    by_cases e : w = j
    · subst e
      rw [List.getElem?_set] at h
      simp at h
    · rw [List.getElem?_set_ne e] at h
      obtain ⟨h1, h2⟩ := wipeE_get env j vs v h
      refine ⟨fun z => ?_, h2⟩
      rcases List.mem_cons.mp z with z | z
      · exact e z.symm
      · exact h1 z
theorem wipeE_len (env : Env) : ∀ vs : List Nat, (wipeE env vs).length = env.length
  | [] => rfl
  | _ :: vs => by unfold wipeE; rw [List.length_set, wipeE_len env vs]
theorem RE.wipe (r : RE K φ H env σ) (vs : List Nat) : RE K φ H (wipeE env vs) (L2.wipe σ vs) := by
  refine ⟨by rw [wipeE_len, wipe_length]; exact r.len, fun i v h => ?_⟩
  obtain ⟨h1, h2⟩ := wipeE_get env i vs v h
  obtain ⟨u, h3, h4⟩ := r.at_ i v h2
  exact ⟨u, by rw [wipe_get, if_neg h1]; exact h3, h4⟩
/-- the target's reading, from the interpreter's binding -/
theorem names_rd {Q : L2.St → Hp → Prop} (sub : List Nat) : ∀ (is : List Nat) (xs : List PV) (vs : List V) (env : Env) (σ : L2.St), Rps K φ H xs vs → xs.length = is.length → RE K φ H env σ → (∀ i ∈ is, i ∈ sub) →
    (∀ σ', RE K φ H (setAll env is xs) σ' → L2.wipe σ' sub = L2.wipe σ sub → Q σ' H) → gNames is vs σ H Q
  | [], xs, vs, env, σ, r, hl, re, hs, k => by
    cases r with
    | nil => exact ⟨rfl, k σ re rfl⟩
    | cons _ _ => cases hl
  | i :: is, xs, vs, env, σ, r, hl, re, hs, k => by
    cases r with
    | nil => cases hl
    | @cons x v xs vs h r =>
    refine ⟨v, vs, rfl, ?_⟩
    refine names_rd sub is xs vs (env.set i (some x)) (σ.set i (some v)) r (by simpa using hl) (re.set h i) (fun j hj => hs j (List.mem_cons_of_mem _ hj)) fun σ' r' e => k σ' r' ?_
    rw [e, wipe_set (hs i List.mem_cons_self)]
theorem parts_rd {Q : L2.St → Hp → Prop} (sub : List Nat) : ∀ (ps : List Tp1) (xs : List PV) (vs : List V) (env env1 : Env) (σ : L2.St), Rps K φ H xs vs → bindPs ps xs env = some env1 → RE K φ H env σ → (∀ p ∈ ps, ∀ i ∈ p.ids, i ∈ sub) →
    (∀ σ', RE K φ H env1 σ' → L2.wipe σ' sub = L2.wipe σ sub → Q σ' H) → gPs K ps vs σ H Q
  | [], xs, vs, env, env1, σ, r, e, re, hs, k => by
    cases r with
    | nil => cases e; exact ⟨rfl, k σ re rfl⟩
    | cons _ _ => cases e
  | p :: ps, xs, vs, env, env1, σ, r, e, re, hs, k => by
    cases r with
    | nil => cases e
    | @cons x v xs vs h r =>
    have e' : (bindP p x env).bind (fun env1 => bindPs ps xs env1) = some env1 := e
    obtain ⟨env2, e1, e2⟩ := Option.bind_eq_some_iff.mp e'
    refine ⟨v, vs, rfl, ?_⟩
    have hs1 := hs p List.mem_cons_self
    have next : ∀ σ2, RE K φ H env2 σ2 → L2.wipe σ2 sub = L2.wipe σ sub → gPs K ps vs σ2 H Q := fun σ2 r2 w2 =>
      parts_rd sub ps xs vs env2 env1 σ2 r e2 r2 (fun q hq => hs q (List.mem_cons_of_mem _ hq)) fun σ' r' w' => k σ' r' (w'.trans w2)
    cases p with
    | n i =>
      cases e1
      exact next _ (re.set h i) (wipe_set (hs1 i (by simp [Tp1.ids])))
    | t is =>
      unfold bindP at e1
      simp only at e1
      split at e1
      · split at e1
        · rename_i hz
          have hz := of_decide_eq_true hz
          cases e1
          cases h with
          | tup h q =>
          exact ⟨_, _, rfl, h, by rw [← q.length]; exact hz, names_rd sub is _ _ _ _ q hz re hs1 next⟩
        · cases e1
      · cases e1
theorem bindPs_len : ∀ {ps : List Tp1} {xs : List PV} {env env1 : Env}, bindPs ps xs env = some env1 → xs.length = ps.length
  | [], [], _, _, _ => rfl
  | [], _ :: _, _, _, e => by cases e
  | _ :: _, [], _, _, e => by cases e
  | p :: ps, x :: xs, env, env1, e => by
    have e' : (bindP p x env).bind (fun env1 => bindPs ps xs env1) = some env1 := e
    obtain ⟨env2, _, e2⟩ := Option.bind_eq_some_iff.mp e'
    rw [List.length_cons, List.length_cons, bindPs_len e2]
theorem gT_rd {t : T} {v : PV} {u : V} {env1 : Env} {Q : L2.St → Hp → Prop} (r : Rp K φ H v u) (re : RE K φ H env σ) (e : bindT t v env = some env1)
    (k : ∀ σ', RE K φ H env1 σ' → L2.wipe σ' t.ids = L2.wipe σ t.ids → Q σ' H) : gT K t u σ H Q := by
  cases t with
  | nm i =>
    cases e
    exact k _ (re.set r i) (wipe_set (by simp [T.ids]))
  | tp is =>
    unfold bindT at e
    simp only at e
    split at e
    · rename_i xs
      split at e
      · rename_i hz
        have hz := of_decide_eq_true hz
        cases e
        cases r with
        | tup h q =>
        exact ⟨_, _, rfl, h, by rw [← q.length]; exact hz, names_rd is is _ _ _ _ q hz re (fun _ h => h) k⟩
      · cases e
    · cases e
  | ls is =>
    unfold bindT at e
    simp only at e
    split at e
    · rename_i xs
      split at e
      · rename_i hz
        have hz := of_decide_eq_true hz
        cases e
        cases r with
        | lst h n q =>
        exact ⟨_, _, rfl, .inl (.inl h), by rw [← q.length]; exact hz, names_rd is is _ _ _ _ q hz re (fun _ h => h) k⟩
      · cases e
    · cases e
  | t2 ps =>
    unfold bindT at e
    simp only at e
    split at e
    · rename_i xs
      cases r with
      | tup h q =>
      exact ⟨_, _, rfl, h, by rw [← q.length]; exact bindPs_len e, parts_rd _ ps _ _ _ _ _ q e re (fun p hp i hi => List.mem_flatMap.mpr ⟨p, hp, hi⟩) k⟩
    · cases e
theorem wipe_more {σ σ' : L2.St} {a b : List Nat} (h : L2.wipe σ' a = L2.wipe σ a) (hs : ∀ i ∈ a, i ∈ b) (hl : σ'.length = σ.length) : L2.wipe σ' b = L2.wipe σ b := by
  apply List.ext_getElem?
  intro j
  rw [wipe_get, wipe_get, hl]
  by_cases k : j ∈ b
  · rw [if_pos k, if_pos k]
  · rw [if_neg k, if_neg k]
    have := congrArg (·[j]?) h
    simp only [wipe_get] at this
    rw [if_neg fun z => k (hs j z), if_neg fun z => k (hs j z)] at this
    exact this
theorem wipe_len_eq {σ σ' : L2.St} {a : List Nat} (h : L2.wipe σ' a = L2.wipe σ a) : σ'.length = σ.length := by
  have := congrArg List.length h
  rw [wipe_length, wipe_length] at this
  exact this

/-! ### what a for walks -/
/-- an iterator that gives the items xs, from any later heap -/
def ItOk (K : PySem.W.Frag) (φ : Ph) (H : Hp) (J : It) (g : Gd) (xs : List PV) : Prop := ∀ φ2 H2 M2, Xt φ H φ2 H2 → RM K φ2 H2 M2 → gOk g M2 = true →
  (∀ i, i < xs.length → J.go i H2) ∧ (∀ i, xs.length ≤ i → J.stop i H2) ∧
  ∀ i x H3, i < xs.length → J.yld i H2 x H3 → ∃ v, xs[i]? = some v ∧ Rp K φ2 H3 v x ∧ Xt φ2 H2 φ2 H3 ∧ ∀ M, RM K φ2 H2 M → RM K φ2 H3 M
def tIt (K : PySem.W.Frag) (call : Cl) (it : I) : TI := fun σ H R => ∃ φ M env xs M', RM K φ H M ∧ RE K φ H env σ ∧ Ev.evalI call it env M = some (xs, M') ∧
  ∀ φ' H' J, Xt φ H φ' H' → RM K φ' H' M' → ItOk K φ' H' J xs.2 xs.1 → R J H'
/-- the items of a tuple or of a list, as they lie -/
def SqK (K : PySem.W.Frag) (k : Bool) (H : Hp) (a : Addr) (vs : List V) : Prop := match k with
  | true => SqT K H a vs
  | false => SqL K H a vs
/-- they stay, while what must stay stays -/
def SAt (K : PySem.W.Frag) (k : Bool) (φ : Ph) (H : Hp) (g : Gd) (a : Addr) (xs : List PV) : Prop := ∀ φ2 H2 M2, Xt φ H φ2 H2 → RM K φ2 H2 M2 → gOk g M2 = true → ∃ vs, SqK K k H2 a vs ∧ Rps K φ2 H2 xs vs
theorem seq_at {v : PV} {u : V} {k : Bool} {xs : List PV} {g : Gd} (m : RM K φ H M) (r : Rp K φ H v u) (e : seqG M v = some (k, xs, g)) : ∃ a vs, u = .ref a ∧ SqK K k H a vs ∧ SAt K k φ H g a xs := by
  cases r with
  | tup h q => cases e; exact ⟨_, _, rfl, h, fun φ2 H2 M2 x _ _ => ⟨_, x.tup h, q.mono x⟩⟩
  | lst h n q => cases e; exact ⟨_, _, rfl, .inl (.inl h), fun φ2 H2 M2 x _ _ => ⟨_, .inl (.inl (x.keep _ _ h fun z => absurd z n.1)), q.mono x⟩⟩
  | rol h q => cases e; exact ⟨_, _, rfl, h.sq, fun φ2 H2 M2 x _ _ => ⟨_, (x.rol h).sq, q.mono x⟩⟩
  | @ref n a h =>
    unfold seqG at e
    simp only at e
    split at e
    · rename_i ys e1
      cases e
      obtain ⟨b, h2, vs, h3, h4⟩ := m.at_ e1
      rw [h] at h2
      cases h2
      refine ⟨_, vs, rfl, .inl (.inl h3), fun φ2 H2 M2 x m2 hg => ?_⟩
      unfold gOk at hg
      rw [Bool.and_eq_true] at hg
      have hg1 := hg.1
      split at hg1
      · rename_i zs e2
        have := pbeqs_eq hg1
        subst this
        obtain ⟨b, h5, ws, h6, h7⟩ := m2.at_ e2
        rw [x.get h] at h5
        cases h5
        exact ⟨ws, .inl (.inl h6), h7⟩
      · cases hg1
    · cases e
  | non | bl | int | str => cases e
theorem it_tup {a : Addr} {g : Gd} {xs : List PV} (h : SAt K true φ H g a xs) : ItOk K φ H (Itt K a) g xs := fun φ2 H2 M2 x m2 hg => by
  obtain ⟨vs, h2, q2⟩ := h φ2 H2 M2 x m2 hg
  change SqT K H2 a vs at h2
  refine ⟨fun i hi => ?_, fun i hi => ⟨vs, h2, by rw [← q2.length]; exact hi⟩, fun i y H3 hi ⟨e, f⟩ => ?_⟩
  · obtain ⟨v, e, _⟩ := q2.get (List.getElem?_eq_getElem hi)
    exact ⟨vs, v, h2, e⟩
  · subst e
    obtain ⟨v, e, r⟩ := q2.get (List.getElem?_eq_getElem hi)
    have e2 := (f vs h2).symm.trans e
    cases e2
    exact ⟨_, List.getElem?_eq_getElem hi, r, .refl, fun _ m => m⟩
theorem it_lst {a : Addr} {g : Gd} {xs : List PV} (h : SAt K false φ H g a xs) : ItOk K φ H (Itl K a) g xs := fun φ2 H2 M2 x m2 hg => by
  obtain ⟨vs, h2, q2⟩ := h φ2 H2 M2 x m2 hg
  change SqL K H2 a vs at h2
  refine ⟨fun i hi => ?_, fun i hi => ⟨vs, h2, by rw [← q2.length]; exact hi⟩, fun i y H3 hi ⟨e, f⟩ => ?_⟩
  · obtain ⟨v, e, _⟩ := q2.get (List.getElem?_eq_getElem hi)
    exact ⟨vs, v, h2, e⟩
  · subst e
    obtain ⟨v, e, r⟩ := q2.get (List.getElem?_eq_getElem hi)
    have e2 := (f vs h2).symm.trans e
    cases e2
    exact ⟨_, List.getElem?_eq_getElem hi, r, .refl, fun _ m => m⟩
theorem rng_len : ∀ (n : Nat) (a : Int), (rngI a n).length = n
  | 0, _ => rfl
  | n + 1, a => by unfold rngI; rw [List.length_cons, rng_len n]
theorem rng_get : ∀ (n : Nat) (a : Int) (i : Nat), i < n → (rngI a n)[i]? = some (.int (a + i))
  | 0, _, _, h => absurd h (by omega)
  | n + 1, a, 0, _ => by unfold rngI; simp
  | n + 1, a, i + 1, h => by
    unfold rngI
    rw [List.getElem?_cons_succ, rng_get n (a + 1) i (by omega)]
    congr 2
    omega
theorem it_rng (lo : Int) (n : Nat) : ItOk K φ H (Itr lo n) [] (rngI lo n) := fun φ2 H2 M2 x m2 hg => by
  refine ⟨fun i hi => by rw [rng_len] at hi; exact hi, fun i hi => by rw [rng_len] at hi; exact hi, fun i y H3 hi ⟨e, f⟩ => ?_⟩
  subst e f
  rw [rng_len] at hi
  exact ⟨_, rng_get n lo i hi, .int _, .refl, fun _ m => m⟩
theorem zip_get : ∀ (xs ys : List PV) (i : Nat) (x y : PV), xs[i]? = some x → ys[i]? = some y → (zipP xs ys)[i]? = some (.tup [x, y])
  | [], _, _, _, _, h, _ => by simp at h
  | _ :: _, [], _, _, _, _, h => by simp at h
  | a :: xs, b :: ys, 0, x, y, h1, h2 => by simp at h1 h2; subst h1 h2; rfl
  | a :: xs, b :: ys, i + 1, x, y, h1, h2 => by
    unfold zipP
    rw [List.getElem?_cons_succ]
    exact zip_get xs ys i x y (by simpa using h1) (by simpa using h2)
theorem zip_len : ∀ (xs ys : List PV), (zipP xs ys).length = min xs.length ys.length
  | [], _ => by simp [zipP]
  | _ :: _, [] => by simp [zipP]
  | a :: xs, b :: ys => by
    unfold zipP
    rw [List.length_cons, zip_len xs ys, List.length_cons, List.length_cons]
    omega
theorem gOk_app : ∀ {g g' : Gd} {M : Mem}, gOk (g ++ g') M = true → gOk g M = true ∧ gOk g' M = true
  | [], _, _, h => ⟨rfl, h⟩
  | (n, xs) :: g, g', M, h => by
    have h' : ((match M[n]? with | some (.lst ys) => pbeqs ys xs | _ => false) && gOk (g ++ g') M) = true := h
    rw [Bool.and_eq_true] at h'
    obtain ⟨h1, h2⟩ := gOk_app h'.2
    refine ⟨?_, h2⟩
    show ((match M[n]? with | some (.lst ys) => pbeqs ys xs | _ => false) && gOk g M) = true
    rw [Bool.and_eq_true]
    exact ⟨h'.1, h1⟩
theorem it_zipT {a b : Addr} {g g' : Gd} {xs ys : List PV} (h : SAt K true φ H g a xs) (h' : SAt K true φ H g' b ys) : ItOk K φ H (RZ.ItzT K a b) (g ++ g') (zipP xs ys) := fun φ2 H2 M2 x m2 hg => by
  obtain ⟨vs, h2, q2⟩ := h φ2 H2 M2 x m2 (gOk_app hg).1
  obtain ⟨ws, h2', q2'⟩ := h' φ2 H2 M2 x m2 (gOk_app hg).2
  change SqT K H2 a vs at h2
  change SqT K H2 b ws at h2'
  refine ⟨fun i hi => ?_, fun i hi => ⟨vs, ws, h2, h2', ?_⟩, fun i y H3 hi ⟨T, v1, v2, e, nT, eH, f1, f2⟩ => ?_⟩
  · rw [zip_len] at hi
    obtain ⟨v, e, _⟩ := q2.get (List.getElem?_eq_getElem (show i < xs.length by omega))
    obtain ⟨v', e', _⟩ := q2'.get (List.getElem?_eq_getElem (show i < ys.length by omega))
    exact ⟨vs, ws, v, v', h2, h2', e, e'⟩
  · rw [zip_len] at hi
    rw [← q2.length, ← q2'.length]
    omega
  · subst e eH
    rw [zip_len] at hi
    have k1 := List.getElem?_eq_getElem (show i < xs.length by omega)
    have k2 := List.getElem?_eq_getElem (show i < ys.length by omega)
    obtain ⟨v, e, r⟩ := q2.get k1
    obtain ⟨v', e', r'⟩ := q2'.get k2
    have z1 := (f1 vs h2).symm.trans e
    have z2 := (f2 ws h2').symm.trans e'
    cases z1; cases z2
    exact ⟨_, zip_get xs ys i _ _ k1 k2, .tup (.inl (.inl upd_same)) (.cons (r.mono (xt_new nT)) (.cons (r'.mono (xt_new nT)) .nil)), xt_new nT, fun _ m => m.new nT⟩
theorem it_zipL {a b : Addr} {g g' : Gd} {xs ys : List PV} (h : SAt K false φ H g a xs) (h' : SAt K false φ H g' b ys) : ItOk K φ H (Itz K a b) (g ++ g') (zipP xs ys) := fun φ2 H2 M2 x m2 hg => by
  obtain ⟨vs, h2, q2⟩ := h φ2 H2 M2 x m2 (gOk_app hg).1
  obtain ⟨ws, h2', q2'⟩ := h' φ2 H2 M2 x m2 (gOk_app hg).2
  change SqL K H2 a vs at h2
  change SqL K H2 b ws at h2'
  refine ⟨fun i hi => ?_, fun i hi => ⟨vs, ws, h2, h2', ?_⟩, fun i y H3 hi ⟨T, v1, v2, e, nT, eH, f1, f2⟩ => ?_⟩
  · rw [zip_len] at hi
    obtain ⟨v, e, _⟩ := q2.get (List.getElem?_eq_getElem (show i < xs.length by omega))
    obtain ⟨v', e', _⟩ := q2'.get (List.getElem?_eq_getElem (show i < ys.length by omega))
    exact ⟨vs, ws, v, v', h2, h2', e, e'⟩
  · rw [zip_len] at hi
    rw [← q2.length, ← q2'.length]
    omega
  · subst e eH
    rw [zip_len] at hi
    have k1 := List.getElem?_eq_getElem (show i < xs.length by omega)
    have k2 := List.getElem?_eq_getElem (show i < ys.length by omega)
    obtain ⟨v, e, r⟩ := q2.get k1
    obtain ⟨v', e', r'⟩ := q2'.get k2
    have z1 := (f1 vs h2).symm.trans e
    have z2 := (f2 ws h2').symm.trans e'
    cases z1; cases z2
    exact ⟨_, zip_get xs ys i _ _ k1 k2, .tup (.inl (.inl upd_same)) (.cons (r.mono (xt_new nT)) (.cons (r'.mono (xt_new nT)) .nil)), xt_new nT, fun _ m => m.new nT⟩
end
section
variable {X : Cx} {call : Cl} {a b c : Expr} {ma mb mc : E} {pos : Pos}
theorem it_seq {tg : Expr} (ha : PE X a (tI X.K call ma)) : PI X tg a (tIt X.K call (.seq ma)) := by
  refine ⟨fun pins s σ H R I ⟨φ, M, env, xs, M', m, r, e, k⟩ => ?_⟩
  unfold Ev.evalI at e
  obtain ⟨⟨y, M1⟩, e1, e⟩ := bindE e
  obtain ⟨⟨kd, ys, g⟩, e2, e⟩ := mapE e
  cases e
  cases kd with
  | true =>
    refine (pi_tup ha).run pins s σ H R I (tI.then_ m r e1 fun φ1 H1 u x1 m1 r1 q1 => ?_)
    obtain ⟨ad, vs, rfl, h, st⟩ := seq_at m1 q1 e2
    exact ⟨ad, rfl, ⟨vs, h⟩, k _ _ _ x1 m1 (it_tup st)⟩
  | false =>
    refine (pi_list ha).run pins s σ H R I (tI.then_ m r e1 fun φ1 H1 u x1 m1 r1 q1 => ?_)
    obtain ⟨ad, vs, rfl, h, st⟩ := seq_at m1 q1 e2
    exact ⟨ad, rfl, ⟨vs, h⟩, k _ _ _ x1 m1 (it_lst st)⟩
theorem rng_get2 {x y : PV} {M : Mem} {xs : List PV × Gd} {M' : Mem} (e : (match x, y with
    | .int i, .int j => iff_ (decide (-(2 ^ 62) ≤ i) && decide (i < 2 ^ 62) && decide (-(2 ^ 62) ≤ j) && decide (j < 2 ^ 62)) (some ((rngI i (j - i).toNat, []), M))
    | _, _ => none) = some (xs, M')) : ∃ i j : Int, x = .int i ∧ y = .int j ∧ -(2 ^ 62) ≤ i ∧ i < 2 ^ 62 ∧ -(2 ^ 62) ≤ j ∧ j < 2 ^ 62 ∧ xs = (rngI i (j - i).toNat, []) ∧ M' = M := by
  cases x <;> first | (cases e; done) | skip
  cases y <;> first | (cases e; done) | skip
  obtain ⟨hz, e⟩ := ifE e
  rw [Bool.and_eq_true, Bool.and_eq_true, Bool.and_eq_true] at hz
  cases e
  exact ⟨_, _, rfl, rfl, of_decide_eq_true hz.1.1.1, of_decide_eq_true hz.1.1.2, of_decide_eq_true hz.1.2, of_decide_eq_true hz.2, rfl, rfl⟩
theorem evs1 {env : Env} {M M1 : Mem} {v : PV} (e : Ev.eval call ma env M = some (v, M1)) : Ev.evals call (.cons ma .nil) env M = some (([v] : List PV), M1) := by
  unfold Ev.evals
  rw [e]
  unfold Ev.evals
  rfl
theorem evs2 {env : Env} {M M1 M2 : Mem} {v w : PV} (e : Ev.eval call ma env M = some (v, M1)) (e2 : Ev.eval call mb env M1 = some (w, M2)) : Ev.evals call (.cons ma (.cons mb .nil)) env M = some (([v, w] : List PV), M2) := by
  unfold Ev.evals
  rw [e]
  show bnd (Ev.evals call (.cons mb .nil) env M1) _ = _
  rw [evs1 e2]
  rfl
theorem it_rng1 {tg : Expr} {p : Pos} (hg : Gl X "range") (hm : X.mg "range" = none) (ha : PA X [a] (tIs X.K call (.cons ma .nil)))
    (hs : starEach [a] X.env = (false, PySem.eval a X.env) :: starEach [] X.env := by rfl) (hpl : (backTo pos (starEach [] X.env)).any (·.1) = false := by rfl) :
    PI X tg (.Call (.Name "range" p) [a] [] pos) (tIt X.K call (.rng (.cst (.int 0)) ma)) := by
  refine ⟨fun pins s σ H R I ⟨φ, M, env, xs, M', m, r, e, k⟩ => ?_⟩
  unfold Ev.evalI at e
  obtain ⟨⟨y, M1⟩, e1, e⟩ := bindE e
  unfold Ev.eval at e1
  cases e1
  obtain ⟨⟨y2, M2⟩, e2, e⟩ := bindE e
  obtain ⟨i, j, h1, h2, a1, a2, a3, a4, rfl, rfl⟩ := rng_get2 e
  cases h1
  cases h2
  refine (pi_range1 hg hm ha hs).run pins s σ H R I (tIs.then_ m r (evs1 e2) fun φ1 H1 u x1 m1 r1 q1 => ?_)
  obtain ⟨z, rfl, q⟩ := one_of q1
  cases q
  refine ⟨j, rfl, a3, a4, k _ _ _ x1 m1 ?_⟩
  show ItOk _ _ _ _ [] (rngI 0 (j - 0).toNat)
  rw [show j - 0 = j by omega]
  exact it_rng 0 _
theorem it_rng2 {tg : Expr} {p : Pos} (hg : Gl X "range") (hm : X.mg "range" = none) (ha : PA X [a, b] (tIs X.K call (.cons ma (.cons mb .nil))))
    (hs : starEach [a, b] X.env = (false, PySem.eval a X.env) :: starEach [b] X.env := by rfl) (hs2 : starEach [b] X.env = (false, PySem.eval b X.env) :: starEach [] X.env := by rfl) :
    PI X tg (.Call (.Name "range" p) [a, b] [] pos) (tIt X.K call (.rng ma mb)) := by
  refine ⟨fun pins s σ H R I ⟨φ, M, env, xs, M', m, r, e, k⟩ => ?_⟩
  unfold Ev.evalI at e
  obtain ⟨⟨y, M1⟩, e1, e⟩ := bindE e
  obtain ⟨⟨y2, M2⟩, e2, e⟩ := bindE e
  obtain ⟨i, j, h1, h2, a1, a2, a3, a4, rfl, rfl⟩ := rng_get2 e
  cases h1
  cases h2
  refine (pi_range2 hg hm ha (by rw [hs, hs2]; rfl) hs2).run pins s σ H R I (tIs.then_ m r (evs2 e1 e2) fun φ1 H1 u x1 m1 r1 q1 => ?_)
  obtain ⟨z, t, rfl, q, q'⟩ := two_of q1
  cases q; cases q'
  exact ⟨i, j, rfl, ⟨a1, a2, a3, a4⟩, k _ _ _ x1 m1 (it_rng _ _)⟩
theorem it_zip {elts : List Expr} {kk : Nat} {tpos p : Pos} (hg : Gl X "zip") (hm : X.mg "zip" = none) (ha : PA X [a, b] (tIs X.K call (.cons ma (.cons mb .nil))))
    (hs : starEach [a, b] X.env = (false, PySem.eval a X.env) :: starEach [b] X.env := by rfl) (hpl : (backTo pos (starEach [b] X.env)).any (·.1) = false := by rfl) :
    PI X (.Tuple elts kk tpos) (.Call (.Name "zip" p) [a, b] [] pos) (tIt X.K call (.zip ma mb)) := by
  refine ⟨fun pins s σ H R I ⟨φ, M, env, xs, M', m, r, e, k⟩ => ?_⟩
  unfold Ev.evalI at e
  obtain ⟨⟨y, M1⟩, e1, e⟩ := bindE e
  obtain ⟨⟨y2, M2⟩, e2, e⟩ := bindE e
  simp only at e
  cases s1 : seqG M2 y with
  | none => rw [s1] at e; cases e
  | some t1 =>
  cases s2 : seqG M2 y2 with
  | none => rw [s1, s2] at e; cases e
  | some t2 =>
  obtain ⟨k1, xs1, g1⟩ := t1
  obtain ⟨k2, xs2, g2⟩ := t2
  rw [s1, s2] at e
  obtain ⟨hk, e'⟩ := ifE e
  clear e
  have hk := eq_of_beq hk
  subst hk
  cases e'
  refine (RZ.pi_zipA hg hm ha hs hpl).run pins s σ H R I (tIs.then_ m r (evs2 e1 e2) fun φ1 H1 u x1 m1 r1 q1 => ?_)
  obtain ⟨z, t, rfl, q, q'⟩ := two_of q1
  obtain ⟨a1, v1, rfl, h1, t1⟩ := seq_at m1 q s1
  obtain ⟨a2, v2, rfl, h2, t2⟩ := seq_at m1 q' s2
  cases k1 with
  | true => exact ⟨_, _, _, _, rfl, .inr ⟨h1, h2, k _ _ _ x1 m1 (it_zipT t1 t2)⟩⟩
  | false => exact ⟨_, _, _, _, rfl, .inl ⟨h1, h2, k _ _ _ x1 m1 (it_zipL t1 t2)⟩⟩
/-! ### targets -/
theorem g_nm {x : Str} (i : Nat) (hN : X.N.Nodup) (hi : X.N[i]? = some x := by rfl) (hx : Loc X.env.scope x := by first | exact .inl rfl | exact .inr rfl) (hf : X.fn x = true ∨ X.env.scope.names.lookup x = some .local := by first | exact .inl rfl | exact .inr rfl | assumption) :
    PG X (.Name x pos) (gT X.K (.nm i)) := pg_name hN hi hx hf
theorem gs_nil : PGs X [] (gNames []) := pgs_nil
theorem gs_cons {x : Str} {es : List Expr} {is : List Nat} (i : Nat) (hN : X.N.Nodup) (h : PGs X es (gNames is)) (hi : X.N[i]? = some x := by rfl) (hx : Loc X.env.scope x := by first | exact .inl rfl | exact .inr rfl) (hf : X.fn x = true ∨ X.env.scope.names.lookup x = some .local := by first | exact .inl rfl | exact .inr rfl | assumption) :
    PGs X (.Name x pos :: es) (gNames (i :: is)) := pgs_cons (pg_name hN hi hx hf) h
theorem g_tp {es : List Expr} {is : List Nat} {kk : Nat} (hc : X.calm = true) (h : PGs X es (gNames is)) (hn : (assignEach es X.env).length = is.length := by rfl) (hst : (assignEach es X.env).findIdx? (·.1) = none := by rfl) :
    PG X (.Tuple es kk pos) (gT X.K (.tp is)) := pg_tup hc h hn hst
theorem gp_nil : PGs X [] (gPs X.K []) := pgs_nil
theorem gp_n {x : Str} {es : List Expr} {ps : List Tp1} (i : Nat) (hN : X.N.Nodup) (h : PGs X es (gPs X.K ps)) (hi : X.N[i]? = some x := by rfl) (hx : Loc X.env.scope x := by first | exact .inl rfl | exact .inr rfl) (hf : X.fn x = true ∨ X.env.scope.names.lookup x = some .local := by first | exact .inl rfl | exact .inr rfl | assumption) :
    PGs X (.Name x pos :: es) (gPs X.K (.n i :: ps)) := pgs_cons (pg_name hN hi hx hf) h
theorem gp_t {fs es : List Expr} {is : List Nat} {ps : List Tp1} {kk : Nat} (hc : X.calm = true) (h1 : PGs X fs (gNames is)) (h : PGs X es (gPs X.K ps)) (hn : (assignEach fs X.env).length = is.length := by rfl) (hst : (assignEach fs X.env).findIdx? (·.1) = none := by rfl) :
    PGs X (.Tuple fs kk pos :: es) (gPs X.K (.t is :: ps)) := pgs_cons (pg_tup hc h1 hn hst) h
theorem g_t2 {es : List Expr} {ps : List Tp1} {kk : Nat} (hc : X.calm = true) (h : PGs X es (gPs X.K ps)) (hn : (assignEach es X.env).length = ps.length := by rfl) (hst : (assignEach es X.env).findIdx? (·.1) = none := by rfl) :
    PG X (.Tuple es kk pos) (gT X.K (.t2 ps)) := pg_tup hc h hn hst
theorem g_ls {es : List Expr} {is : List Nat} {kk : Nat} (hc : X.calm = true) (h : PGs X es (gNames is)) (hn : (assignEach es X.env).length = is.length := by rfl) (hst : (assignEach es X.env).findIdx? (·.1) = none := by rfl) :
    PG X (.Tuple es kk pos) (gT X.K (.ls is)) := pg_unl hc h hn hst
/-! ### comprehensions -/
def tCs (K : PySem.W.Frag) (call : Cl) (cs : Es) : TT := fun σ H Q => ∃ φ M env b M', RM K φ H M ∧ RE K φ H env σ ∧ Ev.conds call cs env M = some (b, M') ∧ ∀ φ' H', Xt φ H φ' H' → RM K φ' H' M' → Q b H'
theorem cs_nil : PTs X [] (tCs X.K call .nil) := ⟨fun pins s σ H Q I ⟨φ, M, env, b, M', m, r, e, k⟩ => pts_nil.run pins s σ H Q I (by
  unfold Ev.conds at e
  cases e
  exact k _ _ .refl m)⟩
theorem cs_one (h : PT X a (tT X.K call ma)) : PTs X [a] (tCs X.K call (.cons ma .nil)) := ⟨fun pins s σ H Q I ⟨φ, M, env, b, M', m, r, e, k⟩ => (pts_one h).run pins s σ H Q I (by
  unfold Ev.conds at e
  obtain ⟨⟨y, M1⟩, e1, e⟩ := bindE e
  rcases bifE e with ⟨t, e⟩ | ⟨t, e⟩
  · unfold Ev.conds at e
    cases e
    exact tT.then_ m r e1 t fun φ1 H1 x1 m1 r1 => k _ _ x1 m1
  · cases e
    exact tT.then_ m r e1 t fun φ1 H1 x1 m1 r1 => k _ _ x1 m1)⟩
theorem lcL_len {t : T} {g : Gd} {cond : Env → Mem → Option (Bool × Mem)} {elt : Env → Mem → Option (PV × Mem)} {env : Env} : ∀ {xs acc : List PV} {M M' : Mem} {vs : List PV}, lcL t g cond elt env xs acc M = some (vs, M') → acc.length ≤ vs.length
  | [], acc, M, M', vs, h => by
    unfold lcL at h
    split at h
    · cases h; exact Nat.le_refl _
    · cases h
  | x :: xs, acc, M, M', vs, h => by
    unfold lcL at h
    split at h
    · split at h
      · split at h
        · split at h
          · have := lcL_len h
            rw [List.length_append] at this
            omega
          · cases h
        · exact lcL_len h
        · cases h
      · cases h
    · cases h
theorem lc_rd {it : I} {t : T} {cs : Es} {w : List Nat} {f : Bool} {σ : L2.St} {H : Hp} {Q : VK} (hw : ∀ i ∈ t.ids, i ∈ w) (h : tI X.K call (.lc f w t it cs ma) σ H Q) :
    tLc (tIt X.K call it) (gT X.K t) (tCs X.K call cs) (tI X.K call ma) w σ H Q := by
  obtain ⟨φ, M, env, v, M', m, r, e, k⟩ := h
  unfold Ev.eval at e
  obtain ⟨⟨⟨xs, g⟩, M1⟩, e1, e⟩ := bindE e
  obtain ⟨⟨vs, M2⟩, e2, e⟩ := bindE e
  obtain ⟨hz, e⟩ := ifE e
  have hz := of_decide_eq_true hz
  have e := Option.some.inj e
  simp only at e2 hz
  refine ⟨φ, M, env, (xs, g), M1, m, r, e1, fun φ1 H1 J x1 m1 ok => fun D hD => ?_⟩
  simp only at ok
  -- ahead of turn i: what is left makes the rest
  refine ⟨fun i n H3 => ∃ (φ3 : Ph) (M3 : Mem) (acc : List PV) (us : List V), i + n = xs.length ∧ Xt φ1 H1 φ3 H3 ∧ RM X.K φ3 H3 M3 ∧ D ∈ φ3.r ∧ D ∉ φ3.c ∧ H3 D = some (.lst us) ∧ Rps X.K φ3 H3 acc us ∧
    lcL t g (Ev.conds call cs) (Ev.eval call ma) (wipeE env w) (xs.drop i) acc M3 = some (vs, M2), ⟨xs.length, φ1.hide D, M1, [], [], by omega, xt_hide hD, m1.enter hD, List.mem_cons_self, m1.notin hD, upd_same, .nil, e2⟩, ?_⟩
  rintro i n H3 ⟨φ3, M3, acc, us, hn, x3, m3, hd, nD, eD, ra, e3⟩
  have hgd : gOk g M3 = true := by
    cases hg : gOk g M3 with
    | true => rfl
    | false =>
      cases hd : xs.drop i with
      | nil => rw [hd] at e3; unfold lcL at e3; rw [hg] at e3; cases e3
      | cons a l => rw [hd] at e3; unfold lcL at e3; rw [hg] at e3; cases e3
  obtain ⟨go, stop, yld⟩ := ok φ3 H3 M3 x3 m3 hgd
  by_cases hi : i < xs.length
  · refine .inr ⟨go i hi, ?_⟩
    rw [List.drop_eq_getElem_cons hi] at e3
    unfold lcL at e3
    rw [hgd] at e3
    simp only at e3
    split at e3
    · rename_i env1 eb
      refine ⟨fun H' => ∃ n', n' < n ∧ ∃ (φ4 : Ph) (M4 : Mem) (acc4 : List PV) (us4 : List V), i + 1 + n' = xs.length ∧ Xt φ1 H1 φ4 H' ∧ RM X.K φ4 H' M4 ∧ D ∈ φ4.r ∧ D ∉ φ4.c ∧ H' D = some (.lst us4) ∧ Rps X.K φ4 H' acc4 us4 ∧
        lcL t g (Ev.conds call cs) (Ev.eval call ma) (wipeE env w) (xs.drop (i + 1)) acc4 M4 = some (vs, M2), fun H' h => ?_, fun x H4 hy => ?_⟩
      · obtain ⟨n', h1, φ4, M4, acc4, us4, h2⟩ := h
        exact ⟨n', h1, φ4, M4, acc4, us4, h2⟩
      · obtain ⟨v0, ev0, rv0, x4, mm⟩ := yld i x H4 hi hy
        rw [List.getElem?_eq_getElem hi] at ev0
        cases ev0
        have m4 := mm M3 m3
        have eD4 : H4 D = some (.lst us) := x4.keep _ _ eD fun z => absurd z nD
        have re4 : RE X.K φ3 H4 (wipeE env w) (L2.wipe σ w) := (r.mono (x1.trans (x3.trans x4))).wipe w
        refine gT_rd rv0 re4 eb fun σ' re' ew => ?_
        have hl := wipe_len_eq ew
        refine ⟨?_, ?_⟩
        · have := wipe_more ew hw hl
          rw [this]
          apply List.ext_getElem?
          intro j
          rw [wipe_get, wipe_get, wipe_length]
          by_cases kj : j ∈ w
          · rw [if_pos kj, if_pos kj]
          · rw [if_neg kj]
        · split at e3
          · rename_i M5 ec
            refine ⟨φ3, M3, env1, true, M5, m4, re', ec, fun φ5 H5 x5 m5 => ?_⟩
            show (if true = true then _ else _)
            rw [if_pos rfl]
            split at e3
            · rename_i v6 M6 ee
              refine tI.then_ m5 (re'.mono x5) ee fun φ6 H6 u6 x6 m6 r6 q6 => ?_
              have x46 : Xt φ3 H4 φ6 H6 := x5.trans x6
              have x36 : Xt φ3 H3 φ6 H6 := x4.trans x46
              have eD6 : H6 D = some (.lst us) := x36.keep _ _ eD fun z => absurd z nD
              have nD6 : D ∉ φ6.c := x36.notin eD nD
              have hd6 : D ∈ φ6.r := x36.res _ hd
              have hlen := lcL_len e3
              rw [List.length_append, List.length_singleton] at hlen
              have xa : Xt φ1 H1 φ6 H6 := x3.trans x36
              refine ⟨us, eD6, by rw [← ra.length]; omega, n - 1, by omega, φ6, M6, acc ++ [v6], us ++ [u6], by omega, ⟨xa.pre, xa.res, fun a o ea hc => ?_, xa.fresh, xa.freshr, fun a o ea => ?_⟩, m6.under eD6 hd6 nD6, hd6, nD6, upd_same, (((ra.mono x36).under eD6 hd6).append (.cons (q6.under eD6 hd6) .nil)), e3⟩
              · rw [upd_ne (ne_of_none ea hD)]
                exact xa.keep a o ea hc
              · obtain ⟨o', e'⟩ := xa.there a o ea
                exact ⟨o', by rw [upd_ne (ne_of_none ea hD)]; exact e'⟩
            · cases e3
          · rename_i M5 ec
            refine ⟨φ3, M3, env1, false, M5, m4, re', ec, fun φ5 H5 x5 m5 => ?_⟩
            show (if false = true then _ else _)
            rw [if_neg Bool.false_ne_true]
            have x35 := x4.trans x5
            exact ⟨n - 1, by omega, φ5, M5, acc, us, by omega, x3.trans x35, m5, x35.res _ hd, x35.notin eD nD, x35.keep _ _ eD fun z => absurd z nD, ra.mono x35, e3⟩
          · cases e3
    · cases e3
  · refine .inl ⟨stop i (by omega), ?_⟩
    rw [List.drop_eq_nil_of_le (by omega)] at e3
    unfold lcL at e3
    rw [hgd] at e3
    cases e3
    have m4 := m3.less (l := φ1.r) x3.res
    have ra4 := ra.less (l := φ1.r) x3.res
    have nD2 : D ∉ φ1.r := (m1.notin2 hD).2
    have x4 : Xt φ1 H1 ⟨φ3.c, φ1.r⟩ H3 := ⟨x3.pre, fun _ h => h, x3.keep, x3.fresh, fun _ h n => absurd h n, x3.there⟩
    cases f with
    | false =>
      cases e
      exact k _ _ _ (x1.trans x4) m4 (.lst eD ⟨nD, nD2⟩ ra4)
    | true =>
      cases e
      -- the list becomes a cell
      have x5 : Xt φ1 H1 (Ph.add ⟨φ3.c, φ1.r⟩ D) H3 := ⟨by
        obtain ⟨e, h⟩ := x3.pre
        exact ⟨e ++ [D], by show φ3.c ++ [D] = _; rw [h, List.append_assoc]⟩, fun _ h => h, x3.keep, fun a h n => by
        rcases List.mem_append.mp h with h | h
        · exact x3.fresh a h n
        · have : a = D := by simpa using h
          rw [this]; exact hD, fun _ h n => absurd h n, x3.there⟩
      have up : ∀ {v : PV} {u : V}, Rp X.K φ3 H3 v u → Rp X.K (Ph.add ⟨φ3.c, φ1.r⟩ D) H3 v u := fun h => h.shift x3.res hd
      refine k (Ph.add ⟨φ3.c, φ1.r⟩ D) H3 _ (x1.trans x5) ?_ (.ref ?_)
      · refine ⟨by simp [Ph.add, m3.len], ?_, m4.res, fun n a c h1 h2 => ?_⟩
        · show (φ3.c ++ [D]).Nodup
          rw [List.nodup_append]
          refine ⟨m3.nd, by simp, fun a ha b hb e => ?_⟩
          have : b = D := by simpa using hb
          subst this
          exact nD (e ▸ ha)
        · change (φ3.c ++ [D])[n]? = some a at h1
          by_cases kk : n < φ3.c.length
          · rw [List.getElem?_append_left kk] at h1
            rw [List.getElem?_append_left (by rw [← m3.len]; exact kk)] at h2
            have h3 := m3.cells n a c h1 h2
            cases c with
            | lst ys =>
              obtain ⟨ws, h4, h5⟩ := h3
              exact ⟨ws, h4, h5.shift x3.res hd⟩
            | dic _ => exact h3
          · have k2 : n = φ3.c.length := by
              have := (List.getElem?_eq_some_iff.mp h1).1
              simp at this
              omega
            subst k2
            rw [List.getElem?_append_right (Nat.le_refl _)] at h1
            rw [m3.len, List.getElem?_append_right (Nat.le_refl _)] at h2
            simp at h1 h2
            subst h1 h2
            exact ⟨us, eD, ra.shift x3.res hd⟩
      · show (φ3.c ++ [D])[M2.length]? = some D
        rw [← m3.len, List.getElem?_append_right (Nat.le_refl _)]
        simp
theorem i_lc {elt tg iter : Expr} {ifs : List Expr} {scope : Scope} {own : List (Str × Nat)} {it : I} {t : T} {cs : Es} (f : Bool) (hc : X.calm = true) (hN : X.N.Nodup) (hi : PI X tg iter (tIt X.K call it)) (ok : blkC X.N X.env.scope scope own = true) (hw : (t.ids.all fun i => (own.map (·.2)).contains i) = true)
    (hg : ∀ (s : Shared) (H : Hp) (C : Addr) (cl : List (Str × Addr)) (fp : List Addr), PG (X.blk s H scope (compEnvC scope cl C X.env) fp) tg (gT X.K t)) (ht : ∀ (s : Shared) (H : Hp) (C : Addr) (cl : List (Str × Addr)) (fp : List Addr), PTs (X.blk s H scope (compEnvC scope cl C X.env) fp) ifs (tCs X.K call cs))
    (he : ∀ (s : Shared) (H : Hp) (C : Addr) (cl : List (Str × Addr)) (fp : List Addr), PE (X.blk s H scope (compEnvC scope cl C X.env) fp) elt (tI X.K call ma)) (hs : ∀ x, foldedSetIterable iter X.env x = pure x := by intro _; rfl) :
    PE X (.ListComp elt [⟨tg, iter, ifs, 0⟩] scope pos) (tI X.K call (.lc f (own.map (·.2)) t it cs ma)) :=
  (pe_lc hc hN hi (blkOk_by ok) hg ht he hs).imp fun _ _ _ h => lc_rd (fun i hi => by
    have := List.all_eq_true.mp hw i hi
    simpa using this) h
end
end Ev

/-! tuple(zip(a, b)) of two lists. -/
namespace Ev
open PySem PySem.Spec PyProof.Rows L2
theorem nolen_zip : typeLookup (.type "zip") "__len__" = pure none := by rw [typeLookup_type, builtinLookup_eq_fast]; kernel_rfl
theorem nohint_zip : typeLookup (.type "zip") "__length_hint__" = pure none := by rw [typeLookup_type, builtinLookup_eq_fast]; kernel_rfl

/-- pairs of what is left, each a new tuple -/
inductive Zp : Hp → List V → List V → List V → Hp → Prop
  | nil {H : Hp} {xs ys : List V} (h : xs = [] ∨ ys = []) : Zp H xs ys [] H
  | cons {H H' : Hp} {T : Addr} {x y : V} {xs ys ws : List V} (h : H T = none) (r : Zp (upd H T (.tup [x, y])) xs ys ws H') : Zp H (x :: xs) (y :: ys) (.ref T :: ws) H'

def ZS (z TI TO i1 i2 l1 l2 S : Addr) (xs ys : Array Value) (i : Nat) (h : Heap) : Prop :=
  IsPair h TI (.ref i1) (.ref i2) ∧ h.IsListIter i1 l1 i ∧ h.IsListIter i2 l2 i ∧ h.IsList l1 xs ∧ h.IsList l2 ys ∧ (∃ o, h.get? TO = some o) ∧
    ((IsZip h z TI TO .none ∧ ∃ a b, IsPair h TO a b) ∨ ∃ T f oT, IsZipHeld h z TI TO T f ∧ h.get? T = some oT ∧ T ≠ z ∧ T ≠ i1 ∧ T ≠ i2 ∧ T ≠ S)
theorem ZS.frame {z TI TO i1 i2 l1 l2 S : Addr} {xs ys : Array Value} {i : Nat} {h h' : Heap} (st : ZS z TI TO i1 i2 l1 l2 S xs ys i h)
    (nz : S ≠ z) (nTI : S ≠ TI) (nTO : S ≠ TO) (n1 : S ≠ i1) (n2 : S ≠ i2) (m1 : S ≠ l1) (m2 : S ≠ l2) (hk : ∀ b o, b ≠ S → h.get? b = some o → h'.get? b = some o) : ZS z TI TO i1 i2 l1 l2 S xs ys i h' := by
  obtain ⟨hTI, h1, h2, hl1, hl2, ⟨oo, ho⟩, hz⟩ := st
  refine ⟨hk _ _ (Ne.symm nTI) hTI, h1.at fun o e => hk _ o (Ne.symm n1) e, h2.at fun o e => hk _ o (Ne.symm n2) e, hl1.at fun o e => hk _ o (Ne.symm m1) e, hl2.at fun o e => hk _ o (Ne.symm m2) e, ⟨oo, hk _ _ (Ne.symm nTO) ho⟩, ?_⟩
  rcases hz with ⟨hz, a, b, hTO⟩ | ⟨T, f, oT, hz, hT, r1, r2, r3, r4⟩
  · exact .inl ⟨hk _ _ (Ne.symm nz) hz, a, b, hk _ _ (Ne.symm nTO) hTO⟩
  · exact .inr ⟨T, f, oT, hk _ _ (Ne.symm nz) hz, hk _ _ r4 hT, r1, r2, r3, r4⟩
theorem fpOk_upd {X : Cx} {pins : List (Addr × Obj)} {H : Hp} {b T : Addr} {o : HO} (h : FpOk X pins H b) (n : b ≠ T) : FpOk X pins (upd H T o) b :=
  ⟨by rw [upd_ne n]; exact h.1, h.2⟩
section
variable {X : Cx} {pins : List (Addr × Obj)} {σ : L2.St} {z TI TO i1 i2 l1 l2 S : Addr} {its its2 : List Value} {xs ys : List V} {R : Result → Shared → Prop} {A : Around}
theorem loop_zip (hh : A.handled = none) (D : ZipApart z TI TO i1 i2 l1 l2) (nz : S ≠ z) (nTI : S ≠ TI) (nTO : S ≠ TO) (n1 : S ≠ i1) (n2 : S ≠ i2) (m1 : S ≠ l1) (m2 : S ≠ l2)
    (rx : Vals xs its) (ry : Vals ys its2) (res : Value) (hn : min its.length its2.length ≤ sizeLine) :
    ∀ (k i : Nat) (s : Shared) (acc : Array Value) (c : Nat) (H : Hp) (aV : List V), min its.length its2.length - i = k → i ≤ min its.length its2.length → Inv X pins σ H s → (∀ b ∈ [S, z, TI, TO, i1, i2], FpOk X pins H b) →
      ZS z TI TO i1 i2 l1 l2 S its.toArray its2.toArray i s.heap → s.heap.get? S = some { cls := .type "list", dict := none, data := .seq acc c, slots := #[] } → Vals aV acc.toList → acc.size = i →
      (∀ H' s' acc' c' ws, Inv X pins σ H' s' → Zp H (xs.drop i) (ys.drop i) ws H' → s'.heap.get? S = some { cls := .type "list", dict := none, data := .seq acc' c', slots := #[] } → Vals (aV ++ ws) acc'.toList → acc'.size = min its.length its2.length → H' S = none → R (.ok (.ret res)) s') →
      codeAny (model X.prog X.w) A (.builtin "list.extend.loop" ⟨[.ref S, .ref z, res], []⟩) R s := by
  have lx := rx.length
  have ly := ry.length
  intro k
  induction k with
  | zero =>
    intro i s acc c H aV hk hi I fp st hS ra ha hR
    have hin : i = min its.length its2.length := by omega
    obtain ⟨hTI, h1, h2, hl1, hl2, ⟨oo, ho⟩, hz⟩ := st
    have hend : its.toArray[i]? = none ∨ its2.toArray[i]? = none := by
      rcases Nat.le_total its.length its2.length with h | h
      · exact .inl (by simp; omega)
      · exact .inr (by simp; omega)
    have hd : xs.drop i = [] ∨ ys.drop i = [] := by
      rcases Nat.le_total its.length its2.length with h | h
      · exact .inl (List.drop_eq_nil_of_le (by omega))
      · exact .inr (List.drop_eq_nil_of_le (by omega))
    refine codeAny_builtin F.entry_extend_loop ?_
    rw [Around.under_plainId F.plain_extend_loop _]
    show wpAny _ A.in1 (pyNext (.ref z) >>= _) _ _ s
    have fin : ∀ h' : Heap, (∀ c o, c ≠ z → c ≠ TO → c ≠ i1 → c ≠ i2 → s.heap.get? c = some o → h'.get? c = some o) → R (.ok (.ret res)) { s with heap := h' } := fun h' hk' => by
      have I1 : Inv X pins σ H { s with heap := h' } := I.turnedL (t' := s.toks) (ch := [z, TO, i1, i2]) (fun b o hb e => hk' b o (fun q => hb (by simp [q])) (fun q => hb (by simp [q])) (fun q => hb (by simp [q])) (fun q => hb (by simp [q])) e) (fun b hb => fp b (by simp at hb ⊢; rcases hb with q | q | q | q <;> simp [q]))
      exact hR H _ acc c [] I1 (.nil hd) (hk' S _ nz nTO n1 n2 hS) (by rw [List.append_nil]; exact ra) (by omega) (fp S (by simp)).1
    rcases hz with ⟨hz, a, b, hTO⟩ | ⟨T, f, oT, hz, hT, r1, r2, r3, r4⟩
    · exact wpAny_bind (wpAny_pyNext_zip_end hh D hz hTI hTO h1 h2 hl1 hl2 hend fun h' hk' => wpAny_pure (fin h' hk'))
    · exact wpAny_bind (wpAny_pyNext_zip_end_held hh D hz hT hTI h1 h2 hl1 hl2 hend fun h' hk' => wpAny_pure (fin h' fun c o q1 q2 q3 q4 e => hk' c o q1 q3 q4 e))
  | succ k ih =>
    intro i s acc c H aV hk hi I fp st hS ra ha hR
    obtain ⟨hTI, h1, h2, hl1, hl2, ⟨oo, ho⟩, hz⟩ := st
    have hlt : i < min its.length its2.length := by omega
    have q1 : i < its.length := Nat.lt_of_lt_of_le hlt (Nat.min_le_left ..)
    have q2 : i < its2.length := Nat.lt_of_lt_of_le hlt (Nat.min_le_right ..)
    have p1 : i < xs.length := by omega
    have p2 : i < ys.length := by omega
    obtain ⟨u, eu, ru⟩ := rx.get (i := i) (List.getElem?_eq_getElem p1)
    obtain ⟨u2, eu2, ru2⟩ := ry.get (i := i) (List.getElem?_eq_getElem p2)
    have ex : its.toArray[i]? = some u := by simpa using eu
    have ey : its2.toArray[i]? = some u2 := by simpa using eu2
    have lt : ∀ {c o}, s.heap.get? c = some o → s.heap.objs.size ≠ c := fun e => Nat.ne_of_gt (Heap.lt_size e)
    have N1 : s.heap.objs.size ≠ i1 := let ⟨_, e, _⟩ := h1; lt e
    have N2 : s.heap.objs.size ≠ i2 := let ⟨_, e, _⟩ := h2; lt e
    have NS : s.heap.objs.size ≠ S := lt hS
    have NTI : s.heap.objs.size ≠ TI := lt hTI
    have NTO : s.heap.objs.size ≠ TO := lt ho
    have Nz : s.heap.objs.size ≠ z := by
      rcases hz with ⟨hz, _⟩ | ⟨_, _, _, hz, _⟩
      · exact lt hz
      · exact lt hz
    have Nl1 : s.heap.objs.size ≠ l1 := let ⟨_, e, _⟩ := hl1; lt e
    have Nl2 : s.heap.objs.size ≠ l2 := let ⟨_, e, _⟩ := hl2; lt e
    have dx : xs.drop i = xs[i] :: xs.drop (i + 1) := List.drop_eq_getElem_cons p1
    have dy : ys.drop i = ys[i] :: ys.drop (i + 1) := List.drop_eq_getElem_cons p2
    refine codeAny_builtin F.entry_extend_loop ?_
    rw [Around.under_plainId F.plain_extend_loop _]
    show wpAny _ A.in1 (pyNext (.ref z) >>= _) _ _ s
    have step : ∀ h' : Heap, ZS z TI TO i1 i2 l1 l2 S its.toArray its2.toArray (i + 1) h' → h'.get? s.heap.objs.size = some { cls := .type "tuple", data := .seq #[u, u2] } →
        (∀ c o, c ≠ z → c ≠ TO → c ≠ i1 → c ≠ i2 → s.heap.get? c = some o → h'.get? c = some o) →
        wpAny (model X.prog X.w) A.in1 (updateSeq S (·.push (Value.ref s.heap.objs.size)) >>= fun _ => again (.builtin "list.extend.loop" ⟨[.ref S, .ref z, res], []⟩))
          (fun fin s' => match fin with | .done f => R (.ok f) s' | .again c' => c'.quiet = true ∧ codeAny (model X.prog X.w) A c' R s') (fun e s' => R (.error e) s') { s with heap := h' } := fun h' st' hT hk' => by
      have new : ObjOk X.prog X.w (upd H s.heap.objs.size (.tup [xs[i], ys[i]])) h' s.heap.objs.size (.tup [xs[i], ys[i]]) :=
        ⟨by show 2 ≤ sizeLine; decide, [u, u2], .cons ru (.cons ru2 .nil), ⟨_, hT, rfl, _, rfl⟩⟩
      have I1 : Inv X pins σ (upd H s.heap.objs.size (.tup [xs[i], ys[i]])) { s with heap := h' } :=
        I.turnedNew (t' := s.toks) (ch := [z, TO, i1, i2]) (fun b o hb e => hk' b o (fun q => hb (by simp [q])) (fun q => hb (by simp [q])) (fun q => hb (by simp [q])) (fun q => hb (by simp [q])) e) (fun b hb => fp b (by simp at hb ⊢; rcases hb with q | q | q | q <;> simp [q])) (Nat.le_refl _) new
      have fp1 : ∀ b ∈ [S, z, TI, TO, i1, i2], FpOk X pins (upd H s.heap.objs.size (.tup [xs[i], ys[i]])) b := fun b hb => fpOk_upd (fp b hb) (by
        simp at hb
        rcases hb with q | q | q | q | q | q <;> rw [q]
        · exact Ne.symm NS
        · exact Ne.symm Nz
        · exact Ne.symm NTI
        · exact Ne.symm NTO
        · exact Ne.symm N1
        · exact Ne.symm N2)
      have hS' := hk' S _ nz nTO n1 n2 hS
      obtain ⟨f0, f1, f2, f3, f4, f5⟩ := fp1 S (by simp)
      refine wpAny_bind ?_
      refine wpAny_updateSeq (s := { s with heap := h' }) hS' rfl (wpAny_pure ⟨plainId_quiet F.plain_extend_loop _, ih (i + 1) _ (acc.push (.ref s.heap.objs.size)) _ (upd H s.heap.objs.size (.tup [xs[i], ys[i]])) (aV ++ [.ref s.heap.objs.size]) (by omega) hlt ?_ fp1 ?_ (Heap.get?_update_self _ hS' rfl) ?_ ?_ ?_⟩)
        (by rw [ha]; omega) (by show (acc.push _).size ≤ sizeLine + 1; rw [Array.size_push, ha]; omega)
      · exact I1.turned (t' := s.toks) (it := S) (fun b o hb e => (Heap.get?_update_other _ _ (Ne.symm hb)).trans e) f0 f1 f3 f4 f5
      · exact st'.frame nz nTI nTO n1 n2 m1 m2 fun b o hb e => (Heap.get?_update_other _ _ (Ne.symm hb)).trans e
      · rw [Array.toList_push]; exact ra.append (.cons rfl .nil)
      · rw [Array.size_push, ha]
      · intro H' s' acc' c' ws I' zp e r' l' n'
        refine hR H' s' acc' c' (.ref s.heap.objs.size :: ws) I' ?_ e (by rw [List.append_assoc] at r'; exact r') l' n'
        rw [dx, dy]
        exact .cons (I.hok.fresh (Nat.le_refl _)) zp
    rcases hz with ⟨hz, a, b, hTO⟩ | ⟨T, f, oT, hz, hT, r1, r2, r3, r4⟩
    · refine wpAny_bind (wpAny_pyNext_zip_item D hz hTI hTO h1 h2 hl1 hl2 ex ey fun h' a1 a2 a3 a4 a5 a6 hk' => ?_)
      refine step h' ⟨hk' _ _ D.TIz D.TITO D.TIi1 D.TIi2 hTI, a3, a4, hl1.at fun o e => hk' _ o D.l1z D.l1TO D.l1i1 D.l1i2 e, hl2.at fun o e => hk' _ o D.l2z D.l2TO D.l2i1 D.l2i2 e, ⟨_, a2⟩,
              .inr ⟨s.heap.objs.size, false, _, a1, a5, Nz, N1, N2, NS⟩⟩ a5 hk'
    · refine wpAny_bind (wpAny_pyNext_zip_item_held D hz hT hTI h1 h2 hl1 hl2 ex ey fun h' a1 a3 a4 a5 a6 hk' => ?_)
      have zTO : TO ≠ z := D.TOz
      refine step h' ⟨hk' _ _ D.TIz D.TIi1 D.TIi2 hTI, a3, a4, hl1.at fun o e => hk' _ o D.l1z D.l1i1 D.l1i2 e, hl2.at fun o e => hk' _ o D.l2z D.l2i1 D.l2i2 e, ⟨_, hk' _ _ D.TOz D.TOi1 D.TOi2 ho⟩,
              .inr ⟨T, true, oT, a1, hk' _ _ r1 r2 r3 hT, r1, r2, r3, r4⟩⟩ a5 fun c o q1 _ q3 q4 e => hk' c o q1 q3 q4 e
/-- what stands when a zip of two lists has come -/
structure ZipNew (s : Shared) (z TI TO i1 i2 l1 l2 : Addr) : Prop where
  D : ZipApart z TI TO i1 i2 l1 l2
  hz : IsZip s.heap z TI TO .none
  hTI : IsPair s.heap TI (.ref i1) (.ref i2)
  hTO : ∃ a b, IsPair s.heap TO a b
  h1 : s.heap.IsListIter i1 l1 0
  h2 : s.heap.IsListIter i2 l2 0
theorem collect_zip {s : Shared} {H : Hp} {E : Value → Shared → Prop} {Q : List Value → Shared → Prop} (hh : A.handled = none) (Z : ZipNew s z TI TO i1 i2 l1 l2) (hl1 : s.heap.IsList l1 its.toArray) (hl2 : s.heap.IsList l2 its2.toArray)
    (rx : Vals xs its) (ry : Vals ys its2) (hn : min its.length its2.length ≤ sizeLine) (I : Inv X pins σ H s) (fp : ∀ b ∈ [z, TI, TO, i1, i2], FpOk X pins H b)
    (hQ : ∀ H' s' ws us, Inv X pins σ H' s' → Zp H xs ys ws H' → Vals ws us → us.length ≤ sizeLine → Q us s') :
    wpAny (model X.prog X.w) A (collect (.ref z)) Q E s := by
  obtain ⟨D, hz, hTI, ⟨ta, tb, hTO⟩, h1, h2⟩ := Z
  have lt : ∀ {c o}, s.heap.get? c = some o → s.heap.objs.size ≠ c := fun e => Nat.ne_of_gt (Heap.lt_size e)
  have N1 : s.heap.objs.size ≠ i1 := let ⟨_, e, _⟩ := h1; lt e
  have N2 : s.heap.objs.size ≠ i2 := let ⟨_, e, _⟩ := h2; lt e
  have Nl1 : s.heap.objs.size ≠ l1 := let ⟨_, e, _⟩ := hl1; lt e
  have Nl2 : s.heap.objs.size ≠ l2 := let ⟨_, e, _⟩ := hl2; lt e
  have hT0 : s.TypeIs (.ref z) "zip" := ⟨_, hz, rfl⟩
  unfold collect
  refine wpAny_bind (wpAny_runValue (codeAny_builtin F.entry_proto_collect ?_))
  rw [Around.under_plainId F.plain_proto_collect _]
  show wpAny _ A.in1 (newList [] >>= fun l => again (.builtin "list.__iadd__" ⟨[l, .ref z], []⟩)) _ _ s
  refine wpAny_bind (wpAny_newObj_type ?_)
  refine wpAny_pure ⟨plainId_quiet F.plain_list_iadd _, codeAny_builtin F.entry_list_iadd ?_⟩
  rw [Around.under_plainId F.plain_list_iadd _]
  have up : ∀ b o, s.heap.get? b = some o → (s.heap.push { cls := .type "list", data := .seq ([] : List Value).toArray }).get? b = some o := fun b o e => Heap.get?_push_of_some _ e
  have hz1 := up _ _ hz
  have hT1 : ({ s with heap := s.heap.push { cls := .type "list", data := .seq ([] : List Value).toArray } } : Shared).TypeIs (.ref z) "zip" := ⟨_, hz1, rfl⟩
  show wpAny _ A.in1 (Builtin.List.listExtendWith (.ref s.heap.objs.size) (.ref z) (.ref s.heap.objs.size)) _ _ _
  unfold Builtin.List.listExtendWith
  refine wpAny_bind (wpAny_typeOf hT1 ?_)
  have e1 : Builtin.List.listSameRef (.ref s.heap.objs.size) (.ref z) = false := by simp [Builtin.List.listSameRef, lt hz]
  have e2 : (Value.type "zip" == Value.type "list") = false := by decide
  have e3 : (Value.type "zip" == Value.type "tuple") = false := by decide
  simp only [e1, e2, e3, Bool.or_false, Bool.false_eq_true, if_false]
  refine wpAny_bind (wpAny_pyIter_zip (s := { s with heap := s.heap.push { cls := .type "list", data := .seq ([] : List Value).toArray } }) hz1 ?_)
  refine wpAny_bind (wpAny_holding ?_)
  unfold Builtin.List.listLengthHint
  refine wpAny_bind (wpAny_specialOf hT1 nolen_zip ?_)
  show wpAny _ A.in1 (specialOf (Value.ref z) (Str.ofString "__length_hint__") >>= _) _ _ _
  refine wpAny_bind (wpAny_specialOf hT1 nohint_zip ?_)
  refine wpAny_pure ?_
  show wpAny _ A.in1 (rule "list.extend.makes-room" >>= fun _ => Builtin.List.listTouch (.ref s.heap.objs.size) >>= fun _ =>
    again (.builtin "list.extend.loop" ⟨[.ref s.heap.objs.size, .ref z, .ref s.heap.objs.size], []⟩)) _ _ _
  refine wpAny_bind (wpAny_rule ?_)
  have hS₁ : (s.heap.push { cls := .type "list", data := .seq ([] : List Value).toArray }).get? s.heap.objs.size = some { cls := .type "list", data := .seq ([] : List Value).toArray } := Heap.get?_push_size _ rfl
  refine wpAny_bind ?_
  show wpAny _ A.in1 (updateSeq s.heap.objs.size (·.push .none) >>= fun _ => updateSeq s.heap.objs.size (·.pop)) _ _ _
  refine wpAny_bind (wpAny_updateSeq hS₁ rfl ?_)
  have hS₂ := Heap.get?_update_self (Obj.mapSeq (·.push Value.none)) hS₁ rfl
  refine wpAny_updateSeq hS₂ rfl ?_
  have hS₃ := Heap.get?_update_self (Obj.mapSeq (·.pop)) hS₂ rfl
  have oth : ∀ b o, b ≠ s.heap.objs.size → (s.heap.push { cls := .type "list", data := .seq ([] : List Value).toArray }).get? b = some o →
      (((s.heap.push { cls := .type "list", data := .seq ([] : List Value).toArray }).update s.heap.objs.size (Obj.mapSeq (·.push Value.none))).update s.heap.objs.size (Obj.mapSeq (·.pop))).get? b = some o :=
    fun b o hb e => (Heap.get?_update_other _ _ (Ne.symm hb)).trans ((Heap.get?_update_other _ _ (Ne.symm hb)).trans e)
  have all : ∀ b o, s.heap.get? b = some o → (((s.heap.push { cls := .type "list", data := .seq ([] : List Value).toArray }).update s.heap.objs.size (Obj.mapSeq (·.push Value.none))).update s.heap.objs.size (Obj.mapSeq (·.pop))).get? b = some o :=
    fun b o e => oth b o (Ne.symm (lt e)) (up b o e)
  have I1 := I.kept (t' := s.toks) all
  have fpS : FpOk X pins H s.heap.objs.size := I.fpOk (Nat.le_refl _) (I.hok.fresh (Nat.le_refl _))
  refine wpAny_pure ⟨plainId_quiet F.plain_extend_loop _, loop_zip (R := _) hh D (lt hz) (lt hTI) (lt hTO) N1 N2 Nl1 Nl2 rx ry (.ref s.heap.objs.size) hn _ 0 _ _ _ H [] rfl (Nat.zero_le _) I1 (fun b hb => ?_)
    ⟨all _ _ hTI, h1.at fun o e => all _ o e, h2.at fun o e => all _ o e, hl1.at fun o e => all _ o e, hl2.at fun o e => all _ o e, ⟨_, all _ _ hTO⟩, .inl ⟨all _ _ hz, ta, tb, all _ _ hTO⟩⟩ hS₃ .nil rfl fun H' s' acc' c' ws I' zp e r' l' n' => ?_⟩
  · rcases List.mem_cons.mp hb with q | q
    · rw [q]; exact fpS
    · exact fp b q
  show wpAny _ A (load s.heap.objs.size >>= _) _ _ s'
  refine wpAny_bind (wpAny_load e ?_)
  exact wpAny_pure (hQ H' s' ws acc'.toList I' (by simpa using zp) (by simpa using r') (by rw [Array.length_toList]; omega))
theorem code_tuple_new_zip {s : Shared} {H : Hp} {E : Value → Shared → Prop} {Q₁ : Value → Shared → Prop} (hh : A.handled = none) (Z : ZipNew s z TI TO i1 i2 l1 l2) (hl1 : s.heap.IsList l1 its.toArray) (hl2 : s.heap.IsList l2 its2.toArray)
    (rx : Vals xs its) (ry : Vals ys its2) (hn : min its.length its2.length ≤ sizeLine) (I : Inv X pins σ H s) (fp : ∀ b ∈ [z, TI, TO, i1, i2], FpOk X pins H b)
    (h : ∀ H' s' ws us, Inv X pins σ H' s' → Zp H xs ys ws H' → Vals ws us → us.length ≤ sizeLine → Q₁ (.ref s'.heap.objs.size) { s' with heap := s'.heap.push { cls := .type "tuple", data := .seq us.toArray } }) :
    codeAny (model X.prog X.w) A (.call (.builtin "tuple.__new__") ⟨[.type "tuple", .ref z], []⟩) (wants Q₁ E) s := by
  refine codeAny_of_tree ?_
  show wpAny _ A.in1 (do checkBuiltinCall "tuple.__new__" ⟨[.type "tuple", .ref z], []⟩; again (.builtin "tuple.__new__" ⟨[.type "tuple", .ref z], []⟩)) _ _ s
  refine wpAny_bind (wpAny_of_eq (F.newCall_tuple_1 _) (wpAny_pure ⟨plainId_quiet F.plain_tuple_new _, codeAny_builtin F.entry_tuple_new ?_⟩))
  rw [Around.under_plainId F.plain_tuple_new _]
  have hsub := sub_tuple_self
  have hinit := init_tuple_lookup
  have hmh := madeHere_tuple
  have hTI : s.TypeIs (.ref z) "zip" := ⟨_, Z.hz, rfl⟩
  have hh1 : A.in1.handled = none := hh
  wp_walk using wpAny_typeOf hTI, collect_zip (A := A.in1) hh1 Z hl1 hl2 rx ry hn I fp
  intro H' s' ws us I' zp r' l'
  show wpAny _ _ (Builtin.Tuple.tupleExact us.toArray >>= fun v => ret v) _ _ _
  unfold Builtin.Tuple.tupleExact
  refine wpAny_bind (wpAny_newObj_type ?_ (by show us.toArray.size ≤ sizeLine; simpa using l'))
  exact wpAny_pure (h H' s' ws us I' zp r' l')
theorem call_tuple_zip {s : Shared} {H : Hp} {E : Value → Shared → Prop} {Q : Value → Shared → Prop} (hh : A.handled = none) (Z : ZipNew s z TI TO i1 i2 l1 l2) (hl1 : s.heap.IsList l1 its.toArray) (hl2 : s.heap.IsList l2 its2.toArray)
    (rx : Vals xs its) (ry : Vals ys its2) (hn : min its.length its2.length ≤ sizeLine) (I : Inv X pins σ H s) (fp : ∀ b ∈ [z, TI, TO, i1, i2], FpOk X pins H b)
    (hQ : ∀ H' s' ws us, Inv X pins σ H' s' → Zp H xs ys ws H' → Vals ws us → us.length ≤ sizeLine → Q (.ref s'.heap.objs.size) { s' with heap := s'.heap.push { cls := .type "tuple", data := .seq us.toArray } }) :
    wpAny (model X.prog X.w) A (call (.type "tuple") [.ref z]) Q E s := by
  refine callType_codes (Q₁ := fun obj s₁ => s₁.TypeIs obj "tuple" ∧ Q obj s₁) F.called_tuple (F.typeCall_tuple_1 _) F.entry_object_init
    (code_tuple_new_zip (A := A.in1) hh Z hl1 hl2 rx ry hn I fp fun H' s' ws us I' zp r' l' => ⟨⟨_, Heap.get?_push_size _ rfl, rfl⟩, hQ H' s' ws us I' zp r' l'⟩) fun obj s₁ h₁ => ?_
  exact ⟨h₁.1, F.args_object_init_2 obj _, object_init_meets F.called_tuple.init.lookup F.called_tuple.made (by decide) X.prog X.w A.in1 _ s₁ ⟨h₁.1, rfl, h₁.2⟩⟩
end
/-- tuple(zip(a, b)) of two lists -/
def tZipT (K : PySem.W.Frag) (ta : TA) : TE := fun σ H Q => ta σ H fun vs H1 => ∃ a b xs ys, vs = [.ref a, .ref b] ∧ SqL K H1 a xs ∧ SqL K H1 b ys ∧ ∀ ws H2 q, Zp H1 xs ys ws H2 → H2 q = none → Q (.ref q) (upd H2 q (.tup ws))
section
variable {X : Cx} {a b : Expr} {ta : TA} {p p2 pos pos2 : Pos}
theorem pe_zipT (hc : X.calm = true) (hg : Gl X "tuple") (hm : X.mg "tuple" = none) (hg2 : Gl X "zip") (hm2 : X.mg "zip" = none) (ha : PA X [a, b] ta)
    (hs : starEach [a, b] X.env = (false, PySem.eval a X.env) :: starEach [b] X.env := by rfl) (hpl : (backTo pos2 (starEach [b] X.env)).any (·.1) = false := by rfl)
    (na : starEach [.Call (.Name "zip" p2) [a, b] [] pos2] X.env = (false, PySem.eval (.Call (.Name "zip" p2) [a, b] [] pos2) X.env) :: starEach [] X.env := by rfl) :
    PE X (.Call (.Name "tuple" p) [.Call (.Name "zip" p2) [a, b] [] pos2] [] pos) (tZipT X.K ta) := by
  refine ⟨fun pins s σ H Q I h => ?_⟩
  refine Call_ (ld_blt I hg hm boot_tuple (PyProof.Rows.callWith_type1 (args_cons (thn (Q := fun v s1 => ∃ (z TI TO i1 i2 l1 l2 : Addr) (xs ys : List V) (its its2 : List Value) (H1 : Hp), v = .ref z ∧ ZipNew s1 z TI TO i1 i2 l1 l2 ∧ s1.heap.IsList l1 its.toArray ∧ s1.heap.IsList l2 its2.toArray ∧ Vals xs its ∧ Vals ys its2 ∧ min its.length its2.length ≤ sizeLine ∧ Inv X pins σ H1 s1 ∧ (∀ b ∈ [z, TI, TO, i1, i2], FpOk X pins H1 b) ∧ ∀ ws H2 q, Zp H1 xs ys ws H2 → H2 q = none → Q (.ref q) (upd H2 q (.tup ws))) ?_ fun v s1 hv => args_nil ?_) na) na))
  · refine Call_ (ld_blt I hg2 hm2 PyProof.Rows.boot_zip (PyProof.Rows.callWith_type1 (thn (ha.run pos2 pins s σ H _ I h) fun us s1 ⟨vs, H1, I1, r1, q1⟩ => ?_) hs hpl))
    obtain ⟨l1, l2, xs, ys, ex, hx, hy, q⟩ := q1
    subst ex
    cases r1 with
    | cons r rr =>
      cases rr with
      | cons r' rr =>
        cases rr
        cases r
        cases r'
        obtain ⟨its, rv, p1, z1⟩ := I1.list hx
        obtain ⟨its2, rv2, p2, z2⟩ := I1.list hy
        refine call_zip_2 p1.isList p2.isList fun h' hz hTI hTO h1 h2 hsz hk => ?_
        have I2 : Inv X pins σ H1 { s1 with heap := h' } := I1.kept (t' := s1.toks) hk
        refine ⟨_, _, _, _, _, l1, l2, xs, ys, its, its2, H1, rfl, ⟨PySem.W.ktu_apart s1.heap.objs.size l1 l2 p1.lt p2.lt, hz, hTI, ⟨_, _, hTO⟩, h1, h2⟩, p1.isList.at fun o e => hk _ o e, p2.isList.at fun o e => hk _ o e, rv, rv2, ?_, I2, fun c hcm => ?_, q⟩
        · have := rv.length; omega
        · have hle : s1.heap.objs.size ≤ c := by
            simp at hcm
            rcases hcm with z | z | z | z | z <;> rw [z] <;> first | exact Nat.le_add_right _ _ | exact Nat.le_refl _
          exact I1.fpOk hle (I1.hok.fresh hle)
  · obtain ⟨z, TI, TO, i1, i2, l1, l2, xs, ys, its, its2, H1, rfl, Z, hl1, hl2, rx, ry, hn, I1, fp, q⟩ := hv
    refine call_tuple_zip (I1.ok.hd hc) Z hl1 hl2 rx ry hn I1 fp fun H' s' ws us I' zp r' l' => ?_
    refine ⟨.ref s'.heap.objs.size, upd H' s'.heap.objs.size (.tup ws), I'.laid (t' := s'.toks) (fun b o e => Heap.get?_push_of_some _ e) (Nat.le_refl _) (show ObjOk X.prog X.w _ _ _ (.tup ws) from ⟨?_, us, r', IsTup.new _ _⟩), rfl, q _ _ _ zp (I'.hok.fresh (Nat.le_refl _))⟩
    have := r'.length
    omega
end
theorem Zp.rps {K : PySem.W.Frag} {φ : Ph} {M : Mem} {H H' : Hp} {xs ys ws : List V} (z : Zp H xs ys ws H') : ∀ {ps qs : List PV}, RM K φ H M → Rps K φ H ps xs → Rps K φ H qs ys → Xt φ H φ H' ∧ RM K φ H' M ∧ Rps K φ H' (List.zipWith pairP ps qs) ws := by
  induction z with
  | nil h =>
    intro ps qs m r1 r2
    refine ⟨.refl, m, ?_⟩
    rcases h with h | h
    · subst h; cases r1; exact .nil
    · subst h; cases r2; cases ps <;> exact .nil
  | @cons H H' T x y xs ys ws h r ih =>
    intro ps qs m r1 r2
    cases r1 with
    | cons a1 r1 =>
    cases r2 with
    | cons a2 r2 =>
    have x1 : Xt φ H φ (upd H T (.tup [x, y])) := xt_new h
    obtain ⟨x2, m2, q2⟩ := ih (m.new h) (r1.mono x1) (r2.mono x1)
    refine ⟨x1.trans x2, m2, .cons ?_ q2⟩
    have : Rp K φ (upd H T (.tup [x, y])) (pairP _ _) (.ref T) := .tup (.inl (.inl upd_same)) (.cons (a1.mono x1) (.cons (a2.mono x1) .nil))
    exact this.mono x2
section
variable {X : Cx} {call : Cl} {a b : Expr} {ma mb : E} {p p2 pos pos2 : Pos}
theorem i_ztup {f : Bool} (hc : X.calm = true) (hg : Gl X "tuple") (hm : X.mg "tuple" = none) (hg2 : Gl X "zip") (hm2 : X.mg "zip" = none) (ha : PA X [a, b] (tIs X.K call (.cons ma (.cons mb .nil))))
    (hs : starEach [a, b] X.env = (false, PySem.eval a X.env) :: starEach [b] X.env := by rfl) (hpl : (backTo pos2 (starEach [b] X.env)).any (·.1) = false := by rfl)
    (na : starEach [.Call (.Name "zip" p2) [a, b] [] pos2] X.env = (false, PySem.eval (.Call (.Name "zip" p2) [a, b] [] pos2) X.env) :: starEach [] X.env := by rfl) :
    PE X (.Call (.Name "tuple" p) [.Call (.Name "zip" p2) [a, b] [] pos2] [] pos) (tI X.K call (.blt .ztup f (.cons ma (.cons mb .nil)))) :=
  (pe_zipT hc hg hm hg2 hm2 ha hs hpl na).imp fun σ H Q ⟨φ, M, env, v, M', m, r, e, k⟩ => by
    unfold Ev.eval at e
    obtain ⟨⟨vs, M1⟩, e1, e⟩ := bindE e
    obtain ⟨z, e2, e⟩ := mapE e
    refine tIs.then_ m r e1 fun φ1 H1 u x1 m1 r1 q1 => ?_
    change ztupB M1 vs = some z at e2
    unfold ztupB at e2
    split at e2
    · rename_i pa pb pe
      cases h1 : items M1 pa with
      | none => rw [h1] at e2; cases e2
      | some xs =>
      rw [h1] at e2
      obtain ⟨ys, h2, rfl⟩ := mapE e2
      obtain ⟨u1, t1, rfl, q2, q3⟩ := two_of q1
      obtain ⟨p1, vs1, rfl, g1, g2⟩ := items_sq m1 q2 h1
      obtain ⟨p2, vs2, rfl, g3, g4⟩ := items_sq m1 q3 h2
      refine ⟨p1, p2, vs1, vs2, rfl, g1, g3, fun ws H2 q zp hq => ?_⟩
      obtain ⟨x2, m2, r2⟩ := zp.rps m1 g2 g4
      have k1 : Pst X.K φ H M1 (.tup (List.zipWith pairP xs ys)) Q := by
        cases f <;> (cases e; exact k)
      exact (k1.mono (x1.trans x2)).tup m2 r2 hq
    · cases e2
end
end Ev

/-! A table of the module: ints to plain values. -/
namespace Ev
open PySem PySem.Spec PyProof.Rows L2
def absT : Value → Option PV
  | .int i _ => some (.int i)
  | .str s _ => some (.str s)
  | .bool b => some (.bl b)
  | .none => some .non
  | _ => none
def entI (e : DictEntry) : Option (Int × PV) := match e.key with
  | .int k _ => if (e.hash == hashInt k) = true then (absT e.val).map fun v => (k, v) else none
  | _ => none
/-- the name x of the module is a table -/
def TabAt (K : PySem.W.Frag) (mg : Str → Option Value) (x : Str) (kvs : List (Int × PV)) : Prop :=
  ∃ a es ep, mg x = some (.ref a) ∧ K.lookup a = some { cls := .type "dict", dict := none, data := .dict es ep, slots := #[] } ∧ es.toList.map entI = kvs.map some ∧ (kvs.map (·.1)).Nodup
theorem absT_rel {u : Value} {v : PV} (h : absT u = some v) : ∃ z, RelV z u ∧ ∀ (K : PySem.W.Frag) φ H, Rp K φ H v z := by
  unfold absT at h
  split at h <;> cases h
  · exact ⟨.int _, ⟨_, rfl⟩, fun _ _ _ => .int _⟩
  · exact ⟨.str _, ⟨_, rfl⟩, fun _ _ _ => .str _⟩
  · exact ⟨.bl _, rfl, fun _ _ _ => .bl _⟩
  · exact ⟨.non, rfl, fun _ _ _ => .non⟩
theorem entI_get {e : DictEntry} {p : Int × PV} (h : entI e = some p) : (∃ t, e.key = .int p.1 t) ∧ e.hash = hashInt p.1 ∧ absT e.val = some p.2 := by
  unfold entI at h
  split at h
  · rename_i k t hk
    split at h
    · rename_i hh
      cases hv : absT e.val with
      | none => rw [hv] at h; cases h
      | some v =>
        rw [hv] at h
        cases h
        exact ⟨⟨t, hk⟩, eq_of_beq hh, rfl⟩
    · cases h
  · cases h
/-- the entries as keys and values -/
theorem tab_vs {P : Program} {w : World} : ∀ {es : List DictEntry} {kvs : List (Int × PV)}, es.map entI = kvs.map some → ∃ vs : List (Key × Value), Pairs (mixKind P w) es vs ∧ vs.map (·.1) = kvs.map (fun kv => Sum.inl kv.1) ∧ (∀ e ∈ es, ∃ k, (mixKind P w).is k e.key = true ∧ e.hash = (mixKind P w).hash k) ∧
    ∀ i v, (kvs.find? fun kv => decide (kv.1 = i)).map (·.2) = some v → ∃ u, valueAt vs (Sum.inl i) = some u ∧ absT u = some v
  | [], [], _ => ⟨[], .nil, rfl, (fun _ h => nomatch h), fun i v h => by cases h⟩
  | e :: es, p :: kvs, h => by
    rw [List.map_cons, List.map_cons] at h
    injection h with h1 h2
    obtain ⟨⟨t, hk⟩, hh, hv⟩ := entI_get h1
    obtain ⟨vs, a1, a2, a3, a4⟩ := tab_vs (P := P) (w := w) h2
    have hi : (mixKind P w).is (Sum.inl p.1) e.key = true := by rw [hk]; exact kV_is (k := Sum.inl p.1) ⟨t, rfl⟩
    refine ⟨(Sum.inl p.1, e.val) :: vs, .cons hi rfl a1, by rw [List.map_cons, List.map_cons, a2], fun e' he => ?_, fun i v hf => ?_⟩
    · rcases List.mem_cons.mp he with rfl | he
      · exact ⟨Sum.inl p.1, hi, hh⟩
      · exact a3 e' he
    · by_cases c : p.1 = i
      · subst c
        rw [List.find?_cons] at hf
        simp only [decide_true] at hf
        cases hf
        refine ⟨e.val, ?_, hv⟩
        unfold valueAt
        rw [List.find?_cons]
        simp
      · rw [List.find?_cons] at hf
        simp only [c, decide_false] at hf
        obtain ⟨u, b1, b2⟩ := a4 i v hf
        refine ⟨u, ?_, b2⟩
        unfold valueAt at b1 ⊢
        rw [List.find?_cons]
        have : ¬ ((Sum.inl p.1 : Key) = Sum.inl i) := fun z => c (Sum.inl.inj z)
        simp only [this, decide_false]
        exact b1
  | [], p :: kvs, h => by cases h
  | e :: es, [], h => by cases h
def tTab (a : Addr) (kvs : List (Int × PV)) (ty : TE) : TE := fun σ H Q => ty σ H fun y H1 => ∃ i v, y = .int i ∧ tabV kvs (.int i) = some v ∧ ∀ z, (∀ (K : PySem.W.Frag) φ H, Rp K φ H v z) → Q z H1
section
variable {X : Cx} {b : Expr} {p pos : Pos} {ty : TE} {x : Str} {kvs : List (Int × PV)}
theorem i_tab {call : Cl} {mb : E} (hg : Gl X x) (hT : TabAt X.K X.mg x kvs) (hb : PE X b (tI X.K call mb)) (hs : NoSl b := by intro _ _; rfl) (hd : (x == ("__debug__" : Str)) = false := by decide) :
    PE X (.Subscript (.Name x p) b pos) (tI X.K call (.tab kvs mb)) := by
  obtain ⟨a, es, ep, hm, hk, he, hn⟩ := hT
  have main : PE X (.Subscript (.Name x p) b pos) (tTab a kvs (tI X.K call mb)) := by
    refine ⟨fun pins s σ H Q I h => ?_⟩
    refine subD_of PySem.F.slot_dict_getitem.lookup hs (ld_glob I hg hm (thn (hb.run pins s σ H _ I h) fun iv s2 ⟨y, H2, I2, ry, i, v, ey, hv, q2⟩ => ?_) hd)
    subst ey
    have ho := I2.kIn a _ hk
    obtain ⟨vs, a1, a2, a3, a4⟩ := tab_vs (P := X.prog) (w := X.w) he
    obtain ⟨u, hu, hau⟩ := a4 i v hv
    obtain ⟨z, rz, rp⟩ := absT_rel hau
    have dd : s2.heap.DictOf (mixKind X.prog X.w) a vs := ⟨_, es, ep, ho, ⟨rfl, rfl, rfl⟩, rfl, fun e he' => a3 e (by simpa using he'), a1, by
      rw [a2]
      have : (kvs.map fun kv => (Sum.inl kv.1 : Key)) = (kvs.map (·.1)).map Sum.inl := by rw [List.map_map]; rfl
      rw [this]
      exact List.Pairwise.map _ (fun a b h z => h (Sum.inl.inj z)) hn⟩
    exact ⟨⟨_, ho, rfl⟩, wpAny_getItem_of (kV_is (k := Sum.inl i) ry) dd.mapOf hu ⟨z, H2, I2.tok _, rz, q2 z rp⟩⟩
  exact main.imp fun σ H Q ⟨φ, M, env, v, M', m, r, e, k⟩ => by
    unfold Ev.eval at e
    obtain ⟨⟨y, M1⟩, e1, e⟩ := bindE e
    obtain ⟨z, e2, e⟩ := mapE e
    cases e
    refine tI.then_ m r e1 fun φ1 H1 u x1 m1 r1 q1 => ?_
    have hi : ∃ i, y = .int i := by
      change tabV kvs y = some v at e2
      unfold tabV at e2
      split at e2
      · exact ⟨_, rfl⟩
      · cases e2
    obtain ⟨i, rfl⟩ := hi
    cases q1
    exact ⟨i, v, rfl, e2, fun w hw => k _ _ _ x1 m1 (hw _ _ _)⟩
end
end Ev
namespace Ev
open PySem PySem.Spec PyProof.Rows L2
theorem tab_of {K : PySem.W.Frag} {h : Heap} {mg : Str → Option Value} {x : Str} {kvs : List (Int × PV)} {a : Addr} {es : Array DictEntry} {ep : Nat} (X : K.In h) (G : h.Ns mainGlobals mg) (hn : PySem.W.nsIn K mainGlobals x = some (some (.ref a)))
    (hk : K.lookup a = some { cls := .type "dict", dict := none, data := .dict es ep, slots := #[] }) (e : es.toList.map entI = kvs.map some) (nd : (kvs.map (·.1)).Nodup) : TabAt K mg x kvs :=
  ⟨a, es, ep, PySem.W.mg_of X G hn, hk, e, nd⟩
end Ev

/-! Statements, defs. -/
namespace Ev
open PySem PySem.Spec PyProof.Rows L2
/-- what is wanted behind a statement, by the interpreter's result -/
def RK (K : PySem.W.Frag) (φ : Ph) (H : Hp) (D : Ends) : R → Prop
  | .nx env' M' => ∀ φ' H' σ', Xt φ H φ' H' → RM K φ' H' M' → RE K φ' H' env' σ' → D.nx σ' H'
  | .rt v M' => ∀ φ' H' u, Xt φ H φ' H' → RM K φ' H' M' → Rp K φ' H' v u → D.rt u H'
def tS (K : PySem.W.Frag) (call : Cl) (W : Nat) (s : S) : TS := fun D σ H => ∃ φ M env r, RM K φ H M ∧ RE K φ H env σ ∧ Ev.exec call W s env M = some r ∧ RK K φ H D r
def tSs (K : PySem.W.Frag) (call : Cl) (W : Nat) (s : Ss) : TS := fun D σ H => ∃ φ M env r, RM K φ H M ∧ RE K φ H env σ ∧ Ev.execs call W s env M = some r ∧ RK K φ H D r
theorem _root_.L2.PS.imp {X : Cx} {e : Stmt} {t t' : TS} (h : PS X e t) (k : ∀ D σ H, t' D σ H → t D σ H) : PS X e t' := ⟨fun pins s σ H D I q => h.run pins s σ H D I (k _ _ _ q)⟩
theorem _root_.L2.PSs.imp {X : Cx} {e : List Stmt} {t t' : TS} (h : PSs X e t) (k : ∀ D σ H, t' D σ H → t D σ H) : PSs X e t' := ⟨fun pins s σ H D I q => h.run pins s σ H D I (k _ _ _ q)⟩
theorem RK.mono {K : PySem.W.Frag} {φ φ1 : Ph} {H H1 : Hp} {D : Ends} {r : R} (x : Xt φ H φ1 H1) (k : RK K φ H D r) : RK K φ1 H1 D r := by
  cases r with
  | nx env M => exact fun φ' H' σ' y => k φ' H' σ' (x.trans y)
  | rt v M => exact fun φ' H' u y => k φ' H' u (x.trans y)
section
variable {X : Cx} {call : Cl} {W : Nat} {a b c : Expr} {ma mb mc : E} {pos : Pos}
theorem s_set {x : Str} {pos' : Pos} (i : Nat) (hN : X.N.Nodup) (ha : PE X a (tI X.K call ma)) (hi : X.N[i]? = some x := by rfl) (hx : Loc X.env.scope x := by first | exact .inl rfl | exact .inr rfl) (hs : swapsWith a (some (.Name x pos')) pos.line X.env = pure false := by rfl)
    (hf : X.fn x = true ∨ X.env.scope.names.lookup x = some .local := by first | exact .inl rfl | exact .inr rfl | assumption) : PS X (.Assign [.Name x pos'] a pos) (tS X.K call W (.set i ma)) :=
  (ps_set hN hi hx ha hs hf).imp fun D σ H ⟨φ, M, env, r, m, re, e, k⟩ => by
    unfold Ev.exec at e
    obtain ⟨⟨v, M1⟩, e1, e⟩ := bindE e
    cases e
    exact tI.then_ m re e1 fun φ1 H1 u x1 m1 r1 q1 => k _ _ _ x1 m1 (r1.set q1 i)
theorem s_setLc {y : Str} {py : Pos} {elt tg iter : Expr} {ifs : List Expr} {scope : Scope} {own : List (Str × Nat)} {pos spos : Pos} {it : I} {t : T} {cs : Es} (i : Nat) (f : Bool) (hc : X.calm = true) (hN : X.N.Nodup) (hI : PI X tg iter (tIt X.K call it)) (ok : blkC X.N X.env.scope scope own = true) (hw : (t.ids.all fun i => (own.map (·.2)).contains i) = true)
    (hg : ∀ (s : Shared) (H : Hp) (C : Addr) (cl : List (Str × Addr)) (fp : List Addr), PG (X.blk s H scope (compEnvC scope cl C X.env) fp) tg (gT X.K t)) (ht : ∀ (s : Shared) (H : Hp) (C : Addr) (cl : List (Str × Addr)) (fp : List Addr), PTs (X.blk s H scope (compEnvC scope cl C X.env) fp) ifs (tCs X.K call cs))
    (he : ∀ (s : Shared) (H : Hp) (C : Addr) (cl : List (Str × Addr)) (fp : List Addr), PE (X.blk s H scope (compEnvC scope cl C X.env) fp) elt (tI X.K call ma))
    (hy : X.N[i]? = some y := by rfl) (hyl : X.env.scope.names.lookup y = some .local := by rfl)
    (hsw : swapsWith (.ListComp elt [⟨tg, iter, ifs, 0⟩] scope pos) (some (.Name y py)) spos.line X.env = pure true := by exact sw_true rfl rfl rfl (by decide +kernel)) (hs : ∀ x, foldedSetIterable iter X.env x = pure x := by intro _; rfl) :
    PS X (.Assign [.Name y py] (.ListComp elt [⟨tg, iter, ifs, 0⟩] scope pos) spos) (tS X.K call W (.set i (.lc f (own.map (·.2)) t it cs ma))) :=
  (ps_setLc hc hN hy hyl hsw hI (blkOk_by ok) hg ht he hs).imp fun D σ H ⟨φ, M, env, r, m, re, e, k⟩ => by
    unfold Ev.exec at e
    obtain ⟨⟨v, M1⟩, e1, e⟩ := bindE e
    cases e
    refine lc_rd (fun i hi => by
      have := List.all_eq_true.mp hw i hi
      simpa using this) (Q := fun x H1 => gName i x σ H1 D.nx) (tI.then_ m re e1 fun φ1 H1 u x1 m1 r1 q1 => ?_)
    exact k _ _ _ x1 m1 (r1.set q1 i)
theorem s_asg {tg : Expr} {t : T} (ha : PE X a (tI X.K call ma)) (hg : PG X tg (gT X.K t)) (hs : swapsWithSole [tg] a pos.line X.env = pure false := by rfl) (hw : swappedStores [tg] a X.env = pure none := by rfl)
    (h1 : (assignEach [tg] X.env).map (·.2) = [assign tg X.env] := by rfl) : PS X (.Assign [tg] a pos) (tS X.K call W (.asg t ma)) :=
  (ps_asg ha hg hs hw h1).imp fun D σ H ⟨φ, M, env, r, m, re, e, k⟩ => by
    unfold Ev.exec at e
    obtain ⟨⟨v, M1⟩, e1, e⟩ := bindE e
    obtain ⟨env1, e2, e⟩ := mapE e
    subst e
    exact tI.then_ m re e1 fun φ1 H1 u x1 m1 r1 q1 => gT_rd q1 r1 e2 fun σ' r' _ => k _ _ _ x1 m1 r'
theorem s_par {x y : Str} {px py pt : Pos} {kt k2 pt2} (i j : Nat) (hc : X.calm = true) (hN : X.N.Nodup) (ha : PA X [a, b] (tIs X.K call (.cons ma (.cons mb .nil)))) (hi : X.N[i]? = some x := by rfl) (hj : X.N[j]? = some y := by rfl) (hij : i ≠ j := by decide)
    (hx : X.env.scope.names.lookup x = some .local := by rfl) (hy : X.env.scope.names.lookup y = some .local := by rfl)
    (hw : swappedStores [.Tuple [.Name x px, .Name y py] kt pt] (.Tuple [a, b] k2 pt2) X.env = pure (some [x, y]) := by rfl)
    (hs : swapsWithSole [.Tuple [.Name x px, .Name y py] kt pt] (.Tuple [a, b] k2 pt2) pos.line X.env = pure false := by rfl) :
    PS X (.Assign [.Tuple [.Name x px, .Name y py] kt pt] (.Tuple [a, b] k2 pt2) pos) (tS X.K call W (.par i j ma mb)) :=
  (ps_par hc hN hi hj hij hx hy ha hw hs).imp fun D σ H ⟨φ, M, env, r, m, re, e, k⟩ => by
    unfold Ev.exec at e
    obtain ⟨⟨v, M1⟩, e1, e⟩ := bindE e
    obtain ⟨⟨w, M2⟩, e2, e⟩ := bindE e
    cases e
    have ev : Ev.evals call (.cons ma (.cons mb .nil)) env M = some ([v, w], M2) := by
      unfold Ev.evals
      rw [e1]
      show bnd (Ev.evals call (.cons mb .nil) env M1) _ = _
      unfold Ev.evals
      rw [e2]
      unfold Ev.evals
      rfl
    refine tIs.then_ m re ev fun φ1 H1 u x1 m1 r1 q1 => ?_
    obtain ⟨z, t, rfl, q, q'⟩ := two_of q1
    exact ⟨z, t, rfl, k _ _ _ x1 m1 ((r1.set q i).set q' j)⟩
theorem three_of {xs : List PV} {a b c : PV} {vs : List V} {K : PySem.W.Frag} {φ : Ph} {H : Hp} (e : xs = [a, b, c]) (q : Rps K φ H xs vs) : ∃ z t s, vs = [z, t, s] ∧ Rp K φ H a z ∧ Rp K φ H b t ∧ Rp K φ H c s := by
  subst e
  cases q with
  | cons p q =>
    cases q with
    | cons p' q =>
      cases q with
      | cons p'' q =>
        cases q
        exact ⟨_, _, _, rfl, p, p', p''⟩
theorem s_par3 {x y z : Str} {c : Expr} {mc : E} {px py pz pt : Pos} {kt k2 pt2} (i j l : Nat) (hc : X.calm = true) (hN : X.N.Nodup) (ha : PA X [a, b, c] (tIs X.K call (.cons ma (.cons mb (.cons mc .nil))))) (hi : X.N[i]? = some x := by rfl) (hj : X.N[j]? = some y := by rfl) (hl : X.N[l]? = some z := by rfl)
    (hij : i ≠ j := by decide) (hil : i ≠ l := by decide) (hjl : j ≠ l := by decide)
    (hx : X.env.scope.names.lookup x = some .local := by rfl) (hy : X.env.scope.names.lookup y = some .local := by rfl) (hz : X.env.scope.names.lookup z = some .local := by rfl)
    (hw : swappedStores [.Tuple [.Name x px, .Name y py, .Name z pz] kt pt] (.Tuple [a, b, c] k2 pt2) X.env = pure (some [x, y, z]) := by rfl)
    (hs : swapsWithSole [.Tuple [.Name x px, .Name y py, .Name z pz] kt pt] (.Tuple [a, b, c] k2 pt2) pos.line X.env = pure false := by rfl) :
    PS X (.Assign [.Tuple [.Name x px, .Name y py, .Name z pz] kt pt] (.Tuple [a, b, c] k2 pt2) pos) (tS X.K call W (.par3 i j l ma mb mc)) :=
  (ps_par3 hc hN hi hj hl hij hil hjl hx hy hz ha hw hs).imp fun D σ H ⟨φ, M, env, r, m, re, e, k⟩ => by
    unfold Ev.exec at e
    obtain ⟨⟨v, M1⟩, e1, e⟩ := bindE e
    obtain ⟨⟨w, M2⟩, e2, e⟩ := bindE e
    obtain ⟨⟨u, M3⟩, e3, e⟩ := bindE e
    cases e
    have ev : Ev.evals call (.cons ma (.cons mb (.cons mc .nil))) env M = some ([v, w, u], M3) := by
      unfold Ev.evals
      rw [e1]
      show bnd (Ev.evals call (.cons mb (.cons mc .nil)) env M1) _ = _
      unfold Ev.evals
      rw [e2]
      show bnd (bnd (Ev.evals call (.cons mc .nil) env M2) _) _ = _
      unfold Ev.evals
      rw [e3]
      unfold Ev.evals
      rfl
    refine tIs.then_ m re ev fun φ1 H1 us x1 m1 r1 q1 => ?_
    obtain ⟨z, t, s, rfl, q, q', q''⟩ := three_of rfl q1
    exact ⟨z, t, s, rfl, k _ _ _ x1 m1 (((r1.set q i).set q' j).set q'' l)⟩
theorem s_seti {i : Expr} {mi : E} {spos : Pos} (ha : PE X a (tI X.K call ma)) (hb : PE X b (tI X.K call mb)) (hi : PE X i (tI X.K call mi)) (hp : ∀ v, assign (.Subscript b i spos) X.env v = (do
      let ov ← holding [v] (PySem.eval b X.env)
      let iv ← holding [v, ov] (PySem.eval i X.env)
      standAt spos
      holding [v, ov, iv] (setItem ov iv v)
      release [v, ov, iv] []) := by intro _; rfl) (hs : swapsWithSole [.Subscript b i spos] a pos.line X.env = pure false := by rfl) (hw : swappedStores [.Subscript b i spos] a X.env = pure none := by rfl)
    (h1 : (assignEach [.Subscript b i spos] X.env).map (·.2) = [assign (.Subscript b i spos) X.env] := by rfl) : PS X (.Assign [.Subscript b i spos] a pos) (tS X.K call W (.seti mb mi ma)) :=
  (ps_asg ha (pg_sub hb hi set_list hp) hs hw h1).imp fun D σ H ⟨φ, M, env, r, m, re, e, k⟩ => by
    unfold Ev.exec at e
    obtain ⟨⟨v, M1⟩, e1, e⟩ := bindE e
    obtain ⟨⟨o, M2⟩, e2, e⟩ := bindE e
    cases o with
    | ref n =>
      obtain ⟨⟨y, M3⟩, e3, e⟩ := bindE e
      cases y with
      | int z =>
        simp only at e
        split at e
        · rename_i xs e4
          obtain ⟨ys, e5, e⟩ := mapE e
          subst e
          refine tI.then_ m re e1 fun φ1 H1 u x1 m1 r1 q1 => tI.then_ m1 r1 e2 fun φ2 H2 u2 x2 m2 r2 q2 => tI.then_ m2 r2 e3 fun φ3 H3 u3 x3 m3 r3 q3 => ?_
          cases q3
          cases q2 with
          | ref h2 =>
          have h3 := x3.get h2
          obtain ⟨ad, h6, vs, h7, h8⟩ := m3.at_ e4
          rw [h3] at h6
          cases h6
          obtain ⟨j, e6, e7⟩ := mapE e5
          subst e7
          refine ⟨_, vs, z, j, rfl, rfl, h7, by rw [← h8.length]; exact e6, ?_⟩
          have xs3 := xt_set (o := .lst (vs.set j u)) m3 h3
          exact k _ _ _ (x1.trans (x2.trans (x3.trans xs3))) (m3.set h3 (h8.set j (q1.mono (x2.trans x3)))) (r3.mono xs3)
        · cases e
      | non | bl | str | tup | lst | rol | ref => cases e
    | non | bl | int | str | tup | lst | rol => cases e
theorem s_exp (h : PS X (.Expr a pos) (tDrop (tI X.K call ma))) : PS X (.Expr a pos) (tS X.K call W (.exp ma)) :=
  h.imp fun D σ H ⟨φ, M, env, r, m, re, e, k⟩ => by
    unfold Ev.exec at e
    obtain ⟨⟨v, M1⟩, e1, e⟩ := bindE e
    cases e
    exact tI.then_ m re e1 fun φ1 H1 u x1 m1 r1 q1 => k _ _ _ x1 m1 r1
theorem s_ite {p q : List Stmt} {sp sq : Ss} (hc : PT X c (tT X.K call mc)) (hp : PSs X p (tSs X.K call W sp)) (hq : PSs X q (tSs X.K call W sq)) : PS X (.If c p q pos) (tS X.K call W (.ite mc sp sq)) :=
  (ps_if hc hp hq).imp fun D σ H ⟨φ, M, env, r, m, re, e, k⟩ => by
    unfold Ev.exec at e
    obtain ⟨⟨v, M1⟩, e1, e⟩ := bindE e
    rcases bifE e with ⟨t, e⟩ | ⟨t, e⟩
    · exact tT.then_ m re e1 t fun φ1 H1 x1 m1 r1 => by rw [if_pos rfl]; exact ⟨φ1, M1, env, r, m1, r1, e, k.mono x1⟩
    · exact tT.then_ m re e1 t fun φ1 H1 x1 m1 r1 => by rw [if_neg Bool.false_ne_true]; exact ⟨φ1, M1, env, r, m1, r1, e, k.mono x1⟩
theorem s_ret (ha : PE X a (tI X.K call ma)) : PS X (.Return (some a) pos) (tS X.K call W (.ret ma)) :=
  (ps_ret ha).imp fun D σ H ⟨φ, M, env, r, m, re, e, k⟩ => by
    unfold Ev.exec at e
    obtain ⟨⟨v, M1⟩, e1, e⟩ := bindE e
    cases e
    exact tI.then_ m re e1 fun φ1 H1 u x1 m1 r1 q1 => k _ _ _ x1 m1 q1
theorem s_rais {st : Stmt} : PS X st (tS X.K call W .rais) := ps_never.imp fun D σ H ⟨φ, M, env, r, m, re, e, k⟩ => by
  unfold Ev.exec at e
  cases e
theorem ss_nil : PSs X [] (tSs X.K call W .nil) := pss_nil.imp fun D σ H ⟨φ, M, env, r, m, re, e, k⟩ => by
  unfold Ev.execs at e
  cases e
  exact k _ _ _ .refl m re
theorem ss_cons {st : Stmt} {rest : List Stmt} {s : S} {ss : Ss} (h : PS X st (tS X.K call W s)) (hr : PSs X rest (tSs X.K call W ss)) : PSs X (st :: rest) (tSs X.K call W (.cons s ss)) :=
  (pss_cons h hr).imp fun D σ H ⟨φ, M, env, r, m, re, e, k⟩ => by
    unfold Ev.execs at e
    cases e1 : Ev.exec call W s env M with
    | none => rw [e1] at e; cases e
    | some r1 =>
      rw [e1] at e
      refine ⟨φ, M, env, r1, m, re, e1, ?_⟩
      cases r1 with
      | nx env1 M1 => exact fun φ' H' σ' x m' re' => ⟨φ', M1, env1, r, m', re', e, k.mono x⟩
      | rt v M1 =>
        cases e
        exact k
theorem s_for {tg iter : Expr} {body : List Stmt} {it : I} {t : T} {sb : Ss} (hp : PassesOwn (model X.prog X.w) X.A X.env X.xe) (hc : X.calm = true) (hi : PI X tg iter (tIt X.K call it)) (hg : PG X tg (gT X.K t)) (hb : PSs X body (tSs X.K call W sb))
    (hs : ∀ x, foldedSetIterable iter X.env x = pure x := by intro _; rfl) : PS X (.For tg iter body [] pos) (tS X.K call W (.for_ t it sb)) :=
  (ps_for hp hc hi hg hb hs).imp fun D σ H ⟨φ, M, env, r, m, re, e, k⟩ => by
    unfold Ev.exec at e
    obtain ⟨⟨⟨xs, g⟩, M1⟩, e1, e⟩ := bindE e
    refine ⟨φ, M, env, (xs, g), M1, m, re, e1, fun φ1 H1 J x1 m1 ok => ?_⟩
    simp only at ok e
    refine ⟨fun i n σ2 H2 => ∃ (φ2 : Ph) (M2 : Mem) (env2 : Env), i + n = xs.length ∧ Xt φ1 H1 φ2 H2 ∧ RM X.K φ2 H2 M2 ∧ RE X.K φ2 H2 env2 σ2 ∧ forL t g (Ev.execs call W sb) (xs.drop i) env2 M2 = some r,
      ⟨xs.length, φ1, M1, env, by omega, .refl, m1, re.mono x1, e⟩, ?_⟩
    rintro i n σ2 H2 ⟨φ2, M2, env2, hn, x2, m2, re2, e2⟩
    have hgd : gOk g M2 = true := by
      cases hg : gOk g M2 with
      | true => rfl
      | false =>
        cases hd : xs.drop i with
        | nil => rw [hd] at e2; unfold forL at e2; rw [hg] at e2; cases e2
        | cons a l => rw [hd] at e2; unfold forL at e2; rw [hg] at e2; cases e2
    obtain ⟨go, stop, yld⟩ := ok φ2 H2 M2 x2 m2 hgd
    by_cases hi : i < xs.length
    · refine .inr ⟨go i hi, ?_⟩
      rw [List.drop_eq_getElem_cons hi] at e2
      unfold forL at e2
      rw [hgd] at e2
      simp only at e2
      split at e2
      · rename_i env3 eb
        refine ⟨fun σ' H' => ∃ n', n' < n ∧ ∃ (φ4 : Ph) (M4 : Mem) (env4 : Env), i + 1 + n' = xs.length ∧ Xt φ1 H1 φ4 H' ∧ RM X.K φ4 H' M4 ∧ RE X.K φ4 H' env4 σ' ∧ forL t g (Ev.execs call W sb) (xs.drop (i + 1)) env4 M4 = some r, fun σ' H' h => h, fun x H3 hy => ?_⟩
        obtain ⟨v0, ev0, rv0, x3, mm⟩ := yld i x H3 hi hy
        rw [List.getElem?_eq_getElem hi] at ev0
        cases ev0
        have m3 := mm M2 m2
        refine gT_rd rv0 (re2.mono x3) eb fun σ' re' _ => ?_
        cases er : Ev.execs call W sb env3 M2 with
        | none => rw [er] at e2; cases e2
        | some r3 =>
          rw [er] at e2
          refine ⟨φ2, M2, env3, r3, m3, re', er, ?_⟩
          cases r3 with
          | nx env5 M5 => exact fun φ5 H5 σ5 x5 m5 re5 => ⟨n - 1, by omega, φ5, M5, env5, by omega, x2.trans (x3.trans x5), m5, re5, e2⟩
          | rt v M5 =>
            cases e2
            exact fun φ5 H5 u x5 m5 q5 => k _ _ _ (x1.trans (x2.trans (x3.trans x5))) m5 q5
      · cases e2
    · refine .inl ⟨stop i (by omega), ?_⟩
      rw [List.drop_eq_nil_of_le (by omega)] at e2
      unfold forL at e2
      rw [hgd] at e2
      cases e2
      exact k _ _ _ (x1.trans x2) m2 re2
theorem s_whl {body : List Stmt} {sb : Ss} (hp : PassesOwn (model X.prog X.w) X.A X.env X.xe) (hc : PT X c (tT X.K call mc)) (hb : PSs X body (tSs X.K call W sb)) : PS X (.While c body [] pos) (tS X.K call W (.whl mc sb)) :=
  (ps_while hp hc hb).imp fun D σ H ⟨φ, M, env, r, m, re, e, k⟩ => by
    unfold Ev.exec at e
    refine ⟨fun n σ2 H2 => ∃ (φ2 : Ph) (M2 : Mem) (env2 : Env), Xt φ H φ2 H2 ∧ RM X.K φ2 H2 M2 ∧ RE X.K φ2 H2 env2 σ2 ∧ whlL (fun env M => bnd (Ev.eval call mc env M) fun x M1 => (truthy M1 x).map fun k => (k, M1)) (Ev.execs call W sb) n env2 M2 = some r,
      ⟨W, φ, M, env, .refl, m, re, e⟩, ?_⟩
    rintro n σ2 H2 ⟨φ2, M2, env2, x2, m2, re2, e2⟩
    cases n with
    | zero => unfold whlL at e2; cases e2
    | succ n =>
      unfold whlL at e2
      cases ec : Ev.eval call mc env2 M2 with
      | none => rw [ec] at e2; cases e2
      | some vc =>
        obtain ⟨v, M3⟩ := vc
        rw [ec] at e2
        simp only [bnd] at e2
        cases tc : truthy M3 v with
        | none => rw [tc] at e2; cases e2
        | some b =>
          rw [tc] at e2
          refine tT.then_ m2 re2 ec tc fun φ3 H3 x3 m3 re3 => ?_
          cases b with
          | true =>
            rw [if_pos rfl]
            refine ⟨fun σ' H' => ∃ n', n' < n + 1 ∧ ∃ (φ4 : Ph) (M4 : Mem) (env4 : Env), Xt φ H φ4 H' ∧ RM X.K φ4 H' M4 ∧ RE X.K φ4 H' env4 σ' ∧ whlL (fun env M => bnd (Ev.eval call mc env M) fun x M1 => (truthy M1 x).map fun k => (k, M1)) (Ev.execs call W sb) n' env4 M4 = some r, fun σ' H' h => h, ?_⟩
            simp only [Option.map] at e2
            cases er : Ev.execs call W sb env2 M3 with
            | none => rw [er] at e2; cases e2
            | some r3 =>
              rw [er] at e2
              refine ⟨φ3, M3, env2, r3, m3, re3, er, ?_⟩
              cases r3 with
              | nx env5 M5 => exact fun φ5 H5 σ5 x5 m5 re5 => ⟨n, by omega, φ5, M5, env5, x2.trans (x3.trans x5), m5, re5, e2⟩
              | rt v M5 =>
                cases e2
                exact fun φ5 H5 u x5 m5 q5 => k _ _ _ (x2.trans (x3.trans x5)) m5 q5
          | false =>
            rw [if_neg Bool.false_ne_true]
            simp only [Option.map] at e2
            cases e2
            exact k _ _ _ (x2.trans x3) m3 re3
end
/-! ### leaving a def -/
section
variable {K : PySem.W.Frag} {φ φ' : Ph} {H H' : Hp} {M M' : Mem}
mutual
theorem under_rp {e : List Addr} {l : List Addr} (hl : ∀ a, a ∈ l → a ∈ φ.r) : ∀ {v : PV} {u : V} {c : List Addr}, φ.c = c ++ e → Rp K φ H v u → under c.length v = true → Rp K ⟨c, l⟩ H v u
  | _, _, _, _, .non, _ => .non
  | _, _, _, _, .bl b, _ => .bl b
  | _, _, _, _, .int i, _ => .int i
  | _, _, _, _, .str s, _ => .str s
  | .tup xs, _, c, hc, .tup k r, h => .tup k (unders_rp hl hc r h)
  | .lst xs, _, c, hc, .lst k n r, h => .lst k ⟨fun z => n.1 (by rw [hc]; exact List.mem_append_left _ z), fun z => n.2 (hl _ z)⟩ (unders_rp hl hc r h)
  | .rol xs, _, c, hc, .rol k r, h => .rol (by
      rcases k with ⟨o, k⟩ | ⟨k, n⟩ | k
      · exact .inl ⟨o, k⟩
      · exact .inr (.inl ⟨k, fun z => n.1 (by rw [hc]; exact List.mem_append_left _ z), fun z => n.2 (hl _ z)⟩)
      · exact .inr (.inr k)) (unders_rp hl hc r h)
  | .ref n, _, c, hc, .ref k, h => .ref (by
      have h1 : n < c.length := of_decide_eq_true h
      show c[n]? = _
      rw [hc, List.getElem?_append_left h1] at k
      exact k)
theorem unders_rp {e : List Addr} {l : List Addr} (hl : ∀ a, a ∈ l → a ∈ φ.r) : ∀ {v : List PV} {u : List V} {c : List Addr}, φ.c = c ++ e → Rps K φ H v u → unders c.length v = true → Rps K ⟨c, l⟩ H v u
  | _, _, _, _, .nil, _ => .nil
  | x :: xs, _, c, hc, .cons k r, h => by
    unfold unders at h
    rw [Bool.and_eq_true] at h
    exact .cons (under_rp hl hc k h.1) (unders_rp hl hc r h.2)
end
theorem leave_ok {v w : PV} {u : V} (m00 : RM K φ H M) (x : Xt φ H φ' H') (m : RM K φ' H' M') (r : Rp K φ' H' v u) {M2 : Mem} (h : leave M.length v M' = some (w, M2)) : ∃ φ2, Xt φ H φ2 H' ∧ RM K φ2 H' M2 ∧ Rp K φ2 H' w u := by
  unfold leave at h
  split at h
  · cases h
    exact ⟨φ', x, m, r⟩
  · split at h
    · rename_i hall
      obtain ⟨e, he⟩ := x.pre
      have hlen : φ.c.length = M.length := m00.len
      have hx : Xt φ H φ H' := ⟨⟨[], by simp⟩, fun _ h => h, x.keep, fun _ h n => absurd h n, fun _ h n => absurd h n, x.there⟩
      have hm : RM K φ H' (M'.take M.length) := by
        refine ⟨?_, ?_, fun a ha => m.res a (x.res a ha), fun n a c h1 h2 => ?_⟩
        · have := m.len
          rw [he, List.length_append] at this
          rw [List.length_take]
          omega
        · have := m.nd
          rw [he] at this
          exact (List.nodup_append.mp this).1
        · have hn : n < φ.c.length := (List.getElem?_eq_some_iff.mp h1).1
          rw [List.getElem?_take_of_lt (by omega)] at h2
          have h1' : φ'.c[n]? = some a := x.get h1
          have h3 := m.cells n a c h1' h2
          have hmem : c ∈ M'.take M.length := by
            apply List.mem_of_getElem? (i := n)
            rw [List.getElem?_take_of_lt (by omega)]
            exact h2
          have hu := List.all_eq_true.mp hall c hmem
          cases c with
          | lst xs =>
            obtain ⟨vs, h4, h5⟩ := h3
            refine ⟨vs, h4, ?_⟩
            have hu' : unders φ.c.length xs = true := by rw [hlen]; exact hu
            exact unders_rp (l := φ.r) x.res he h5 hu'
          | dic _ => exact h3
      split at h
      · rename_i hu
        cases h
        exact ⟨φ, hx, hm, under_rp (l := φ.r) x.res he r (by rw [hlen]; exact hu)⟩
      · split at h
        · rename_i k hu
          split at h
          · rename_i xs hk
            split at h
            · rename_i hxs
              cases h
              cases r with
              | @ref _ a h1 =>
              obtain ⟨a', h2, vs, h3, h4⟩ := m.at_ hk
              rw [h1] at h2
              cases h2
              have hk2 : ¬ k < M.length := fun z => hu (decide_eq_true z)
              have hnc : a ∉ φ.c := fun z => by
                obtain ⟨j, hj, ej⟩ := List.getElem_of_mem z
                have h5 : φ'.c[j]? = some a := x.get (by rw [List.getElem?_eq_getElem hj, ej])
                have := m.eq_of h1 h5
                omega
              refine ⟨φ, hx, hm, .lst h3 ⟨hnc, fun z => ?_⟩ (unders_rp (l := φ.r) x.res he h4 (by rw [hlen]; exact hxs))⟩
              obtain ⟨o, eo⟩ := m00.res a z
              have := x.fresh a (List.mem_of_getElem? h1) hnc
              rw [eo] at this
              cases this
            · cases h
          · cases h
        · cases h
    · cases h
end
end Ev

/-! Defs, the whole program. -/
namespace Ev
open PySem PySem.Spec PyProof.Rows L2
section
variable {P : Program} {w : World} {K : PySem.W.Frag} {mg : Str → Option Value} {base : Heap} {prog : List Fn} {W k : Nat}
theorem callN_get {i : Nat} {fn : Fn} {args : List PV} {M M' : Mem} {v : PV} (hp : prog[i]? = some fn) (h : callN prog W (k + 1) i args M = some (v, M')) :
    args.length = fn.params ∧ ∃ r, execs (callN prog W k) W fn.body (args.map some ++ List.replicate (fn.slots - fn.params) none) M = some r ∧
      ∃ v1 M1, (r = .rt v1 M1 ∨ ∃ env, r = .nx env M1 ∧ v1 = .non) ∧ (if fn.keep then some (v1, M1) else leave M.length v1 M1) = some (v, M') := by
  unfold callN at h
  rw [hp] at h
  simp only at h
  unfold runFn at h
  split at h
  · rename_i hl
    refine ⟨hl, ?_⟩
    cases e : execs (callN prog W k) W fn.body (args.map some ++ List.replicate (fn.slots - fn.params) none) M with
    | none => rw [e] at h; cases h
    | some r =>
      rw [e] at h
      cases r with
      | nx env M1 => exact ⟨_, rfl, .non, M1, .inr ⟨env, rfl, rfl⟩, h⟩
      | rt v1 M1 => exact ⟨_, rfl, v1, M1, .inl rfl, h⟩
  · cases h
theorem start_re {φ : Ph} {H : Hp} {args : List PV} {vs : List V} {N : List Str} {n p : Nat} (r : Rps K φ H args vs) (h1 : n = N.length) (h2 : p = args.length) : RE K φ H (args.map some ++ List.replicate (n - p) none) (L2.start N vs) := by
  unfold L2.start
  have hl := r.length
  refine ⟨by rw [List.length_append, List.length_append, List.length_map, List.length_map, List.length_replicate, List.length_replicate]; omega, fun i v e => ?_⟩
  by_cases hi : i < args.length
  · rw [List.getElem?_append_left (by rw [List.length_map]; exact hi), List.getElem?_map, List.getElem?_eq_getElem hi] at e
    cases e
    obtain ⟨u, h3, h4⟩ := r.get (List.getElem?_eq_getElem hi)
    exact ⟨u, by rw [List.getElem?_append_left (by rw [List.length_map, ← hl]; exact hi), List.getElem?_map, h3]; rfl, h4⟩
  · rw [List.getElem?_append_right (by rw [List.length_map]; omega)] at e
    have := List.mem_of_getElem? e
    have := List.eq_of_mem_replicate this
    cases this
/-- a def keeps the interpreter's promise -/
theorem fn_ok {x : Str} {st : Stmt} {f : Addr} {fd : FuncData} {N ps : List Str} {i : Nat} {fn : Fn} (F : L2.Fun K x x st f fd) (S : FnScope N ps (defScope st)) (hp : prog[i]? = some fn) (h1 : fn.slots = N.length) (h2 : fn.params = ps.length)
    (body : ∀ (cdv : Value) (A : Around) (outer : List PySem.Env) (s : Shared) (H : Hp) (E : XK), Room k (A.deeper (envOfC x (defScope st) s.heap.objs.size f cdv)) → PSs (cxOf CX0 P w K mg base N x (defScope st) f cdv A outer s H E).nox (defBody st) (tSs K (callN prog W k) W fn.body)) :
    FnOk P w K mg base CX0 (k + 1) f fd ps (spC K (callN prog W (k + 1)) i) := by
  refine F.ok S (fun vs H Q E h => ?_) (fun cdv A outer s H vs Q E hr h => ⟨_, body cdv A outer s H E hr, ?_⟩)
  · obtain ⟨φ, M, args, v, M', m, r, e, _⟩ := h
    obtain ⟨hl, _⟩ := callN_get hp e
    rw [← r.length, hl, h2]
  · obtain ⟨φ, M, args, v, M', m, r, e, kk⟩ := h
    obtain ⟨hl, res, e1, v1, M1, hr1, e2⟩ := callN_get hp e
    refine ⟨φ, M, _, res, m, start_re r h1 hl.symm, e1, ?_⟩
    have fin : ∀ φ' H' u, Xt φ H φ' H' → RM K φ' H' M1 → Rp K φ' H' v1 u → Q u H' := fun φ' H' u x' m' q' => by
      cases hk : fn.keep with
      | true =>
        rw [hk, if_pos rfl] at e2
        cases e2
        exact kk φ' H' u x' m' q'
      | false =>
        rw [hk, if_neg Bool.false_ne_true] at e2
        obtain ⟨φ2, x2, m2, q2⟩ := leave_ok m x' m' q' e2
        exact kk φ2 H' u x2 m2 q2
    rcases hr1 with rfl | ⟨env, rfl, rfl⟩
    · exact fin
    · exact fun φ' H' σ' x' m' _ => fin φ' H' .non x' m' .non
end
/-- what the top has left: the defs' names by index, the constants, the built-ins' names -/
structure Top (P : Program) (w : World) (K : PySem.W.Frag) (mg : Str → Option Value) (base : Heap) (prog : List Fn) (W k : Nat) (names : List Str) (consts : List (Str × PV)) (blts : List Str) : Prop where
  cal : ∀ (i : Nat) (x : Str), names[i]? = some x → Cal P w K mg base k x (spC K (callN prog W k) i)
  con : ∀ (i : Nat) (x : Str) (v : PV), consts[i]? = some (x, v) → ∃ z u, mg x = some u ∧ RelV z u ∧ Con K v z
  blt : ∀ (i : Nat) (x : Str), blts[i]? = some x → mg x = none
/-- a def of the text -/
def DefOf (K : PySem.W.Frag) (mg : Str → Option Value) (x : Str) (st : Stmt) : Prop := ∃ (f : Addr) (fd : FuncData), mg x = some (.ref f) ∧ L2.Fun K x x st f fd
theorem def_mk {K : PySem.W.Frag} {h : Heap} {mg : Str → Option Value} {x : Str} {st : Stmt} {f : Addr} {oc : Value} {od an : Option Addr} {osl : Array (Option Value)} {kV doc pm cdv ct : Value} (X : K.In h) (G : h.Ns mainGlobals mg)
    (a : PySem.W.nsIn K mainGlobals x = some (some (.ref f))) (l : K.lookup f = some ⟨oc, od, .func (PySem.W.fnOf x x (defArgs st) (defBody st) (defScope st) .none kV doc pm an cdv ct), osl⟩)
    (c : PySem.W.codeIn K cdv x = true) (k : PySem.W.keepIn K (.ref f) = true) : DefOf K mg x st := ⟨f, _, PySem.W.mg_of X G a, L2.fun_mk l c k⟩
section
variable {P : Program} {w : World} {K : PySem.W.Frag} {mg : Str → Option Value} {base : Heap} {prog : List Fn} {W k : Nat}
/-- how the arguments bind, whatever the def's object -/
abbrev BindsP (st : Stmt) (x : Str) (ps : List Str) : Prop := ∀ (kV doc pm : Value) (an : Option Addr) (cdv ct : Value) (us : List Value), us.length = ps.length → bindArgs (PySem.W.fnOf x x (defArgs st) (defBody st) (defScope st) .none kV doc pm an cdv ct) ⟨us, []⟩ = pure (ps.zip us)
theorem cal_zero {x : Str} {st : Stmt} {ps : List Str} {i : Nat} (d : DefOf K mg x st) (b : BindsP st x ps) : Cal P w K mg base 0 x (spC K (callN prog W 0) i) := by
  obtain ⟨f, fd, h1, F⟩ := d
  refine ⟨f, fd, ps, ⟨fun vs H Q E h => ?_, fun A outer s H args us vs Q E _ _ _ _ h => ?_⟩, h1, F.kp, F.binds b⟩
  · obtain ⟨φ, M, args, v, M', m, r, e, _⟩ := h
    unfold callN at e
    cases e
  · obtain ⟨φ, M, args, v, M', m, r, e, _⟩ := h
    unfold callN at e
    cases e
theorem cal_succ {x : Str} {st : Stmt} {N ps : List Str} {i : Nat} {fn : Fn} (d : DefOf K mg x st) (b : BindsP st x ps) (S : FnScope N ps (defScope st)) (hp : prog[i]? = some fn) (h1 : fn.slots = N.length) (h2 : fn.params = ps.length)
    (body : ∀ (f : Addr) (cdv : Value) (A : Around) (outer : List PySem.Env) (s : Shared) (H : Hp) (E : XK), Room k (A.deeper (envOfC x (defScope st) s.heap.objs.size f cdv)) → PSs (cxOf CX0 P w K mg base N x (defScope st) f cdv A outer s H E).nox (defBody st) (tSs K (callN prog W k) W fn.body)) :
    Cal P w K mg base (k + 1) x (spC K (callN prog W (k + 1)) i) := by
  obtain ⟨f, fd, e1, F⟩ := d
  exact ⟨f, fd, ps, fn_ok F S hp h1 h2 (body f), e1, F.kp, F.binds b⟩
end
section
variable {X : Cx} {call : Cl} {pos : Pos}
theorem i_con {x : Str} {v : PV} (hg : Gl X x) (h : ∃ z u, X.mg x = some u ∧ RelV z u ∧ Con X.K v z) (hd : (x == ("__debug__" : Str)) = false := by decide) : PE X (.Name x pos) (tI X.K call (.cst v)) := by
  obtain ⟨z, u, h1, h2, h3⟩ := h
  exact i_glob hg h1 h2 h3 hd
end
/-- constants -/
theorem con_int {K : PySem.W.Frag} (i : Int) : Con K (.int i) (.int i) := fun _ _ => .int i
theorem con_str {K : PySem.W.Frag} (s : Str) : Con K (.str s) (.str s) := fun _ _ => .str s
inductive Cons (K : PySem.W.Frag) : List PV → List V → Prop
  | nil : Cons K [] []
  | cons {v : PV} {z : V} {vs : List PV} {zs : List V} : Con K v z → Cons K vs zs → Cons K (v :: vs) (z :: zs)
theorem Cons.rps {K : PySem.W.Frag} {vs : List PV} {zs : List V} (h : Cons K vs zs) (φ : Ph) (H : Hp) : Rps K φ H vs zs := by
  induction h with
  | nil => exact .nil
  | cons h _ ih => exact .cons (h φ H) ih
theorem con_tup {K : PySem.W.Frag} {vs : List PV} {zs : List V} {a : Addr} {od : Option Addr} {its : Array Value} {n : Nat} {sl : Array (Option Value)} (hk : K.lookup a = some ⟨.type "tuple", od, .seq its n, sl⟩) (hz : its.size ≤ sizeLine) (hv : Vals zs its.toList) (h : Cons K vs zs) : Con K (.tup vs) (.ref a) :=
  fun φ H => .tup (.inr ⟨_, its, n, hk, rfl, rfl, hz, hv⟩) (h.rps φ H)
inductive ConVals (K : PySem.W.Frag) : List PV → List Value → Prop
  | nil : ConVals K [] []
  | cons {v : PV} {u : Value} {vs : List PV} {us : List Value} : (∃ z, RelV z u ∧ Con K v z) → ConVals K vs us → ConVals K (v :: vs) (u :: us)
theorem ConVals.split {K : PySem.W.Frag} {vs : List PV} {us : List Value} (h : ConVals K vs us) : ∃ zs, Vals zs us ∧ Cons K vs zs := by
  induction h with
  | nil => exact ⟨[], .nil, .nil⟩
  | cons h _ ih =>
    obtain ⟨z, h1, h2⟩ := h
    obtain ⟨zs, h3, h4⟩ := ih
    exact ⟨z :: zs, .cons h1 h3, .cons h2 h4⟩
theorem con_tupR {K : PySem.W.Frag} {vs : List PV} {a : Addr} {od : Option Addr} {its : Array Value} {n : Nat} {sl : Array (Option Value)} (hk : K.lookup a = some ⟨.type "tuple", od, .seq its n, sl⟩) (h : ConVals K vs its.toList) (hz : its.size ≤ sizeLine) : Con K (.tup vs) (.ref a) := by
  obtain ⟨zs, h1, h2⟩ := h.split
  exact con_tup hk hz h1 h2
def absP : Value → Option PV
  | .int i _ => some (.int i)
  | .str s _ => some (.str s)
  | .bool b => some (.bl b)
  | .none => some .non
  | _ => none
theorem absP_con {K : PySem.W.Frag} {u : Value} {v : PV} (h : absP u = some v) : ∃ z, RelV z u ∧ Con K v z := by
  unfold absP at h
  split at h <;> cases h
  · exact ⟨.int _, ⟨_, rfl⟩, fun _ _ => .int _⟩
  · exact ⟨.str _, ⟨_, rfl⟩, fun _ _ => .str _⟩
  · exact ⟨.bl _, rfl, fun _ _ => .bl _⟩
  · exact ⟨.non, rfl, fun _ _ => .non⟩
theorem absPs_con {K : PySem.W.Frag} : ∀ {us : List Value} {vs : List PV}, us.map absP = vs.map some → ConVals K vs us
  | [], [], _ => .nil
  | u :: us, v :: vs, h => by
    rw [List.map_cons, List.map_cons] at h
    injection h with h1 h2
    exact .cons (absP_con h1) (absPs_con h2)
  | [], v :: vs, h => by cases h
  | u :: us, [], h => by cases h
theorem con_tupA {K : PySem.W.Frag} {vs : List PV} {a : Addr} {od : Option Addr} {its : Array Value} {n : Nat} {sl : Array (Option Value)} (hk : K.lookup a = some ⟨.type "tuple", od, .seq its n, sl⟩) (e : its.toList.map absP = vs.map some) (hz : its.size ≤ sizeLine) : Con K (.tup vs) (.ref a) :=
  con_tupR hk (absPs_con e) hz
theorem con_of {K : PySem.W.Frag} {h : Heap} {mg : Str → Option Value} {x : Str} {v : PV} {z : V} {u : Value} (X : K.In h) (G : h.Ns mainGlobals mg) (a : PySem.W.nsIn K mainGlobals x = some (some u)) (r : RelV z u) (c : Con K v z) : ∃ z u, mg x = some u ∧ RelV z u ∧ Con K v z :=
  ⟨z, u, PySem.W.mg_of X G a, r, c⟩
theorem con_ofI {K : PySem.W.Frag} {h : Heap} {mg : Str → Option Value} {x : Str} {i : Int} {t : Tok} (X : K.In h) (G : h.Ns mainGlobals mg) (a : PySem.W.nsIn K mainGlobals x = some (some (.int i t))) : ∃ z u, mg x = some u ∧ RelV z u ∧ Con K (.int i) z := con_of (z := .int i) X G a ⟨t, rfl⟩ (con_int i)
theorem con_ofS {K : PySem.W.Frag} {h : Heap} {mg : Str → Option Value} {x : Str} {i : Str} {t : Tok} (X : K.In h) (G : h.Ns mainGlobals mg) (a : PySem.W.nsIn K mainGlobals x = some (some (.str i t))) : ∃ z u, mg x = some u ∧ RelV z u ∧ Con K (.str i) z := con_of (z := .str i) X G a ⟨t, rfl⟩ (con_str i)
theorem blk_ok {N : List Str} {sc scope : Scope} {own : List (Str × Nat)} (h : blkC N sc scope own = true) : blkC N sc scope own = true := h
/-- the built-ins' names -/
theorem bb_abs : bootBuiltins "abs" = some (.builtin "abs") := by decide +kernel
theorem bb_len : bootBuiltins "len" = some (.builtin "len") := by decide +kernel
theorem bb_sum : bootBuiltins "sum" = some (.builtin "sum") := by decide +kernel
theorem bb_all : bootBuiltins "all" = some (.builtin "all") := by decide +kernel
theorem bb_any : bootBuiltins "any" = some (.builtin "any") := by decide +kernel
theorem bb_max : bootBuiltins "max" = some (.builtin "max") := by decide +kernel
theorem bb_min : bootBuiltins "min" = some (.builtin "min") := by decide +kernel
theorem bb_int : bootBuiltins "int" = some (.type "int") := by decide +kernel
theorem bb_bool : bootBuiltins "bool" = some (.type "bool") := by decide +kernel
theorem bb_str : bootBuiltins "str" = some (.type "str") := by decide +kernel
theorem bb_tuple : bootBuiltins "tuple" = some (.type "tuple") := by decide +kernel
theorem bb_list : bootBuiltins "list" = some (.type "list") := by decide +kernel
/-- the law's call, from its promise -/
theorem law_sp {K : PySem.W.Frag} {call : Cl} {i : Nat} {H : Hp} {a : Addr} {ns : List Int} {M' : Mem} (hS : SqL K H a (ns.map V.int)) (h : call i [.rol (ns.map PV.int)] [] = some (.bl true, M')) : spC K call i [.ref a] H (fun v _ => v = .bl true) fun _ _ _ => False := by
  have hr : ∀ ms : List Int, Rps K ⟨[], []⟩ H (ms.map PV.int) (ms.map V.int) := fun ms => by
    induction ms with
    | nil => exact .nil
    | cons x xs ih => exact .cons (.int x) ih
  have hR : RolAt K ⟨[], []⟩ H a (ns.map V.int) := by
    rcases hS with (h | ⟨o, h⟩) | h
    · exact .inr (.inl ⟨h, by simp, by simp⟩)
    · exact .inl ⟨o, h⟩
    · exact .inr (.inr h)
  refine ⟨⟨[], []⟩, [], [.rol (ns.map PV.int)], .bl true, M', ⟨rfl, by simp, fun a h => by simp at h, fun n a c h => by simp at h⟩, .cons (.rol hR (hr ns)) .nil, h, fun φ' H' u x m q => ?_⟩
  cases q
  rfl
end Ev

/-! The plain side: how the interpreter's steps reduce; fractions; loops. -/
namespace Ev
section
variable {α β : Type} {M M' : Mem} {env : Env}
theorem bnd_some (a : α) (M : Mem) (f : α → Mem → Option β) : bnd (some (a, M)) f = f a M := rfl
theorem bnd_none (f : α → Mem → Option β) : bnd none f = none := rfl
theorem bifb_t (x y : Option β) : bifb (some true) x y = x := rfl
theorem bifb_f (x y : Option β) : bifb (some false) x y = y := rfl
theorem bifb_d {p : Prop} [Decidable p] (x y : Option β) : bifb (some (decide p)) x y = if p then x else y := by
  by_cases h : p
  · rw [decide_eq_true h, if_pos h]; rfl
  · rw [decide_eq_false h, if_neg h]; rfl
theorem bifb_b (b : Bool) (x y : Option β) : bifb (some b) x y = if b = true then x else y := by cases b <;> rfl
theorem iff_t (x : Option β) : iff_ true x = x := rfl
theorem iff_d {p : Prop} [Decidable p] (x : Option β) : iff_ (decide p) x = if p then x else none := by
  by_cases h : p
  · rw [decide_eq_true h, if_pos h]; rfl
  · rw [decide_eq_false h, if_neg h]; rfl
theorem nxt_nx (env : Env) (M : Mem) (f : Env → Mem → Option R) : nxt (some (.nx env M)) f = f env M := rfl
theorem nxt_rt (v : PV) (M : Mem) (f : Env → Mem → Option R) : nxt (some (.rt v M)) f = some (.rt v M) := rfl
theorem addOp_ii (i j : Int) : addOp M (.int i) (.int j) = some (.int (i + j)) := rfl
theorem addOp_tt (xs ys : List PV) : addOp M (.tup xs) (.tup ys) = if decide (xs.length + ys.length ≤ PySem.sizeLine) then some (.tup (xs ++ ys)) else none := rfl
theorem addOp_ll (xs ys : List PV) : addOp M (.lst xs) (.lst ys) = if decide (xs.length + ys.length ≤ PySem.sizeLine) then some (.lst (xs ++ ys)) else none := rfl
theorem subOp_ii (i j : Int) : subOp (.int i) (.int j) = some (.int (i - j)) := rfl
theorem mulOp_ii (i j : Int) : mulOp M (.int i) (.int j) = if mulOk i j then some (.int (i * j)) else none := rfl
theorem fdivOp_ii (i j : Int) : fdivOp (.int i) (.int j) = if divOk i j then some (.int (i.fdiv j)) else none := rfl
theorem modOp_ii (i j : Int) : modOp (.int i) (.int j) = if decide (j ≠ 0) then some (.int (i.fmod j)) else none := rfl
theorem cmpI_ii (p : Int → Int → Bool) (i j : Int) : cmpI p (.int i) (.int j) = some (p i j) := rfl
theorem tru_bl (b : Bool) : truthy M (.bl b) = some b := rfl
theorem tru_int (i : Int) : truthy M (.int i) = some (i != 0) := rfl
theorem absB_i (i : Int) : absB [.int i] = some (.int (if i < 0 then -i else i)) := rfl
theorem intB_i (i : Int) : intB [.int i] = some (.int i) := rfl
theorem asM_int (f : Bool) (i : Int) : asM f (.int i) M = (.int i, M) := by cases f <;> rfl
theorem asM_bl (f : Bool) (i : Bool) : asM f (.bl i) M = (.bl i, M) := by cases f <;> rfl
theorem asM_tup (f : Bool) (xs : List PV) : asM f (.tup xs) M = (.tup xs, M) := by cases f <;> rfl
theorem asM_false (v : PV) : asM false v M = (v, M) := rfl
theorem asM_lst (xs : List PV) : asM true (.lst xs) M = (.ref M.length, M ++ [.lst xs]) := rfl
theorem isOp_n (a : PV) : isOp a .non = some (isNon a) := by cases a <;> rfl
theorem isOp_bb (a b : Bool) : isOp (.bl a) (.bl b) = some (decide (a = b)) := rfl
theorem setAll_nil (vs : List PV) : setAll env [] vs = env := by unfold setAll; rfl
theorem setAll_cons (i : Nat) (is : List Nat) (v : PV) (vs : List PV) : setAll env (i :: is) (v :: vs) = setAll (env.set i (some v)) is vs := rfl
theorem bindT_nm (i : Nat) (v : PV) : bindT (.nm i) v env = some (env.set i (some v)) := rfl
theorem bindT_tp (is : List Nat) (vs : List PV) : bindT (.tp is) (.tup vs) env = if decide (vs.length = is.length) then some (setAll env is vs) else none := rfl
end
theorem bindT_ls0 (is : List Nat) (vs : List PV) (env : Env) : bindT (.ls is) (.lst vs) env = if decide (vs.length = is.length) then some (setAll env is vs) else none := rfl
/-- the end of a def -/
def fin (keep : Bool) (n : Nat) (r : Option R) : Option (PV × Mem) := match r with
  | some (.rt v M1) => if keep then some (v, M1) else leave n v M1
  | some (.nx _ M1) => if keep then some (.non, M1) else leave n .non M1
  | none => none
theorem fin_rt (n : Nat) (v : PV) (M : Mem) : fin false n (some (.rt v M)) = leave n v M := rfl
theorem fin_nx (n : Nat) (e : Env) (M : Mem) : fin false n (some (.nx e M)) = leave n .non M := rfl
theorem leave_same (v : PV) (M : Mem) : leave M.length v M = some (v, M) := by unfold leave; rw [if_pos rfl]
theorem leave_len {n : Nat} {v : PV} {M : Mem} (h : M.length = n) : leave n v M = some (v, M) := by unfold leave; rw [if_pos h]
/-! ### sizes -/
def lt2 (n : Nat) (x : Int) : Prop := x.natAbs < 2 ^ n
theorem lt2.mono {n m : Nat} {x : Int} (h : lt2 n x) (hm : n ≤ m) : lt2 m x := Nat.lt_of_lt_of_le h (Nat.pow_le_pow_right (by decide) hm)
theorem log2_lt {n : Nat} {x : Nat} (h0 : 0 < n) (h : x < 2 ^ n) : x.log2 < n := PySem.Flt.log2_lt_of h0 h
theorem mulOk_of {a b : Nat} {x y : Int} (hx : lt2 a x) (hy : lt2 b y) (h : a + b ≤ 999990) : mulOk x y = true := by
  unfold mulOk
  rw [Bool.or_eq_true]
  right
  have h1 := log2_lt (Nat.succ_pos a) (hx.mono (Nat.le_succ a))
  have h2 := log2_lt (Nat.succ_pos b) (hy.mono (Nat.le_succ b))
  exact decide_eq_true (by omega)
theorem mulOk_small {x y : Int} (h : (-(2 ^ 64) < y ∧ y < 2 ^ 64)) : mulOk x y = true := by
  unfold mulOk
  rw [Bool.or_eq_true]
  left
  exact decide_eq_true (.inr h)
theorem mulOk_smallL {x y : Int} (h : (-(2 ^ 64) < x ∧ x < 2 ^ 64)) : mulOk x y = true := by
  unfold mulOk
  rw [Bool.or_eq_true]
  left
  exact decide_eq_true (.inl h)
theorem divOk_of {n : Nat} {x y : Int} (h0 : y ≠ 0) (hy : lt2 n y) (hn : n ≤ 8990) : divOk x y = true := by
  unfold divOk
  rw [Bool.and_eq_true]
  have h2 := log2_lt (Nat.succ_pos n) (hy.mono (Nat.le_succ n))
  exact ⟨decide_eq_true h0, decide_eq_true (by omega)⟩
theorem lt2.mul {a b : Nat} {x y : Int} (hx : lt2 a x) (hy : lt2 b y) : lt2 (a + b) (x * y) := by
  unfold lt2
  rw [Int.natAbs_mul, Nat.pow_add]
  exact Nat.mul_lt_mul'' hx hy
theorem lt2.add {a : Nat} {x y : Int} (hx : lt2 a x) (hy : lt2 a y) : lt2 (a + 1) (x + y) := by
  unfold lt2 at *
  rw [Nat.pow_succ]
  omega
theorem lt2.sub {a : Nat} {x y : Int} (hx : lt2 a x) (hy : lt2 a y) : lt2 (a + 1) (x - y) := by
  unfold lt2 at *
  rw [Nat.pow_succ]
  omega
/-! ### Euclid's loop -/
theorem whl_gcd (ε : Int → Int → Env) (c : Env → Mem → Option (Bool × Mem)) (body : Env → Mem → Option R) (M : Mem) (hc : ∀ a b : Int, c (ε a b) M = some (decide (b ≠ 0), M))
    (hb : ∀ a b : Int, b ≠ 0 → body (ε a b) M = some (.nx (ε b (a.fmod b)) M)) : ∀ (m n : Nat) (a b : Nat), b < 2 ^ m → 2 * m + 1 ≤ n → whlL c body n (ε a b) M = some (.nx (ε (Nat.gcd a b : Nat) 0) M)
  | m, 0, a, b, _, hn => absurd hn (by omega)
  | m, n + 1, a, b, hm, hn => by
    unfold whlL
    rw [hc]
    by_cases h0 : b = 0
    · subst h0
      rw [Nat.gcd_zero_right]
      simp
    · have hb' : ((b : Nat) : Int) ≠ 0 := by omega
      rw [decide_eq_true hb']
      simp only [hb _ _ hb']
      have e1 : ((a : Nat) : Int).fmod ((b : Nat) : Int) = ((a % b : Nat) : Int) := by
        rw [Int.fmod_eq_emod_of_nonneg _ (by omega)]
        simp
      rw [e1]
      by_cases h1 : a % b = 0
      · cases n with
        | zero => 
          have : m ≠ 0 := fun z => by subst z; simp at hm; omega
          omega
        | succ n =>
          unfold whlL
          rw [hc, h1]
          have : Nat.gcd a b = b := by
            rw [Nat.gcd_comm, Nat.gcd_rec, h1, Nat.gcd_zero_left]
          rw [this]
          simp
      · cases m with
        | zero => simp at hm; omega
        | succ m =>
        cases n with
        | zero => omega
        | succ n =>
          unfold whlL
          rw [hc]
          have hr : ((a % b : Nat) : Int) ≠ 0 := by omega
          rw [decide_eq_true hr]
          simp only [hb _ _ hr]
          have e2 : ((b : Nat) : Int).fmod ((a % b : Nat) : Int) = ((b % (a % b) : Nat) : Int) := by
            rw [Int.fmod_eq_emod_of_nonneg _ (by omega)]
            simp
          rw [e2]
          have hlt : a % b < b := Nat.mod_lt _ (by omega)
          have hlt2 : b % (a % b) < a % b := Nat.mod_lt _ (by omega)
          have hle : a % b + b % (a % b) ≤ b := by
            have h3 := Nat.mod_add_div b (a % b)
            have h4 : 1 ≤ b / (a % b) := Nat.div_pos (Nat.le_of_lt hlt) (by omega)
            have h5 : (a % b) * 1 ≤ (a % b) * (b / (a % b)) := Nat.mul_le_mul_left _ h4
            omega
          rw [Nat.pow_succ] at hm
          have := whl_gcd ε c body M hc hb m n (a % b) (b % (a % b)) (by omega) (by omega)
          rw [this]
          rw [show Nat.gcd a b = Nat.gcd (a % b) (b % (a % b)) by rw [Nat.gcd_comm a b, Nat.gcd_rec b a, Nat.gcd_rec (a % b) b, Nat.gcd_comm]]
/-! ### fractions -/
def fr (q : Rat) : PV := .tup [.int q.num, .int (q.den : Int)]
def sgn (b : Int) : Int := if b > 0 then 1 else -1
theorem low_num {a b s : Int} (hb : b ≠ 0) (hs : s = b.sign) : a.fdiv ((Int.gcd a b : Nat) * s) = (Rat.divInt a b).num ∧ b.fdiv ((Int.gcd a b : Nat) * s) = ((Rat.divInt a b).den : Int) := by
  have hg : 0 < Int.gcd a b := Int.gcd_pos_of_ne_zero_right a hb
  obtain ⟨x, hx⟩ := Int.gcd_dvd_left a b
  obtain ⟨y, hy⟩ := Int.gcd_dvd_right a b
  have hss : s * s = 1 := by
    rcases Int.lt_or_gt_of_ne hb with h | h
    · rw [hs, Int.sign_eq_neg_one_of_neg h]; rfl
    · rw [hs, Int.sign_eq_one_of_pos h]; rfl
  generalize hG : Int.gcd a b = g at *
  have hg' : (g : Int) ≠ 0 := by omega
  have hgs : (g : Int) * s ≠ 0 := fun z => by
    rcases Int.mul_eq_zero.mp z with z | z
    · exact hg' z
    · rw [z] at hss; cases hss
  have div (z w : Int) (h : z = (g : Int) * w) : z.fdiv ((g : Int) * s) = s * w := by
    have h2 : z = ((g : Int) * s) * (s * w) := by
      rw [Int.mul_assoc, ← Int.mul_assoc s s w, hss, Int.one_mul]; exact h
    rw [Int.fdiv_eq_ediv_of_dvd ⟨s * w, h2⟩, h2]
    exact Int.mul_ediv_cancel_left _ hgs
  rw [div a x hx, div b y hy, Rat.num_divInt, Rat.den_divInt, if_neg hb, Int.gcd_comm b a, hG, ← hs]
  constructor
  · rw [hx, ← Int.mul_assoc, Int.mul_comm s (g : Int), Int.mul_assoc, Int.mul_ediv_cancel_left _ hg']
  · have h1 : b.natAbs = g * y.natAbs := by
      rw [hy, Int.natAbs_mul]
      rfl
    rw [h1, Nat.mul_div_cancel_left _ hg]
    rcases Int.lt_or_gt_of_ne hb with h | h
    · rw [hs, Int.sign_eq_neg_one_of_neg h]
      have : y < 0 := by
        rcases Int.lt_or_gt_of_ne (show y ≠ 0 from fun z => by rw [z, Int.mul_zero] at hy; exact hb hy) with h1 | h1
        · exact h1
        · have := Int.mul_pos (show (0 : Int) < g by omega) h1
          omega
      omega
    · rw [hs, Int.sign_eq_one_of_pos h]
      have : 0 < y := by
        rcases Int.lt_or_gt_of_ne (show y ≠ 0 from fun z => by rw [z, Int.mul_zero] at hy; exact hb hy) with h1 | h1
        · have := Int.mul_neg_of_pos_of_neg (show (0 : Int) < g by omega) h1
          omega
        · exact h1
      omega
/-- the reduced form is no greater -/
theorem low_le (a b : Int) (hb : b ≠ 0) : (Rat.divInt a b).num.natAbs ≤ a.natAbs ∧ (Rat.divInt a b).den ≤ b.natAbs := by
  rw [Rat.num_divInt, Rat.den_divInt, if_neg hb]
  constructor
  · rw [Int.natAbs_ediv_of_dvd (by
      rw [Int.gcd_comm]
      exact Int.dvd_mul_of_dvd_right (Int.gcd_dvd_left a b)), Int.natAbs_mul]
    have : b.sign.natAbs ≤ 1 := by
      rcases Int.lt_or_gt_of_ne hb with h | h
      · rw [Int.sign_eq_neg_one_of_neg h]; decide
      · rw [Int.sign_eq_one_of_pos h]; decide
    calc b.sign.natAbs * a.natAbs / ((b.gcd a : Nat) : Int).natAbs ≤ b.sign.natAbs * a.natAbs := Nat.div_le_self _ _
      _ ≤ 1 * a.natAbs := Nat.mul_le_mul_right _ this
      _ = a.natAbs := Nat.one_mul _
  · exact Nat.div_le_self _ _
/-- num and den below 2 ^ n -/
def sm (n : Nat) (q : Rat) : Prop := lt2 n q.num ∧ q.den < 2 ^ n
theorem sm.mono {n m : Nat} {q : Rat} (h : sm n q) (hm : n ≤ m) : sm m q := ⟨h.1.mono hm, Nat.lt_of_lt_of_le h.2 (Nat.pow_le_pow_right (by decide) hm)⟩
theorem sm.den {n : Nat} {q : Rat} (h : sm n q) : lt2 n (q.den : Int) := by
  unfold lt2
  rw [Int.natAbs_natCast]
  exact h.2
theorem sm_low {n : Nat} {a b : Int} (ha : lt2 n a) (hb : lt2 n b) (h0 : b ≠ 0) : sm n (Rat.divInt a b) := by
  obtain ⟨h1, h2⟩ := low_le a b h0
  exact ⟨Nat.lt_of_le_of_lt h1 ha, Nat.lt_of_le_of_lt h2 hb⟩
theorem add_low (p q : Rat) : Rat.divInt (p.num * q.den + q.num * p.den) (p.den * q.den) = p + q := by
  conv => rhs; rw [← Rat.num_divInt_den p, ← Rat.num_divInt_den q]
  rw [Rat.divInt_add_divInt _ _ (by have := p.den_nz; omega) (by have := q.den_nz; omega)]
theorem sub_low (p q : Rat) : Rat.divInt (p.num * q.den - q.num * p.den) (p.den * q.den) = p - q := by
  rw [Rat.sub_def', ← Rat.divInt_ofNat]
  simp
theorem mul_low (p q : Rat) : Rat.divInt (p.num * q.num) (p.den * q.den) = p * q := by
  conv => rhs; rw [← Rat.num_divInt_den p, ← Rat.num_divInt_den q]
  rw [Rat.divInt_mul_divInt]
theorem div_low (p q : Rat) (hq : q ≠ 0) : Rat.divInt (p.num * q.den) (p.den * q.num) = p / q := by
  rw [Rat.div_def, Rat.inv_def]
  conv => rhs; rw [← Rat.num_divInt_den p]
  rw [Rat.divInt_mul_divInt]
theorem den_pos (q : Rat) : 0 < (q.den : Int) := by have := q.den_nz; omega
theorem num_ne {q : Rat} (h : q ≠ 0) : q.num ≠ 0 := fun z => h (Rat.num_eq_zero.mp z)
theorem sm_add {a b : Nat} {p q : Rat} (hp : sm a p) (hq : sm b q) : sm (a + b + 1) (p + q) := by
  rw [← add_low]
  refine sm_low ?_ ((hp.den.mul hq.den).mono (by omega)) ?_
  · exact (hp.1.mul hq.den).add (by rw [Nat.add_comm]; exact hq.1.mul hp.den)
  · exact Int.ne_of_gt (Int.mul_pos (den_pos p) (den_pos q))
theorem sm_sub {a b : Nat} {p q : Rat} (hp : sm a p) (hq : sm b q) : sm (a + b + 1) (p - q) := by
  rw [← sub_low]
  refine sm_low ?_ ((hp.den.mul hq.den).mono (by omega)) ?_
  · exact (hp.1.mul hq.den).sub (by rw [Nat.add_comm]; exact hq.1.mul hp.den)
  · exact Int.ne_of_gt (Int.mul_pos (den_pos p) (den_pos q))
theorem sm_mul {a b : Nat} {p q : Rat} (hp : sm a p) (hq : sm b q) : sm (a + b) (p * q) := by
  rw [← mul_low]
  exact sm_low (hp.1.mul hq.1) (hp.den.mul hq.den) (Int.ne_of_gt (Int.mul_pos (den_pos p) (den_pos q)))
theorem sm_div {a b : Nat} {p q : Rat} (hp : sm a p) (hq : sm b q) (h : q ≠ 0) : sm (a + b) (p / q) := by
  rw [← div_low p q h]
  exact sm_low (hp.1.mul hq.den) (hp.den.mul hq.1) (fun z => by
    rcases Int.mul_eq_zero.mp z with z | z
    · exact Int.ne_of_gt (den_pos p) z
    · exact num_ne h z)
/-! ### == -/
theorem eqD_ii (M : Mem) (a b : Int) : eqD M (.int a) (.int b) = some (decide (a = b)) := by
  show some (PySem.PyData.eqv (.int a) (.int b)) = _
  show some (a == b) = _
  rw [Bool.beq_eq_decide_eq]
theorem eqD_bb (M : Mem) (a b : Bool) : eqD M (.bl a) (.bl b) = some (decide (a = b)) := by
  show some (PySem.PyData.eqv (.bool a) (.bool b)) = _
  show some (a == b) = _
  rw [Bool.beq_eq_decide_eq]
theorem eqD_pp (M : Mem) (a b c d : Int) : eqD M (.tup [.int a, .int b]) (.tup [.int c, .int d]) = some (decide (a = c ∧ b = d)) := by
  show some ((a == c) && ((b == d) && true)) = _
  rw [Bool.and_true, Bool.beq_eq_decide_eq, Bool.beq_eq_decide_eq, ← Bool.decide_and]
theorem eqD_fr (M : Mem) (p q : Rat) : eqD M (fr p) (fr q) = some (decide (p = q)) := by
  unfold fr
  rw [eqD_pp]
  congr 1
  by_cases h : p = q
  · subst h; simp
  · rw [decide_eq_false h, decide_eq_false]
    rintro ⟨h1, h2⟩
    exact h (Rat.ext h1 (by omega))
theorem idx_tup0 (M : Mem) (x0 : PV) (xs : List PV) : idxOp M (.tup (x0 :: xs)) (.int 0) = some x0 := by
  show L2.atI (x0 :: xs) 0 = _
  unfold L2.atI L2.ixN
  rw [if_pos (by omega), if_pos (by simp only [List.length_cons]; omega)]
  rfl
theorem idx_tup1 (M : Mem) (x0 x1 : PV) (xs : List PV) : idxOp M (.tup (x0 :: x1 :: xs)) (.int 1) = some x1 := by
  show L2.atI (x0 :: x1 :: xs) 1 = _
  unfold L2.atI L2.ixN
  rw [if_pos (by omega), if_pos (by simp only [List.length_cons]; omega)]
  rfl
theorem idx_tup2 (M : Mem) (x0 x1 x2 : PV) (xs : List PV) : idxOp M (.tup (x0 :: x1 :: x2 :: xs)) (.int 2) = some x2 := by
  show L2.atI (x0 :: x1 :: x2 :: xs) 2 = _
  unfold L2.atI L2.ixN
  rw [if_pos (by omega), if_pos (by simp only [List.length_cons]; omega)]
  rfl
theorem idx_tup3 (M : Mem) (x0 x1 x2 x3 : PV) (xs : List PV) : idxOp M (.tup (x0 :: x1 :: x2 :: x3 :: xs)) (.int 3) = some x3 := by
  show L2.atI (x0 :: x1 :: x2 :: x3 :: xs) 3 = _
  unfold L2.atI L2.ixN
  rw [if_pos (by omega), if_pos (by simp only [List.length_cons]; omega)]
  rfl
theorem idx_lst0 (M : Mem) (x0 : PV) (xs : List PV) : idxOp M (.lst (x0 :: xs)) (.int 0) = some x0 := by
  show L2.atI (x0 :: xs) 0 = _
  unfold L2.atI L2.ixN
  rw [if_pos (by omega), if_pos (by simp only [List.length_cons]; omega)]
  rfl
theorem idx_lst1 (M : Mem) (x0 x1 : PV) (xs : List PV) : idxOp M (.lst (x0 :: x1 :: xs)) (.int 1) = some x1 := by
  show L2.atI (x0 :: x1 :: xs) 1 = _
  unfold L2.atI L2.ixN
  rw [if_pos (by omega), if_pos (by simp only [List.length_cons]; omega)]
  rfl
theorem idx_lst2 (M : Mem) (x0 x1 x2 : PV) (xs : List PV) : idxOp M (.lst (x0 :: x1 :: x2 :: xs)) (.int 2) = some x2 := by
  show L2.atI (x0 :: x1 :: x2 :: xs) 2 = _
  unfold L2.atI L2.ixN
  rw [if_pos (by omega), if_pos (by simp only [List.length_cons]; omega)]
  rfl
theorem idx_lst3 (M : Mem) (x0 x1 x2 x3 : PV) (xs : List PV) : idxOp M (.lst (x0 :: x1 :: x2 :: x3 :: xs)) (.int 3) = some x3 := by
  show L2.atI (x0 :: x1 :: x2 :: x3 :: xs) 3 = _
  unfold L2.atI L2.ixN
  rw [if_pos (by omega), if_pos (by simp only [List.length_cons]; omega)]
  rfl
theorem idx_rol0 (M : Mem) (x0 : PV) (xs : List PV) : idxOp M (.rol (x0 :: xs)) (.int 0) = some x0 := by
  show L2.atI (x0 :: xs) 0 = _
  unfold L2.atI L2.ixN
  rw [if_pos (by omega), if_pos (by simp only [List.length_cons]; omega)]
  rfl
theorem idx_rol1 (M : Mem) (x0 x1 : PV) (xs : List PV) : idxOp M (.rol (x0 :: x1 :: xs)) (.int 1) = some x1 := by
  show L2.atI (x0 :: x1 :: xs) 1 = _
  unfold L2.atI L2.ixN
  rw [if_pos (by omega), if_pos (by simp only [List.length_cons]; omega)]
  rfl
theorem idx_rol2 (M : Mem) (x0 x1 x2 : PV) (xs : List PV) : idxOp M (.rol (x0 :: x1 :: x2 :: xs)) (.int 2) = some x2 := by
  show L2.atI (x0 :: x1 :: x2 :: xs) 2 = _
  unfold L2.atI L2.ixN
  rw [if_pos (by omega), if_pos (by simp only [List.length_cons]; omega)]
  rfl
theorem idx_rol3 (M : Mem) (x0 x1 x2 x3 : PV) (xs : List PV) : idxOp M (.rol (x0 :: x1 :: x2 :: x3 :: xs)) (.int 3) = some x3 := by
  show L2.atI (x0 :: x1 :: x2 :: x3 :: xs) 3 = _
  unfold L2.atI L2.ixN
  rw [if_pos (by omega), if_pos (by simp only [List.length_cons]; omega)]
  rfl
theorem bifb_isTy (t : Ty) (v : PV) {β : Type} (x y : Option β) : bifb (some (isTy t v)) x y = if isTy t v = true then x else y := bifb_b _ x y
theorem newL_f (xs : List PV) (M : Mem) : newL false xs M = (.lst xs, M) := rfl
theorem newL_t (xs : List PV) (M : Mem) : newL true xs M = (.ref M.length, M ++ [.lst xs]) := rfl
theorem fin_rtk (n : Nat) (v : PV) (M : Mem) : fin true n (some (.rt v M)) = some (v, M) := rfl
theorem sizeL : PySem.sizeLine = 16777216 := by decide +kernel
theorem fr_0 : fr 0 = .tup [.int 0, .int 1] := rfl
theorem fr_1 : fr 1 = .tup [.int 1, .int 1] := rfl
/-! ### comprehensions -/
theorem lcL_none {t : T} {g : Gd} {cond : Env → Mem → Option (Bool × Mem)} {elt : Env → Mem → Option (PV × Mem)} {env : Env} {M : Mem} (hg : gOk g M = true) : ∀ (xs acc : List PV), (∀ x ∈ xs, ∃ env1, bindT t x env = some env1 ∧ cond env1 M = some (false, M)) →
    lcL t g cond elt env xs acc M = some (acc, M)
  | [], acc, _ => by unfold lcL; rw [hg]
  | x :: xs, acc, h => by
    unfold lcL
    rw [hg]
    obtain ⟨env1, h1, h2⟩ := h x List.mem_cons_self
    simp only [h1, h2]
    exact lcL_none hg xs acc fun y hy => h y (List.mem_cons_of_mem _ hy)
/-- a map -/
theorem lcL_map {t : T} {g : Gd} {cond : Env → Mem → Option (Bool × Mem)} {elt : Env → Mem → Option (PV × Mem)} {env : Env} {M : Mem} (hg : gOk g M = true) (f : PV → PV) : ∀ (xs acc : List PV), (∀ x ∈ xs, ∃ env1, bindT t x env = some env1 ∧ cond env1 M = some (true, M) ∧ elt env1 M = some (f x, M)) →
    lcL t g cond elt env xs acc M = some (acc ++ xs.map f, M)
  | [], acc, _ => by unfold lcL; rw [hg]; simp
  | x :: xs, acc, h => by
    unfold lcL
    rw [hg]
    obtain ⟨env1, h1, h2, h3⟩ := h x List.mem_cons_self
    simp only [h1, h2, h3]
    rw [lcL_map hg f xs _ fun y hy => h y (List.mem_cons_of_mem _ hy), List.map_cons, List.append_assoc]
    rfl
/-- a comprehension that draws: each item's value keeps P, the memory keeps I -/
theorem lcL_draw {t : T} {cond : Env → Mem → Option (Bool × Mem)} {elt : Env → Mem → Option (PV × Mem)} {env : Env} (P : PV → Prop) (I : Mem → Prop) : ∀ (xs acc : List PV) (M : Mem), I M → (∀ x ∈ xs, ∀ M, I M → ∃ env1 v M', bindT t x env = some env1 ∧ cond env1 M = some (true, M) ∧ elt env1 M = some (v, M') ∧ P v ∧ I M') →
    ∃ vs M', lcL t [] cond elt env xs acc M = some (acc ++ vs, M') ∧ vs.length = xs.length ∧ (∀ v ∈ vs, P v) ∧ I M'
  | [], acc, M, hI, _ => ⟨[], M, by unfold lcL; simp [gOk], rfl, by simp, hI⟩
  | x :: xs, acc, M, hI, h => by
    obtain ⟨env1, v, M1, h1, h2, h3, h4, h5⟩ := h x List.mem_cons_self M hI
    obtain ⟨vs, M', e, hl, hp, hI'⟩ := lcL_draw P I xs (acc ++ [v]) M1 h5 fun y hy => h y (List.mem_cons_of_mem _ hy)
    refine ⟨v :: vs, M', ?_, by simp [hl], fun w hw => ?_, hI'⟩
    · unfold lcL
      simp only [gOk, h1, h2, h3]
      rw [e, List.append_assoc]
      rfl
    · rcases List.mem_cons.mp hw with rfl | hw
      · exact h4
      · exact hp w hw
theorem seqG_tup (M : Mem) (xs : List PV) : seqG M (.tup xs) = some (true, xs, []) := rfl
theorem seqG_lst (M : Mem) (xs : List PV) : seqG M (.lst xs) = some (false, xs, []) := rfl
theorem lenB_tup (M : Mem) (xs : List PV) : lenB M [.tup xs] = some (.int xs.length) := rfl
theorem lenB_lst (M : Mem) (xs : List PV) : lenB M [.lst xs] = some (.int xs.length) := rfl
theorem zip_mem : ∀ {xs : List PV} {z : PV}, z ∈ zipP xs xs → ∃ x ∈ xs, z = .tup [x, x]
  | [], _, h => by simp [zipP] at h
  | x :: xs, z, h => by
    unfold zipP at h
    rcases List.mem_cons.mp h with rfl | h
    · exact ⟨x, List.mem_cons_self, rfl⟩
    · obtain ⟨y, h1, h2⟩ := zip_mem h
      exact ⟨y, List.mem_cons_of_mem _ h1, h2⟩
/-! ### plain values -/
mutual
def dpt : PV → Nat
  | .tup xs | .lst xs => dpts xs + 1
  | _ => 0
def dpts : List PV → Nat
  | [] => 0
  | x :: xs => max (dpt x) (dpts xs)
end
mutual
def pl : PV → Bool
  | .non | .bl _ | .int _ => true
  | .str s => PySem.PyData.canLay0 (.str s)
  | .tup xs | .lst xs => pls xs
  | .rol _ | .ref _ => false
def pls : List PV → Bool
  | [] => true
  | x :: xs => pl x && pls xs
end
theorem pls_mem : ∀ {xs : List PV} {x : PV}, pls xs = true → x ∈ xs → pl x = true ∧ dpt x ≤ dpts xs
  | y :: ys, x, h, hm => by
    have h' : (pl y && pls ys) = true := h
    rw [Bool.and_eq_true] at h'
    rcases List.mem_cons.mp hm with rfl | hm
    · exact ⟨h'.1, Nat.le_max_left _ _⟩
    · obtain ⟨h1, h2⟩ := pls_mem h'.2 hm
      exact ⟨h1, Nat.le_trans h2 (Nat.le_max_right _ _)⟩
def sortP : PV → Int
  | .non => 0 | .bl _ => 1 | .int _ => 2 | .str _ => 3 | .tup _ => 4 | _ => 5
/-! ### draws -/
abbrev cup (x y : Int) : Cell := .lst [.int x, .int y]
def CupB (x y : Int) : Prop := 0 ≤ x ∧ 0 ≤ y ∧ y < 2147483648
theorem idx_cup0 (x y : PV) (T : Mem) : idxOp (.lst [x, y] :: T) (.ref 0) (.int 0) = some x := rfl
theorem idx_cup1 (x y : PV) (T : Mem) : idxOp (.lst [x, y] :: T) (.ref 0) (.int 1) = some y := rfl
theorem setAt0 (x v : PV) (xs : List PV) : setAt (x :: xs) 0 v = some (v :: xs) := by
  unfold setAt L2.ixN
  rw [if_pos (by omega), if_pos (by simp only [List.length_cons]; omega)]
  rfl
theorem setAt1 (x y v : PV) (xs : List PV) : setAt (x :: y :: xs) 1 v = some (x :: v :: xs) := by
  unfold setAt L2.ixN
  rw [if_pos (by omega), if_pos (by simp only [List.length_cons]; omega)]
  rfl
end Ev

/-! The text as the interpreter has it, and that it is this text: printed by gen.py. -/
namespace Lw
open PySem PySem.Spec PyProof.Rows L2 Ev
def topS (i : Nat) : Stmt := PySem.Challenge.pw_endsmeasured_k49_whole_lasting_chains.main.body.getD i (.Pass ⟨0, 0, 0, 0⟩)
abbrev k_DIGITS : PV := (.int (10000000000000000000000000000000000000000))
abbrev k_NONE : PV := (.tup [(.int (0)), (.int (1))])
abbrev k_ONE : PV := (.tup [(.int (1)), (.int (1))])
abbrev k_MANY : PV := (.int (30))
abbrev k_PLAIN : PV := (.tup [k_ONE, k_NONE, k_NONE, k_ONE])
abbrev k_SHORT : PV := (.int (1000000000000))
abbrev tb_WORDS : List (Int × PV) := [(-1, (.str "less")), (0, (.str "same")), (1, (.str "greater"))]
def m_is_integer : Ss := (.cons (.ret (.and (.isi (.var 0) .int) (.not (.isi (.var 0) .bool)))) .nil)
def m_is_whole : Ss := (.cons (.ret (.and (.call 0 (.cons (.var 0) .nil)) (.chn .le .le (.var 1) (.var 0) (.var 2)))) .nil)
def m_need_whole : Ss := (.cons (.ite (.not (.call 1 (.cons (.var 0) (.cons (.var 1) (.cons (.var 2) .nil))))) (.cons .rais .nil) .nil) .nil)
def m_is_tuple_of : Ss := (.cons (.ret (.and (.isi (.var 0) .tuple) (.chn .le .le (.var 1) (.blt .len false (.cons (.var 0) .nil)) (.var 2)))) .nil)
def m_divisor_of : Ss := (.cons (.par 0 1 (.blt .abs false (.cons (.var 0) .nil)) (.blt .abs false (.cons (.var 1) .nil))) (.cons (.whl (.cmp .ne (.var 1) (.cst (.int (0)))) (.cons (.par 0 1 (.var 1) (.bin .mod false (.var 0) (.var 1))) .nil)) (.cons (.ret (.var 0)) .nil)))
def m_lowest : Ss := (.cons (.set 2 (.bin .mul false (.call 4 (.cons (.var 0) (.cons (.var 1) .nil))) (.ite (.cmp .gt (.var 1) (.cst (.int (0)))) (.cst (.int (1))) (.neg (.cst (.int (1))))))) (.cons (.ret (.tup (.cons (.bin .fdiv false (.var 0) (.var 2)) (.cons (.bin .fdiv false (.var 1) (.var 2)) .nil)))) .nil))
def m_sum_of : Ss := (.cons (.ret (.call 5 (.cons (.bin .add false (.bin .mul false (.idx (.var 0) (.cst (.int (0)))) (.idx (.var 1) (.cst (.int (1))))) (.bin .mul false (.idx (.var 1) (.cst (.int (0)))) (.idx (.var 0) (.cst (.int (1)))))) (.cons (.bin .mul false (.idx (.var 0) (.cst (.int (1)))) (.idx (.var 1) (.cst (.int (1))))) .nil)))) .nil)
def m_less_by : Ss := (.cons (.ret (.call 5 (.cons (.bin .sub false (.bin .mul false (.idx (.var 0) (.cst (.int (0)))) (.idx (.var 1) (.cst (.int (1))))) (.bin .mul false (.idx (.var 1) (.cst (.int (0)))) (.idx (.var 0) (.cst (.int (1)))))) (.cons (.bin .mul false (.idx (.var 0) (.cst (.int (1)))) (.idx (.var 1) (.cst (.int (1))))) .nil)))) .nil)
def m_product_of : Ss := (.cons (.ret (.call 5 (.cons (.bin .mul false (.idx (.var 0) (.cst (.int (0)))) (.idx (.var 1) (.cst (.int (0))))) (.cons (.bin .mul false (.idx (.var 0) (.cst (.int (1)))) (.idx (.var 1) (.cst (.int (1))))) .nil)))) .nil)
def m_part_of : Ss := (.cons (.ret (.call 5 (.cons (.bin .mul false (.idx (.var 0) (.cst (.int (0)))) (.idx (.var 1) (.cst (.int (1))))) (.cons (.bin .mul false (.idx (.var 0) (.cst (.int (1)))) (.idx (.var 1) (.cst (.int (0))))) .nil)))) .nil)
def m_is_under : Ss := (.cons (.ret (.cmp .lt (.bin .mul false (.idx (.var 0) (.cst (.int (0)))) (.idx (.var 1) (.cst (.int (1))))) (.bin .mul false (.idx (.var 1) (.cst (.int (0)))) (.idx (.var 0) (.cst (.int (1))))))) .nil)
def m_fits_fraction : Ss := (.cons (.ite (.or (.not (.call 3 (.cons (.var 0) (.cons (.cst (.int (2))) (.cons (.cst (.int (2))) .nil))))) (.not (.blt .all false (.cons (.lc false [1] (.nm 1) (.seq (.var 0)) .nil (.and (.call 0 (.cons (.var 1) .nil)) (.chn .lt .lt (.neg (.cst k_DIGITS)) (.var 1) (.cst k_DIGITS)))) .nil)))) (.cons (.ret (.cst (.bl false))) .nil) .nil) (.cons (.ret (.and (.cmp .ge (.idx (.var 0) (.cst (.int (1)))) (.cst (.int (1)))) (.cmp .eq (.call 4 (.cons (.idx (.var 0) (.cst (.int (0)))) (.cons (.idx (.var 0) (.cst (.int (1)))) .nil))) (.cst (.int (1)))))) .nil))
def m_need_fraction : Ss := (.cons (.ite (.not (.call 11 (.cons (.var 0) .nil))) (.cons .rais .nil) .nil) .nil)
def m_fits_chain : Ss := (.cons (.ite (.or (.not (.call 3 (.cons (.var 0) (.cons (.cst (.int (4))) (.cons (.cst (.int (4))) .nil))))) (.not (.blt .all false (.cons (.lc false [5] (.nm 5) (.seq (.var 0)) .nil (.call 11 (.cons (.var 5) .nil))) .nil)))) (.cons (.ret (.cst (.bl false))) .nil) .nil) (.cons (.asg (.tp [1, 2, 3, 4]) (.var 0)) (.cons (.ret (.cmp .eq (.call 7 (.cons (.call 8 (.cons (.var 1) (.cons (.var 4) .nil))) (.cons (.call 8 (.cons (.var 2) (.cons (.var 3) .nil))) .nil))) (.cst k_ONE))) .nil)))
def m_need_chain : Ss := (.cons (.ite (.not (.call 13 (.cons (.var 0) .nil))) (.cons .rais .nil) .nil) .nil)
def m_is_from_none : Ss := (.cons (.ret (.cmp .ge (.idx (.var 0) (.cst (.int (0)))) (.cst (.int (0))))) .nil)
def m_need_load : Ss := (.cons (.ite (.and (.cmp .isn (.var 0) (.cst .non)) (.not (.and (.call 11 (.cons (.var 0) .nil)) (.call 15 (.cons (.var 0) .nil))))) (.cons .rais .nil) .nil) .nil)
def m_joined_chain : Ss := (.cons (.asg (.tp [2, 3, 4, 5]) (.var 0)) (.cons (.asg (.tp [6, 7, 8, 9]) (.var 1)) (.cons (.par 10 11 (.call 6 (.cons (.call 8 (.cons (.var 2) (.cons (.var 6) .nil))) (.cons (.call 8 (.cons (.var 3) (.cons (.var 8) .nil))) .nil))) (.call 6 (.cons (.call 8 (.cons (.var 2) (.cons (.var 7) .nil))) (.cons (.call 8 (.cons (.var 3) (.cons (.var 9) .nil))) .nil)))) (.cons (.ret (.tup (.cons (.var 10) (.cons (.var 11) (.cons (.call 6 (.cons (.call 8 (.cons (.var 4) (.cons (.var 6) .nil))) (.cons (.call 8 (.cons (.var 5) (.cons (.var 8) .nil))) .nil))) (.cons (.call 6 (.cons (.call 8 (.cons (.var 4) (.cons (.var 7) .nil))) (.cons (.call 8 (.cons (.var 5) (.cons (.var 9) .nil))) .nil))) .nil)))))) .nil))))
def m_product_in : Ss := (.cons (.set 1 (.cst k_PLAIN)) (.cons (.for_ (.nm 2) (.seq (.var 0)) (.cons (.set 1 (.call 17 (.cons (.var 1) (.cons (.var 2) .nil)))) .nil)) (.cons (.ret (.var 1)) .nil)))
def m_seen_in : Ss := (.cons (.asg (.tp [2, 3, 4, 5]) (.var 0)) (.cons (.par 6 7 (.var 2) (.var 4)) (.cons (.ite (.cmp .isn (.var 1) (.cst .non)) (.cons (.par 6 7 (.call 6 (.cons (.call 8 (.cons (.var 2) (.cons (.var 1) .nil))) (.cons (.var 3) .nil))) (.call 6 (.cons (.call 8 (.cons (.var 4) (.cons (.var 1) .nil))) (.cons (.var 5) .nil)))) .nil) .nil) (.cons (.ret (.ite (.cmp .ne (.var 7) (.cst k_NONE)) (.call 9 (.cons (.var 6) (.cons (.var 7) .nil))) (.cst .non))) .nil))))
def m_is_told_in : Ss := (.cons (.asg (.tp [1, 2, 3, 4]) (.var 0)) (.cons (.ret (.and (.not (.call 10 (.cons (.var 1) (.cons (.cst k_ONE) .nil)))) (.and (.not (.call 10 (.cons (.var 4) (.cons (.cst k_ONE) .nil)))) (.and (.call 15 (.cons (.var 2) .nil)) (.call 15 (.cons (.var 3) .nil)))))) .nil))
def m_is_chain : Ss := (.cons (.ret (.call 13 (.cons (.var 0) .nil))) .nil)
def m_chain_seen : Ss := (.cons (.exp (.call 14 (.cons (.var 0) .nil))) (.cons (.exp (.call 16 (.cons (.var 1) .nil))) (.cons (.ret (.call 19 (.cons (.var 0) (.cons (.var 1) .nil)))) .nil)))
def m_is_told_chain : Ss := (.cons (.exp (.call 14 (.cons (.var 0) .nil))) (.cons (.ret (.call 20 (.cons (.var 0) .nil))) .nil))
def m_is_lasting_in : Ss := (.cons (.asg (.tp [1, 2, 3, 4]) (.var 0)) (.cons (.ret (.and (.not (.call 10 (.cons (.var 1) (.cons (.cst k_ONE) .nil)))) (.and (.not (.call 10 (.cons (.var 4) (.cons (.cst k_ONE) .nil)))) (.and (.cmp .gt (.idx (.var 2) (.cst (.int (0)))) (.cst (.int (0)))) (.cmp .gt (.idx (.var 3) (.cst (.int (0)))) (.cst (.int (0)))))))) .nil))
def m_need_lasting : Ss := (.cons (.exp (.call 14 (.cons (.var 0) .nil))) (.cons (.ite (.not (.call 24 (.cons (.var 0) .nil))) (.cons .rais .nil) .nil) .nil))
def m_fits_end : Ss := (.cons (.ite (.or (.not (.call 3 (.cons (.var 0) (.cons (.cst (.int (3))) (.cons (.cst (.int (3))) .nil))))) (.not (.blt .all false (.cons (.lc false [5] (.nm 5) (.seq (.var 0)) .nil (.and (.call 0 (.cons (.var 5) .nil)) (.chn .lt .lt (.neg (.var 1)) (.var 5) (.var 1)))) .nil)))) (.cons (.ret (.cst (.bl false))) .nil) .nil) (.cons (.asg (.tp [2, 3, 4]) (.var 0)) (.cons (.ret (.and (.cmp .gt (.var 2) (.cst (.int (0)))) (.and (.cmp .gt (.var 4) (.cst (.int (0)))) (.cmp .eq (.call 4 (.cons (.call 4 (.cons (.var 2) (.cons (.var 3) .nil))) (.cons (.var 4) .nil))) (.cst (.int (1))))))) .nil)))
def m_need_end : Ss := (.cons (.ite (.not (.call 26 (.cons (.var 0) (.cons (.cst k_DIGITS) .nil)))) (.cons .rais .nil) .nil) .nil)
def m_end_in : Ss := (.cons (.asg (.tp [1, 2, 3, 4]) (.var 0)) (.cons (.set 5 (.call 7 (.cons (.var 4) (.cons (.var 1) .nil)))) (.cons (.set 6 (.bin .mul false (.bin .mul false (.idx (.var 2) (.cst (.int (1)))) (.idx (.var 3) (.cst (.int (1))))) (.idx (.var 5) (.cst (.int (1)))))) (.cons (.par3 7 8 9 (.bin .fdiv false (.bin .mul false (.idx (.var 3) (.cst (.int (0)))) (.var 6)) (.idx (.var 3) (.cst (.int (1))))) (.bin .fdiv false (.bin .mul false (.idx (.var 5) (.cst (.int (0)))) (.var 6)) (.idx (.var 5) (.cst (.int (1))))) (.bin .fdiv false (.bin .mul false (.idx (.var 2) (.cst (.int (0)))) (.var 6)) (.idx (.var 2) (.cst (.int (1)))))) (.cons (.set 10 (.call 4 (.cons (.call 4 (.cons (.var 7) (.cons (.var 8) .nil))) (.cons (.var 9) .nil)))) (.cons (.ret (.tup (.cons (.bin .fdiv false (.var 7) (.var 10)) (.cons (.bin .fdiv false (.var 8) (.var 10)) (.cons (.bin .fdiv false (.var 9) (.var 10)) .nil))))) .nil))))))
def m_sign_of : Ss := (.cons (.ret (.bin .sub false (.cmp .gt (.var 0) (.cst (.int (0)))) (.cmp .lt (.var 0) (.cst (.int (0)))))) .nil)
def m_beside_in : Ss := (.cons (.asg (.tp [2, 3, 4]) (.var 0)) (.cons (.asg (.tp [5, 6]) (.var 1)) (.cons (.ite (.cmp .le (.var 5) (.cst (.int (0)))) (.cons (.ret (.cst (.int (1)))) .nil) .nil) (.cons (.ret (.neg (.call 29 (.cons (.bin .sub false (.bin .add false (.bin .mul false (.bin .mul false (.var 2) (.var 5)) (.var 5)) (.bin .mul false (.bin .mul false (.var 3) (.var 5)) (.var 6))) (.bin .mul false (.bin .mul false (.var 4) (.var 6)) (.var 6))) .nil)))) .nil))))
def m_compared : Ss := (.cons (.asg (.tp [2, 3, 4]) (.var 0)) (.cons (.asg (.tp [5, 6, 7]) (.var 1)) (.cons (.par 8 9 (.bin .sub false (.bin .mul false (.var 2) (.var 6)) (.bin .mul false (.var 5) (.var 3))) (.bin .sub false (.bin .mul false (.var 5) (.var 4)) (.bin .mul false (.var 2) (.var 7)))) (.cons (.ite (.cmp .eq (.var 8) (.cst (.int (0)))) (.cons (.ret (.call 29 (.cons (.var 9) .nil))) .nil) .nil) (.cons (.ret (.bin .mul false (.call 30 (.cons (.var 0) (.cons (.call 5 (.cons (.neg (.var 9)) (.cons (.var 8) .nil))) .nil))) (.call 29 (.cons (.var 8) .nil)))) .nil)))))
def m_is_lasting : Ss := (.cons (.exp (.call 14 (.cons (.var 0) .nil))) (.cons (.ret (.call 24 (.cons (.var 0) .nil))) .nil))
def m_end_of_chain : Ss := (.cons (.exp (.call 25 (.cons (.var 0) .nil))) (.cons (.set 1 (.call 28 (.cons (.var 0) .nil))) (.cons (.ite (.not (.call 26 (.cons (.var 1) (.cons (.cst k_DIGITS) .nil)))) (.cons .rais .nil) .nil) (.cons (.ret (.var 1)) .nil))))
def m_end_bounds : Ss := (.cons (.exp (.call 25 (.cons (.var 0) .nil))) (.cons (.exp (.call 2 (.cons (.var 1) (.cons (.cst (.int (1))) (.cons (.cst k_MANY) .nil))))) (.cons (.set 2 (.call 18 (.cons (.bin .mul false (.lst false (.cons (.var 0) .nil)) (.var 1)) .nil))) (.cons (.ret (.tup (.cons (.call 19 (.cons (.var 2) (.cons (.cst k_NONE) .nil))) (.cons (.call 19 (.cons (.var 2) (.cons (.cst .non) .nil))) .nil)))) .nil))))
def m_chain_for_end : Ss := (.cons (.ite (.not (.call 26 (.cons (.var 0) (.cons (.cst k_SHORT) .nil)))) (.cons .rais .nil) .nil) (.cons (.asg (.tp [1, 2, 3]) (.var 0)) (.cons (.set 4 (.ite (.cmp .ne (.var 2) (.cst (.int (0)))) (.blt .abs false (.cons (.var 2) .nil)) (.cst (.int (1))))) (.cons (.par 5 6 (.bin .mul false (.cst (.int (4))) (.var 4)) (.bin .sub false (.bin .add false (.bin .mul false (.var 2) (.var 2)) (.bin .mul false (.bin .mul false (.cst (.int (4))) (.var 1)) (.var 3))) (.bin .mul false (.var 4) (.var 4)))) (.cons (.par 7 8 (.call 5 (.cons (.bin .mul false (.var 5) (.bin .sub false (.var 4) (.var 2))) (.cons (.bin .mul false (.cst (.int (2))) (.var 6)) .nil))) (.call 5 (.cons (.bin .mul false (.var 5) (.bin .add false (.var 4) (.var 2))) (.cons (.bin .mul false (.cst (.int (2))) (.var 6)) .nil)))) (.cons (.ret (.tup (.cons (.call 6 (.cons (.cst k_ONE) (.cons (.var 7) .nil))) (.cons (.call 5 (.cons (.bin .mul false (.var 5) (.var 3)) (.cons (.var 6) .nil))) (.cons (.call 5 (.cons (.bin .mul false (.var 5) (.var 1)) (.cons (.var 6) .nil))) (.cons (.call 6 (.cons (.cst k_ONE) (.cons (.var 8) .nil))) .nil)))))) .nil))))))
def m_is_end_number : Ss := (.cons (.ret (.call 26 (.cons (.var 0) (.cons (.cst k_DIGITS) .nil)))) .nil)
def m_end_beside : Ss := (.cons (.exp (.call 27 (.cons (.var 0) .nil))) (.cons (.exp (.call 12 (.cons (.var 1) .nil))) (.cons (.ret (.tab tb_WORDS (.call 30 (.cons (.var 0) (.cons (.var 1) .nil))))) .nil)))
def m_compare_ends : Ss := (.cons (.exp (.call 27 (.cons (.var 0) .nil))) (.cons (.exp (.call 27 (.cons (.var 1) .nil))) (.cons (.ret (.tab tb_WORDS (.call 31 (.cons (.var 0) (.cons (.var 1) .nil))))) .nil)))
def m__law_cup : Ss := (.cons (.set 1 (.blt .abs false (.cons (.idx (.bin .add false (.blt .list false (.cons (.var 0) .nil)) (.lst false (.cons (.cst (.int (0))) .nil))) (.cst (.int (0)))) .nil))) (.cons (.ret (.lst true (.cons (.ite (.cmp .ge (.var 1) (.bin .pow false (.cst (.int (10))) (.cst (.int (18))))) (.bin .fdiv false (.var 1) (.cst (.int (73)))) (.cst (.int (0)))) (.cons (.bin .add false (.bin .mod false (.blt .int false (.cons (.bin .add false (.bin .mul false (.var 1) (.cst (.int (283)))) (.cst (.int (3907)))) .nil)) (.cst (.int (2077503167)))) (.cst (.int (167)))) .nil)))) .nil))
def m__law_roll : Ss := (.cons (.ite (.cmp .gt (.idx (.var 0) (.cst (.int (0)))) (.cst (.int (0)))) (.cons (.set 2 (.bin .mod false (.blt .int false (.cons (.idx (.var 0) (.cst (.int (0)))) .nil)) (.var 1))) (.cons (.seti (.var 0) (.cst (.int (0))) (.bin .fdiv false (.idx (.var 0) (.cst (.int (0)))) (.var 1))) (.cons (.ret (.var 2)) .nil))) .nil) (.cons (.seti (.var 0) (.cst (.int (1))) (.bin .mod false (.blt .int false (.cons (.bin .add false (.bin .mul false (.idx (.var 0) (.cst (.int (1)))) (.cst (.int (31051)))) (.cst (.int (7993)))) .nil)) (.cst (.int (2147483543))))) (.cons (.set 3 (.bin .mod false (.blt .int false (.cons (.bin .mul false (.idx (.var 0) (.cst (.int (1)))) (.bin .add false (.idx (.var 0) (.cst (.int (1)))) (.cst (.int (229))))) .nil)) (.cst (.int (2147483587))))) (.cons (.ret (.bin .mod false (.blt .int false (.cons (.bin .fdiv false (.var 3) (.cst (.int (821)))) .nil)) (.var 1))) .nil))))
def m__law_sort : Ss := (.cons (.ite (.or (.cmp .is (.var 0) (.cst .non)) (.isi (.var 0) .bool)) (.cons (.ret (.ite (.cmp .is (.var 0) (.cst .non)) (.cst (.int (0))) (.cst (.int (1))))) .nil) .nil) (.cons (.ite (.or (.isi (.var 0) .int) (.isi (.var 0) .str)) (.cons (.ret (.ite (.isi (.var 0) .int) (.cst (.int (2))) (.cst (.int (3))))) .nil) .nil) (.cons (.ret (.ite (.isi (.var 0) .tuple) (.cst (.int (4))) (.ite (.isi (.var 0) .list) (.cst (.int (5))) (.cst (.int (6)))))) .nil)))
def m__law_like : Ss := (.cons (.set 2 (.call 41 (.cons (.var 1) .nil))) (.cons (.ite (.or (.cmp .ne (.call 41 (.cons (.var 0) .nil)) (.var 2)) (.cmp .eq (.var 2) (.cst (.int (6))))) (.cons (.ret (.cst (.bl false))) .nil) .nil) (.cons (.ite (.cmp .isin (.var 2) (.tup (.cons (.cst (.int (4))) (.cons (.cst (.int (5))) .nil)))) (.cons (.ret (.and (.cmp .eq (.blt .len false (.cons (.var 0) .nil)) (.blt .len false (.cons (.var 1) .nil))) (.cmp .eq (.lc false [3, 4] (.tp [3, 4]) (.zip (.var 0) (.var 1)) (.cons (.not (.call 42 (.cons (.var 3) (.cons (.var 4) .nil)))) .nil) (.cst (.int (1)))) (.lst false .nil)))) .nil) .nil) (.cons (.ret (.cmp .eq (.var 0) (.var 1))) .nil))))
def m__law_least : Ss := (.cons (.par 2 3 (.blt .abs false (.cons (.var 0) .nil)) (.blt .abs false (.cons (.var 1) .nil))) (.cons (.whl (.cmp .ne (.var 3) (.cst (.int (0)))) (.cons (.par 2 3 (.var 3) (.bin .mod false (.blt .int false (.cons (.var 2) .nil)) (.var 3))) .nil)) (.cons (.set 4 (.ite (.cmp .lt (.var 1) (.cst (.int (0)))) (.neg (.cst (.int (1)))) (.cst (.int (1))))) (.cons (.ret (.tup (.cons (.blt .int false (.cons (.bin .fdiv false (.bin .mul false (.var 4) (.var 0)) (.var 2)) .nil)) (.cons (.blt .int false (.cons (.bin .fdiv false (.bin .mul false (.var 4) (.var 1)) (.var 2)) .nil)) .nil)))) .nil))))
def m__law_plus : Ss := (.cons (.ret (.call 43 (.cons (.bin .add false (.bin .mul false (.idx (.var 0) (.cst (.int (0)))) (.idx (.var 1) (.cst (.int (1))))) (.bin .mul false (.idx (.var 1) (.cst (.int (0)))) (.idx (.var 0) (.cst (.int (1)))))) (.cons (.bin .mul false (.idx (.var 0) (.cst (.int (1)))) (.idx (.var 1) (.cst (.int (1))))) .nil)))) .nil)
def m__law_minus : Ss := (.cons (.ret (.call 43 (.cons (.bin .sub false (.bin .mul false (.idx (.var 0) (.cst (.int (0)))) (.idx (.var 1) (.cst (.int (1))))) (.bin .mul false (.idx (.var 1) (.cst (.int (0)))) (.idx (.var 0) (.cst (.int (1)))))) (.cons (.bin .mul false (.idx (.var 0) (.cst (.int (1)))) (.idx (.var 1) (.cst (.int (1))))) .nil)))) .nil)
def m__law_times : Ss := (.cons (.ret (.call 43 (.cons (.bin .mul false (.idx (.var 0) (.cst (.int (0)))) (.idx (.var 1) (.cst (.int (0))))) (.cons (.bin .mul false (.idx (.var 0) (.cst (.int (1)))) (.idx (.var 1) (.cst (.int (1))))) .nil)))) .nil)
def m__law_over : Ss := (.cons (.ret (.call 43 (.cons (.bin .mul false (.idx (.var 0) (.cst (.int (0)))) (.idx (.var 1) (.cst (.int (1))))) (.cons (.bin .mul false (.idx (.var 0) (.cst (.int (1)))) (.idx (.var 1) (.cst (.int (0))))) .nil)))) .nil)
def m__law_under : Ss := (.cons (.ret (.cmp .lt (.bin .mul false (.idx (.var 0) (.cst (.int (0)))) (.idx (.var 1) (.cst (.int (1))))) (.bin .mul false (.idx (.var 1) (.cst (.int (0)))) (.idx (.var 0) (.cst (.int (1))))))) .nil)
def m__law_joined : Ss := (.cons (.asg (.tp [2, 3, 4, 5]) (.var 0)) (.cons (.asg (.tp [6, 7, 8, 9]) (.var 1)) (.cons (.set 10 (.tup (.cons (.tup (.cons (.var 2) (.cons (.var 6) (.cons (.var 3) (.cons (.var 8) .nil))))) (.cons (.tup (.cons (.var 2) (.cons (.var 7) (.cons (.var 3) (.cons (.var 9) .nil))))) (.cons (.tup (.cons (.var 4) (.cons (.var 6) (.cons (.var 5) (.cons (.var 8) .nil))))) (.cons (.tup (.cons (.var 4) (.cons (.var 7) (.cons (.var 5) (.cons (.var 9) .nil))))) .nil)))))) (.cons (.ret (.blt .tuple false (.cons (.lc false [11, 12, 13, 14] (.tp [11, 12, 13, 14]) (.seq (.var 10)) .nil (.call 44 (.cons (.call 46 (.cons (.var 11) (.cons (.var 12) .nil))) (.cons (.call 46 (.cons (.var 13) (.cons (.var 14) .nil))) .nil)))) .nil))) .nil))))
def m__law_any_chain : Ss := (.cons (.asg (.ls [2, 3, 4]) (.lc false [5] (.nm 5) (.rng (.cst (.int 0)) (.cst (.int (3)))) .nil (.call 43 (.cons (.bin .sub false (.call 40 (.cons (.var 0) (.cons (.bin .add false (.bin .mul false (.cst (.int (2))) (.var 1)) (.cst (.int (1)))) .nil))) (.var 1)) (.cons (.bin .add false (.cst (.int (1))) (.call 40 (.cons (.var 0) (.cons (.var 1) .nil)))) .nil))))) (.cons (.ite (.cmp .eq (.var 2) (.tup (.cons (.cst (.int (0))) (.cons (.cst (.int (1))) .nil)))) (.cons (.set 3 (.ite (.cmp .eq (.var 3) (.tup (.cons (.cst (.int (0))) (.cons (.cst (.int (1))) .nil)))) (.tup (.cons (.cst (.int (1))) (.cons (.cst (.int (1))) .nil))) (.var 3))) (.cons (.ret (.tup (.cons (.var 2) (.cons (.var 3) (.cons (.call 47 (.cons (.tup (.cons (.neg (.cst (.int (1)))) (.cons (.cst (.int (1))) .nil))) (.cons (.var 3) .nil))) (.cons (.var 4) .nil)))))) .nil)) .nil) (.cons (.ret (.tup (.cons (.var 2) (.cons (.var 3) (.cons (.var 4) (.cons (.call 47 (.cons (.call 44 (.cons (.tup (.cons (.cst (.int (1))) (.cons (.cst (.int (1))) .nil))) (.cons (.call 46 (.cons (.var 3) (.cons (.var 4) .nil))) .nil))) (.cons (.var 2) .nil))) .nil)))))) .nil)))
def m__law_number : Ss := (.cons (.ite (.cmp .eq (.call 40 (.cons (.var 0) (.cons (.cst (.int (5))) .nil))) (.cst (.int (0)))) (.cons (.ret (.tup (.cons (.cst (.int (0))) (.cons (.cst (.int (1))) .nil)))) .nil) .nil) (.cons (.ret (.call 43 (.cons (.bin .add false (.cst (.int (1))) (.call 40 (.cons (.var 0) (.cons (.var 1) .nil)))) (.cons (.bin .add false (.cst (.int (1))) (.call 40 (.cons (.var 0) (.cons (.var 1) .nil)))) .nil)))) .nil))
def m__law_ladder : Ss := (.cons (.ret (.blt .tuple false (.cons (.lc false [3] (.nm 3) (.rng (.cst (.int 0)) (.call 40 (.cons (.var 0) (.cons (.bin .add false (.var 1) (.cst (.int (1)))) .nil)))) .nil (.tup (.cons (.call 51 (.cons (.var 0) (.cons (.var 2) .nil))) (.cons (.call 51 (.cons (.var 0) (.cons (.var 2) .nil))) .nil)))) .nil))) .nil)
def m__law_chain_of : Ss := (.cons (.set 1 (.tup (.cons (.tup (.cons (.cst (.int (1))) (.cons (.cst (.int (1))) .nil))) (.cons (.tup (.cons (.cst (.int (0))) (.cons (.cst (.int (1))) .nil))) (.cons (.tup (.cons (.cst (.int (0))) (.cons (.cst (.int (1))) .nil))) (.cons (.tup (.cons (.cst (.int (1))) (.cons (.cst (.int (1))) .nil))) .nil)))))) (.cons (.for_ (.tp [2, 3]) (.seq (.var 0)) (.cons (.set 1 (.call 49 (.cons (.var 1) (.cons (.tup (.cons (.tup (.cons (.cst (.int (1))) (.cons (.cst (.int (1))) .nil))) (.cons (.var 2) (.cons (.tup (.cons (.cst (.int (0))) (.cons (.cst (.int (1))) .nil))) (.cons (.tup (.cons (.cst (.int (1))) (.cons (.cst (.int (1))) .nil))) .nil))))) .nil)))) (.cons (.set 1 (.call 49 (.cons (.var 1) (.cons (.tup (.cons (.tup (.cons (.cst (.int (1))) (.cons (.cst (.int (1))) .nil))) (.cons (.tup (.cons (.cst (.int (0))) (.cons (.cst (.int (1))) .nil))) (.cons (.var 3) (.cons (.tup (.cons (.cst (.int (1))) (.cons (.cst (.int (1))) .nil))) .nil))))) .nil)))) .nil))) (.cons (.ret (.var 1)) .nil)))
def m__law_divisor : Ss := (.cons (.par 0 1 (.blt .abs false (.cons (.var 0) .nil)) (.blt .abs false (.cons (.var 1) .nil))) (.cons (.whl (.cmp .ne (.var 1) (.cst (.int (0)))) (.cons (.par 0 1 (.var 1) (.bin .mod false (.blt .int false (.cons (.var 0) .nil)) (.var 1))) .nil)) (.cons (.ret (.var 0)) .nil)))
def m__law_end : Ss := (.cons (.asg (.tp [1, 2, 3, 4]) (.var 0)) (.cons (.set 5 (.call 45 (.cons (.var 4) (.cons (.var 1) .nil)))) (.cons (.set 6 (.bin .mul false (.bin .mul false (.idx (.var 2) (.cst (.int (1)))) (.idx (.var 3) (.cst (.int (1))))) (.idx (.var 5) (.cst (.int (1)))))) (.cons (.set 7 (.lst false (.cons (.blt .int false (.cons (.bin .fdiv false (.bin .mul false (.idx (.var 3) (.cst (.int (0)))) (.var 6)) (.idx (.var 3) (.cst (.int (1))))) .nil)) (.cons (.blt .int false (.cons (.bin .fdiv false (.bin .mul false (.idx (.var 5) (.cst (.int (0)))) (.var 6)) (.idx (.var 5) (.cst (.int (1))))) .nil)) (.cons (.blt .int false (.cons (.bin .fdiv false (.bin .mul false (.idx (.var 2) (.cst (.int (0)))) (.var 6)) (.idx (.var 2) (.cst (.int (1))))) .nil)) .nil))))) (.cons (.set 8 (.call 54 (.cons (.call 54 (.cons (.idx (.var 7) (.cst (.int (0)))) (.cons (.idx (.var 7) (.cst (.int (1)))) .nil))) (.cons (.idx (.var 7) (.cst (.int (2)))) .nil)))) (.cons (.ret (.blt .tuple false (.cons (.lc false [9] (.nm 9) (.seq (.var 7)) .nil (.blt .int false (.cons (.bin .fdiv false (.var 9) (.var 8)) .nil))) .nil))) .nil))))))
def m__law_worth : Ss := (.cons (.asg (.tp [2, 3]) (.var 1)) (.cons (.ret (.bin .sub false (.bin .add false (.bin .mul false (.bin .mul false (.idx (.var 0) (.cst (.int (0)))) (.var 2)) (.var 2)) (.bin .mul false (.bin .mul false (.idx (.var 0) (.cst (.int (1)))) (.var 2)) (.var 3))) (.bin .mul false (.bin .mul false (.idx (.var 0) (.cst (.int (2)))) (.var 3)) (.var 3)))) .nil))
def m__law_right : Ss := (.cons (.asg (.tp [2, 3, 4, 5]) (.var 1)) (.cons (.set 6 (.and (.not (.call 48 (.cons (.var 2) (.cons (.tup (.cons (.cst (.int (1))) (.cons (.cst (.int (1))) .nil))) .nil)))) (.and (.not (.call 48 (.cons (.var 5) (.cons (.tup (.cons (.cst (.int (1))) (.cons (.cst (.int (1))) .nil))) .nil)))) (.and (.cmp .gt (.idx (.var 3) (.cst (.int (0)))) (.cst (.int (0)))) (.cmp .gt (.idx (.var 4) (.cst (.int (0)))) (.cst (.int (0)))))))) (.cons (.ite (.or (.not (.call 42 (.cons (.lst false (.cons (.call 21 (.cons (.var 1) .nil)) (.cons (.call 32 (.cons (.var 1) .nil)) .nil))) (.cons (.lst false (.cons (.cst (.bl true)) (.cons (.var 6) .nil))) .nil)))) (.and (.var 6) (.cmp .isn (.call 23 (.cons (.var 1) .nil)) (.cst (.bl true))))) (.cons (.ret (.cst (.bl false))) .nil) .nil) (.cons (.ite (.not (.var 6)) (.cons (.ret (.cst (.bl true))) .nil) .nil) (.cons (.par 7 8 (.call 33 (.cons (.var 1) .nil)) (.cst .non)) (.cons (.ite (.not (.call 42 (.cons (.lst false (.cons (.var 7) (.cons (.call 36 (.cons (.var 7) .nil)) .nil))) (.cons (.lst false (.cons (.call 55 (.cons (.var 1) .nil)) (.cons (.cst (.bl true)) .nil))) .nil)))) (.cons (.ret (.cst (.bl false))) .nil) .nil) (.cons (.set 9 (.tup (.cons (.tup (.cons (.cst (.int (1))) (.cons (.cst (.int (1))) .nil))) (.cons (.tup (.cons (.cst (.int (0))) (.cons (.cst (.int (1))) .nil))) (.cons (.tup (.cons (.cst (.int (0))) (.cons (.cst (.int (1))) .nil))) (.cons (.tup (.cons (.cst (.int (1))) (.cons (.cst (.int (1))) .nil))) .nil)))))) (.cons (.for_ (.nm 10) (.rng (.cst (.int (1))) (.bin .add false (.cst (.int (4))) (.call 40 (.cons (.var 0) (.cons (.cst (.int (4))) .nil))))) (.cons (.set 9 (.call 49 (.cons (.var 9) (.cons (.var 1) .nil)))) (.cons (.asg (.tp [11, 12]) (.call 34 (.cons (.var 1) (.cons (.var 10) .nil)))) (.cons (.ite (.not (.call 42 (.cons (.lst false (.cons (.var 11) (.cons (.var 12) .nil))) (.cons (.lst false (.cons (.call 47 (.cons (.idx (.var 9) (.cst (.int (1)))) (.cons (.idx (.var 9) (.cst (.int (3)))) .nil))) (.cons (.call 47 (.cons (.idx (.var 9) (.cst (.int (0)))) (.cons (.idx (.var 9) (.cst (.int (2)))) .nil))) .nil))) .nil)))) (.cons (.ret (.cst (.bl false))) .nil) .nil) (.cons (.ite (.or (.cmp .ge (.call 56 (.cons (.var 7) (.cons (.var 11) .nil))) (.cst (.int (0)))) (.cmp .le (.call 56 (.cons (.var 7) (.cons (.var 12) .nil))) (.cst (.int (0))))) (.cons (.ret (.cst (.bl false))) .nil) .nil) (.cons (.ite (.and (.cmp .isn (.var 8) (.cst .non)) (.or (.not (.call 48 (.cons (.idx (.var 8) (.cst (.int (0)))) (.cons (.var 11) .nil)))) (.not (.call 48 (.cons (.var 12) (.cons (.idx (.var 8) (.cst (.int (1)))) .nil)))))) (.cons (.ret (.cst (.bl false))) .nil) .nil) (.cons (.set 8 (.tup (.cons (.var 11) (.cons (.var 12) .nil)))) (.cons (.ite (.and (.cmp .lt (.blt .max false (.cons (.idx (.var 11) (.cst (.int (0)))) (.cons (.idx (.var 11) (.cst (.int (1)))) (.cons (.idx (.var 12) (.cst (.int (0)))) (.cons (.idx (.var 12) (.cst (.int (1)))) .nil))))) (.bin .pow false (.cst (.int (10))) (.cst (.int (40))))) (.not (.call 42 (.cons (.lst false (.cons (.call 37 (.cons (.var 7) (.cons (.var 11) .nil))) (.cons (.call 37 (.cons (.var 7) (.cons (.var 12) .nil))) .nil))) (.cons (.lst false (.cons (.cst (.str "greater")) (.cons (.cst (.str "less")) .nil))) .nil))))) (.cons (.ret (.cst (.bl false))) .nil) .nil) .nil)))))))) (.cons (.set 13 (.call 43 (.cons (.bin .add false (.cst (.int (1))) (.call 40 (.cons (.var 0) (.cons (.cst (.int (40))) .nil)))) (.cons (.bin .add false (.cst (.int (1))) (.call 40 (.cons (.var 0) (.cons (.cst (.int (20))) .nil)))) .nil)))) (.cons (.par 14 15 (.call 22 (.cons (.var 1) (.cons (.var 13) .nil))) (.call 56 (.cons (.var 7) (.cons (.var 13) .nil)))) (.cons (.ite (.cmp .eq (.var 15) (.cst (.int (0)))) (.cons (.ret (.cmp .eq (.var 14) (.var 13))) .nil) .nil) (.cons (.ret (.and (.cmp .eq (.call 48 (.cons (.var 13) (.cons (.var 14) .nil))) (.cmp .lt (.var 15) (.cst (.int (0))))) (.cmp .eq (.cmp .lt (.call 56 (.cons (.var 7) (.cons (.var 14) .nil))) (.cst (.int (0)))) (.cmp .lt (.var 15) (.cst (.int (0))))))) .nil))))))))))))
def m__law_back_right : Ss := (.cons (.set 1 (.call 35 (.cons (.var 0) .nil))) (.cons (.ite (.or (.cmp .isn (.call 21 (.cons (.var 1) .nil)) (.cst (.bl true))) (.cmp .isn (.call 32 (.cons (.var 1) .nil)) (.cst (.bl true)))) (.cons (.ret (.cst (.bl false))) .nil) .nil) (.cons (.ret (.call 42 (.cons (.lst false (.cons (.call 55 (.cons (.var 1) .nil)) (.cons (.call 33 (.cons (.var 1) .nil)) (.cons (.call 38 (.cons (.call 33 (.cons (.var 1) .nil)) (.cons (.var 0) .nil))) .nil)))) (.cons (.lst false (.cons (.var 0) (.cons (.var 0) (.cons (.cst (.str "same")) .nil)))) .nil)))) .nil)))
def m__law_drawn : Ss := (.cons (.set 2 (.tup (.cons (.bin .add false (.cst (.int (1))) (.call 40 (.cons (.var 0) (.cons (.var 1) .nil)))) (.cons (.bin .sub false (.call 40 (.cons (.var 0) (.cons (.bin .add false (.bin .mul false (.cst (.int (2))) (.var 1)) (.cst (.int (1)))) .nil))) (.var 1)) (.cons (.bin .add false (.cst (.int (1))) (.call 40 (.cons (.var 0) (.cons (.var 1) .nil)))) .nil))))) (.cons (.set 3 (.call 54 (.cons (.call 54 (.cons (.idx (.var 2) (.cst (.int (0)))) (.cons (.idx (.var 2) (.cst (.int (1)))) .nil))) (.cons (.idx (.var 2) (.cst (.int (2)))) .nil)))) (.cons (.ret (.blt .tuple false (.cons (.lc false [4] (.nm 4) (.seq (.var 2)) .nil (.blt .int false (.cons (.bin .fdiv false (.var 4) (.var 3)) .nil))) .nil))) .nil)))
def m_law : Ss := (.cons (.set 1 (.call 39 (.cons (.var 0) .nil))) (.cons (.set 2 (.tup (.cons (.tup (.cons (.cst (.int (2))) (.cons (.cst (.int (1))) .nil))) (.cons (.tup (.cons (.cst (.int (1))) (.cons (.cst (.int (1))) .nil))) (.cons (.tup (.cons (.cst (.int (1))) (.cons (.cst (.int (1))) .nil))) (.cons (.tup (.cons (.cst (.int (1))) (.cons (.cst (.int (1))) .nil))) .nil)))))) (.cons (.set 3 (.lst false (.cons (.call 32 (.cons (.var 2) .nil)) (.cons (.call 32 (.cons (.tup (.cons (.tup (.cons (.cst (.int (1))) (.cons (.cst (.int (1))) .nil))) (.cons (.tup (.cons (.cst (.int (3))) (.cons (.cst (.int (1))) .nil))) (.cons (.tup (.cons (.cst (.int (0))) (.cons (.cst (.int (1))) .nil))) (.cons (.tup (.cons (.cst (.int (1))) (.cons (.cst (.int (1))) .nil))) .nil))))) .nil)) (.cons (.call 33 (.cons (.var 2) .nil)) (.cons (.call 34 (.cons (.var 2) (.cons (.cst (.int (1))) .nil))) (.cons (.call 34 (.cons (.var 2) (.cons (.cst (.int (2))) .nil))) .nil))))))) (.cons (.set 3 (.bin .add false (.var 3) (.lst false (.cons (.call 33 (.cons (.call 35 (.cons (.tup (.cons (.cst (.int (1))) (.cons (.cst (.int (0))) (.cons (.cst (.int (2))) .nil)))) .nil)) .nil)) (.cons (.call 33 (.cons (.tup (.cons (.tup (.cons (.cst (.int (2))) (.cons (.cst (.int (1))) .nil))) (.cons (.tup (.cons (.cst (.int (3))) (.cons (.cst (.int (2))) .nil))) (.cons (.tup (.cons (.cst (.int (2))) (.cons (.cst (.int (1))) .nil))) (.cons (.tup (.cons (.cst (.int (2))) (.cons (.cst (.int (1))) .nil))) .nil))))) .nil)) .nil))))) (.cons (.ite (.not (.call 42 (.cons (.var 3) (.cons (.lst false (.cons (.cst (.bl true)) (.cons (.cst (.bl false)) (.cons (.tup (.cons (.cst (.int (1))) (.cons (.neg (.cst (.int (1)))) (.cons (.cst (.int (1))) .nil)))) (.cons (.tup (.cons (.tup (.cons (.cst (.int (1))) (.cons (.cst (.int (1))) .nil))) (.cons (.tup (.cons (.cst (.int (2))) (.cons (.cst (.int (1))) .nil))) .nil))) (.cons (.tup (.cons (.tup (.cons (.cst (.int (3))) (.cons (.cst (.int (2))) .nil))) (.cons (.tup (.cons (.cst (.int (5))) (.cons (.cst (.int (3))) .nil))) .nil))) (.cons (.tup (.cons (.cst (.int (1))) (.cons (.cst (.int (0))) (.cons (.cst (.int (2))) .nil)))) (.cons (.tup (.cons (.cst (.int (4))) (.cons (.cst (.int (0))) (.cons (.cst (.int (3))) .nil)))) .nil)))))))) .nil)))) (.cons (.ret (.cst (.bl false))) .nil) .nil) (.cons (.for_ (.tp [4, 5]) (.seq (.tup (.cons (.tup (.cons (.cst (.int (2))) (.cons (.cst (.int (9))) .nil))) (.cons (.tup (.cons (.cst (.int (4))) (.cons (.cst (.int (5))) .nil))) (.cons (.tup (.cons (.cst (.int (6))) (.cons (.cst (.int (3))) .nil))) .nil))))) (.cons (.ite (.not (.call 57 (.cons (.var 1) (.cons (.call 53 (.cons (.call 52 (.cons (.var 1) (.cons (.var 4) (.cons (.var 5) .nil)))) .nil)) .nil)))) (.cons (.ret (.cst (.bl false))) .nil) .nil) .nil)) (.cons (.set 6 (.tup (.cons (.tup (.cons (.call 51 (.cons (.var 1) (.cons (.cst (.int (9))) .nil))) (.cons (.tup (.cons (.cst (.int (1))) (.cons (.cst (.int (1))) .nil))) .nil))) (.cons (.tup (.cons (.tup (.cons (.cst (.int (1))) (.cons (.cst (.int (2))) .nil))) (.cons (.call 51 (.cons (.var 1) (.cons (.cst (.int (9))) .nil))) .nil))) .nil)))) (.cons (.ite (.or (.not (.call 57 (.cons (.var 1) (.cons (.call 50 (.cons (.var 1) (.cons (.cst (.int (5))) .nil))) .nil)))) (.not (.call 57 (.cons (.var 1) (.cons (.call 53 (.cons (.var 6) .nil)) .nil))))) (.cons (.ret (.cst (.bl false))) .nil) .nil) (.cons (.for_ (.nm 5) (.seq (.tup (.cons (.cst (.int (4))) (.cons (.cst (.int (60))) (.cons (.bin .pow false (.cst (.int (10))) (.cst (.int (6)))) (.cons (.bin .sub false (.bin .pow false (.cst (.int (10))) (.cst (.int (12)))) (.cst (.int (1)))) .nil)))))) (.cons (.ite (.or (.not (.call 58 (.cons (.call 59 (.cons (.var 1) (.cons (.var 5) .nil))) .nil))) (.not (.call 58 (.cons (.tup (.cons (.cst (.int (1))) (.cons (.cst (.int (0))) (.cons (.bin .add false (.cst (.int (1))) (.call 40 (.cons (.var 1) (.cons (.var 5) .nil)))) .nil)))) .nil)))) (.cons (.ret (.cst (.bl false))) .nil) .nil) .nil)) (.cons (.par 7 8 (.call 43 (.cons (.bin .add false (.cst (.int (1))) (.call 40 (.cons (.var 1) (.cons (.cst (.int (12))) .nil)))) (.cons (.bin .add false (.cst (.int (1))) (.call 40 (.cons (.var 1) (.cons (.cst (.int (12))) .nil)))) .nil))) (.call 43 (.cons (.bin .add false (.cst (.int (1))) (.call 40 (.cons (.var 1) (.cons (.cst (.int (12))) .nil)))) (.cons (.bin .add false (.cst (.int (1))) (.call 40 (.cons (.var 1) (.cons (.cst (.int (12))) .nil)))) .nil)))) (.cons (.set 9 (.call 33 (.cons (.call 53 (.cons (.tup (.cons (.tup (.cons (.var 7) (.cons (.var 8) .nil))) .nil)) .nil)) .nil))) (.cons (.ret (.call 42 (.cons (.lst false (.cons (.call 43 (.cons (.neg (.idx (.var 9) (.cst (.int (1))))) (.cons (.idx (.var 9) (.cst (.int (0)))) .nil))) (.cons (.call 43 (.cons (.idx (.var 9) (.cst (.int (2)))) (.cons (.idx (.var 9) (.cst (.int (0)))) .nil))) .nil))) (.cons (.lst false (.cons (.var 7) (.cons (.call 47 (.cons (.var 7) (.cons (.var 8) .nil))) .nil))) .nil)))) .nil))))))))))))
def prog : List Fn := [⟨1, 1, false, m_is_integer⟩,
  ⟨3, 3, false, m_is_whole⟩,
  ⟨3, 3, false, m_need_whole⟩,
  ⟨3, 3, false, m_is_tuple_of⟩,
  ⟨2, 2, false, m_divisor_of⟩,
  ⟨3, 2, false, m_lowest⟩,
  ⟨2, 2, false, m_sum_of⟩,
  ⟨2, 2, false, m_less_by⟩,
  ⟨2, 2, false, m_product_of⟩,
  ⟨2, 2, false, m_part_of⟩,
  ⟨2, 2, false, m_is_under⟩,
  ⟨2, 1, false, m_fits_fraction⟩,
  ⟨1, 1, false, m_need_fraction⟩,
  ⟨6, 1, false, m_fits_chain⟩,
  ⟨1, 1, false, m_need_chain⟩,
  ⟨1, 1, false, m_is_from_none⟩,
  ⟨1, 1, false, m_need_load⟩,
  ⟨12, 2, false, m_joined_chain⟩,
  ⟨3, 1, false, m_product_in⟩,
  ⟨8, 2, false, m_seen_in⟩,
  ⟨5, 1, false, m_is_told_in⟩,
  ⟨1, 1, false, m_is_chain⟩,
  ⟨2, 2, false, m_chain_seen⟩,
  ⟨1, 1, false, m_is_told_chain⟩,
  ⟨5, 1, false, m_is_lasting_in⟩,
  ⟨1, 1, false, m_need_lasting⟩,
  ⟨6, 2, false, m_fits_end⟩,
  ⟨1, 1, false, m_need_end⟩,
  ⟨11, 1, false, m_end_in⟩,
  ⟨1, 1, false, m_sign_of⟩,
  ⟨7, 2, false, m_beside_in⟩,
  ⟨10, 2, false, m_compared⟩,
  ⟨1, 1, false, m_is_lasting⟩,
  ⟨2, 1, false, m_end_of_chain⟩,
  ⟨3, 2, false, m_end_bounds⟩,
  ⟨9, 1, false, m_chain_for_end⟩,
  ⟨1, 1, false, m_is_end_number⟩,
  ⟨2, 2, false, m_end_beside⟩,
  ⟨2, 2, false, m_compare_ends⟩,
  ⟨2, 1, true, m__law_cup⟩,
  ⟨4, 2, false, m__law_roll⟩,
  ⟨1, 1, false, m__law_sort⟩,
  ⟨5, 2, false, m__law_like⟩,
  ⟨5, 2, false, m__law_least⟩,
  ⟨2, 2, false, m__law_plus⟩,
  ⟨2, 2, false, m__law_minus⟩,
  ⟨2, 2, false, m__law_times⟩,
  ⟨2, 2, false, m__law_over⟩,
  ⟨2, 2, false, m__law_under⟩,
  ⟨15, 2, false, m__law_joined⟩,
  ⟨6, 2, false, m__law_any_chain⟩,
  ⟨2, 2, false, m__law_number⟩,
  ⟨4, 3, false, m__law_ladder⟩,
  ⟨4, 1, false, m__law_chain_of⟩,
  ⟨2, 2, false, m__law_divisor⟩,
  ⟨10, 1, false, m__law_end⟩,
  ⟨4, 2, false, m__law_worth⟩,
  ⟨16, 2, false, m__law_right⟩,
  ⟨2, 1, false, m__law_back_right⟩,
  ⟨5, 2, false, m__law_drawn⟩,
  ⟨10, 1, false, m_law⟩]
def names : List Str := [Str.ofString "is_integer", Str.ofString "is_whole", Str.ofString "need_whole", Str.ofString "is_tuple_of", Str.ofString "divisor_of", Str.ofString "lowest", Str.ofString "sum_of", Str.ofString "less_by", Str.ofString "product_of", Str.ofString "part_of", Str.ofString "is_under", Str.ofString "fits_fraction", Str.ofString "need_fraction", Str.ofString "fits_chain", Str.ofString "need_chain", Str.ofString "is_from_none", Str.ofString "need_load", Str.ofString "joined_chain", Str.ofString "product_in", Str.ofString "seen_in", Str.ofString "is_told_in", Str.ofString "is_chain", Str.ofString "chain_seen", Str.ofString "is_told_chain", Str.ofString "is_lasting_in", Str.ofString "need_lasting", Str.ofString "fits_end", Str.ofString "need_end", Str.ofString "end_in", Str.ofString "sign_of", Str.ofString "beside_in", Str.ofString "compared", Str.ofString "is_lasting", Str.ofString "end_of_chain", Str.ofString "end_bounds", Str.ofString "chain_for_end", Str.ofString "is_end_number", Str.ofString "end_beside", Str.ofString "compare_ends", Str.ofString "_law_cup", Str.ofString "_law_roll", Str.ofString "_law_sort", Str.ofString "_law_like", Str.ofString "_law_least", Str.ofString "_law_plus", Str.ofString "_law_minus", Str.ofString "_law_times", Str.ofString "_law_over", Str.ofString "_law_under", Str.ofString "_law_joined", Str.ofString "_law_any_chain", Str.ofString "_law_number", Str.ofString "_law_ladder", Str.ofString "_law_chain_of", Str.ofString "_law_divisor", Str.ofString "_law_end", Str.ofString "_law_worth", Str.ofString "_law_right", Str.ofString "_law_back_right", Str.ofString "_law_drawn", Str.ofString "law"]
def consts : List (Str × PV) := [("DIGITS", k_DIGITS), ("ONE", k_ONE), ("PLAIN", k_PLAIN), ("NONE", k_NONE), ("MANY", k_MANY), ("SHORT", k_SHORT)]
def blts : List Str := ["isinstance", "bool", "int", "len", "tuple", "abs", "all", "list", "str", "zip", "range", "max"]
abbrev s_is_integer : Stmt := topS 10
theorem sc_is_integer : FnScope ["value"] ["value"] (defScope s_is_integer) := ⟨rfl, rfl, rfl, by decide +kernel, rfl, by decide +kernel, by decide +kernel⟩
abbrev s_is_whole : Stmt := topS 11
theorem sc_is_whole : FnScope ["value", "low", "high"] ["value", "low", "high"] (defScope s_is_whole) := ⟨rfl, rfl, rfl, by decide +kernel, rfl, by decide +kernel, by decide +kernel⟩
abbrev s_need_whole : Stmt := topS 12
theorem sc_need_whole : FnScope ["value", "low", "high"] ["value", "low", "high"] (defScope s_need_whole) := ⟨rfl, rfl, rfl, by decide +kernel, rfl, by decide +kernel, by decide +kernel⟩
abbrev s_is_tuple_of : Stmt := topS 13
theorem sc_is_tuple_of : FnScope ["value", "low", "high"] ["value", "low", "high"] (defScope s_is_tuple_of) := ⟨rfl, rfl, rfl, by decide +kernel, rfl, by decide +kernel, by decide +kernel⟩
abbrev s_divisor_of : Stmt := topS 14
theorem sc_divisor_of : FnScope ["one", "other"] ["one", "other"] (defScope s_divisor_of) := ⟨rfl, rfl, rfl, by decide +kernel, rfl, by decide +kernel, by decide +kernel⟩
abbrev s_lowest : Stmt := topS 15
theorem sc_lowest : FnScope ["above", "below", "part"] ["above", "below"] (defScope s_lowest) := ⟨rfl, rfl, rfl, by decide +kernel, rfl, by decide +kernel, by decide +kernel⟩
abbrev s_sum_of : Stmt := topS 16
theorem sc_sum_of : FnScope ["one", "other"] ["one", "other"] (defScope s_sum_of) := ⟨rfl, rfl, rfl, by decide +kernel, rfl, by decide +kernel, by decide +kernel⟩
abbrev s_less_by : Stmt := topS 17
theorem sc_less_by : FnScope ["one", "other"] ["one", "other"] (defScope s_less_by) := ⟨rfl, rfl, rfl, by decide +kernel, rfl, by decide +kernel, by decide +kernel⟩
abbrev s_product_of : Stmt := topS 18
theorem sc_product_of : FnScope ["one", "other"] ["one", "other"] (defScope s_product_of) := ⟨rfl, rfl, rfl, by decide +kernel, rfl, by decide +kernel, by decide +kernel⟩
abbrev s_part_of : Stmt := topS 19
theorem sc_part_of : FnScope ["one", "other"] ["one", "other"] (defScope s_part_of) := ⟨rfl, rfl, rfl, by decide +kernel, rfl, by decide +kernel, by decide +kernel⟩
abbrev s_is_under : Stmt := topS 20
theorem sc_is_under : FnScope ["one", "other"] ["one", "other"] (defScope s_is_under) := ⟨rfl, rfl, rfl, by decide +kernel, rfl, by decide +kernel, by decide +kernel⟩
abbrev s_fits_fraction : Stmt := topS 21
theorem sc_fits_fraction : FnScope ["value", "number"] ["value"] (defScope s_fits_fraction) := ⟨rfl, rfl, rfl, by decide +kernel, rfl, by decide +kernel, by decide +kernel⟩
abbrev s_need_fraction : Stmt := topS 22
theorem sc_need_fraction : FnScope ["value"] ["value"] (defScope s_need_fraction) := ⟨rfl, rfl, rfl, by decide +kernel, rfl, by decide +kernel, by decide +kernel⟩
abbrev s_fits_chain : Stmt := topS 26
theorem sc_fits_chain : FnScope ["value", "a", "b", "c", "d", "number"] ["value"] (defScope s_fits_chain) := ⟨rfl, rfl, rfl, by decide +kernel, rfl, by decide +kernel, by decide +kernel⟩
abbrev s_need_chain : Stmt := topS 27
theorem sc_need_chain : FnScope ["chain"] ["chain"] (defScope s_need_chain) := ⟨rfl, rfl, rfl, by decide +kernel, rfl, by decide +kernel, by decide +kernel⟩
abbrev s_is_from_none : Stmt := topS 28
theorem sc_is_from_none : FnScope ["fraction"] ["fraction"] (defScope s_is_from_none) := ⟨rfl, rfl, rfl, by decide +kernel, rfl, by decide +kernel, by decide +kernel⟩
abbrev s_need_load : Stmt := topS 29
theorem sc_need_load : FnScope ["load"] ["load"] (defScope s_need_load) := ⟨rfl, rfl, rfl, by decide +kernel, rfl, by decide +kernel, by decide +kernel⟩
abbrev s_joined_chain : Stmt := topS 30
theorem sc_joined_chain : FnScope ["one", "other", "a", "b", "c", "d", "e", "f", "g", "h", "first", "second"] ["one", "other"] (defScope s_joined_chain) := ⟨rfl, rfl, rfl, by decide +kernel, rfl, by decide +kernel, by decide +kernel⟩
abbrev s_product_in : Stmt := topS 31
theorem sc_product_in : FnScope ["chains", "found", "chain"] ["chains"] (defScope s_product_in) := ⟨rfl, rfl, rfl, by decide +kernel, rfl, by decide +kernel, by decide +kernel⟩
abbrev s_seen_in : Stmt := topS 32
theorem sc_seen_in : FnScope ["chain", "load", "a", "b", "c", "d", "above", "below"] ["chain", "load"] (defScope s_seen_in) := ⟨rfl, rfl, rfl, by decide +kernel, rfl, by decide +kernel, by decide +kernel⟩
abbrev s_is_told_in : Stmt := topS 33
theorem sc_is_told_in : FnScope ["chain", "a", "b", "c", "d"] ["chain"] (defScope s_is_told_in) := ⟨rfl, rfl, rfl, by decide +kernel, rfl, by decide +kernel, by decide +kernel⟩
abbrev s_is_chain : Stmt := topS 34
theorem sc_is_chain : FnScope ["value"] ["value"] (defScope s_is_chain) := ⟨rfl, rfl, rfl, by decide +kernel, rfl, by decide +kernel, by decide +kernel⟩
abbrev s_chain_seen : Stmt := topS 35
theorem sc_chain_seen : FnScope ["chain", "load"] ["chain", "load"] (defScope s_chain_seen) := ⟨rfl, rfl, rfl, by decide +kernel, rfl, by decide +kernel, by decide +kernel⟩
abbrev s_is_told_chain : Stmt := topS 36
theorem sc_is_told_chain : FnScope ["chain"] ["chain"] (defScope s_is_told_chain) := ⟨rfl, rfl, rfl, by decide +kernel, rfl, by decide +kernel, by decide +kernel⟩
abbrev s_is_lasting_in : Stmt := topS 41
theorem sc_is_lasting_in : FnScope ["chain", "a", "b", "c", "d"] ["chain"] (defScope s_is_lasting_in) := ⟨rfl, rfl, rfl, by decide +kernel, rfl, by decide +kernel, by decide +kernel⟩
abbrev s_need_lasting : Stmt := topS 42
theorem sc_need_lasting : FnScope ["chain"] ["chain"] (defScope s_need_lasting) := ⟨rfl, rfl, rfl, by decide +kernel, rfl, by decide +kernel, by decide +kernel⟩
abbrev s_fits_end : Stmt := topS 43
theorem sc_fits_end : FnScope ["value", "most", "x", "y", "z", "number"] ["value", "most"] (defScope s_fits_end) := ⟨rfl, rfl, rfl, by decide +kernel, rfl, by decide +kernel, by decide +kernel⟩
abbrev s_need_end : Stmt := topS 44
theorem sc_need_end : FnScope ["end"] ["end"] (defScope s_need_end) := ⟨rfl, rfl, rfl, by decide +kernel, rfl, by decide +kernel, by decide +kernel⟩
abbrev s_end_in : Stmt := topS 45
theorem sc_end_in : FnScope ["chain", "a", "b", "c", "d", "middle", "times", "x", "y", "z", "part"] ["chain"] (defScope s_end_in) := ⟨rfl, rfl, rfl, by decide +kernel, rfl, by decide +kernel, by decide +kernel⟩
abbrev s_sign_of : Stmt := topS 46
theorem sc_sign_of : FnScope ["number"] ["number"] (defScope s_sign_of) := ⟨rfl, rfl, rfl, by decide +kernel, rfl, by decide +kernel, by decide +kernel⟩
abbrev s_beside_in : Stmt := topS 47
theorem sc_beside_in : FnScope ["end", "fraction", "x", "y", "z", "above", "below"] ["end", "fraction"] (defScope s_beside_in) := ⟨rfl, rfl, rfl, by decide +kernel, rfl, by decide +kernel, by decide +kernel⟩
abbrev s_compared : Stmt := topS 48
theorem sc_compared : FnScope ["one", "other", "x", "y", "z", "u", "v", "w", "line", "rest"] ["one", "other"] (defScope s_compared) := ⟨rfl, rfl, rfl, by decide +kernel, rfl, by decide +kernel, by decide +kernel⟩
abbrev s_is_lasting : Stmt := topS 49
theorem sc_is_lasting : FnScope ["chain"] ["chain"] (defScope s_is_lasting) := ⟨rfl, rfl, rfl, by decide +kernel, rfl, by decide +kernel, by decide +kernel⟩
abbrev s_end_of_chain : Stmt := topS 50
theorem sc_end_of_chain : FnScope ["chain", "found"] ["chain"] (defScope s_end_of_chain) := ⟨rfl, rfl, rfl, by decide +kernel, rfl, by decide +kernel, by decide +kernel⟩
abbrev s_end_bounds : Stmt := topS 51
theorem sc_end_bounds : FnScope ["chain", "times", "whole"] ["chain", "times"] (defScope s_end_bounds) := ⟨rfl, rfl, rfl, by decide +kernel, rfl, by decide +kernel, by decide +kernel⟩
abbrev s_chain_for_end : Stmt := topS 52
theorem sc_chain_for_end : FnScope ["end", "x", "y", "z", "share", "above", "below", "first", "last"] ["end"] (defScope s_chain_for_end) := ⟨rfl, rfl, rfl, by decide +kernel, rfl, by decide +kernel, by decide +kernel⟩
abbrev s_is_end_number : Stmt := topS 53
theorem sc_is_end_number : FnScope ["value"] ["value"] (defScope s_is_end_number) := ⟨rfl, rfl, rfl, by decide +kernel, rfl, by decide +kernel, by decide +kernel⟩
abbrev s_end_beside : Stmt := topS 54
theorem sc_end_beside : FnScope ["end", "fraction"] ["end", "fraction"] (defScope s_end_beside) := ⟨rfl, rfl, rfl, by decide +kernel, rfl, by decide +kernel, by decide +kernel⟩
abbrev s_compare_ends : Stmt := topS 55
theorem sc_compare_ends : FnScope ["one", "other"] ["one", "other"] (defScope s_compare_ends) := ⟨rfl, rfl, rfl, by decide +kernel, rfl, by decide +kernel, by decide +kernel⟩
abbrev s__law_cup : Stmt := topS 57
theorem sc__law_cup : FnScope ["script", "cell"] ["script"] (defScope s__law_cup) := ⟨rfl, rfl, rfl, by decide +kernel, rfl, by decide +kernel, by decide +kernel⟩
abbrev s__law_roll : Stmt := topS 58
theorem sc__law_roll : FnScope ["cup", "many", "found", "deep"] ["cup", "many"] (defScope s__law_roll) := ⟨rfl, rfl, rfl, by decide +kernel, rfl, by decide +kernel, by decide +kernel⟩
abbrev s__law_sort : Stmt := topS 59
theorem sc__law_sort : FnScope ["value"] ["value"] (defScope s__law_sort) := ⟨rfl, rfl, rfl, by decide +kernel, rfl, by decide +kernel, by decide +kernel⟩
abbrev s__law_like : Stmt := topS 60
theorem sc__law_like : FnScope ["one", "other", "sort", "first", "second"] ["one", "other"] (defScope s__law_like) := ⟨rfl, rfl, rfl, by decide +kernel, rfl, by decide +kernel, by decide +kernel⟩
abbrev s__law_least : Stmt := topS 61
theorem sc__law_least : FnScope ["above", "below", "one", "other", "sign"] ["above", "below"] (defScope s__law_least) := ⟨rfl, rfl, rfl, by decide +kernel, rfl, by decide +kernel, by decide +kernel⟩
abbrev s__law_plus : Stmt := topS 62
theorem sc__law_plus : FnScope ["one", "other"] ["one", "other"] (defScope s__law_plus) := ⟨rfl, rfl, rfl, by decide +kernel, rfl, by decide +kernel, by decide +kernel⟩
abbrev s__law_minus : Stmt := topS 63
theorem sc__law_minus : FnScope ["one", "other"] ["one", "other"] (defScope s__law_minus) := ⟨rfl, rfl, rfl, by decide +kernel, rfl, by decide +kernel, by decide +kernel⟩
abbrev s__law_times : Stmt := topS 64
theorem sc__law_times : FnScope ["one", "other"] ["one", "other"] (defScope s__law_times) := ⟨rfl, rfl, rfl, by decide +kernel, rfl, by decide +kernel, by decide +kernel⟩
abbrev s__law_over : Stmt := topS 65
theorem sc__law_over : FnScope ["one", "other"] ["one", "other"] (defScope s__law_over) := ⟨rfl, rfl, rfl, by decide +kernel, rfl, by decide +kernel, by decide +kernel⟩
abbrev s__law_under : Stmt := topS 66
theorem sc__law_under : FnScope ["one", "other"] ["one", "other"] (defScope s__law_under) := ⟨rfl, rfl, rfl, by decide +kernel, rfl, by decide +kernel, by decide +kernel⟩
abbrev s__law_joined : Stmt := topS 67
theorem sc__law_joined : FnScope ["one", "other", "a", "b", "c", "d", "e", "f", "g", "h", "rows", "p", "q", "r", "s"] ["one", "other"] (defScope s__law_joined) := ⟨rfl, rfl, rfl, by decide +kernel, rfl, by decide +kernel, by decide +kernel⟩
abbrev s__law_any_chain : Stmt := topS 68
theorem sc__law_any_chain : FnScope ["cup", "size", "a", "b", "c", "turn"] ["cup", "size"] (defScope s__law_any_chain) := ⟨rfl, rfl, rfl, by decide +kernel, rfl, by decide +kernel, by decide +kernel⟩
abbrev s__law_number : Stmt := topS 69
theorem sc__law_number : FnScope ["cup", "size"] ["cup", "size"] (defScope s__law_number) := ⟨rfl, rfl, rfl, by decide +kernel, rfl, by decide +kernel, by decide +kernel⟩
abbrev s__law_ladder : Stmt := topS 70
theorem sc__law_ladder : FnScope ["cup", "most", "size", "rung"] ["cup", "most", "size"] (defScope s__law_ladder) := ⟨rfl, rfl, rfl, by decide +kernel, rfl, by decide +kernel, by decide +kernel⟩
abbrev s__law_chain_of : Stmt := topS 71
theorem sc__law_chain_of : FnScope ["ladder", "found", "resistance", "lead"] ["ladder"] (defScope s__law_chain_of) := ⟨rfl, rfl, rfl, by decide +kernel, rfl, by decide +kernel, by decide +kernel⟩
abbrev s__law_divisor : Stmt := topS 72
theorem sc__law_divisor : FnScope ["one", "other"] ["one", "other"] (defScope s__law_divisor) := ⟨rfl, rfl, rfl, by decide +kernel, rfl, by decide +kernel, by decide +kernel⟩
abbrev s__law_end : Stmt := topS 73
theorem sc__law_end : FnScope ["chain", "a", "b", "c", "d", "middle", "size", "whole", "part", "number"] ["chain"] (defScope s__law_end) := ⟨rfl, rfl, rfl, by decide +kernel, rfl, by decide +kernel, by decide +kernel⟩
abbrev s__law_worth : Stmt := topS 74
theorem sc__law_worth : FnScope ["end", "fraction", "above", "below"] ["end", "fraction"] (defScope s__law_worth) := ⟨rfl, rfl, rfl, by decide +kernel, rfl, by decide +kernel, by decide +kernel⟩
abbrev s__law_right : Stmt := topS 75
theorem sc__law_right : FnScope ["cup", "chain", "a", "b", "c", "d", "good", "end", "last", "whole", "times", "low", "high", "near", "later", "side"] ["cup", "chain"] (defScope s__law_right) := ⟨rfl, rfl, rfl, by decide +kernel, rfl, by decide +kernel, by decide +kernel⟩
abbrev s__law_back_right : Stmt := topS 76
theorem sc__law_back_right : FnScope ["end", "told"] ["end"] (defScope s__law_back_right) := ⟨rfl, rfl, rfl, by decide +kernel, rfl, by decide +kernel, by decide +kernel⟩
abbrev s__law_drawn : Stmt := topS 77
theorem sc__law_drawn : FnScope ["cup", "size", "whole", "part", "number"] ["cup", "size"] (defScope s__law_drawn) := ⟨rfl, rfl, rfl, by decide +kernel, rfl, by decide +kernel, by decide +kernel⟩
abbrev s_law : Stmt := topS 78
theorem sc_law : FnScope ["script", "cup", "one", "told", "most", "size", "some", "r", "g", "end"] ["script"] (defScope s_law) := ⟨rfl, rfl, rfl, by decide +kernel, rfl, by decide +kernel, by decide +kernel⟩
section
variable {P : Program} {w : World} {K : PySem.W.Frag} {mg : Str → Option Value} {base : Heap} {W k : Nat}
theorem b_is_integer (T : Top P w K mg base prog W k names consts blts) (f : Addr) (cdv : Value) (A : Around) (outer : List PySem.Env) (s : Shared) (H : Hp) (E : XK) (hr : Room k (A.deeper (envOfC "is_integer" (defScope s_is_integer) s.heap.objs.size f cdv))) :
    PSs (cxOf CX0 P w K mg base ["value"] "is_integer" (defScope s_is_integer) f cdv A outer s H E).nox (defBody s_is_integer) (tSs K (callN prog W k) W m_is_integer) :=
  (ss_cons (s_ret (i_and (i_isi (T := .int) rfl (T.blt 0 _ rfl) rfl (T.blt 2 _ rfl) bb_int (i_var 0)) (i_one (i_not (i_isi (T := .bool) rfl (T.blt 0 _ rfl) rfl (T.blt 1 _ rfl) bb_bool (i_var 0))))))
  ss_nil)
theorem b_is_whole (T : Top P w K mg base prog W k names consts blts) (f : Addr) (cdv : Value) (A : Around) (outer : List PySem.Env) (s : Shared) (H : Hp) (E : XK) (hr : Room k (A.deeper (envOfC "is_whole" (defScope s_is_whole) s.heap.objs.size f cdv))) :
    PSs (cxOf CX0 P w K mg base ["value", "low", "high"] "is_whole" (defScope s_is_whole) f cdv A outer s H E).nox (defBody s_is_whole) (tSs K (callN prog W k) W m_is_whole) :=
  (ss_cons (s_ret (i_and (i_call (T.cal 0 _ rfl) hr rfl (is_cons (i_var 0) is_nil)) (i_one (i_chn o_le o_le (i_var 1) (i_var 0) (i_var 2)))))
  ss_nil)
theorem b_need_whole (T : Top P w K mg base prog W k names consts blts) (f : Addr) (cdv : Value) (A : Around) (outer : List PySem.Env) (s : Shared) (H : Hp) (E : XK) (hr : Room k (A.deeper (envOfC "need_whole" (defScope s_need_whole) s.heap.objs.size f cdv))) :
    PSs (cxOf CX0 P w K mg base ["value", "low", "high"] "need_whole" (defScope s_need_whole) f cdv A outer s H E).nox (defBody s_need_whole) (tSs K (callN prog W k) W m_need_whole) :=
  (ss_cons (s_ite (t_not (t_of (i_call (T.cal 1 _ rfl) hr rfl (is_cons (i_var 0) (is_cons (i_var 1) (is_cons (i_var 2) is_nil)))))) (ss_cons s_rais
  ss_nil) ss_nil)
  ss_nil)
theorem b_is_tuple_of (T : Top P w K mg base prog W k names consts blts) (f : Addr) (cdv : Value) (A : Around) (outer : List PySem.Env) (s : Shared) (H : Hp) (E : XK) (hr : Room k (A.deeper (envOfC "is_tuple_of" (defScope s_is_tuple_of) s.heap.objs.size f cdv))) :
    PSs (cxOf CX0 P w K mg base ["value", "low", "high"] "is_tuple_of" (defScope s_is_tuple_of) f cdv A outer s H E).nox (defBody s_is_tuple_of) (tSs K (callN prog W k) W m_is_tuple_of) :=
  (ss_cons (s_ret (i_and (i_isi (T := .tuple) rfl (T.blt 0 _ rfl) rfl (T.blt 4 _ rfl) bb_tuple (i_var 0)) (i_one (i_chn o_le o_le (i_var 1) (i_bltB (f := false) c_len rfl (T.blt 3 _ rfl) bb_len (is_cons (i_var 0) is_nil)) (i_var 2)))))
  ss_nil)
theorem b_divisor_of (T : Top P w K mg base prog W k names consts blts) (f : Addr) (cdv : Value) (A : Around) (outer : List PySem.Env) (s : Shared) (H : Hp) (E : XK) (hr : Room k (A.deeper (envOfC "divisor_of" (defScope s_divisor_of) s.heap.objs.size f cdv))) :
    PSs (cxOf CX0 P w K mg base ["one", "other"] "divisor_of" (defScope s_divisor_of) f cdv A outer s H E).nox (defBody s_divisor_of) (tSs K (callN prog W k) W m_divisor_of) :=
  (ss_cons (s_par 0 1 rfl sc_divisor_of.nd (is_cons (i_bltB (f := false) c_abs rfl (T.blt 5 _ rfl) bb_abs (is_cons (i_var 0) is_nil)) (is_cons (i_bltB (f := false) c_abs rfl (T.blt 5 _ rfl) bb_abs (is_cons (i_var 1) is_nil)) is_nil)))
  (ss_cons (s_whl PassesOwn.never (t_cmp (o_ne hr.units) (i_var 1) i_int (nomark _)) (ss_cons (s_par 0 1 rfl sc_divisor_of.nd (is_cons (i_var 1) (is_cons (i_bin false o_mod (i_var 0) (i_var 1)) is_nil)))
  ss_nil))
  (ss_cons (s_ret (i_var 0))
  ss_nil)))
theorem b_lowest (T : Top P w K mg base prog W k names consts blts) (f : Addr) (cdv : Value) (A : Around) (outer : List PySem.Env) (s : Shared) (H : Hp) (E : XK) (hr : Room k (A.deeper (envOfC "lowest" (defScope s_lowest) s.heap.objs.size f cdv))) :
    PSs (cxOf CX0 P w K mg base ["above", "below", "part"] "lowest" (defScope s_lowest) f cdv A outer s H E).nox (defBody s_lowest) (tSs K (callN prog W k) W m_lowest) :=
  (ss_cons (s_set 2 sc_lowest.nd (i_bin false o_mul (i_call (T.cal 4 _ rfl) hr rfl (is_cons (i_var 0) (is_cons (i_var 1) is_nil))) (i_ite (t_cmp o_gt (i_var 1) i_int (nomark _)) i_int (i_neg i_int))))
  (ss_cons (s_ret (i_tup (is_cons (i_bin false o_fdiv (i_var 0) (i_var 2)) (is_cons (i_bin false o_fdiv (i_var 1) (i_var 2)) is_nil))))
  ss_nil))
theorem b_sum_of (T : Top P w K mg base prog W k names consts blts) (f : Addr) (cdv : Value) (A : Around) (outer : List PySem.Env) (s : Shared) (H : Hp) (E : XK) (hr : Room k (A.deeper (envOfC "sum_of" (defScope s_sum_of) s.heap.objs.size f cdv))) :
    PSs (cxOf CX0 P w K mg base ["one", "other"] "sum_of" (defScope s_sum_of) f cdv A outer s H E).nox (defBody s_sum_of) (tSs K (callN prog W k) W m_sum_of) :=
  (ss_cons (s_ret (i_call (T.cal 5 _ rfl) hr rfl (is_cons (i_bin false o_add (i_bin false o_mul (i_idx (i_var 0) i_int) (i_idx (i_var 1) i_int)) (i_bin false o_mul (i_idx (i_var 1) i_int) (i_idx (i_var 0) i_int))) (is_cons (i_bin false o_mul (i_idx (i_var 0) i_int) (i_idx (i_var 1) i_int)) is_nil))))
  ss_nil)
theorem b_less_by (T : Top P w K mg base prog W k names consts blts) (f : Addr) (cdv : Value) (A : Around) (outer : List PySem.Env) (s : Shared) (H : Hp) (E : XK) (hr : Room k (A.deeper (envOfC "less_by" (defScope s_less_by) s.heap.objs.size f cdv))) :
    PSs (cxOf CX0 P w K mg base ["one", "other"] "less_by" (defScope s_less_by) f cdv A outer s H E).nox (defBody s_less_by) (tSs K (callN prog W k) W m_less_by) :=
  (ss_cons (s_ret (i_call (T.cal 5 _ rfl) hr rfl (is_cons (i_bin false o_sub (i_bin false o_mul (i_idx (i_var 0) i_int) (i_idx (i_var 1) i_int)) (i_bin false o_mul (i_idx (i_var 1) i_int) (i_idx (i_var 0) i_int))) (is_cons (i_bin false o_mul (i_idx (i_var 0) i_int) (i_idx (i_var 1) i_int)) is_nil))))
  ss_nil)
theorem b_product_of (T : Top P w K mg base prog W k names consts blts) (f : Addr) (cdv : Value) (A : Around) (outer : List PySem.Env) (s : Shared) (H : Hp) (E : XK) (hr : Room k (A.deeper (envOfC "product_of" (defScope s_product_of) s.heap.objs.size f cdv))) :
    PSs (cxOf CX0 P w K mg base ["one", "other"] "product_of" (defScope s_product_of) f cdv A outer s H E).nox (defBody s_product_of) (tSs K (callN prog W k) W m_product_of) :=
  (ss_cons (s_ret (i_call (T.cal 5 _ rfl) hr rfl (is_cons (i_bin false o_mul (i_idx (i_var 0) i_int) (i_idx (i_var 1) i_int)) (is_cons (i_bin false o_mul (i_idx (i_var 0) i_int) (i_idx (i_var 1) i_int)) is_nil))))
  ss_nil)
theorem b_part_of (T : Top P w K mg base prog W k names consts blts) (f : Addr) (cdv : Value) (A : Around) (outer : List PySem.Env) (s : Shared) (H : Hp) (E : XK) (hr : Room k (A.deeper (envOfC "part_of" (defScope s_part_of) s.heap.objs.size f cdv))) :
    PSs (cxOf CX0 P w K mg base ["one", "other"] "part_of" (defScope s_part_of) f cdv A outer s H E).nox (defBody s_part_of) (tSs K (callN prog W k) W m_part_of) :=
  (ss_cons (s_ret (i_call (T.cal 5 _ rfl) hr rfl (is_cons (i_bin false o_mul (i_idx (i_var 0) i_int) (i_idx (i_var 1) i_int)) (is_cons (i_bin false o_mul (i_idx (i_var 0) i_int) (i_idx (i_var 1) i_int)) is_nil))))
  ss_nil)
theorem b_is_under (T : Top P w K mg base prog W k names consts blts) (f : Addr) (cdv : Value) (A : Around) (outer : List PySem.Env) (s : Shared) (H : Hp) (E : XK) (hr : Room k (A.deeper (envOfC "is_under" (defScope s_is_under) s.heap.objs.size f cdv))) :
    PSs (cxOf CX0 P w K mg base ["one", "other"] "is_under" (defScope s_is_under) f cdv A outer s H E).nox (defBody s_is_under) (tSs K (callN prog W k) W m_is_under) :=
  (ss_cons (s_ret (i_cmp o_lt (i_bin false o_mul (i_idx (i_var 0) i_int) (i_idx (i_var 1) i_int)) (i_bin false o_mul (i_idx (i_var 1) i_int) (i_idx (i_var 0) i_int)) (nomark _)))
  ss_nil)
theorem b_fits_fraction (T : Top P w K mg base prog W k names consts blts) (f : Addr) (cdv : Value) (A : Around) (outer : List PySem.Env) (s : Shared) (H : Hp) (E : XK) (hr : Room k (A.deeper (envOfC "fits_fraction" (defScope s_fits_fraction) s.heap.objs.size f cdv))) :
    PSs (cxOf CX0 P w K mg base ["value", "number"] "fits_fraction" (defScope s_fits_fraction) f cdv A outer s H E).nox (defBody s_fits_fraction) (tSs K (callN prog W k) W m_fits_fraction) :=
  (ss_cons (s_ite (t_w (w_or (t_not (t_of (i_call (T.cal 3 _ rfl) hr rfl (is_cons (i_var 0) (is_cons i_int (is_cons i_int is_nil)))))) (w_or1 (t_not (t_of (i_bltB (f := false) (c_all rfl) rfl (T.blt 6 _ rfl) bb_all (is_cons (i_lc (own := [("number", 1)]) false rfl sc_fits_fraction.nd (it_seq (i_var 0)) (blk_ok (N := ["value", "number"]) (sc := defScope s_fits_fraction) (by decide +kernel)) rfl (fun _ _ _ _ _ => (g_nm 1 sc_fits_fraction.nd)) (fun _ _ _ _ _ => cs_nil) (fun _ _ _ _ _ => (i_and (i_call (T.cal 0 _ rfl) hr rfl (is_cons (i_var 1) is_nil)) (i_one (i_chn o_lt o_lt (i_neg (i_con rfl (T.con 0 _ _ rfl))) (i_var 1) (i_con rfl (T.con 0 _ _ rfl))))))) is_nil))))))) (ss_cons (s_ret i_bl)
  ss_nil) ss_nil)
  (ss_cons (s_ret (i_and (i_cmp o_ge (i_idx (i_var 0) i_int) i_int (nomark _)) (i_one (i_cmp (o_eq hr.units) (i_call (T.cal 4 _ rfl) hr rfl (is_cons (i_idx (i_var 0) i_int) (is_cons (i_idx (i_var 0) i_int) is_nil))) i_int (nomark _)))))
  ss_nil))
theorem b_need_fraction (T : Top P w K mg base prog W k names consts blts) (f : Addr) (cdv : Value) (A : Around) (outer : List PySem.Env) (s : Shared) (H : Hp) (E : XK) (hr : Room k (A.deeper (envOfC "need_fraction" (defScope s_need_fraction) s.heap.objs.size f cdv))) :
    PSs (cxOf CX0 P w K mg base ["value"] "need_fraction" (defScope s_need_fraction) f cdv A outer s H E).nox (defBody s_need_fraction) (tSs K (callN prog W k) W m_need_fraction) :=
  (ss_cons (s_ite (t_not (t_of (i_call (T.cal 11 _ rfl) hr rfl (is_cons (i_var 0) is_nil)))) (ss_cons s_rais
  ss_nil) ss_nil)
  ss_nil)
theorem b_fits_chain (T : Top P w K mg base prog W k names consts blts) (f : Addr) (cdv : Value) (A : Around) (outer : List PySem.Env) (s : Shared) (H : Hp) (E : XK) (hr : Room k (A.deeper (envOfC "fits_chain" (defScope s_fits_chain) s.heap.objs.size f cdv))) :
    PSs (cxOf CX0 P w K mg base ["value", "a", "b", "c", "d", "number"] "fits_chain" (defScope s_fits_chain) f cdv A outer s H E).nox (defBody s_fits_chain) (tSs K (callN prog W k) W m_fits_chain) :=
  (ss_cons (s_ite (t_w (w_or (t_not (t_of (i_call (T.cal 3 _ rfl) hr rfl (is_cons (i_var 0) (is_cons i_int (is_cons i_int is_nil)))))) (w_or1 (t_not (t_of (i_bltB (f := false) (c_all rfl) rfl (T.blt 6 _ rfl) bb_all (is_cons (i_lc (own := [("number", 5)]) false rfl sc_fits_chain.nd (it_seq (i_var 0)) (blk_ok (N := ["value", "a", "b", "c", "d", "number"]) (sc := defScope s_fits_chain) (by decide +kernel)) rfl (fun _ _ _ _ _ => (g_nm 5 sc_fits_chain.nd)) (fun _ _ _ _ _ => cs_nil) (fun _ _ _ _ _ => (i_call (T.cal 11 _ rfl) hr rfl (is_cons (i_var 5) is_nil)))) is_nil))))))) (ss_cons (s_ret i_bl)
  ss_nil) ss_nil)
  (ss_cons (s_asg (i_var 0) (g_tp rfl (gs_cons 1 sc_fits_chain.nd (gs_cons 2 sc_fits_chain.nd (gs_cons 3 sc_fits_chain.nd (gs_cons 4 sc_fits_chain.nd gs_nil))))))
  (ss_cons (s_ret (i_cmp (o_eq hr.units) (i_call (T.cal 7 _ rfl) hr rfl (is_cons (i_call (T.cal 8 _ rfl) hr rfl (is_cons (i_var 1) (is_cons (i_var 4) is_nil))) (is_cons (i_call (T.cal 8 _ rfl) hr rfl (is_cons (i_var 2) (is_cons (i_var 3) is_nil))) is_nil))) (i_con rfl (T.con 1 _ _ rfl)) (nomark _)))
  ss_nil)))
theorem b_need_chain (T : Top P w K mg base prog W k names consts blts) (f : Addr) (cdv : Value) (A : Around) (outer : List PySem.Env) (s : Shared) (H : Hp) (E : XK) (hr : Room k (A.deeper (envOfC "need_chain" (defScope s_need_chain) s.heap.objs.size f cdv))) :
    PSs (cxOf CX0 P w K mg base ["chain"] "need_chain" (defScope s_need_chain) f cdv A outer s H E).nox (defBody s_need_chain) (tSs K (callN prog W k) W m_need_chain) :=
  (ss_cons (s_ite (t_not (t_of (i_call (T.cal 13 _ rfl) hr rfl (is_cons (i_var 0) is_nil)))) (ss_cons s_rais
  ss_nil) ss_nil)
  ss_nil)
theorem b_is_from_none (T : Top P w K mg base prog W k names consts blts) (f : Addr) (cdv : Value) (A : Around) (outer : List PySem.Env) (s : Shared) (H : Hp) (E : XK) (hr : Room k (A.deeper (envOfC "is_from_none" (defScope s_is_from_none) s.heap.objs.size f cdv))) :
    PSs (cxOf CX0 P w K mg base ["fraction"] "is_from_none" (defScope s_is_from_none) f cdv A outer s H E).nox (defBody s_is_from_none) (tSs K (callN prog W k) W m_is_from_none) :=
  (ss_cons (s_ret (i_cmp o_ge (i_idx (i_var 0) i_int) i_int (nomark _)))
  ss_nil)
theorem b_need_load (T : Top P w K mg base prog W k names consts blts) (f : Addr) (cdv : Value) (A : Around) (outer : List PySem.Env) (s : Shared) (H : Hp) (E : XK) (hr : Room k (A.deeper (envOfC "need_load" (defScope s_need_load) s.heap.objs.size f cdv))) :
    PSs (cxOf CX0 P w K mg base ["load"] "need_load" (defScope s_need_load) f cdv A outer s H E).nox (defBody s_need_load) (tSs K (callN prog W k) W m_need_load) :=
  (ss_cons (s_ite (t_w (w_and (t_cmp o_isn (i_var 0) i_non (nomark _)) (w_and1 (t_not (t_w (w_and (t_of (i_call (T.cal 11 _ rfl) hr rfl (is_cons (i_var 0) is_nil))) (w_and1 (t_of (i_call (T.cal 15 _ rfl) hr rfl (is_cons (i_var 0) is_nil)))))))))) (ss_cons s_rais
  ss_nil) ss_nil)
  ss_nil)
theorem b_joined_chain (T : Top P w K mg base prog W k names consts blts) (f : Addr) (cdv : Value) (A : Around) (outer : List PySem.Env) (s : Shared) (H : Hp) (E : XK) (hr : Room k (A.deeper (envOfC "joined_chain" (defScope s_joined_chain) s.heap.objs.size f cdv))) :
    PSs (cxOf CX0 P w K mg base ["one", "other", "a", "b", "c", "d", "e", "f", "g", "h", "first", "second"] "joined_chain" (defScope s_joined_chain) f cdv A outer s H E).nox (defBody s_joined_chain) (tSs K (callN prog W k) W m_joined_chain) :=
  (ss_cons (s_asg (i_var 0) (g_tp rfl (gs_cons 2 sc_joined_chain.nd (gs_cons 3 sc_joined_chain.nd (gs_cons 4 sc_joined_chain.nd (gs_cons 5 sc_joined_chain.nd gs_nil))))))
  (ss_cons (s_asg (i_var 1) (g_tp rfl (gs_cons 6 sc_joined_chain.nd (gs_cons 7 sc_joined_chain.nd (gs_cons 8 sc_joined_chain.nd (gs_cons 9 sc_joined_chain.nd gs_nil))))))
  (ss_cons (s_par 10 11 rfl sc_joined_chain.nd (is_cons (i_call (T.cal 6 _ rfl) hr rfl (is_cons (i_call (T.cal 8 _ rfl) hr rfl (is_cons (i_var 2) (is_cons (i_var 6) is_nil))) (is_cons (i_call (T.cal 8 _ rfl) hr rfl (is_cons (i_var 3) (is_cons (i_var 8) is_nil))) is_nil))) (is_cons (i_call (T.cal 6 _ rfl) hr rfl (is_cons (i_call (T.cal 8 _ rfl) hr rfl (is_cons (i_var 2) (is_cons (i_var 7) is_nil))) (is_cons (i_call (T.cal 8 _ rfl) hr rfl (is_cons (i_var 3) (is_cons (i_var 9) is_nil))) is_nil))) is_nil)))
  (ss_cons (s_ret (i_tup (is_cons (i_var 10) (is_cons (i_var 11) (is_cons (i_call (T.cal 6 _ rfl) hr rfl (is_cons (i_call (T.cal 8 _ rfl) hr rfl (is_cons (i_var 4) (is_cons (i_var 6) is_nil))) (is_cons (i_call (T.cal 8 _ rfl) hr rfl (is_cons (i_var 5) (is_cons (i_var 8) is_nil))) is_nil))) (is_cons (i_call (T.cal 6 _ rfl) hr rfl (is_cons (i_call (T.cal 8 _ rfl) hr rfl (is_cons (i_var 4) (is_cons (i_var 7) is_nil))) (is_cons (i_call (T.cal 8 _ rfl) hr rfl (is_cons (i_var 5) (is_cons (i_var 9) is_nil))) is_nil))) is_nil))))))
  ss_nil))))
theorem b_product_in (T : Top P w K mg base prog W k names consts blts) (f : Addr) (cdv : Value) (A : Around) (outer : List PySem.Env) (s : Shared) (H : Hp) (E : XK) (hr : Room k (A.deeper (envOfC "product_in" (defScope s_product_in) s.heap.objs.size f cdv))) :
    PSs (cxOf CX0 P w K mg base ["chains", "found", "chain"] "product_in" (defScope s_product_in) f cdv A outer s H E).nox (defBody s_product_in) (tSs K (callN prog W k) W m_product_in) :=
  (ss_cons (s_set 1 sc_product_in.nd (i_con rfl (T.con 2 _ _ rfl)))
  (ss_cons (s_for PassesOwn.never rfl (it_seq (i_var 0)) (g_nm 2 sc_product_in.nd) (ss_cons (s_set 1 sc_product_in.nd (i_call (T.cal 17 _ rfl) hr rfl (is_cons (i_var 1) (is_cons (i_var 2) is_nil))))
  ss_nil))
  (ss_cons (s_ret (i_var 1))
  ss_nil)))
theorem b_seen_in (T : Top P w K mg base prog W k names consts blts) (f : Addr) (cdv : Value) (A : Around) (outer : List PySem.Env) (s : Shared) (H : Hp) (E : XK) (hr : Room k (A.deeper (envOfC "seen_in" (defScope s_seen_in) s.heap.objs.size f cdv))) :
    PSs (cxOf CX0 P w K mg base ["chain", "load", "a", "b", "c", "d", "above", "below"] "seen_in" (defScope s_seen_in) f cdv A outer s H E).nox (defBody s_seen_in) (tSs K (callN prog W k) W m_seen_in) :=
  (ss_cons (s_asg (i_var 0) (g_tp rfl (gs_cons 2 sc_seen_in.nd (gs_cons 3 sc_seen_in.nd (gs_cons 4 sc_seen_in.nd (gs_cons 5 sc_seen_in.nd gs_nil))))))
  (ss_cons (s_par 6 7 rfl sc_seen_in.nd (is_cons (i_var 2) (is_cons (i_var 4) is_nil)))
  (ss_cons (s_ite (t_cmp o_isn (i_var 1) i_non (nomark _)) (ss_cons (s_par 6 7 rfl sc_seen_in.nd (is_cons (i_call (T.cal 6 _ rfl) hr rfl (is_cons (i_call (T.cal 8 _ rfl) hr rfl (is_cons (i_var 2) (is_cons (i_var 1) is_nil))) (is_cons (i_var 3) is_nil))) (is_cons (i_call (T.cal 6 _ rfl) hr rfl (is_cons (i_call (T.cal 8 _ rfl) hr rfl (is_cons (i_var 4) (is_cons (i_var 1) is_nil))) (is_cons (i_var 5) is_nil))) is_nil)))
  ss_nil) ss_nil)
  (ss_cons (s_ret (i_ite (t_cmp (o_ne hr.units) (i_var 7) (i_con rfl (T.con 3 _ _ rfl)) (nomark _)) (i_call (T.cal 9 _ rfl) hr rfl (is_cons (i_var 6) (is_cons (i_var 7) is_nil))) i_non))
  ss_nil))))
theorem b_is_told_in (T : Top P w K mg base prog W k names consts blts) (f : Addr) (cdv : Value) (A : Around) (outer : List PySem.Env) (s : Shared) (H : Hp) (E : XK) (hr : Room k (A.deeper (envOfC "is_told_in" (defScope s_is_told_in) s.heap.objs.size f cdv))) :
    PSs (cxOf CX0 P w K mg base ["chain", "a", "b", "c", "d"] "is_told_in" (defScope s_is_told_in) f cdv A outer s H E).nox (defBody s_is_told_in) (tSs K (callN prog W k) W m_is_told_in) :=
  (ss_cons (s_asg (i_var 0) (g_tp rfl (gs_cons 1 sc_is_told_in.nd (gs_cons 2 sc_is_told_in.nd (gs_cons 3 sc_is_told_in.nd (gs_cons 4 sc_is_told_in.nd gs_nil))))))
  (ss_cons (s_ret (i_and (i_not (i_call (T.cal 10 _ rfl) hr rfl (is_cons (i_var 1) (is_cons (i_con rfl (T.con 1 _ _ rfl)) is_nil)))) (i_and (i_not (i_call (T.cal 10 _ rfl) hr rfl (is_cons (i_var 4) (is_cons (i_con rfl (T.con 1 _ _ rfl)) is_nil)))) (i_and (i_call (T.cal 15 _ rfl) hr rfl (is_cons (i_var 2) is_nil)) (i_one (i_call (T.cal 15 _ rfl) hr rfl (is_cons (i_var 3) is_nil)))))))
  ss_nil))
theorem b_is_chain (T : Top P w K mg base prog W k names consts blts) (f : Addr) (cdv : Value) (A : Around) (outer : List PySem.Env) (s : Shared) (H : Hp) (E : XK) (hr : Room k (A.deeper (envOfC "is_chain" (defScope s_is_chain) s.heap.objs.size f cdv))) :
    PSs (cxOf CX0 P w K mg base ["value"] "is_chain" (defScope s_is_chain) f cdv A outer s H E).nox (defBody s_is_chain) (tSs K (callN prog W k) W m_is_chain) :=
  (ss_cons (s_ret (i_call (T.cal 13 _ rfl) hr rfl (is_cons (i_var 0) is_nil)))
  ss_nil)
theorem b_chain_seen (T : Top P w K mg base prog W k names consts blts) (f : Addr) (cdv : Value) (A : Around) (outer : List PySem.Env) (s : Shared) (H : Hp) (E : XK) (hr : Room k (A.deeper (envOfC "chain_seen" (defScope s_chain_seen) s.heap.objs.size f cdv))) :
    PSs (cxOf CX0 P w K mg base ["chain", "load"] "chain_seen" (defScope s_chain_seen) f cdv A outer s H E).nox (defBody s_chain_seen) (tSs K (callN prog W k) W m_chain_seen) :=
  (ss_cons (s_exp (ps_expr (i_call (T.cal 14 _ rfl) hr rfl (is_cons (i_var 0) is_nil))))
  (ss_cons (s_exp (ps_expr (i_call (T.cal 16 _ rfl) hr rfl (is_cons (i_var 1) is_nil))))
  (ss_cons (s_ret (i_call (T.cal 19 _ rfl) hr rfl (is_cons (i_var 0) (is_cons (i_var 1) is_nil))))
  ss_nil)))
theorem b_is_told_chain (T : Top P w K mg base prog W k names consts blts) (f : Addr) (cdv : Value) (A : Around) (outer : List PySem.Env) (s : Shared) (H : Hp) (E : XK) (hr : Room k (A.deeper (envOfC "is_told_chain" (defScope s_is_told_chain) s.heap.objs.size f cdv))) :
    PSs (cxOf CX0 P w K mg base ["chain"] "is_told_chain" (defScope s_is_told_chain) f cdv A outer s H E).nox (defBody s_is_told_chain) (tSs K (callN prog W k) W m_is_told_chain) :=
  (ss_cons (s_exp (ps_expr (i_call (T.cal 14 _ rfl) hr rfl (is_cons (i_var 0) is_nil))))
  (ss_cons (s_ret (i_call (T.cal 20 _ rfl) hr rfl (is_cons (i_var 0) is_nil)))
  ss_nil))
theorem b_is_lasting_in (T : Top P w K mg base prog W k names consts blts) (f : Addr) (cdv : Value) (A : Around) (outer : List PySem.Env) (s : Shared) (H : Hp) (E : XK) (hr : Room k (A.deeper (envOfC "is_lasting_in" (defScope s_is_lasting_in) s.heap.objs.size f cdv))) :
    PSs (cxOf CX0 P w K mg base ["chain", "a", "b", "c", "d"] "is_lasting_in" (defScope s_is_lasting_in) f cdv A outer s H E).nox (defBody s_is_lasting_in) (tSs K (callN prog W k) W m_is_lasting_in) :=
  (ss_cons (s_asg (i_var 0) (g_tp rfl (gs_cons 1 sc_is_lasting_in.nd (gs_cons 2 sc_is_lasting_in.nd (gs_cons 3 sc_is_lasting_in.nd (gs_cons 4 sc_is_lasting_in.nd gs_nil))))))
  (ss_cons (s_ret (i_and (i_not (i_call (T.cal 10 _ rfl) hr rfl (is_cons (i_var 1) (is_cons (i_con rfl (T.con 1 _ _ rfl)) is_nil)))) (i_and (i_not (i_call (T.cal 10 _ rfl) hr rfl (is_cons (i_var 4) (is_cons (i_con rfl (T.con 1 _ _ rfl)) is_nil)))) (i_and (i_cmp o_gt (i_idx (i_var 2) i_int) i_int (nomark _)) (i_one (i_cmp o_gt (i_idx (i_var 3) i_int) i_int (nomark _)))))))
  ss_nil))
theorem b_need_lasting (T : Top P w K mg base prog W k names consts blts) (f : Addr) (cdv : Value) (A : Around) (outer : List PySem.Env) (s : Shared) (H : Hp) (E : XK) (hr : Room k (A.deeper (envOfC "need_lasting" (defScope s_need_lasting) s.heap.objs.size f cdv))) :
    PSs (cxOf CX0 P w K mg base ["chain"] "need_lasting" (defScope s_need_lasting) f cdv A outer s H E).nox (defBody s_need_lasting) (tSs K (callN prog W k) W m_need_lasting) :=
  (ss_cons (s_exp (ps_expr (i_call (T.cal 14 _ rfl) hr rfl (is_cons (i_var 0) is_nil))))
  (ss_cons (s_ite (t_not (t_of (i_call (T.cal 24 _ rfl) hr rfl (is_cons (i_var 0) is_nil)))) (ss_cons s_rais
  ss_nil) ss_nil)
  ss_nil))
theorem b_fits_end (T : Top P w K mg base prog W k names consts blts) (f : Addr) (cdv : Value) (A : Around) (outer : List PySem.Env) (s : Shared) (H : Hp) (E : XK) (hr : Room k (A.deeper (envOfC "fits_end" (defScope s_fits_end) s.heap.objs.size f cdv))) :
    PSs (cxOf CX0 P w K mg base ["value", "most", "x", "y", "z", "number"] "fits_end" (defScope s_fits_end) f cdv A outer s H E).nox (defBody s_fits_end) (tSs K (callN prog W k) W m_fits_end) :=
  (ss_cons (s_ite (t_w (w_or (t_not (t_of (i_call (T.cal 3 _ rfl) hr rfl (is_cons (i_var 0) (is_cons i_int (is_cons i_int is_nil)))))) (w_or1 (t_not (t_of (i_bltB (f := false) (c_all rfl) rfl (T.blt 6 _ rfl) bb_all (is_cons (i_lc (own := [("number", 5)]) false rfl sc_fits_end.nd (it_seq (i_var 0)) (blk_ok (N := ["value", "most", "x", "y", "z", "number"]) (sc := defScope s_fits_end) (by decide +kernel)) rfl (fun _ _ _ _ _ => (g_nm 5 sc_fits_end.nd)) (fun _ _ _ _ _ => cs_nil) (fun _ _ _ _ _ => (i_and (i_call (T.cal 0 _ rfl) hr rfl (is_cons (i_var 5) is_nil)) (i_one (i_chn o_lt o_lt (i_neg (i_var 1)) (i_var 5) (i_var 1)))))) is_nil))))))) (ss_cons (s_ret i_bl)
  ss_nil) ss_nil)
  (ss_cons (s_asg (i_var 0) (g_tp rfl (gs_cons 2 sc_fits_end.nd (gs_cons 3 sc_fits_end.nd (gs_cons 4 sc_fits_end.nd gs_nil)))))
  (ss_cons (s_ret (i_and (i_cmp o_gt (i_var 2) i_int (nomark _)) (i_and (i_cmp o_gt (i_var 4) i_int (nomark _)) (i_one (i_cmp (o_eq hr.units) (i_call (T.cal 4 _ rfl) hr rfl (is_cons (i_call (T.cal 4 _ rfl) hr rfl (is_cons (i_var 2) (is_cons (i_var 3) is_nil))) (is_cons (i_var 4) is_nil))) i_int (nomark _))))))
  ss_nil)))
theorem b_need_end (T : Top P w K mg base prog W k names consts blts) (f : Addr) (cdv : Value) (A : Around) (outer : List PySem.Env) (s : Shared) (H : Hp) (E : XK) (hr : Room k (A.deeper (envOfC "need_end" (defScope s_need_end) s.heap.objs.size f cdv))) :
    PSs (cxOf CX0 P w K mg base ["end"] "need_end" (defScope s_need_end) f cdv A outer s H E).nox (defBody s_need_end) (tSs K (callN prog W k) W m_need_end) :=
  (ss_cons (s_ite (t_not (t_of (i_call (T.cal 26 _ rfl) hr rfl (is_cons (i_var 0) (is_cons (i_con rfl (T.con 0 _ _ rfl)) is_nil))))) (ss_cons s_rais
  ss_nil) ss_nil)
  ss_nil)
theorem b_end_in (T : Top P w K mg base prog W k names consts blts) (f : Addr) (cdv : Value) (A : Around) (outer : List PySem.Env) (s : Shared) (H : Hp) (E : XK) (hr : Room k (A.deeper (envOfC "end_in" (defScope s_end_in) s.heap.objs.size f cdv))) :
    PSs (cxOf CX0 P w K mg base ["chain", "a", "b", "c", "d", "middle", "times", "x", "y", "z", "part"] "end_in" (defScope s_end_in) f cdv A outer s H E).nox (defBody s_end_in) (tSs K (callN prog W k) W m_end_in) :=
  (ss_cons (s_asg (i_var 0) (g_tp rfl (gs_cons 1 sc_end_in.nd (gs_cons 2 sc_end_in.nd (gs_cons 3 sc_end_in.nd (gs_cons 4 sc_end_in.nd gs_nil))))))
  (ss_cons (s_set 5 sc_end_in.nd (i_call (T.cal 7 _ rfl) hr rfl (is_cons (i_var 4) (is_cons (i_var 1) is_nil))))
  (ss_cons (s_set 6 sc_end_in.nd (i_bin false o_mul (i_bin false o_mul (i_idx (i_var 2) i_int) (i_idx (i_var 3) i_int)) (i_idx (i_var 5) i_int)))
  (ss_cons (s_par3 7 8 9 rfl sc_end_in.nd (is_cons (i_bin false o_fdiv (i_bin false o_mul (i_idx (i_var 3) i_int) (i_var 6)) (i_idx (i_var 3) i_int)) (is_cons (i_bin false o_fdiv (i_bin false o_mul (i_idx (i_var 5) i_int) (i_var 6)) (i_idx (i_var 5) i_int)) (is_cons (i_bin false o_fdiv (i_bin false o_mul (i_idx (i_var 2) i_int) (i_var 6)) (i_idx (i_var 2) i_int)) is_nil))))
  (ss_cons (s_set 10 sc_end_in.nd (i_call (T.cal 4 _ rfl) hr rfl (is_cons (i_call (T.cal 4 _ rfl) hr rfl (is_cons (i_var 7) (is_cons (i_var 8) is_nil))) (is_cons (i_var 9) is_nil))))
  (ss_cons (s_ret (i_tup (is_cons (i_bin false o_fdiv (i_var 7) (i_var 10)) (is_cons (i_bin false o_fdiv (i_var 8) (i_var 10)) (is_cons (i_bin false o_fdiv (i_var 9) (i_var 10)) is_nil)))))
  ss_nil))))))
theorem b_sign_of (T : Top P w K mg base prog W k names consts blts) (f : Addr) (cdv : Value) (A : Around) (outer : List PySem.Env) (s : Shared) (H : Hp) (E : XK) (hr : Room k (A.deeper (envOfC "sign_of" (defScope s_sign_of) s.heap.objs.size f cdv))) :
    PSs (cxOf CX0 P w K mg base ["number"] "sign_of" (defScope s_sign_of) f cdv A outer s H E).nox (defBody s_sign_of) (tSs K (callN prog W k) W m_sign_of) :=
  (ss_cons (s_ret (i_bin false o_sub (i_cmp o_gt (i_var 0) i_int (nomark _)) (i_cmp o_lt (i_var 0) i_int (nomark _))))
  ss_nil)
theorem b_beside_in (T : Top P w K mg base prog W k names consts blts) (f : Addr) (cdv : Value) (A : Around) (outer : List PySem.Env) (s : Shared) (H : Hp) (E : XK) (hr : Room k (A.deeper (envOfC "beside_in" (defScope s_beside_in) s.heap.objs.size f cdv))) :
    PSs (cxOf CX0 P w K mg base ["end", "fraction", "x", "y", "z", "above", "below"] "beside_in" (defScope s_beside_in) f cdv A outer s H E).nox (defBody s_beside_in) (tSs K (callN prog W k) W m_beside_in) :=
  (ss_cons (s_asg (i_var 0) (g_tp rfl (gs_cons 2 sc_beside_in.nd (gs_cons 3 sc_beside_in.nd (gs_cons 4 sc_beside_in.nd gs_nil)))))
  (ss_cons (s_asg (i_var 1) (g_tp rfl (gs_cons 5 sc_beside_in.nd (gs_cons 6 sc_beside_in.nd gs_nil))))
  (ss_cons (s_ite (t_cmp o_le (i_var 5) i_int (nomark _)) (ss_cons (s_ret i_int)
  ss_nil) ss_nil)
  (ss_cons (s_ret (i_neg (i_call (T.cal 29 _ rfl) hr rfl (is_cons (i_bin false o_sub (i_bin false o_add (i_bin false o_mul (i_bin false o_mul (i_var 2) (i_var 5)) (i_var 5)) (i_bin false o_mul (i_bin false o_mul (i_var 3) (i_var 5)) (i_var 6))) (i_bin false o_mul (i_bin false o_mul (i_var 4) (i_var 6)) (i_var 6))) is_nil))))
  ss_nil))))
theorem b_compared (T : Top P w K mg base prog W k names consts blts) (f : Addr) (cdv : Value) (A : Around) (outer : List PySem.Env) (s : Shared) (H : Hp) (E : XK) (hr : Room k (A.deeper (envOfC "compared" (defScope s_compared) s.heap.objs.size f cdv))) :
    PSs (cxOf CX0 P w K mg base ["one", "other", "x", "y", "z", "u", "v", "w", "line", "rest"] "compared" (defScope s_compared) f cdv A outer s H E).nox (defBody s_compared) (tSs K (callN prog W k) W m_compared) :=
  (ss_cons (s_asg (i_var 0) (g_tp rfl (gs_cons 2 sc_compared.nd (gs_cons 3 sc_compared.nd (gs_cons 4 sc_compared.nd gs_nil)))))
  (ss_cons (s_asg (i_var 1) (g_tp rfl (gs_cons 5 sc_compared.nd (gs_cons 6 sc_compared.nd (gs_cons 7 sc_compared.nd gs_nil)))))
  (ss_cons (s_par 8 9 rfl sc_compared.nd (is_cons (i_bin false o_sub (i_bin false o_mul (i_var 2) (i_var 6)) (i_bin false o_mul (i_var 5) (i_var 3))) (is_cons (i_bin false o_sub (i_bin false o_mul (i_var 5) (i_var 4)) (i_bin false o_mul (i_var 2) (i_var 7))) is_nil)))
  (ss_cons (s_ite (t_cmp (o_eq hr.units) (i_var 8) i_int (nomark _)) (ss_cons (s_ret (i_call (T.cal 29 _ rfl) hr rfl (is_cons (i_var 9) is_nil)))
  ss_nil) ss_nil)
  (ss_cons (s_ret (i_bin false o_mul (i_call (T.cal 30 _ rfl) hr rfl (is_cons (i_var 0) (is_cons (i_call (T.cal 5 _ rfl) hr rfl (is_cons (i_neg (i_var 9)) (is_cons (i_var 8) is_nil))) is_nil))) (i_call (T.cal 29 _ rfl) hr rfl (is_cons (i_var 8) is_nil))))
  ss_nil)))))
theorem b_is_lasting (T : Top P w K mg base prog W k names consts blts) (f : Addr) (cdv : Value) (A : Around) (outer : List PySem.Env) (s : Shared) (H : Hp) (E : XK) (hr : Room k (A.deeper (envOfC "is_lasting" (defScope s_is_lasting) s.heap.objs.size f cdv))) :
    PSs (cxOf CX0 P w K mg base ["chain"] "is_lasting" (defScope s_is_lasting) f cdv A outer s H E).nox (defBody s_is_lasting) (tSs K (callN prog W k) W m_is_lasting) :=
  (ss_cons (s_exp (ps_expr (i_call (T.cal 14 _ rfl) hr rfl (is_cons (i_var 0) is_nil))))
  (ss_cons (s_ret (i_call (T.cal 24 _ rfl) hr rfl (is_cons (i_var 0) is_nil)))
  ss_nil))
theorem b_end_of_chain (T : Top P w K mg base prog W k names consts blts) (f : Addr) (cdv : Value) (A : Around) (outer : List PySem.Env) (s : Shared) (H : Hp) (E : XK) (hr : Room k (A.deeper (envOfC "end_of_chain" (defScope s_end_of_chain) s.heap.objs.size f cdv))) :
    PSs (cxOf CX0 P w K mg base ["chain", "found"] "end_of_chain" (defScope s_end_of_chain) f cdv A outer s H E).nox (defBody s_end_of_chain) (tSs K (callN prog W k) W m_end_of_chain) :=
  (ss_cons (s_exp (ps_expr (i_call (T.cal 25 _ rfl) hr rfl (is_cons (i_var 0) is_nil))))
  (ss_cons (s_set 1 sc_end_of_chain.nd (i_call (T.cal 28 _ rfl) hr rfl (is_cons (i_var 0) is_nil)))
  (ss_cons (s_ite (t_not (t_of (i_call (T.cal 26 _ rfl) hr rfl (is_cons (i_var 1) (is_cons (i_con rfl (T.con 0 _ _ rfl)) is_nil))))) (ss_cons s_rais
  ss_nil) ss_nil)
  (ss_cons (s_ret (i_var 1))
  ss_nil))))
theorem b_end_bounds (T : Top P w K mg base prog W k names consts blts) (f : Addr) (cdv : Value) (A : Around) (outer : List PySem.Env) (s : Shared) (H : Hp) (E : XK) (hr : Room k (A.deeper (envOfC "end_bounds" (defScope s_end_bounds) s.heap.objs.size f cdv))) :
    PSs (cxOf CX0 P w K mg base ["chain", "times", "whole"] "end_bounds" (defScope s_end_bounds) f cdv A outer s H E).nox (defBody s_end_bounds) (tSs K (callN prog W k) W m_end_bounds) :=
  (ss_cons (s_exp (ps_expr (i_call (T.cal 25 _ rfl) hr rfl (is_cons (i_var 0) is_nil))))
  (ss_cons (s_exp (ps_expr (i_call (T.cal 2 _ rfl) hr rfl (is_cons (i_var 1) (is_cons i_int (is_cons (i_con rfl (T.con 4 _ _ rfl)) is_nil))))))
  (ss_cons (s_set 2 sc_end_bounds.nd (i_call (T.cal 18 _ rfl) hr rfl (is_cons (i_bin false o_mul (i_lst false (is_cons (i_var 0) is_nil)) (i_var 1)) is_nil)))
  (ss_cons (s_ret (i_tup (is_cons (i_call (T.cal 19 _ rfl) hr rfl (is_cons (i_var 2) (is_cons (i_con rfl (T.con 3 _ _ rfl)) is_nil))) (is_cons (i_call (T.cal 19 _ rfl) hr rfl (is_cons (i_var 2) (is_cons i_non is_nil))) is_nil))))
  ss_nil))))
theorem b_chain_for_end (T : Top P w K mg base prog W k names consts blts) (f : Addr) (cdv : Value) (A : Around) (outer : List PySem.Env) (s : Shared) (H : Hp) (E : XK) (hr : Room k (A.deeper (envOfC "chain_for_end" (defScope s_chain_for_end) s.heap.objs.size f cdv))) :
    PSs (cxOf CX0 P w K mg base ["end", "x", "y", "z", "share", "above", "below", "first", "last"] "chain_for_end" (defScope s_chain_for_end) f cdv A outer s H E).nox (defBody s_chain_for_end) (tSs K (callN prog W k) W m_chain_for_end) :=
  (ss_cons (s_ite (t_not (t_of (i_call (T.cal 26 _ rfl) hr rfl (is_cons (i_var 0) (is_cons (i_con rfl (T.con 5 _ _ rfl)) is_nil))))) (ss_cons s_rais
  ss_nil) ss_nil)
  (ss_cons (s_asg (i_var 0) (g_tp rfl (gs_cons 1 sc_chain_for_end.nd (gs_cons 2 sc_chain_for_end.nd (gs_cons 3 sc_chain_for_end.nd gs_nil)))))
  (ss_cons (s_set 4 sc_chain_for_end.nd (i_ite (t_cmp (o_ne hr.units) (i_var 2) i_int (nomark _)) (i_bltB (f := false) c_abs rfl (T.blt 5 _ rfl) bb_abs (is_cons (i_var 2) is_nil)) i_int))
  (ss_cons (s_par 5 6 rfl sc_chain_for_end.nd (is_cons (i_bin false o_mul i_int (i_var 4)) (is_cons (i_bin false o_sub (i_bin false o_add (i_bin false o_mul (i_var 2) (i_var 2)) (i_bin false o_mul (i_bin false o_mul i_int (i_var 1)) (i_var 3))) (i_bin false o_mul (i_var 4) (i_var 4))) is_nil)))
  (ss_cons (s_par 7 8 rfl sc_chain_for_end.nd (is_cons (i_call (T.cal 5 _ rfl) hr rfl (is_cons (i_bin false o_mul (i_var 5) (i_bin false o_sub (i_var 4) (i_var 2))) (is_cons (i_bin false o_mul i_int (i_var 6)) is_nil))) (is_cons (i_call (T.cal 5 _ rfl) hr rfl (is_cons (i_bin false o_mul (i_var 5) (i_bin false o_add (i_var 4) (i_var 2))) (is_cons (i_bin false o_mul i_int (i_var 6)) is_nil))) is_nil)))
  (ss_cons (s_ret (i_tup (is_cons (i_call (T.cal 6 _ rfl) hr rfl (is_cons (i_con rfl (T.con 1 _ _ rfl)) (is_cons (i_var 7) is_nil))) (is_cons (i_call (T.cal 5 _ rfl) hr rfl (is_cons (i_bin false o_mul (i_var 5) (i_var 3)) (is_cons (i_var 6) is_nil))) (is_cons (i_call (T.cal 5 _ rfl) hr rfl (is_cons (i_bin false o_mul (i_var 5) (i_var 1)) (is_cons (i_var 6) is_nil))) (is_cons (i_call (T.cal 6 _ rfl) hr rfl (is_cons (i_con rfl (T.con 1 _ _ rfl)) (is_cons (i_var 8) is_nil))) is_nil))))))
  ss_nil))))))
theorem b_is_end_number (T : Top P w K mg base prog W k names consts blts) (f : Addr) (cdv : Value) (A : Around) (outer : List PySem.Env) (s : Shared) (H : Hp) (E : XK) (hr : Room k (A.deeper (envOfC "is_end_number" (defScope s_is_end_number) s.heap.objs.size f cdv))) :
    PSs (cxOf CX0 P w K mg base ["value"] "is_end_number" (defScope s_is_end_number) f cdv A outer s H E).nox (defBody s_is_end_number) (tSs K (callN prog W k) W m_is_end_number) :=
  (ss_cons (s_ret (i_call (T.cal 26 _ rfl) hr rfl (is_cons (i_var 0) (is_cons (i_con rfl (T.con 0 _ _ rfl)) is_nil))))
  ss_nil)
theorem b_end_beside (T : Top P w K mg base prog W k names consts blts) (t_WORDS : TabAt K mg "WORDS" tb_WORDS) (f : Addr) (cdv : Value) (A : Around) (outer : List PySem.Env) (s : Shared) (H : Hp) (E : XK) (hr : Room k (A.deeper (envOfC "end_beside" (defScope s_end_beside) s.heap.objs.size f cdv))) :
    PSs (cxOf CX0 P w K mg base ["end", "fraction"] "end_beside" (defScope s_end_beside) f cdv A outer s H E).nox (defBody s_end_beside) (tSs K (callN prog W k) W m_end_beside) :=
  (ss_cons (s_exp (ps_expr (i_call (T.cal 27 _ rfl) hr rfl (is_cons (i_var 0) is_nil))))
  (ss_cons (s_exp (ps_expr (i_call (T.cal 12 _ rfl) hr rfl (is_cons (i_var 1) is_nil))))
  (ss_cons (s_ret (i_tab rfl t_WORDS (i_call (T.cal 30 _ rfl) hr rfl (is_cons (i_var 0) (is_cons (i_var 1) is_nil)))))
  ss_nil)))
theorem b_compare_ends (T : Top P w K mg base prog W k names consts blts) (t_WORDS : TabAt K mg "WORDS" tb_WORDS) (f : Addr) (cdv : Value) (A : Around) (outer : List PySem.Env) (s : Shared) (H : Hp) (E : XK) (hr : Room k (A.deeper (envOfC "compare_ends" (defScope s_compare_ends) s.heap.objs.size f cdv))) :
    PSs (cxOf CX0 P w K mg base ["one", "other"] "compare_ends" (defScope s_compare_ends) f cdv A outer s H E).nox (defBody s_compare_ends) (tSs K (callN prog W k) W m_compare_ends) :=
  (ss_cons (s_exp (ps_expr (i_call (T.cal 27 _ rfl) hr rfl (is_cons (i_var 0) is_nil))))
  (ss_cons (s_exp (ps_expr (i_call (T.cal 27 _ rfl) hr rfl (is_cons (i_var 1) is_nil))))
  (ss_cons (s_ret (i_tab rfl t_WORDS (i_call (T.cal 31 _ rfl) hr rfl (is_cons (i_var 0) (is_cons (i_var 1) is_nil)))))
  ss_nil)))
theorem b__law_cup (T : Top P w K mg base prog W k names consts blts) (f : Addr) (cdv : Value) (A : Around) (outer : List PySem.Env) (s : Shared) (H : Hp) (E : XK) (hr : Room k (A.deeper (envOfC "_law_cup" (defScope s__law_cup) s.heap.objs.size f cdv))) :
    PSs (cxOf CX0 P w K mg base ["script", "cell"] "_law_cup" (defScope s__law_cup) f cdv A outer s H E).nox (defBody s__law_cup) (tSs K (callN prog W k) W m__law_cup) :=
  (ss_cons (s_set 1 sc__law_cup.nd (i_bltB (f := false) c_abs rfl (T.blt 5 _ rfl) bb_abs (is_cons (i_idx (i_bin false o_add (i_bltT (f := false) c_list rfl (T.blt 7 _ rfl) bb_list (is_cons (i_var 0) is_nil)) (i_lst false (is_cons i_int is_nil))) i_int) is_nil)))
  (ss_cons (s_ret (i_lst true (is_cons (i_ite (t_cmp o_ge (i_var 1) (i_bin false o_pow i_int i_int) (nomark _)) (i_bin false o_fdiv (i_var 1) i_int) i_int) (is_cons (i_bin false o_add (i_bin false o_mod (i_bltT (f := false) c_int rfl (T.blt 2 _ rfl) bb_int (is_cons (i_bin false o_add (i_bin false o_mul (i_var 1) i_int) i_int) is_nil)) i_int) i_int) is_nil))))
  ss_nil))
theorem b__law_roll (T : Top P w K mg base prog W k names consts blts) (f : Addr) (cdv : Value) (A : Around) (outer : List PySem.Env) (s : Shared) (H : Hp) (E : XK) (hr : Room k (A.deeper (envOfC "_law_roll" (defScope s__law_roll) s.heap.objs.size f cdv))) :
    PSs (cxOf CX0 P w K mg base ["cup", "many", "found", "deep"] "_law_roll" (defScope s__law_roll) f cdv A outer s H E).nox (defBody s__law_roll) (tSs K (callN prog W k) W m__law_roll) :=
  (ss_cons (s_ite (t_cmp o_gt (i_idx (i_var 0) i_int) i_int (nomark _)) (ss_cons (s_set 2 sc__law_roll.nd (i_bin false o_mod (i_bltT (f := false) c_int rfl (T.blt 2 _ rfl) bb_int (is_cons (i_idx (i_var 0) i_int) is_nil)) (i_var 1)))
  (ss_cons (s_seti (i_bin false o_fdiv (i_idx (i_var 0) i_int) (i_var 1)) (i_var 0) i_int)
  (ss_cons (s_ret (i_var 2))
  ss_nil))) ss_nil)
  (ss_cons (s_seti (i_bin false o_mod (i_bltT (f := false) c_int rfl (T.blt 2 _ rfl) bb_int (is_cons (i_bin false o_add (i_bin false o_mul (i_idx (i_var 0) i_int) i_int) i_int) is_nil)) i_int) (i_var 0) i_int)
  (ss_cons (s_set 3 sc__law_roll.nd (i_bin false o_mod (i_bltT (f := false) c_int rfl (T.blt 2 _ rfl) bb_int (is_cons (i_bin false o_mul (i_idx (i_var 0) i_int) (i_bin false o_add (i_idx (i_var 0) i_int) i_int)) is_nil)) i_int))
  (ss_cons (s_ret (i_bin false o_mod (i_bltT (f := false) c_int rfl (T.blt 2 _ rfl) bb_int (is_cons (i_bin false o_fdiv (i_var 3) i_int) is_nil)) (i_var 1)))
  ss_nil))))
theorem b__law_sort (T : Top P w K mg base prog W k names consts blts) (f : Addr) (cdv : Value) (A : Around) (outer : List PySem.Env) (s : Shared) (H : Hp) (E : XK) (hr : Room k (A.deeper (envOfC "_law_sort" (defScope s__law_sort) s.heap.objs.size f cdv))) :
    PSs (cxOf CX0 P w K mg base ["value"] "_law_sort" (defScope s__law_sort) f cdv A outer s H E).nox (defBody s__law_sort) (tSs K (callN prog W k) W m__law_sort) :=
  (ss_cons (s_ite (t_w (w_or (t_cmp o_is (i_var 0) i_non (nomark _)) (w_or1 (t_of (i_isi (T := .bool) rfl (T.blt 0 _ rfl) rfl (T.blt 1 _ rfl) bb_bool (i_var 0)))))) (ss_cons (s_ret (i_ite (t_cmp o_is (i_var 0) i_non (nomark _)) i_int i_int))
  ss_nil) ss_nil)
  (ss_cons (s_ite (t_w (w_or (t_of (i_isi (T := .int) rfl (T.blt 0 _ rfl) rfl (T.blt 2 _ rfl) bb_int (i_var 0))) (w_or1 (t_of (i_isi (T := .str) rfl (T.blt 0 _ rfl) rfl (T.blt 8 _ rfl) bb_str (i_var 0)))))) (ss_cons (s_ret (i_ite (t_of (i_isi (T := .int) rfl (T.blt 0 _ rfl) rfl (T.blt 2 _ rfl) bb_int (i_var 0))) i_int i_int))
  ss_nil) ss_nil)
  (ss_cons (s_ret (i_ite (t_of (i_isi (T := .tuple) rfl (T.blt 0 _ rfl) rfl (T.blt 4 _ rfl) bb_tuple (i_var 0))) i_int (i_ite (t_of (i_isi (T := .list) rfl (T.blt 0 _ rfl) rfl (T.blt 7 _ rfl) bb_list (i_var 0))) i_int i_int)))
  ss_nil)))
theorem b__law_like (T : Top P w K mg base prog W k names consts blts) (f : Addr) (cdv : Value) (A : Around) (outer : List PySem.Env) (s : Shared) (H : Hp) (E : XK) (hr : Room k (A.deeper (envOfC "_law_like" (defScope s__law_like) s.heap.objs.size f cdv))) :
    PSs (cxOf CX0 P w K mg base ["one", "other", "sort", "first", "second"] "_law_like" (defScope s__law_like) f cdv A outer s H E).nox (defBody s__law_like) (tSs K (callN prog W k) W m__law_like) :=
  (ss_cons (s_set 2 sc__law_like.nd (i_call (T.cal 41 _ rfl) hr rfl (is_cons (i_var 1) is_nil)))
  (ss_cons (s_ite (t_w (w_or (t_cmp (o_ne hr.units) (i_call (T.cal 41 _ rfl) hr rfl (is_cons (i_var 0) is_nil)) (i_var 2) (nomark _)) (w_or1 (t_cmp (o_eq hr.units) (i_var 2) i_int (nomark _))))) (ss_cons (s_ret i_bl)
  ss_nil) ss_nil)
  (ss_cons (s_ite (t_cmp o_in (i_var 2) (i_tup (is_cons i_int (is_cons i_int is_nil))) (by with_unfolding_all rfl)) (ss_cons (s_ret (i_and (i_cmp (o_eq hr.units) (i_bltB (f := false) c_len rfl (T.blt 3 _ rfl) bb_len (is_cons (i_var 0) is_nil)) (i_bltB (f := false) c_len rfl (T.blt 3 _ rfl) bb_len (is_cons (i_var 1) is_nil)) (nomark _)) (i_one (i_cmp (o_eq hr.units) (i_lc (own := [("first", 3), ("second", 4)]) false rfl sc__law_like.nd (it_zip rfl (T.blt 9 _ rfl) (is_cons (i_var 0) (is_cons (i_var 1) is_nil))) (blk_ok (N := ["one", "other", "sort", "first", "second"]) (sc := defScope s__law_like) (by decide +kernel)) rfl (fun _ _ _ _ _ => (g_tp rfl (gs_cons 3 sc__law_like.nd (gs_cons 4 sc__law_like.nd gs_nil)))) (fun _ _ _ _ _ => (cs_one (t_not (t_of (i_call (T.cal 42 _ rfl) hr rfl (is_cons (i_var 3) (is_cons (i_var 4) is_nil))))))) (fun _ _ _ _ _ => i_int)) (i_lst false is_nil) (nomark _)))))
  ss_nil) ss_nil)
  (ss_cons (s_ret (i_cmp (o_eq hr.units) (i_var 0) (i_var 1) (nomark _)))
  ss_nil))))
theorem b__law_least (T : Top P w K mg base prog W k names consts blts) (f : Addr) (cdv : Value) (A : Around) (outer : List PySem.Env) (s : Shared) (H : Hp) (E : XK) (hr : Room k (A.deeper (envOfC "_law_least" (defScope s__law_least) s.heap.objs.size f cdv))) :
    PSs (cxOf CX0 P w K mg base ["above", "below", "one", "other", "sign"] "_law_least" (defScope s__law_least) f cdv A outer s H E).nox (defBody s__law_least) (tSs K (callN prog W k) W m__law_least) :=
  (ss_cons (s_par 2 3 rfl sc__law_least.nd (is_cons (i_bltB (f := false) c_abs rfl (T.blt 5 _ rfl) bb_abs (is_cons (i_var 0) is_nil)) (is_cons (i_bltB (f := false) c_abs rfl (T.blt 5 _ rfl) bb_abs (is_cons (i_var 1) is_nil)) is_nil)))
  (ss_cons (s_whl PassesOwn.never (t_cmp (o_ne hr.units) (i_var 3) i_int (nomark _)) (ss_cons (s_par 2 3 rfl sc__law_least.nd (is_cons (i_var 3) (is_cons (i_bin false o_mod (i_bltT (f := false) c_int rfl (T.blt 2 _ rfl) bb_int (is_cons (i_var 2) is_nil)) (i_var 3)) is_nil)))
  ss_nil))
  (ss_cons (s_set 4 sc__law_least.nd (i_ite (t_cmp o_lt (i_var 1) i_int (nomark _)) (i_neg i_int) i_int))
  (ss_cons (s_ret (i_tup (is_cons (i_bltT (f := false) c_int rfl (T.blt 2 _ rfl) bb_int (is_cons (i_bin false o_fdiv (i_bin false o_mul (i_var 4) (i_var 0)) (i_var 2)) is_nil)) (is_cons (i_bltT (f := false) c_int rfl (T.blt 2 _ rfl) bb_int (is_cons (i_bin false o_fdiv (i_bin false o_mul (i_var 4) (i_var 1)) (i_var 2)) is_nil)) is_nil))))
  ss_nil))))
theorem b__law_plus (T : Top P w K mg base prog W k names consts blts) (f : Addr) (cdv : Value) (A : Around) (outer : List PySem.Env) (s : Shared) (H : Hp) (E : XK) (hr : Room k (A.deeper (envOfC "_law_plus" (defScope s__law_plus) s.heap.objs.size f cdv))) :
    PSs (cxOf CX0 P w K mg base ["one", "other"] "_law_plus" (defScope s__law_plus) f cdv A outer s H E).nox (defBody s__law_plus) (tSs K (callN prog W k) W m__law_plus) :=
  (ss_cons (s_ret (i_call (T.cal 43 _ rfl) hr rfl (is_cons (i_bin false o_add (i_bin false o_mul (i_idx (i_var 0) i_int) (i_idx (i_var 1) i_int)) (i_bin false o_mul (i_idx (i_var 1) i_int) (i_idx (i_var 0) i_int))) (is_cons (i_bin false o_mul (i_idx (i_var 0) i_int) (i_idx (i_var 1) i_int)) is_nil))))
  ss_nil)
theorem b__law_minus (T : Top P w K mg base prog W k names consts blts) (f : Addr) (cdv : Value) (A : Around) (outer : List PySem.Env) (s : Shared) (H : Hp) (E : XK) (hr : Room k (A.deeper (envOfC "_law_minus" (defScope s__law_minus) s.heap.objs.size f cdv))) :
    PSs (cxOf CX0 P w K mg base ["one", "other"] "_law_minus" (defScope s__law_minus) f cdv A outer s H E).nox (defBody s__law_minus) (tSs K (callN prog W k) W m__law_minus) :=
  (ss_cons (s_ret (i_call (T.cal 43 _ rfl) hr rfl (is_cons (i_bin false o_sub (i_bin false o_mul (i_idx (i_var 0) i_int) (i_idx (i_var 1) i_int)) (i_bin false o_mul (i_idx (i_var 1) i_int) (i_idx (i_var 0) i_int))) (is_cons (i_bin false o_mul (i_idx (i_var 0) i_int) (i_idx (i_var 1) i_int)) is_nil))))
  ss_nil)
theorem b__law_times (T : Top P w K mg base prog W k names consts blts) (f : Addr) (cdv : Value) (A : Around) (outer : List PySem.Env) (s : Shared) (H : Hp) (E : XK) (hr : Room k (A.deeper (envOfC "_law_times" (defScope s__law_times) s.heap.objs.size f cdv))) :
    PSs (cxOf CX0 P w K mg base ["one", "other"] "_law_times" (defScope s__law_times) f cdv A outer s H E).nox (defBody s__law_times) (tSs K (callN prog W k) W m__law_times) :=
  (ss_cons (s_ret (i_call (T.cal 43 _ rfl) hr rfl (is_cons (i_bin false o_mul (i_idx (i_var 0) i_int) (i_idx (i_var 1) i_int)) (is_cons (i_bin false o_mul (i_idx (i_var 0) i_int) (i_idx (i_var 1) i_int)) is_nil))))
  ss_nil)
theorem b__law_over (T : Top P w K mg base prog W k names consts blts) (f : Addr) (cdv : Value) (A : Around) (outer : List PySem.Env) (s : Shared) (H : Hp) (E : XK) (hr : Room k (A.deeper (envOfC "_law_over" (defScope s__law_over) s.heap.objs.size f cdv))) :
    PSs (cxOf CX0 P w K mg base ["one", "other"] "_law_over" (defScope s__law_over) f cdv A outer s H E).nox (defBody s__law_over) (tSs K (callN prog W k) W m__law_over) :=
  (ss_cons (s_ret (i_call (T.cal 43 _ rfl) hr rfl (is_cons (i_bin false o_mul (i_idx (i_var 0) i_int) (i_idx (i_var 1) i_int)) (is_cons (i_bin false o_mul (i_idx (i_var 0) i_int) (i_idx (i_var 1) i_int)) is_nil))))
  ss_nil)
theorem b__law_under (T : Top P w K mg base prog W k names consts blts) (f : Addr) (cdv : Value) (A : Around) (outer : List PySem.Env) (s : Shared) (H : Hp) (E : XK) (hr : Room k (A.deeper (envOfC "_law_under" (defScope s__law_under) s.heap.objs.size f cdv))) :
    PSs (cxOf CX0 P w K mg base ["one", "other"] "_law_under" (defScope s__law_under) f cdv A outer s H E).nox (defBody s__law_under) (tSs K (callN prog W k) W m__law_under) :=
  (ss_cons (s_ret (i_cmp o_lt (i_bin false o_mul (i_idx (i_var 0) i_int) (i_idx (i_var 1) i_int)) (i_bin false o_mul (i_idx (i_var 1) i_int) (i_idx (i_var 0) i_int)) (nomark _)))
  ss_nil)
theorem b__law_joined (T : Top P w K mg base prog W k names consts blts) (f : Addr) (cdv : Value) (A : Around) (outer : List PySem.Env) (s : Shared) (H : Hp) (E : XK) (hr : Room k (A.deeper (envOfC "_law_joined" (defScope s__law_joined) s.heap.objs.size f cdv))) :
    PSs (cxOf CX0 P w K mg base ["one", "other", "a", "b", "c", "d", "e", "f", "g", "h", "rows", "p", "q", "r", "s"] "_law_joined" (defScope s__law_joined) f cdv A outer s H E).nox (defBody s__law_joined) (tSs K (callN prog W k) W m__law_joined) :=
  (ss_cons (s_asg (i_var 0) (g_tp rfl (gs_cons 2 sc__law_joined.nd (gs_cons 3 sc__law_joined.nd (gs_cons 4 sc__law_joined.nd (gs_cons 5 sc__law_joined.nd gs_nil))))))
  (ss_cons (s_asg (i_var 1) (g_tp rfl (gs_cons 6 sc__law_joined.nd (gs_cons 7 sc__law_joined.nd (gs_cons 8 sc__law_joined.nd (gs_cons 9 sc__law_joined.nd gs_nil))))))
  (ss_cons (s_set 10 sc__law_joined.nd (i_tup (is_cons (i_tup (is_cons (i_var 2) (is_cons (i_var 6) (is_cons (i_var 3) (is_cons (i_var 8) is_nil))))) (is_cons (i_tup (is_cons (i_var 2) (is_cons (i_var 7) (is_cons (i_var 3) (is_cons (i_var 9) is_nil))))) (is_cons (i_tup (is_cons (i_var 4) (is_cons (i_var 6) (is_cons (i_var 5) (is_cons (i_var 8) is_nil))))) (is_cons (i_tup (is_cons (i_var 4) (is_cons (i_var 7) (is_cons (i_var 5) (is_cons (i_var 9) is_nil))))) is_nil))))))
  (ss_cons (s_ret (i_bltT (f := false) c_tuple rfl (T.blt 4 _ rfl) bb_tuple (is_cons (i_lc (own := [("p", 11), ("q", 12), ("r", 13), ("s", 14)]) false rfl sc__law_joined.nd (it_seq (i_var 10)) (blk_ok (N := ["one", "other", "a", "b", "c", "d", "e", "f", "g", "h", "rows", "p", "q", "r", "s"]) (sc := defScope s__law_joined) (by decide +kernel)) rfl (fun _ _ _ _ _ => (g_tp rfl (gs_cons 11 sc__law_joined.nd (gs_cons 12 sc__law_joined.nd (gs_cons 13 sc__law_joined.nd (gs_cons 14 sc__law_joined.nd gs_nil)))))) (fun _ _ _ _ _ => cs_nil) (fun _ _ _ _ _ => (i_call (T.cal 44 _ rfl) hr rfl (is_cons (i_call (T.cal 46 _ rfl) hr rfl (is_cons (i_var 11) (is_cons (i_var 12) is_nil))) (is_cons (i_call (T.cal 46 _ rfl) hr rfl (is_cons (i_var 13) (is_cons (i_var 14) is_nil))) is_nil))))) is_nil)))
  ss_nil))))
theorem b__law_any_chain (T : Top P w K mg base prog W k names consts blts) (f : Addr) (cdv : Value) (A : Around) (outer : List PySem.Env) (s : Shared) (H : Hp) (E : XK) (hr : Room k (A.deeper (envOfC "_law_any_chain" (defScope s__law_any_chain) s.heap.objs.size f cdv))) :
    PSs (cxOf CX0 P w K mg base ["cup", "size", "a", "b", "c", "turn"] "_law_any_chain" (defScope s__law_any_chain) f cdv A outer s H E).nox (defBody s__law_any_chain) (tSs K (callN prog W k) W m__law_any_chain) :=
  (ss_cons (s_asg (i_lc (own := [("turn", 5)]) false rfl sc__law_any_chain.nd (it_rng1 rfl (T.blt 10 _ rfl) (is_cons i_int is_nil)) (blk_ok (N := ["cup", "size", "a", "b", "c", "turn"]) (sc := defScope s__law_any_chain) (by decide +kernel)) rfl (fun _ _ _ _ _ => (g_nm 5 sc__law_any_chain.nd)) (fun _ _ _ _ _ => cs_nil) (fun _ _ _ _ _ => (i_call (T.cal 43 _ rfl) hr rfl (is_cons (i_bin false o_sub (i_call (T.cal 40 _ rfl) hr rfl (is_cons (i_var 0) (is_cons (i_bin false o_add (i_bin false o_mul i_int (i_var 1)) i_int) is_nil))) (i_var 1)) (is_cons (i_bin false o_add i_int (i_call (T.cal 40 _ rfl) hr rfl (is_cons (i_var 0) (is_cons (i_var 1) is_nil)))) is_nil))))) (g_ls rfl (gs_cons 2 sc__law_any_chain.nd (gs_cons 3 sc__law_any_chain.nd (gs_cons 4 sc__law_any_chain.nd gs_nil)))))
  (ss_cons (s_ite (t_cmp (o_eq hr.units) (i_var 2) (i_tup (is_cons i_int (is_cons i_int is_nil))) (nomark _)) (ss_cons (s_set 3 sc__law_any_chain.nd (i_ite (t_cmp (o_eq hr.units) (i_var 3) (i_tup (is_cons i_int (is_cons i_int is_nil))) (nomark _)) (i_tup (is_cons i_int (is_cons i_int is_nil))) (i_var 3)))
  (ss_cons (s_ret (i_tup (is_cons (i_var 2) (is_cons (i_var 3) (is_cons (i_call (T.cal 47 _ rfl) hr rfl (is_cons (i_tup (is_cons (i_neg i_int) (is_cons i_int is_nil))) (is_cons (i_var 3) is_nil))) (is_cons (i_var 4) is_nil))))))
  ss_nil)) ss_nil)
  (ss_cons (s_ret (i_tup (is_cons (i_var 2) (is_cons (i_var 3) (is_cons (i_var 4) (is_cons (i_call (T.cal 47 _ rfl) hr rfl (is_cons (i_call (T.cal 44 _ rfl) hr rfl (is_cons (i_tup (is_cons i_int (is_cons i_int is_nil))) (is_cons (i_call (T.cal 46 _ rfl) hr rfl (is_cons (i_var 3) (is_cons (i_var 4) is_nil))) is_nil))) (is_cons (i_var 2) is_nil))) is_nil))))))
  ss_nil)))
theorem b__law_number (T : Top P w K mg base prog W k names consts blts) (f : Addr) (cdv : Value) (A : Around) (outer : List PySem.Env) (s : Shared) (H : Hp) (E : XK) (hr : Room k (A.deeper (envOfC "_law_number" (defScope s__law_number) s.heap.objs.size f cdv))) :
    PSs (cxOf CX0 P w K mg base ["cup", "size"] "_law_number" (defScope s__law_number) f cdv A outer s H E).nox (defBody s__law_number) (tSs K (callN prog W k) W m__law_number) :=
  (ss_cons (s_ite (t_cmp (o_eq hr.units) (i_call (T.cal 40 _ rfl) hr rfl (is_cons (i_var 0) (is_cons i_int is_nil))) i_int (nomark _)) (ss_cons (s_ret (i_tup (is_cons i_int (is_cons i_int is_nil))))
  ss_nil) ss_nil)
  (ss_cons (s_ret (i_call (T.cal 43 _ rfl) hr rfl (is_cons (i_bin false o_add i_int (i_call (T.cal 40 _ rfl) hr rfl (is_cons (i_var 0) (is_cons (i_var 1) is_nil)))) (is_cons (i_bin false o_add i_int (i_call (T.cal 40 _ rfl) hr rfl (is_cons (i_var 0) (is_cons (i_var 1) is_nil)))) is_nil))))
  ss_nil))
theorem b__law_ladder (T : Top P w K mg base prog W k names consts blts) (f : Addr) (cdv : Value) (A : Around) (outer : List PySem.Env) (s : Shared) (H : Hp) (E : XK) (hr : Room k (A.deeper (envOfC "_law_ladder" (defScope s__law_ladder) s.heap.objs.size f cdv))) :
    PSs (cxOf CX0 P w K mg base ["cup", "most", "size", "rung"] "_law_ladder" (defScope s__law_ladder) f cdv A outer s H E).nox (defBody s__law_ladder) (tSs K (callN prog W k) W m__law_ladder) :=
  (ss_cons (s_ret (i_bltT (f := false) c_tuple rfl (T.blt 4 _ rfl) bb_tuple (is_cons (i_lc (own := [("rung", 3)]) false rfl sc__law_ladder.nd (it_rng1 rfl (T.blt 10 _ rfl) (is_cons (i_call (T.cal 40 _ rfl) hr rfl (is_cons (i_var 0) (is_cons (i_bin false o_add (i_var 1) i_int) is_nil))) is_nil)) (blk_ok (N := ["cup", "most", "size", "rung"]) (sc := defScope s__law_ladder) (by decide +kernel)) rfl (fun _ _ _ _ _ => (g_nm 3 sc__law_ladder.nd)) (fun _ _ _ _ _ => cs_nil) (fun _ _ _ _ _ => (i_tup (is_cons (i_call (T.cal 51 _ rfl) hr rfl (is_cons (i_var 0) (is_cons (i_var 2) is_nil))) (is_cons (i_call (T.cal 51 _ rfl) hr rfl (is_cons (i_var 0) (is_cons (i_var 2) is_nil))) is_nil))))) is_nil)))
  ss_nil)
theorem b__law_chain_of (T : Top P w K mg base prog W k names consts blts) (f : Addr) (cdv : Value) (A : Around) (outer : List PySem.Env) (s : Shared) (H : Hp) (E : XK) (hr : Room k (A.deeper (envOfC "_law_chain_of" (defScope s__law_chain_of) s.heap.objs.size f cdv))) :
    PSs (cxOf CX0 P w K mg base ["ladder", "found", "resistance", "lead"] "_law_chain_of" (defScope s__law_chain_of) f cdv A outer s H E).nox (defBody s__law_chain_of) (tSs K (callN prog W k) W m__law_chain_of) :=
  (ss_cons (s_set 1 sc__law_chain_of.nd (i_tup (is_cons (i_tup (is_cons i_int (is_cons i_int is_nil))) (is_cons (i_tup (is_cons i_int (is_cons i_int is_nil))) (is_cons (i_tup (is_cons i_int (is_cons i_int is_nil))) (is_cons (i_tup (is_cons i_int (is_cons i_int is_nil))) is_nil))))))
  (ss_cons (s_for PassesOwn.never rfl (it_seq (i_var 0)) (g_tp rfl (gs_cons 2 sc__law_chain_of.nd (gs_cons 3 sc__law_chain_of.nd gs_nil))) (ss_cons (s_set 1 sc__law_chain_of.nd (i_call (T.cal 49 _ rfl) hr rfl (is_cons (i_var 1) (is_cons (i_tup (is_cons (i_tup (is_cons i_int (is_cons i_int is_nil))) (is_cons (i_var 2) (is_cons (i_tup (is_cons i_int (is_cons i_int is_nil))) (is_cons (i_tup (is_cons i_int (is_cons i_int is_nil))) is_nil))))) is_nil))))
  (ss_cons (s_set 1 sc__law_chain_of.nd (i_call (T.cal 49 _ rfl) hr rfl (is_cons (i_var 1) (is_cons (i_tup (is_cons (i_tup (is_cons i_int (is_cons i_int is_nil))) (is_cons (i_tup (is_cons i_int (is_cons i_int is_nil))) (is_cons (i_var 3) (is_cons (i_tup (is_cons i_int (is_cons i_int is_nil))) is_nil))))) is_nil))))
  ss_nil)))
  (ss_cons (s_ret (i_var 1))
  ss_nil)))
theorem b__law_divisor (T : Top P w K mg base prog W k names consts blts) (f : Addr) (cdv : Value) (A : Around) (outer : List PySem.Env) (s : Shared) (H : Hp) (E : XK) (hr : Room k (A.deeper (envOfC "_law_divisor" (defScope s__law_divisor) s.heap.objs.size f cdv))) :
    PSs (cxOf CX0 P w K mg base ["one", "other"] "_law_divisor" (defScope s__law_divisor) f cdv A outer s H E).nox (defBody s__law_divisor) (tSs K (callN prog W k) W m__law_divisor) :=
  (ss_cons (s_par 0 1 rfl sc__law_divisor.nd (is_cons (i_bltB (f := false) c_abs rfl (T.blt 5 _ rfl) bb_abs (is_cons (i_var 0) is_nil)) (is_cons (i_bltB (f := false) c_abs rfl (T.blt 5 _ rfl) bb_abs (is_cons (i_var 1) is_nil)) is_nil)))
  (ss_cons (s_whl PassesOwn.never (t_cmp (o_ne hr.units) (i_var 1) i_int (nomark _)) (ss_cons (s_par 0 1 rfl sc__law_divisor.nd (is_cons (i_var 1) (is_cons (i_bin false o_mod (i_bltT (f := false) c_int rfl (T.blt 2 _ rfl) bb_int (is_cons (i_var 0) is_nil)) (i_var 1)) is_nil)))
  ss_nil))
  (ss_cons (s_ret (i_var 0))
  ss_nil)))
theorem b__law_end (T : Top P w K mg base prog W k names consts blts) (f : Addr) (cdv : Value) (A : Around) (outer : List PySem.Env) (s : Shared) (H : Hp) (E : XK) (hr : Room k (A.deeper (envOfC "_law_end" (defScope s__law_end) s.heap.objs.size f cdv))) :
    PSs (cxOf CX0 P w K mg base ["chain", "a", "b", "c", "d", "middle", "size", "whole", "part", "number"] "_law_end" (defScope s__law_end) f cdv A outer s H E).nox (defBody s__law_end) (tSs K (callN prog W k) W m__law_end) :=
  (ss_cons (s_asg (i_var 0) (g_tp rfl (gs_cons 1 sc__law_end.nd (gs_cons 2 sc__law_end.nd (gs_cons 3 sc__law_end.nd (gs_cons 4 sc__law_end.nd gs_nil))))))
  (ss_cons (s_set 5 sc__law_end.nd (i_call (T.cal 45 _ rfl) hr rfl (is_cons (i_var 4) (is_cons (i_var 1) is_nil))))
  (ss_cons (s_set 6 sc__law_end.nd (i_bin false o_mul (i_bin false o_mul (i_idx (i_var 2) i_int) (i_idx (i_var 3) i_int)) (i_idx (i_var 5) i_int)))
  (ss_cons (s_set 7 sc__law_end.nd (i_lst false (is_cons (i_bltT (f := false) c_int rfl (T.blt 2 _ rfl) bb_int (is_cons (i_bin false o_fdiv (i_bin false o_mul (i_idx (i_var 3) i_int) (i_var 6)) (i_idx (i_var 3) i_int)) is_nil)) (is_cons (i_bltT (f := false) c_int rfl (T.blt 2 _ rfl) bb_int (is_cons (i_bin false o_fdiv (i_bin false o_mul (i_idx (i_var 5) i_int) (i_var 6)) (i_idx (i_var 5) i_int)) is_nil)) (is_cons (i_bltT (f := false) c_int rfl (T.blt 2 _ rfl) bb_int (is_cons (i_bin false o_fdiv (i_bin false o_mul (i_idx (i_var 2) i_int) (i_var 6)) (i_idx (i_var 2) i_int)) is_nil)) is_nil)))))
  (ss_cons (s_set 8 sc__law_end.nd (i_call (T.cal 54 _ rfl) hr rfl (is_cons (i_call (T.cal 54 _ rfl) hr rfl (is_cons (i_idx (i_var 7) i_int) (is_cons (i_idx (i_var 7) i_int) is_nil))) (is_cons (i_idx (i_var 7) i_int) is_nil))))
  (ss_cons (s_ret (i_bltT (f := false) c_tuple rfl (T.blt 4 _ rfl) bb_tuple (is_cons (i_lc (own := [("number", 9)]) false rfl sc__law_end.nd (it_seq (i_var 7)) (blk_ok (N := ["chain", "a", "b", "c", "d", "middle", "size", "whole", "part", "number"]) (sc := defScope s__law_end) (by decide +kernel)) rfl (fun _ _ _ _ _ => (g_nm 9 sc__law_end.nd)) (fun _ _ _ _ _ => cs_nil) (fun _ _ _ _ _ => (i_bltT (f := false) c_int rfl (T.blt 2 _ rfl) bb_int (is_cons (i_bin false o_fdiv (i_var 9) (i_var 8)) is_nil)))) is_nil)))
  ss_nil))))))
theorem b__law_worth (T : Top P w K mg base prog W k names consts blts) (f : Addr) (cdv : Value) (A : Around) (outer : List PySem.Env) (s : Shared) (H : Hp) (E : XK) (hr : Room k (A.deeper (envOfC "_law_worth" (defScope s__law_worth) s.heap.objs.size f cdv))) :
    PSs (cxOf CX0 P w K mg base ["end", "fraction", "above", "below"] "_law_worth" (defScope s__law_worth) f cdv A outer s H E).nox (defBody s__law_worth) (tSs K (callN prog W k) W m__law_worth) :=
  (ss_cons (s_asg (i_var 1) (g_tp rfl (gs_cons 2 sc__law_worth.nd (gs_cons 3 sc__law_worth.nd gs_nil))))
  (ss_cons (s_ret (i_bin false o_sub (i_bin false o_add (i_bin false o_mul (i_bin false o_mul (i_idx (i_var 0) i_int) (i_var 2)) (i_var 2)) (i_bin false o_mul (i_bin false o_mul (i_idx (i_var 0) i_int) (i_var 2)) (i_var 3))) (i_bin false o_mul (i_bin false o_mul (i_idx (i_var 0) i_int) (i_var 3)) (i_var 3))))
  ss_nil))
theorem b__law_right (T : Top P w K mg base prog W k names consts blts) (f : Addr) (cdv : Value) (A : Around) (outer : List PySem.Env) (s : Shared) (H : Hp) (E : XK) (hr : Room k (A.deeper (envOfC "_law_right" (defScope s__law_right) s.heap.objs.size f cdv))) :
    PSs (cxOf CX0 P w K mg base ["cup", "chain", "a", "b", "c", "d", "good", "end", "last", "whole", "times", "low", "high", "near", "later", "side"] "_law_right" (defScope s__law_right) f cdv A outer s H E).nox (defBody s__law_right) (tSs K (callN prog W k) W m__law_right) :=
  (ss_cons (s_asg (i_var 1) (g_tp rfl (gs_cons 2 sc__law_right.nd (gs_cons 3 sc__law_right.nd (gs_cons 4 sc__law_right.nd (gs_cons 5 sc__law_right.nd gs_nil))))))
  (ss_cons (s_set 6 sc__law_right.nd (i_and (i_not (i_call (T.cal 48 _ rfl) hr rfl (is_cons (i_var 2) (is_cons (i_tup (is_cons i_int (is_cons i_int is_nil))) is_nil)))) (i_and (i_not (i_call (T.cal 48 _ rfl) hr rfl (is_cons (i_var 5) (is_cons (i_tup (is_cons i_int (is_cons i_int is_nil))) is_nil)))) (i_and (i_cmp o_gt (i_idx (i_var 3) i_int) i_int (nomark _)) (i_one (i_cmp o_gt (i_idx (i_var 4) i_int) i_int (nomark _)))))))
  (ss_cons (s_ite (t_w (w_or (t_not (t_of (i_call (T.cal 42 _ rfl) hr rfl (is_cons (i_lst false (is_cons (i_call (T.cal 21 _ rfl) hr rfl (is_cons (i_var 1) is_nil)) (is_cons (i_call (T.cal 32 _ rfl) hr rfl (is_cons (i_var 1) is_nil)) is_nil))) (is_cons (i_lst false (is_cons i_bl (is_cons (i_var 6) is_nil))) is_nil))))) (w_or1 (t_w (w_and (t_of (i_var 6)) (w_and1 (t_cmp o_isn (i_call (T.cal 23 _ rfl) hr rfl (is_cons (i_var 1) is_nil)) i_bl (nomark _)))))))) (ss_cons (s_ret i_bl)
  ss_nil) ss_nil)
  (ss_cons (s_ite (t_not (t_of (i_var 6))) (ss_cons (s_ret i_bl)
  ss_nil) ss_nil)
  (ss_cons (s_par 7 8 rfl sc__law_right.nd (is_cons (i_call (T.cal 33 _ rfl) hr rfl (is_cons (i_var 1) is_nil)) (is_cons i_non is_nil)))
  (ss_cons (s_ite (t_not (t_of (i_call (T.cal 42 _ rfl) hr rfl (is_cons (i_lst false (is_cons (i_var 7) (is_cons (i_call (T.cal 36 _ rfl) hr rfl (is_cons (i_var 7) is_nil)) is_nil))) (is_cons (i_lst false (is_cons (i_call (T.cal 55 _ rfl) hr rfl (is_cons (i_var 1) is_nil)) (is_cons i_bl is_nil))) is_nil))))) (ss_cons (s_ret i_bl)
  ss_nil) ss_nil)
  (ss_cons (s_set 9 sc__law_right.nd (i_tup (is_cons (i_tup (is_cons i_int (is_cons i_int is_nil))) (is_cons (i_tup (is_cons i_int (is_cons i_int is_nil))) (is_cons (i_tup (is_cons i_int (is_cons i_int is_nil))) (is_cons (i_tup (is_cons i_int (is_cons i_int is_nil))) is_nil))))))
  (ss_cons (s_for PassesOwn.never rfl (it_rng2 rfl (T.blt 10 _ rfl) (is_cons i_int (is_cons (i_bin false o_add i_int (i_call (T.cal 40 _ rfl) hr rfl (is_cons (i_var 0) (is_cons i_int is_nil)))) is_nil))) (g_nm 10 sc__law_right.nd) (ss_cons (s_set 9 sc__law_right.nd (i_call (T.cal 49 _ rfl) hr rfl (is_cons (i_var 9) (is_cons (i_var 1) is_nil))))
  (ss_cons (s_asg (i_call (T.cal 34 _ rfl) hr rfl (is_cons (i_var 1) (is_cons (i_var 10) is_nil))) (g_tp rfl (gs_cons 11 sc__law_right.nd (gs_cons 12 sc__law_right.nd gs_nil))))
  (ss_cons (s_ite (t_not (t_of (i_call (T.cal 42 _ rfl) hr rfl (is_cons (i_lst false (is_cons (i_var 11) (is_cons (i_var 12) is_nil))) (is_cons (i_lst false (is_cons (i_call (T.cal 47 _ rfl) hr rfl (is_cons (i_idx (i_var 9) i_int) (is_cons (i_idx (i_var 9) i_int) is_nil))) (is_cons (i_call (T.cal 47 _ rfl) hr rfl (is_cons (i_idx (i_var 9) i_int) (is_cons (i_idx (i_var 9) i_int) is_nil))) is_nil))) is_nil))))) (ss_cons (s_ret i_bl)
  ss_nil) ss_nil)
  (ss_cons (s_ite (t_w (w_or (t_cmp o_ge (i_call (T.cal 56 _ rfl) hr rfl (is_cons (i_var 7) (is_cons (i_var 11) is_nil))) i_int (nomark _)) (w_or1 (t_cmp o_le (i_call (T.cal 56 _ rfl) hr rfl (is_cons (i_var 7) (is_cons (i_var 12) is_nil))) i_int (nomark _))))) (ss_cons (s_ret i_bl)
  ss_nil) ss_nil)
  (ss_cons (s_ite (t_w (w_and (t_cmp o_isn (i_var 8) i_non (nomark _)) (w_and1 (t_w (w_or (t_not (t_of (i_call (T.cal 48 _ rfl) hr rfl (is_cons (i_idx (i_var 8) i_int) (is_cons (i_var 11) is_nil))))) (w_or1 (t_not (t_of (i_call (T.cal 48 _ rfl) hr rfl (is_cons (i_var 12) (is_cons (i_idx (i_var 8) i_int) is_nil))))))))))) (ss_cons (s_ret i_bl)
  ss_nil) ss_nil)
  (ss_cons (s_set 8 sc__law_right.nd (i_tup (is_cons (i_var 11) (is_cons (i_var 12) is_nil))))
  (ss_cons (s_ite (t_w (w_and (t_cmp o_lt (i_bltB (f := false) (c_max rfl) rfl (T.blt 11 _ rfl) bb_max (is_cons (i_idx (i_var 11) i_int) (is_cons (i_idx (i_var 11) i_int) (is_cons (i_idx (i_var 12) i_int) (is_cons (i_idx (i_var 12) i_int) is_nil))))) (i_bin false o_pow i_int i_int) (nomark _)) (w_and1 (t_not (t_of (i_call (T.cal 42 _ rfl) hr rfl (is_cons (i_lst false (is_cons (i_call (T.cal 37 _ rfl) hr rfl (is_cons (i_var 7) (is_cons (i_var 11) is_nil))) (is_cons (i_call (T.cal 37 _ rfl) hr rfl (is_cons (i_var 7) (is_cons (i_var 12) is_nil))) is_nil))) (is_cons (i_lst false (is_cons i_str (is_cons i_str is_nil))) is_nil)))))))) (ss_cons (s_ret i_bl)
  ss_nil) ss_nil)
  ss_nil))))))))
  (ss_cons (s_set 13 sc__law_right.nd (i_call (T.cal 43 _ rfl) hr rfl (is_cons (i_bin false o_add i_int (i_call (T.cal 40 _ rfl) hr rfl (is_cons (i_var 0) (is_cons i_int is_nil)))) (is_cons (i_bin false o_add i_int (i_call (T.cal 40 _ rfl) hr rfl (is_cons (i_var 0) (is_cons i_int is_nil)))) is_nil))))
  (ss_cons (s_par 14 15 rfl sc__law_right.nd (is_cons (i_call (T.cal 22 _ rfl) hr rfl (is_cons (i_var 1) (is_cons (i_var 13) is_nil))) (is_cons (i_call (T.cal 56 _ rfl) hr rfl (is_cons (i_var 7) (is_cons (i_var 13) is_nil))) is_nil)))
  (ss_cons (s_ite (t_cmp (o_eq hr.units) (i_var 15) i_int (nomark _)) (ss_cons (s_ret (i_cmp (o_eq hr.units) (i_var 14) (i_var 13) (nomark _)))
  ss_nil) ss_nil)
  (ss_cons (s_ret (i_and (i_cmp (o_eq hr.units) (i_call (T.cal 48 _ rfl) hr rfl (is_cons (i_var 13) (is_cons (i_var 14) is_nil))) (i_cmp o_lt (i_var 15) i_int (nomark _)) (nomark _)) (i_one (i_cmp (o_eq hr.units) (i_cmp o_lt (i_call (T.cal 56 _ rfl) hr rfl (is_cons (i_var 7) (is_cons (i_var 14) is_nil))) i_int (nomark _)) (i_cmp o_lt (i_var 15) i_int (nomark _)) (nomark _)))))
  ss_nil))))))))))))
theorem b__law_back_right (T : Top P w K mg base prog W k names consts blts) (f : Addr) (cdv : Value) (A : Around) (outer : List PySem.Env) (s : Shared) (H : Hp) (E : XK) (hr : Room k (A.deeper (envOfC "_law_back_right" (defScope s__law_back_right) s.heap.objs.size f cdv))) :
    PSs (cxOf CX0 P w K mg base ["end", "told"] "_law_back_right" (defScope s__law_back_right) f cdv A outer s H E).nox (defBody s__law_back_right) (tSs K (callN prog W k) W m__law_back_right) :=
  (ss_cons (s_set 1 sc__law_back_right.nd (i_call (T.cal 35 _ rfl) hr rfl (is_cons (i_var 0) is_nil)))
  (ss_cons (s_ite (t_w (w_or (t_cmp o_isn (i_call (T.cal 21 _ rfl) hr rfl (is_cons (i_var 1) is_nil)) i_bl (nomark _)) (w_or1 (t_cmp o_isn (i_call (T.cal 32 _ rfl) hr rfl (is_cons (i_var 1) is_nil)) i_bl (nomark _))))) (ss_cons (s_ret i_bl)
  ss_nil) ss_nil)
  (ss_cons (s_ret (i_call (T.cal 42 _ rfl) hr rfl (is_cons (i_lst false (is_cons (i_call (T.cal 55 _ rfl) hr rfl (is_cons (i_var 1) is_nil)) (is_cons (i_call (T.cal 33 _ rfl) hr rfl (is_cons (i_var 1) is_nil)) (is_cons (i_call (T.cal 38 _ rfl) hr rfl (is_cons (i_call (T.cal 33 _ rfl) hr rfl (is_cons (i_var 1) is_nil)) (is_cons (i_var 0) is_nil))) is_nil)))) (is_cons (i_lst false (is_cons (i_var 0) (is_cons (i_var 0) (is_cons i_str is_nil)))) is_nil))))
  ss_nil)))
theorem b__law_drawn (T : Top P w K mg base prog W k names consts blts) (f : Addr) (cdv : Value) (A : Around) (outer : List PySem.Env) (s : Shared) (H : Hp) (E : XK) (hr : Room k (A.deeper (envOfC "_law_drawn" (defScope s__law_drawn) s.heap.objs.size f cdv))) :
    PSs (cxOf CX0 P w K mg base ["cup", "size", "whole", "part", "number"] "_law_drawn" (defScope s__law_drawn) f cdv A outer s H E).nox (defBody s__law_drawn) (tSs K (callN prog W k) W m__law_drawn) :=
  (ss_cons (s_set 2 sc__law_drawn.nd (i_tup (is_cons (i_bin false o_add i_int (i_call (T.cal 40 _ rfl) hr rfl (is_cons (i_var 0) (is_cons (i_var 1) is_nil)))) (is_cons (i_bin false o_sub (i_call (T.cal 40 _ rfl) hr rfl (is_cons (i_var 0) (is_cons (i_bin false o_add (i_bin false o_mul i_int (i_var 1)) i_int) is_nil))) (i_var 1)) (is_cons (i_bin false o_add i_int (i_call (T.cal 40 _ rfl) hr rfl (is_cons (i_var 0) (is_cons (i_var 1) is_nil)))) is_nil)))))
  (ss_cons (s_set 3 sc__law_drawn.nd (i_call (T.cal 54 _ rfl) hr rfl (is_cons (i_call (T.cal 54 _ rfl) hr rfl (is_cons (i_idx (i_var 2) i_int) (is_cons (i_idx (i_var 2) i_int) is_nil))) (is_cons (i_idx (i_var 2) i_int) is_nil))))
  (ss_cons (s_ret (i_bltT (f := false) c_tuple rfl (T.blt 4 _ rfl) bb_tuple (is_cons (i_lc (own := [("number", 4)]) false rfl sc__law_drawn.nd (it_seq (i_var 2)) (blk_ok (N := ["cup", "size", "whole", "part", "number"]) (sc := defScope s__law_drawn) (by decide +kernel)) rfl (fun _ _ _ _ _ => (g_nm 4 sc__law_drawn.nd)) (fun _ _ _ _ _ => cs_nil) (fun _ _ _ _ _ => (i_bltT (f := false) c_int rfl (T.blt 2 _ rfl) bb_int (is_cons (i_bin false o_fdiv (i_var 4) (i_var 3)) is_nil)))) is_nil)))
  ss_nil)))
theorem b_law (T : Top P w K mg base prog W k names consts blts) (f : Addr) (cdv : Value) (A : Around) (outer : List PySem.Env) (s : Shared) (H : Hp) (E : XK) (hr : Room k (A.deeper (envOfC "law" (defScope s_law) s.heap.objs.size f cdv))) :
    PSs (cxOf CX0 P w K mg base ["script", "cup", "one", "told", "most", "size", "some", "r", "g", "end"] "law" (defScope s_law) f cdv A outer s H E).nox (defBody s_law) (tSs K (callN prog W k) W m_law) :=
  (ss_cons (s_set 1 sc_law.nd (i_call (T.cal 39 _ rfl) hr rfl (is_cons (i_var 0) is_nil)))
  (ss_cons (s_set 2 sc_law.nd (i_tup (is_cons (i_tup (is_cons i_int (is_cons i_int is_nil))) (is_cons (i_tup (is_cons i_int (is_cons i_int is_nil))) (is_cons (i_tup (is_cons i_int (is_cons i_int is_nil))) (is_cons (i_tup (is_cons i_int (is_cons i_int is_nil))) is_nil))))))
  (ss_cons (s_set 3 sc_law.nd (i_lst false (is_cons (i_call (T.cal 32 _ rfl) hr rfl (is_cons (i_var 2) is_nil)) (is_cons (i_call (T.cal 32 _ rfl) hr rfl (is_cons (i_tup (is_cons (i_tup (is_cons i_int (is_cons i_int is_nil))) (is_cons (i_tup (is_cons i_int (is_cons i_int is_nil))) (is_cons (i_tup (is_cons i_int (is_cons i_int is_nil))) (is_cons (i_tup (is_cons i_int (is_cons i_int is_nil))) is_nil))))) is_nil)) (is_cons (i_call (T.cal 33 _ rfl) hr rfl (is_cons (i_var 2) is_nil)) (is_cons (i_call (T.cal 34 _ rfl) hr rfl (is_cons (i_var 2) (is_cons i_int is_nil))) (is_cons (i_call (T.cal 34 _ rfl) hr rfl (is_cons (i_var 2) (is_cons i_int is_nil))) is_nil)))))))
  (ss_cons (s_set 3 sc_law.nd (i_bin false o_add (i_var 3) (i_lst false (is_cons (i_call (T.cal 33 _ rfl) hr rfl (is_cons (i_call (T.cal 35 _ rfl) hr rfl (is_cons (i_tup (is_cons i_int (is_cons i_int (is_cons i_int is_nil)))) is_nil)) is_nil)) (is_cons (i_call (T.cal 33 _ rfl) hr rfl (is_cons (i_tup (is_cons (i_tup (is_cons i_int (is_cons i_int is_nil))) (is_cons (i_tup (is_cons i_int (is_cons i_int is_nil))) (is_cons (i_tup (is_cons i_int (is_cons i_int is_nil))) (is_cons (i_tup (is_cons i_int (is_cons i_int is_nil))) is_nil))))) is_nil)) is_nil)))))
  (ss_cons (s_ite (t_not (t_of (i_call (T.cal 42 _ rfl) hr rfl (is_cons (i_var 3) (is_cons (i_lst false (is_cons i_bl (is_cons i_bl (is_cons (i_tup (is_cons i_int (is_cons (i_neg i_int) (is_cons i_int is_nil)))) (is_cons (i_tup (is_cons (i_tup (is_cons i_int (is_cons i_int is_nil))) (is_cons (i_tup (is_cons i_int (is_cons i_int is_nil))) is_nil))) (is_cons (i_tup (is_cons (i_tup (is_cons i_int (is_cons i_int is_nil))) (is_cons (i_tup (is_cons i_int (is_cons i_int is_nil))) is_nil))) (is_cons (i_tup (is_cons i_int (is_cons i_int (is_cons i_int is_nil)))) (is_cons (i_tup (is_cons i_int (is_cons i_int (is_cons i_int is_nil)))) is_nil)))))))) is_nil))))) (ss_cons (s_ret i_bl)
  ss_nil) ss_nil)
  (ss_cons (s_for PassesOwn.never rfl (it_seq (i_tup (is_cons (i_tup (is_cons i_int (is_cons i_int is_nil))) (is_cons (i_tup (is_cons i_int (is_cons i_int is_nil))) (is_cons (i_tup (is_cons i_int (is_cons i_int is_nil))) is_nil))))) (g_tp rfl (gs_cons 4 sc_law.nd (gs_cons 5 sc_law.nd gs_nil))) (ss_cons (s_ite (t_not (t_of (i_call (T.cal 57 _ rfl) hr rfl (is_cons (i_var 1) (is_cons (i_call (T.cal 53 _ rfl) hr rfl (is_cons (i_call (T.cal 52 _ rfl) hr rfl (is_cons (i_var 1) (is_cons (i_var 4) (is_cons (i_var 5) is_nil)))) is_nil)) is_nil))))) (ss_cons (s_ret i_bl)
  ss_nil) ss_nil)
  ss_nil))
  (ss_cons (s_set 6 sc_law.nd (i_tup (is_cons (i_tup (is_cons (i_call (T.cal 51 _ rfl) hr rfl (is_cons (i_var 1) (is_cons i_int is_nil))) (is_cons (i_tup (is_cons i_int (is_cons i_int is_nil))) is_nil))) (is_cons (i_tup (is_cons (i_tup (is_cons i_int (is_cons i_int is_nil))) (is_cons (i_call (T.cal 51 _ rfl) hr rfl (is_cons (i_var 1) (is_cons i_int is_nil))) is_nil))) is_nil))))
  (ss_cons (s_ite (t_w (w_or (t_not (t_of (i_call (T.cal 57 _ rfl) hr rfl (is_cons (i_var 1) (is_cons (i_call (T.cal 50 _ rfl) hr rfl (is_cons (i_var 1) (is_cons i_int is_nil))) is_nil))))) (w_or1 (t_not (t_of (i_call (T.cal 57 _ rfl) hr rfl (is_cons (i_var 1) (is_cons (i_call (T.cal 53 _ rfl) hr rfl (is_cons (i_var 6) is_nil)) is_nil)))))))) (ss_cons (s_ret i_bl)
  ss_nil) ss_nil)
  (ss_cons (s_for PassesOwn.never rfl (it_seq (i_tup (is_cons i_int (is_cons i_int (is_cons (i_bin false o_pow i_int i_int) (is_cons (i_bin false o_sub (i_bin false o_pow i_int i_int) i_int) is_nil)))))) (g_nm 5 sc_law.nd) (ss_cons (s_ite (t_w (w_or (t_not (t_of (i_call (T.cal 58 _ rfl) hr rfl (is_cons (i_call (T.cal 59 _ rfl) hr rfl (is_cons (i_var 1) (is_cons (i_var 5) is_nil))) is_nil)))) (w_or1 (t_not (t_of (i_call (T.cal 58 _ rfl) hr rfl (is_cons (i_tup (is_cons i_int (is_cons i_int (is_cons (i_bin false o_add i_int (i_call (T.cal 40 _ rfl) hr rfl (is_cons (i_var 1) (is_cons (i_var 5) is_nil)))) is_nil)))) is_nil))))))) (ss_cons (s_ret i_bl)
  ss_nil) ss_nil)
  ss_nil))
  (ss_cons (s_par 7 8 rfl sc_law.nd (is_cons (i_call (T.cal 43 _ rfl) hr rfl (is_cons (i_bin false o_add i_int (i_call (T.cal 40 _ rfl) hr rfl (is_cons (i_var 1) (is_cons i_int is_nil)))) (is_cons (i_bin false o_add i_int (i_call (T.cal 40 _ rfl) hr rfl (is_cons (i_var 1) (is_cons i_int is_nil)))) is_nil))) (is_cons (i_call (T.cal 43 _ rfl) hr rfl (is_cons (i_bin false o_add i_int (i_call (T.cal 40 _ rfl) hr rfl (is_cons (i_var 1) (is_cons i_int is_nil)))) (is_cons (i_bin false o_add i_int (i_call (T.cal 40 _ rfl) hr rfl (is_cons (i_var 1) (is_cons i_int is_nil)))) is_nil))) is_nil)))
  (ss_cons (s_set 9 sc_law.nd (i_call (T.cal 33 _ rfl) hr rfl (is_cons (i_call (T.cal 53 _ rfl) hr rfl (is_cons (i_tup (is_cons (i_tup (is_cons (i_var 7) (is_cons (i_var 8) is_nil))) is_nil)) is_nil)) is_nil)))
  (ss_cons (s_ret (i_call (T.cal 42 _ rfl) hr rfl (is_cons (i_lst false (is_cons (i_call (T.cal 43 _ rfl) hr rfl (is_cons (i_neg (i_idx (i_var 9) i_int)) (is_cons (i_idx (i_var 9) i_int) is_nil))) (is_cons (i_call (T.cal 43 _ rfl) hr rfl (is_cons (i_idx (i_var 9) i_int) (is_cons (i_idx (i_var 9) i_int) is_nil))) is_nil))) (is_cons (i_lst false (is_cons (i_var 7) (is_cons (i_call (T.cal 47 _ rfl) hr rfl (is_cons (i_var 7) (is_cons (i_var 8) is_nil))) is_nil))) is_nil))))
  ss_nil))))))))))))
theorem bi_is_integer : BindsP s_is_integer "is_integer" ["value"] := fun _ _ _ _ _ _ us hl => match us, hl with | [_], _ => rfl
theorem bi_is_whole : BindsP s_is_whole "is_whole" ["value", "low", "high"] := fun _ _ _ _ _ _ us hl => match us, hl with | [_, _, _], _ => rfl
theorem bi_need_whole : BindsP s_need_whole "need_whole" ["value", "low", "high"] := fun _ _ _ _ _ _ us hl => match us, hl with | [_, _, _], _ => rfl
theorem bi_is_tuple_of : BindsP s_is_tuple_of "is_tuple_of" ["value", "low", "high"] := fun _ _ _ _ _ _ us hl => match us, hl with | [_, _, _], _ => rfl
theorem bi_divisor_of : BindsP s_divisor_of "divisor_of" ["one", "other"] := fun _ _ _ _ _ _ us hl => match us, hl with | [_, _], _ => rfl
theorem bi_lowest : BindsP s_lowest "lowest" ["above", "below"] := fun _ _ _ _ _ _ us hl => match us, hl with | [_, _], _ => rfl
theorem bi_sum_of : BindsP s_sum_of "sum_of" ["one", "other"] := fun _ _ _ _ _ _ us hl => match us, hl with | [_, _], _ => rfl
theorem bi_less_by : BindsP s_less_by "less_by" ["one", "other"] := fun _ _ _ _ _ _ us hl => match us, hl with | [_, _], _ => rfl
theorem bi_product_of : BindsP s_product_of "product_of" ["one", "other"] := fun _ _ _ _ _ _ us hl => match us, hl with | [_, _], _ => rfl
theorem bi_part_of : BindsP s_part_of "part_of" ["one", "other"] := fun _ _ _ _ _ _ us hl => match us, hl with | [_, _], _ => rfl
theorem bi_is_under : BindsP s_is_under "is_under" ["one", "other"] := fun _ _ _ _ _ _ us hl => match us, hl with | [_, _], _ => rfl
theorem bi_fits_fraction : BindsP s_fits_fraction "fits_fraction" ["value"] := fun _ _ _ _ _ _ us hl => match us, hl with | [_], _ => rfl
theorem bi_need_fraction : BindsP s_need_fraction "need_fraction" ["value"] := fun _ _ _ _ _ _ us hl => match us, hl with | [_], _ => rfl
theorem bi_fits_chain : BindsP s_fits_chain "fits_chain" ["value"] := fun _ _ _ _ _ _ us hl => match us, hl with | [_], _ => rfl
theorem bi_need_chain : BindsP s_need_chain "need_chain" ["chain"] := fun _ _ _ _ _ _ us hl => match us, hl with | [_], _ => rfl
theorem bi_is_from_none : BindsP s_is_from_none "is_from_none" ["fraction"] := fun _ _ _ _ _ _ us hl => match us, hl with | [_], _ => rfl
theorem bi_need_load : BindsP s_need_load "need_load" ["load"] := fun _ _ _ _ _ _ us hl => match us, hl with | [_], _ => rfl
theorem bi_joined_chain : BindsP s_joined_chain "joined_chain" ["one", "other"] := fun _ _ _ _ _ _ us hl => match us, hl with | [_, _], _ => rfl
theorem bi_product_in : BindsP s_product_in "product_in" ["chains"] := fun _ _ _ _ _ _ us hl => match us, hl with | [_], _ => rfl
theorem bi_seen_in : BindsP s_seen_in "seen_in" ["chain", "load"] := fun _ _ _ _ _ _ us hl => match us, hl with | [_, _], _ => rfl
theorem bi_is_told_in : BindsP s_is_told_in "is_told_in" ["chain"] := fun _ _ _ _ _ _ us hl => match us, hl with | [_], _ => rfl
theorem bi_is_chain : BindsP s_is_chain "is_chain" ["value"] := fun _ _ _ _ _ _ us hl => match us, hl with | [_], _ => rfl
theorem bi_chain_seen : BindsP s_chain_seen "chain_seen" ["chain", "load"] := fun _ _ _ _ _ _ us hl => match us, hl with | [_, _], _ => rfl
theorem bi_is_told_chain : BindsP s_is_told_chain "is_told_chain" ["chain"] := fun _ _ _ _ _ _ us hl => match us, hl with | [_], _ => rfl
theorem bi_is_lasting_in : BindsP s_is_lasting_in "is_lasting_in" ["chain"] := fun _ _ _ _ _ _ us hl => match us, hl with | [_], _ => rfl
theorem bi_need_lasting : BindsP s_need_lasting "need_lasting" ["chain"] := fun _ _ _ _ _ _ us hl => match us, hl with | [_], _ => rfl
theorem bi_fits_end : BindsP s_fits_end "fits_end" ["value", "most"] := fun _ _ _ _ _ _ us hl => match us, hl with | [_, _], _ => rfl
theorem bi_need_end : BindsP s_need_end "need_end" ["end"] := fun _ _ _ _ _ _ us hl => match us, hl with | [_], _ => rfl
theorem bi_end_in : BindsP s_end_in "end_in" ["chain"] := fun _ _ _ _ _ _ us hl => match us, hl with | [_], _ => rfl
theorem bi_sign_of : BindsP s_sign_of "sign_of" ["number"] := fun _ _ _ _ _ _ us hl => match us, hl with | [_], _ => rfl
theorem bi_beside_in : BindsP s_beside_in "beside_in" ["end", "fraction"] := fun _ _ _ _ _ _ us hl => match us, hl with | [_, _], _ => rfl
theorem bi_compared : BindsP s_compared "compared" ["one", "other"] := fun _ _ _ _ _ _ us hl => match us, hl with | [_, _], _ => rfl
theorem bi_is_lasting : BindsP s_is_lasting "is_lasting" ["chain"] := fun _ _ _ _ _ _ us hl => match us, hl with | [_], _ => rfl
theorem bi_end_of_chain : BindsP s_end_of_chain "end_of_chain" ["chain"] := fun _ _ _ _ _ _ us hl => match us, hl with | [_], _ => rfl
theorem bi_end_bounds : BindsP s_end_bounds "end_bounds" ["chain", "times"] := fun _ _ _ _ _ _ us hl => match us, hl with | [_, _], _ => rfl
theorem bi_chain_for_end : BindsP s_chain_for_end "chain_for_end" ["end"] := fun _ _ _ _ _ _ us hl => match us, hl with | [_], _ => rfl
theorem bi_is_end_number : BindsP s_is_end_number "is_end_number" ["value"] := fun _ _ _ _ _ _ us hl => match us, hl with | [_], _ => rfl
theorem bi_end_beside : BindsP s_end_beside "end_beside" ["end", "fraction"] := fun _ _ _ _ _ _ us hl => match us, hl with | [_, _], _ => rfl
theorem bi_compare_ends : BindsP s_compare_ends "compare_ends" ["one", "other"] := fun _ _ _ _ _ _ us hl => match us, hl with | [_, _], _ => rfl
theorem bi__law_cup : BindsP s__law_cup "_law_cup" ["script"] := fun _ _ _ _ _ _ us hl => match us, hl with | [_], _ => rfl
theorem bi__law_roll : BindsP s__law_roll "_law_roll" ["cup", "many"] := fun _ _ _ _ _ _ us hl => match us, hl with | [_, _], _ => rfl
theorem bi__law_sort : BindsP s__law_sort "_law_sort" ["value"] := fun _ _ _ _ _ _ us hl => match us, hl with | [_], _ => rfl
theorem bi__law_like : BindsP s__law_like "_law_like" ["one", "other"] := fun _ _ _ _ _ _ us hl => match us, hl with | [_, _], _ => rfl
theorem bi__law_least : BindsP s__law_least "_law_least" ["above", "below"] := fun _ _ _ _ _ _ us hl => match us, hl with | [_, _], _ => rfl
theorem bi__law_plus : BindsP s__law_plus "_law_plus" ["one", "other"] := fun _ _ _ _ _ _ us hl => match us, hl with | [_, _], _ => rfl
theorem bi__law_minus : BindsP s__law_minus "_law_minus" ["one", "other"] := fun _ _ _ _ _ _ us hl => match us, hl with | [_, _], _ => rfl
theorem bi__law_times : BindsP s__law_times "_law_times" ["one", "other"] := fun _ _ _ _ _ _ us hl => match us, hl with | [_, _], _ => rfl
theorem bi__law_over : BindsP s__law_over "_law_over" ["one", "other"] := fun _ _ _ _ _ _ us hl => match us, hl with | [_, _], _ => rfl
theorem bi__law_under : BindsP s__law_under "_law_under" ["one", "other"] := fun _ _ _ _ _ _ us hl => match us, hl with | [_, _], _ => rfl
theorem bi__law_joined : BindsP s__law_joined "_law_joined" ["one", "other"] := fun _ _ _ _ _ _ us hl => match us, hl with | [_, _], _ => rfl
theorem bi__law_any_chain : BindsP s__law_any_chain "_law_any_chain" ["cup", "size"] := fun _ _ _ _ _ _ us hl => match us, hl with | [_, _], _ => rfl
theorem bi__law_number : BindsP s__law_number "_law_number" ["cup", "size"] := fun _ _ _ _ _ _ us hl => match us, hl with | [_, _], _ => rfl
theorem bi__law_ladder : BindsP s__law_ladder "_law_ladder" ["cup", "most", "size"] := fun _ _ _ _ _ _ us hl => match us, hl with | [_, _, _], _ => rfl
theorem bi__law_chain_of : BindsP s__law_chain_of "_law_chain_of" ["ladder"] := fun _ _ _ _ _ _ us hl => match us, hl with | [_], _ => rfl
theorem bi__law_divisor : BindsP s__law_divisor "_law_divisor" ["one", "other"] := fun _ _ _ _ _ _ us hl => match us, hl with | [_, _], _ => rfl
theorem bi__law_end : BindsP s__law_end "_law_end" ["chain"] := fun _ _ _ _ _ _ us hl => match us, hl with | [_], _ => rfl
theorem bi__law_worth : BindsP s__law_worth "_law_worth" ["end", "fraction"] := fun _ _ _ _ _ _ us hl => match us, hl with | [_, _], _ => rfl
theorem bi__law_right : BindsP s__law_right "_law_right" ["cup", "chain"] := fun _ _ _ _ _ _ us hl => match us, hl with | [_, _], _ => rfl
theorem bi__law_back_right : BindsP s__law_back_right "_law_back_right" ["end"] := fun _ _ _ _ _ _ us hl => match us, hl with | [_], _ => rfl
theorem bi__law_drawn : BindsP s__law_drawn "_law_drawn" ["cup", "size"] := fun _ _ _ _ _ _ us hl => match us, hl with | [_, _], _ => rfl
theorem bi_law : BindsP s_law "law" ["script"] := fun _ _ _ _ _ _ us hl => match us, hl with | [_], _ => rfl
theorem tops (d_is_integer : DefOf K mg "is_integer" s_is_integer) (d_is_whole : DefOf K mg "is_whole" s_is_whole) (d_need_whole : DefOf K mg "need_whole" s_need_whole) (d_is_tuple_of : DefOf K mg "is_tuple_of" s_is_tuple_of) (d_divisor_of : DefOf K mg "divisor_of" s_divisor_of) (d_lowest : DefOf K mg "lowest" s_lowest) (d_sum_of : DefOf K mg "sum_of" s_sum_of) (d_less_by : DefOf K mg "less_by" s_less_by) (d_product_of : DefOf K mg "product_of" s_product_of) (d_part_of : DefOf K mg "part_of" s_part_of) (d_is_under : DefOf K mg "is_under" s_is_under) (d_fits_fraction : DefOf K mg "fits_fraction" s_fits_fraction) (d_need_fraction : DefOf K mg "need_fraction" s_need_fraction) (d_fits_chain : DefOf K mg "fits_chain" s_fits_chain) (d_need_chain : DefOf K mg "need_chain" s_need_chain) (d_is_from_none : DefOf K mg "is_from_none" s_is_from_none) (d_need_load : DefOf K mg "need_load" s_need_load) (d_joined_chain : DefOf K mg "joined_chain" s_joined_chain) (d_product_in : DefOf K mg "product_in" s_product_in) (d_seen_in : DefOf K mg "seen_in" s_seen_in) (d_is_told_in : DefOf K mg "is_told_in" s_is_told_in) (d_is_chain : DefOf K mg "is_chain" s_is_chain) (d_chain_seen : DefOf K mg "chain_seen" s_chain_seen) (d_is_told_chain : DefOf K mg "is_told_chain" s_is_told_chain) (d_is_lasting_in : DefOf K mg "is_lasting_in" s_is_lasting_in) (d_need_lasting : DefOf K mg "need_lasting" s_need_lasting) (d_fits_end : DefOf K mg "fits_end" s_fits_end) (d_need_end : DefOf K mg "need_end" s_need_end) (d_end_in : DefOf K mg "end_in" s_end_in) (d_sign_of : DefOf K mg "sign_of" s_sign_of) (d_beside_in : DefOf K mg "beside_in" s_beside_in) (d_compared : DefOf K mg "compared" s_compared) (d_is_lasting : DefOf K mg "is_lasting" s_is_lasting) (d_end_of_chain : DefOf K mg "end_of_chain" s_end_of_chain) (d_end_bounds : DefOf K mg "end_bounds" s_end_bounds) (d_chain_for_end : DefOf K mg "chain_for_end" s_chain_for_end) (d_is_end_number : DefOf K mg "is_end_number" s_is_end_number) (d_end_beside : DefOf K mg "end_beside" s_end_beside) (d_compare_ends : DefOf K mg "compare_ends" s_compare_ends) (d__law_cup : DefOf K mg "_law_cup" s__law_cup) (d__law_roll : DefOf K mg "_law_roll" s__law_roll) (d__law_sort : DefOf K mg "_law_sort" s__law_sort) (d__law_like : DefOf K mg "_law_like" s__law_like) (d__law_least : DefOf K mg "_law_least" s__law_least) (d__law_plus : DefOf K mg "_law_plus" s__law_plus) (d__law_minus : DefOf K mg "_law_minus" s__law_minus) (d__law_times : DefOf K mg "_law_times" s__law_times) (d__law_over : DefOf K mg "_law_over" s__law_over) (d__law_under : DefOf K mg "_law_under" s__law_under) (d__law_joined : DefOf K mg "_law_joined" s__law_joined) (d__law_any_chain : DefOf K mg "_law_any_chain" s__law_any_chain) (d__law_number : DefOf K mg "_law_number" s__law_number) (d__law_ladder : DefOf K mg "_law_ladder" s__law_ladder) (d__law_chain_of : DefOf K mg "_law_chain_of" s__law_chain_of) (d__law_divisor : DefOf K mg "_law_divisor" s__law_divisor) (d__law_end : DefOf K mg "_law_end" s__law_end) (d__law_worth : DefOf K mg "_law_worth" s__law_worth) (d__law_right : DefOf K mg "_law_right" s__law_right) (d__law_back_right : DefOf K mg "_law_back_right" s__law_back_right) (d__law_drawn : DefOf K mg "_law_drawn" s__law_drawn) (d_law : DefOf K mg "law" s_law) (c_DIGITS : ∃ z u, mg "DIGITS" = some u ∧ RelV z u ∧ Con K k_DIGITS z) (c_ONE : ∃ z u, mg "ONE" = some u ∧ RelV z u ∧ Con K k_ONE z) (c_PLAIN : ∃ z u, mg "PLAIN" = some u ∧ RelV z u ∧ Con K k_PLAIN z) (c_NONE : ∃ z u, mg "NONE" = some u ∧ RelV z u ∧ Con K k_NONE z) (c_MANY : ∃ z u, mg "MANY" = some u ∧ RelV z u ∧ Con K k_MANY z) (c_SHORT : ∃ z u, mg "SHORT" = some u ∧ RelV z u ∧ Con K k_SHORT z) (z_isinstance : mg "isinstance" = none) (z_bool : mg "bool" = none) (z_int : mg "int" = none) (z_len : mg "len" = none) (z_tuple : mg "tuple" = none) (z_abs : mg "abs" = none) (z_all : mg "all" = none) (z_list : mg "list" = none) (z_str : mg "str" = none) (z_zip : mg "zip" = none) (z_range : mg "range" = none) (z_max : mg "max" = none) (t_WORDS : TabAt K mg "WORDS" tb_WORDS) : ∀ k, Top P w K mg base prog W k names consts blts := by
  have hc : ∀ (i : Nat) (x : Str) (v : PV), consts[i]? = some (x, v) → ∃ z u, mg x = some u ∧ RelV z u ∧ Con K v z := fun i x v h => by
    match i, h with
    | 0, h => cases h; exact c_DIGITS
    | 1, h => cases h; exact c_ONE
    | 2, h => cases h; exact c_PLAIN
    | 3, h => cases h; exact c_NONE
    | 4, h => cases h; exact c_MANY
    | 5, h => cases h; exact c_SHORT
    | n + 6, h => exact absurd h (by simp [consts])
  have hb : ∀ (i : Nat) (x : Str), blts[i]? = some x → mg x = none := fun i x h => by
    match i, h with
    | 0, h => cases h; exact z_isinstance
    | 1, h => cases h; exact z_bool
    | 2, h => cases h; exact z_int
    | 3, h => cases h; exact z_len
    | 4, h => cases h; exact z_tuple
    | 5, h => cases h; exact z_abs
    | 6, h => cases h; exact z_all
    | 7, h => cases h; exact z_list
    | 8, h => cases h; exact z_str
    | 9, h => cases h; exact z_zip
    | 10, h => cases h; exact z_range
    | 11, h => cases h; exact z_max
    | n + 12, h => exact absurd h (by simp [blts])
  intro k
  induction k with
  | zero =>
    refine ⟨fun i x h => ?_, hc, hb⟩
    match i, h with
    | 0, h => cases h; exact cal_zero d_is_integer bi_is_integer
    | 1, h => cases h; exact cal_zero d_is_whole bi_is_whole
    | 2, h => cases h; exact cal_zero d_need_whole bi_need_whole
    | 3, h => cases h; exact cal_zero d_is_tuple_of bi_is_tuple_of
    | 4, h => cases h; exact cal_zero d_divisor_of bi_divisor_of
    | 5, h => cases h; exact cal_zero d_lowest bi_lowest
    | 6, h => cases h; exact cal_zero d_sum_of bi_sum_of
    | 7, h => cases h; exact cal_zero d_less_by bi_less_by
    | 8, h => cases h; exact cal_zero d_product_of bi_product_of
    | 9, h => cases h; exact cal_zero d_part_of bi_part_of
    | 10, h => cases h; exact cal_zero d_is_under bi_is_under
    | 11, h => cases h; exact cal_zero d_fits_fraction bi_fits_fraction
    | 12, h => cases h; exact cal_zero d_need_fraction bi_need_fraction
    | 13, h => cases h; exact cal_zero d_fits_chain bi_fits_chain
    | 14, h => cases h; exact cal_zero d_need_chain bi_need_chain
    | 15, h => cases h; exact cal_zero d_is_from_none bi_is_from_none
    | 16, h => cases h; exact cal_zero d_need_load bi_need_load
    | 17, h => cases h; exact cal_zero d_joined_chain bi_joined_chain
    | 18, h => cases h; exact cal_zero d_product_in bi_product_in
    | 19, h => cases h; exact cal_zero d_seen_in bi_seen_in
    | 20, h => cases h; exact cal_zero d_is_told_in bi_is_told_in
    | 21, h => cases h; exact cal_zero d_is_chain bi_is_chain
    | 22, h => cases h; exact cal_zero d_chain_seen bi_chain_seen
    | 23, h => cases h; exact cal_zero d_is_told_chain bi_is_told_chain
    | 24, h => cases h; exact cal_zero d_is_lasting_in bi_is_lasting_in
    | 25, h => cases h; exact cal_zero d_need_lasting bi_need_lasting
    | 26, h => cases h; exact cal_zero d_fits_end bi_fits_end
    | 27, h => cases h; exact cal_zero d_need_end bi_need_end
    | 28, h => cases h; exact cal_zero d_end_in bi_end_in
    | 29, h => cases h; exact cal_zero d_sign_of bi_sign_of
    | 30, h => cases h; exact cal_zero d_beside_in bi_beside_in
    | 31, h => cases h; exact cal_zero d_compared bi_compared
    | 32, h => cases h; exact cal_zero d_is_lasting bi_is_lasting
    | 33, h => cases h; exact cal_zero d_end_of_chain bi_end_of_chain
    | 34, h => cases h; exact cal_zero d_end_bounds bi_end_bounds
    | 35, h => cases h; exact cal_zero d_chain_for_end bi_chain_for_end
    | 36, h => cases h; exact cal_zero d_is_end_number bi_is_end_number
    | 37, h => cases h; exact cal_zero d_end_beside bi_end_beside
    | 38, h => cases h; exact cal_zero d_compare_ends bi_compare_ends
    | 39, h => cases h; exact cal_zero d__law_cup bi__law_cup
    | 40, h => cases h; exact cal_zero d__law_roll bi__law_roll
    | 41, h => cases h; exact cal_zero d__law_sort bi__law_sort
    | 42, h => cases h; exact cal_zero d__law_like bi__law_like
    | 43, h => cases h; exact cal_zero d__law_least bi__law_least
    | 44, h => cases h; exact cal_zero d__law_plus bi__law_plus
    | 45, h => cases h; exact cal_zero d__law_minus bi__law_minus
    | 46, h => cases h; exact cal_zero d__law_times bi__law_times
    | 47, h => cases h; exact cal_zero d__law_over bi__law_over
    | 48, h => cases h; exact cal_zero d__law_under bi__law_under
    | 49, h => cases h; exact cal_zero d__law_joined bi__law_joined
    | 50, h => cases h; exact cal_zero d__law_any_chain bi__law_any_chain
    | 51, h => cases h; exact cal_zero d__law_number bi__law_number
    | 52, h => cases h; exact cal_zero d__law_ladder bi__law_ladder
    | 53, h => cases h; exact cal_zero d__law_chain_of bi__law_chain_of
    | 54, h => cases h; exact cal_zero d__law_divisor bi__law_divisor
    | 55, h => cases h; exact cal_zero d__law_end bi__law_end
    | 56, h => cases h; exact cal_zero d__law_worth bi__law_worth
    | 57, h => cases h; exact cal_zero d__law_right bi__law_right
    | 58, h => cases h; exact cal_zero d__law_back_right bi__law_back_right
    | 59, h => cases h; exact cal_zero d__law_drawn bi__law_drawn
    | 60, h => cases h; exact cal_zero d_law bi_law
    | n + 61, h => exact absurd h (by simp [names])
  | succ k T =>
    refine ⟨fun i x h => ?_, hc, hb⟩
    match i, h with
    | 0, h => cases h; exact cal_succ d_is_integer bi_is_integer sc_is_integer rfl rfl rfl (b_is_integer T)
    | 1, h => cases h; exact cal_succ d_is_whole bi_is_whole sc_is_whole rfl rfl rfl (b_is_whole T)
    | 2, h => cases h; exact cal_succ d_need_whole bi_need_whole sc_need_whole rfl rfl rfl (b_need_whole T)
    | 3, h => cases h; exact cal_succ d_is_tuple_of bi_is_tuple_of sc_is_tuple_of rfl rfl rfl (b_is_tuple_of T)
    | 4, h => cases h; exact cal_succ d_divisor_of bi_divisor_of sc_divisor_of rfl rfl rfl (b_divisor_of T)
    | 5, h => cases h; exact cal_succ d_lowest bi_lowest sc_lowest rfl rfl rfl (b_lowest T)
    | 6, h => cases h; exact cal_succ d_sum_of bi_sum_of sc_sum_of rfl rfl rfl (b_sum_of T)
    | 7, h => cases h; exact cal_succ d_less_by bi_less_by sc_less_by rfl rfl rfl (b_less_by T)
    | 8, h => cases h; exact cal_succ d_product_of bi_product_of sc_product_of rfl rfl rfl (b_product_of T)
    | 9, h => cases h; exact cal_succ d_part_of bi_part_of sc_part_of rfl rfl rfl (b_part_of T)
    | 10, h => cases h; exact cal_succ d_is_under bi_is_under sc_is_under rfl rfl rfl (b_is_under T)
    | 11, h => cases h; exact cal_succ d_fits_fraction bi_fits_fraction sc_fits_fraction rfl rfl rfl (b_fits_fraction T)
    | 12, h => cases h; exact cal_succ d_need_fraction bi_need_fraction sc_need_fraction rfl rfl rfl (b_need_fraction T)
    | 13, h => cases h; exact cal_succ d_fits_chain bi_fits_chain sc_fits_chain rfl rfl rfl (b_fits_chain T)
    | 14, h => cases h; exact cal_succ d_need_chain bi_need_chain sc_need_chain rfl rfl rfl (b_need_chain T)
    | 15, h => cases h; exact cal_succ d_is_from_none bi_is_from_none sc_is_from_none rfl rfl rfl (b_is_from_none T)
    | 16, h => cases h; exact cal_succ d_need_load bi_need_load sc_need_load rfl rfl rfl (b_need_load T)
    | 17, h => cases h; exact cal_succ d_joined_chain bi_joined_chain sc_joined_chain rfl rfl rfl (b_joined_chain T)
    | 18, h => cases h; exact cal_succ d_product_in bi_product_in sc_product_in rfl rfl rfl (b_product_in T)
    | 19, h => cases h; exact cal_succ d_seen_in bi_seen_in sc_seen_in rfl rfl rfl (b_seen_in T)
    | 20, h => cases h; exact cal_succ d_is_told_in bi_is_told_in sc_is_told_in rfl rfl rfl (b_is_told_in T)
    | 21, h => cases h; exact cal_succ d_is_chain bi_is_chain sc_is_chain rfl rfl rfl (b_is_chain T)
    | 22, h => cases h; exact cal_succ d_chain_seen bi_chain_seen sc_chain_seen rfl rfl rfl (b_chain_seen T)
    | 23, h => cases h; exact cal_succ d_is_told_chain bi_is_told_chain sc_is_told_chain rfl rfl rfl (b_is_told_chain T)
    | 24, h => cases h; exact cal_succ d_is_lasting_in bi_is_lasting_in sc_is_lasting_in rfl rfl rfl (b_is_lasting_in T)
    | 25, h => cases h; exact cal_succ d_need_lasting bi_need_lasting sc_need_lasting rfl rfl rfl (b_need_lasting T)
    | 26, h => cases h; exact cal_succ d_fits_end bi_fits_end sc_fits_end rfl rfl rfl (b_fits_end T)
    | 27, h => cases h; exact cal_succ d_need_end bi_need_end sc_need_end rfl rfl rfl (b_need_end T)
    | 28, h => cases h; exact cal_succ d_end_in bi_end_in sc_end_in rfl rfl rfl (b_end_in T)
    | 29, h => cases h; exact cal_succ d_sign_of bi_sign_of sc_sign_of rfl rfl rfl (b_sign_of T)
    | 30, h => cases h; exact cal_succ d_beside_in bi_beside_in sc_beside_in rfl rfl rfl (b_beside_in T)
    | 31, h => cases h; exact cal_succ d_compared bi_compared sc_compared rfl rfl rfl (b_compared T)
    | 32, h => cases h; exact cal_succ d_is_lasting bi_is_lasting sc_is_lasting rfl rfl rfl (b_is_lasting T)
    | 33, h => cases h; exact cal_succ d_end_of_chain bi_end_of_chain sc_end_of_chain rfl rfl rfl (b_end_of_chain T)
    | 34, h => cases h; exact cal_succ d_end_bounds bi_end_bounds sc_end_bounds rfl rfl rfl (b_end_bounds T)
    | 35, h => cases h; exact cal_succ d_chain_for_end bi_chain_for_end sc_chain_for_end rfl rfl rfl (b_chain_for_end T)
    | 36, h => cases h; exact cal_succ d_is_end_number bi_is_end_number sc_is_end_number rfl rfl rfl (b_is_end_number T)
    | 37, h => cases h; exact cal_succ d_end_beside bi_end_beside sc_end_beside rfl rfl rfl (b_end_beside T t_WORDS)
    | 38, h => cases h; exact cal_succ d_compare_ends bi_compare_ends sc_compare_ends rfl rfl rfl (b_compare_ends T t_WORDS)
    | 39, h => cases h; exact cal_succ d__law_cup bi__law_cup sc__law_cup rfl rfl rfl (b__law_cup T)
    | 40, h => cases h; exact cal_succ d__law_roll bi__law_roll sc__law_roll rfl rfl rfl (b__law_roll T)
    | 41, h => cases h; exact cal_succ d__law_sort bi__law_sort sc__law_sort rfl rfl rfl (b__law_sort T)
    | 42, h => cases h; exact cal_succ d__law_like bi__law_like sc__law_like rfl rfl rfl (b__law_like T)
    | 43, h => cases h; exact cal_succ d__law_least bi__law_least sc__law_least rfl rfl rfl (b__law_least T)
    | 44, h => cases h; exact cal_succ d__law_plus bi__law_plus sc__law_plus rfl rfl rfl (b__law_plus T)
    | 45, h => cases h; exact cal_succ d__law_minus bi__law_minus sc__law_minus rfl rfl rfl (b__law_minus T)
    | 46, h => cases h; exact cal_succ d__law_times bi__law_times sc__law_times rfl rfl rfl (b__law_times T)
    | 47, h => cases h; exact cal_succ d__law_over bi__law_over sc__law_over rfl rfl rfl (b__law_over T)
    | 48, h => cases h; exact cal_succ d__law_under bi__law_under sc__law_under rfl rfl rfl (b__law_under T)
    | 49, h => cases h; exact cal_succ d__law_joined bi__law_joined sc__law_joined rfl rfl rfl (b__law_joined T)
    | 50, h => cases h; exact cal_succ d__law_any_chain bi__law_any_chain sc__law_any_chain rfl rfl rfl (b__law_any_chain T)
    | 51, h => cases h; exact cal_succ d__law_number bi__law_number sc__law_number rfl rfl rfl (b__law_number T)
    | 52, h => cases h; exact cal_succ d__law_ladder bi__law_ladder sc__law_ladder rfl rfl rfl (b__law_ladder T)
    | 53, h => cases h; exact cal_succ d__law_chain_of bi__law_chain_of sc__law_chain_of rfl rfl rfl (b__law_chain_of T)
    | 54, h => cases h; exact cal_succ d__law_divisor bi__law_divisor sc__law_divisor rfl rfl rfl (b__law_divisor T)
    | 55, h => cases h; exact cal_succ d__law_end bi__law_end sc__law_end rfl rfl rfl (b__law_end T)
    | 56, h => cases h; exact cal_succ d__law_worth bi__law_worth sc__law_worth rfl rfl rfl (b__law_worth T)
    | 57, h => cases h; exact cal_succ d__law_right bi__law_right sc__law_right rfl rfl rfl (b__law_right T)
    | 58, h => cases h; exact cal_succ d__law_back_right bi__law_back_right sc__law_back_right rfl rfl rfl (b__law_back_right T)
    | 59, h => cases h; exact cal_succ d__law_drawn bi__law_drawn sc__law_drawn rfl rfl rfl (b__law_drawn T)
    | 60, h => cases h; exact cal_succ d_law bi_law sc_law rfl rfl rfl (b_law T)
    | n + 61, h => exact absurd h (by simp [names])
end
end Lw

namespace Lw
open Ev
def W : Nat := 1000000000000
theorem u_is_integer (k : Nat) (x0 : PV) (M : Mem) : callN prog W (k + 1) 0 [x0] M = fin false M.length (execs (callN prog W k) W m_is_integer [some x0] M) := by
  unfold callN
  rfl
theorem u_is_whole (k : Nat) (x0 : PV) (x1 : PV) (x2 : PV) (M : Mem) : callN prog W (k + 1) 1 [x0, x1, x2] M = fin false M.length (execs (callN prog W k) W m_is_whole [some x0, some x1, some x2] M) := by
  unfold callN
  rfl
theorem u_need_whole (k : Nat) (x0 : PV) (x1 : PV) (x2 : PV) (M : Mem) : callN prog W (k + 1) 2 [x0, x1, x2] M = fin false M.length (execs (callN prog W k) W m_need_whole [some x0, some x1, some x2] M) := by
  unfold callN
  rfl
theorem u_is_tuple_of (k : Nat) (x0 : PV) (x1 : PV) (x2 : PV) (M : Mem) : callN prog W (k + 1) 3 [x0, x1, x2] M = fin false M.length (execs (callN prog W k) W m_is_tuple_of [some x0, some x1, some x2] M) := by
  unfold callN
  rfl
theorem u_divisor_of (k : Nat) (x0 : PV) (x1 : PV) (M : Mem) : callN prog W (k + 1) 4 [x0, x1] M = fin false M.length (execs (callN prog W k) W m_divisor_of [some x0, some x1] M) := by
  unfold callN
  rfl
theorem u_lowest (k : Nat) (x0 : PV) (x1 : PV) (M : Mem) : callN prog W (k + 1) 5 [x0, x1] M = fin false M.length (execs (callN prog W k) W m_lowest [some x0, some x1, none] M) := by
  unfold callN
  rfl
theorem u_sum_of (k : Nat) (x0 : PV) (x1 : PV) (M : Mem) : callN prog W (k + 1) 6 [x0, x1] M = fin false M.length (execs (callN prog W k) W m_sum_of [some x0, some x1] M) := by
  unfold callN
  rfl
theorem u_less_by (k : Nat) (x0 : PV) (x1 : PV) (M : Mem) : callN prog W (k + 1) 7 [x0, x1] M = fin false M.length (execs (callN prog W k) W m_less_by [some x0, some x1] M) := by
  unfold callN
  rfl
theorem u_product_of (k : Nat) (x0 : PV) (x1 : PV) (M : Mem) : callN prog W (k + 1) 8 [x0, x1] M = fin false M.length (execs (callN prog W k) W m_product_of [some x0, some x1] M) := by
  unfold callN
  rfl
theorem u_part_of (k : Nat) (x0 : PV) (x1 : PV) (M : Mem) : callN prog W (k + 1) 9 [x0, x1] M = fin false M.length (execs (callN prog W k) W m_part_of [some x0, some x1] M) := by
  unfold callN
  rfl
theorem u_is_under (k : Nat) (x0 : PV) (x1 : PV) (M : Mem) : callN prog W (k + 1) 10 [x0, x1] M = fin false M.length (execs (callN prog W k) W m_is_under [some x0, some x1] M) := by
  unfold callN
  rfl
theorem u_fits_fraction (k : Nat) (x0 : PV) (M : Mem) : callN prog W (k + 1) 11 [x0] M = fin false M.length (execs (callN prog W k) W m_fits_fraction [some x0, none] M) := by
  unfold callN
  rfl
theorem u_need_fraction (k : Nat) (x0 : PV) (M : Mem) : callN prog W (k + 1) 12 [x0] M = fin false M.length (execs (callN prog W k) W m_need_fraction [some x0] M) := by
  unfold callN
  rfl
theorem u_fits_chain (k : Nat) (x0 : PV) (M : Mem) : callN prog W (k + 1) 13 [x0] M = fin false M.length (execs (callN prog W k) W m_fits_chain [some x0, none, none, none, none, none] M) := by
  unfold callN
  rfl
theorem u_need_chain (k : Nat) (x0 : PV) (M : Mem) : callN prog W (k + 1) 14 [x0] M = fin false M.length (execs (callN prog W k) W m_need_chain [some x0] M) := by
  unfold callN
  rfl
theorem u_is_from_none (k : Nat) (x0 : PV) (M : Mem) : callN prog W (k + 1) 15 [x0] M = fin false M.length (execs (callN prog W k) W m_is_from_none [some x0] M) := by
  unfold callN
  rfl
theorem u_need_load (k : Nat) (x0 : PV) (M : Mem) : callN prog W (k + 1) 16 [x0] M = fin false M.length (execs (callN prog W k) W m_need_load [some x0] M) := by
  unfold callN
  rfl
theorem u_joined_chain (k : Nat) (x0 : PV) (x1 : PV) (M : Mem) : callN prog W (k + 1) 17 [x0, x1] M = fin false M.length (execs (callN prog W k) W m_joined_chain [some x0, some x1, none, none, none, none, none, none, none, none, none, none] M) := by
  unfold callN
  rfl
theorem u_product_in (k : Nat) (x0 : PV) (M : Mem) : callN prog W (k + 1) 18 [x0] M = fin false M.length (execs (callN prog W k) W m_product_in [some x0, none, none] M) := by
  unfold callN
  rfl
theorem u_seen_in (k : Nat) (x0 : PV) (x1 : PV) (M : Mem) : callN prog W (k + 1) 19 [x0, x1] M = fin false M.length (execs (callN prog W k) W m_seen_in [some x0, some x1, none, none, none, none, none, none] M) := by
  unfold callN
  rfl
theorem u_is_told_in (k : Nat) (x0 : PV) (M : Mem) : callN prog W (k + 1) 20 [x0] M = fin false M.length (execs (callN prog W k) W m_is_told_in [some x0, none, none, none, none] M) := by
  unfold callN
  rfl
theorem u_is_chain (k : Nat) (x0 : PV) (M : Mem) : callN prog W (k + 1) 21 [x0] M = fin false M.length (execs (callN prog W k) W m_is_chain [some x0] M) := by
  unfold callN
  rfl
theorem u_chain_seen (k : Nat) (x0 : PV) (x1 : PV) (M : Mem) : callN prog W (k + 1) 22 [x0, x1] M = fin false M.length (execs (callN prog W k) W m_chain_seen [some x0, some x1] M) := by
  unfold callN
  rfl
theorem u_is_told_chain (k : Nat) (x0 : PV) (M : Mem) : callN prog W (k + 1) 23 [x0] M = fin false M.length (execs (callN prog W k) W m_is_told_chain [some x0] M) := by
  unfold callN
  rfl
theorem u_is_lasting_in (k : Nat) (x0 : PV) (M : Mem) : callN prog W (k + 1) 24 [x0] M = fin false M.length (execs (callN prog W k) W m_is_lasting_in [some x0, none, none, none, none] M) := by
  unfold callN
  rfl
theorem u_need_lasting (k : Nat) (x0 : PV) (M : Mem) : callN prog W (k + 1) 25 [x0] M = fin false M.length (execs (callN prog W k) W m_need_lasting [some x0] M) := by
  unfold callN
  rfl
theorem u_fits_end (k : Nat) (x0 : PV) (x1 : PV) (M : Mem) : callN prog W (k + 1) 26 [x0, x1] M = fin false M.length (execs (callN prog W k) W m_fits_end [some x0, some x1, none, none, none, none] M) := by
  unfold callN
  rfl
theorem u_need_end (k : Nat) (x0 : PV) (M : Mem) : callN prog W (k + 1) 27 [x0] M = fin false M.length (execs (callN prog W k) W m_need_end [some x0] M) := by
  unfold callN
  rfl
theorem u_end_in (k : Nat) (x0 : PV) (M : Mem) : callN prog W (k + 1) 28 [x0] M = fin false M.length (execs (callN prog W k) W m_end_in [some x0, none, none, none, none, none, none, none, none, none, none] M) := by
  unfold callN
  rfl
theorem u_sign_of (k : Nat) (x0 : PV) (M : Mem) : callN prog W (k + 1) 29 [x0] M = fin false M.length (execs (callN prog W k) W m_sign_of [some x0] M) := by
  unfold callN
  rfl
theorem u_beside_in (k : Nat) (x0 : PV) (x1 : PV) (M : Mem) : callN prog W (k + 1) 30 [x0, x1] M = fin false M.length (execs (callN prog W k) W m_beside_in [some x0, some x1, none, none, none, none, none] M) := by
  unfold callN
  rfl
theorem u_compared (k : Nat) (x0 : PV) (x1 : PV) (M : Mem) : callN prog W (k + 1) 31 [x0, x1] M = fin false M.length (execs (callN prog W k) W m_compared [some x0, some x1, none, none, none, none, none, none, none, none] M) := by
  unfold callN
  rfl
theorem u_is_lasting (k : Nat) (x0 : PV) (M : Mem) : callN prog W (k + 1) 32 [x0] M = fin false M.length (execs (callN prog W k) W m_is_lasting [some x0] M) := by
  unfold callN
  rfl
theorem u_end_of_chain (k : Nat) (x0 : PV) (M : Mem) : callN prog W (k + 1) 33 [x0] M = fin false M.length (execs (callN prog W k) W m_end_of_chain [some x0, none] M) := by
  unfold callN
  rfl
theorem u_end_bounds (k : Nat) (x0 : PV) (x1 : PV) (M : Mem) : callN prog W (k + 1) 34 [x0, x1] M = fin false M.length (execs (callN prog W k) W m_end_bounds [some x0, some x1, none] M) := by
  unfold callN
  rfl
theorem u_chain_for_end (k : Nat) (x0 : PV) (M : Mem) : callN prog W (k + 1) 35 [x0] M = fin false M.length (execs (callN prog W k) W m_chain_for_end [some x0, none, none, none, none, none, none, none, none] M) := by
  unfold callN
  rfl
theorem u_is_end_number (k : Nat) (x0 : PV) (M : Mem) : callN prog W (k + 1) 36 [x0] M = fin false M.length (execs (callN prog W k) W m_is_end_number [some x0] M) := by
  unfold callN
  rfl
theorem u_end_beside (k : Nat) (x0 : PV) (x1 : PV) (M : Mem) : callN prog W (k + 1) 37 [x0, x1] M = fin false M.length (execs (callN prog W k) W m_end_beside [some x0, some x1] M) := by
  unfold callN
  rfl
theorem u_compare_ends (k : Nat) (x0 : PV) (x1 : PV) (M : Mem) : callN prog W (k + 1) 38 [x0, x1] M = fin false M.length (execs (callN prog W k) W m_compare_ends [some x0, some x1] M) := by
  unfold callN
  rfl
theorem u__law_cup (k : Nat) (x0 : PV) (M : Mem) : callN prog W (k + 1) 39 [x0] M = fin true M.length (execs (callN prog W k) W m__law_cup [some x0, none] M) := by
  unfold callN
  rfl
theorem u__law_roll (k : Nat) (x0 : PV) (x1 : PV) (M : Mem) : callN prog W (k + 1) 40 [x0, x1] M = fin false M.length (execs (callN prog W k) W m__law_roll [some x0, some x1, none, none] M) := by
  unfold callN
  rfl
theorem u__law_sort (k : Nat) (x0 : PV) (M : Mem) : callN prog W (k + 1) 41 [x0] M = fin false M.length (execs (callN prog W k) W m__law_sort [some x0] M) := by
  unfold callN
  rfl
theorem u__law_like (k : Nat) (x0 : PV) (x1 : PV) (M : Mem) : callN prog W (k + 1) 42 [x0, x1] M = fin false M.length (execs (callN prog W k) W m__law_like [some x0, some x1, none, none, none] M) := by
  unfold callN
  rfl
theorem u__law_least (k : Nat) (x0 : PV) (x1 : PV) (M : Mem) : callN prog W (k + 1) 43 [x0, x1] M = fin false M.length (execs (callN prog W k) W m__law_least [some x0, some x1, none, none, none] M) := by
  unfold callN
  rfl
theorem u__law_plus (k : Nat) (x0 : PV) (x1 : PV) (M : Mem) : callN prog W (k + 1) 44 [x0, x1] M = fin false M.length (execs (callN prog W k) W m__law_plus [some x0, some x1] M) := by
  unfold callN
  rfl
theorem u__law_minus (k : Nat) (x0 : PV) (x1 : PV) (M : Mem) : callN prog W (k + 1) 45 [x0, x1] M = fin false M.length (execs (callN prog W k) W m__law_minus [some x0, some x1] M) := by
  unfold callN
  rfl
theorem u__law_times (k : Nat) (x0 : PV) (x1 : PV) (M : Mem) : callN prog W (k + 1) 46 [x0, x1] M = fin false M.length (execs (callN prog W k) W m__law_times [some x0, some x1] M) := by
  unfold callN
  rfl
theorem u__law_over (k : Nat) (x0 : PV) (x1 : PV) (M : Mem) : callN prog W (k + 1) 47 [x0, x1] M = fin false M.length (execs (callN prog W k) W m__law_over [some x0, some x1] M) := by
  unfold callN
  rfl
theorem u__law_under (k : Nat) (x0 : PV) (x1 : PV) (M : Mem) : callN prog W (k + 1) 48 [x0, x1] M = fin false M.length (execs (callN prog W k) W m__law_under [some x0, some x1] M) := by
  unfold callN
  rfl
theorem u__law_joined (k : Nat) (x0 : PV) (x1 : PV) (M : Mem) : callN prog W (k + 1) 49 [x0, x1] M = fin false M.length (execs (callN prog W k) W m__law_joined [some x0, some x1, none, none, none, none, none, none, none, none, none, none, none, none, none] M) := by
  unfold callN
  rfl
theorem u__law_any_chain (k : Nat) (x0 : PV) (x1 : PV) (M : Mem) : callN prog W (k + 1) 50 [x0, x1] M = fin false M.length (execs (callN prog W k) W m__law_any_chain [some x0, some x1, none, none, none, none] M) := by
  unfold callN
  rfl
theorem u__law_number (k : Nat) (x0 : PV) (x1 : PV) (M : Mem) : callN prog W (k + 1) 51 [x0, x1] M = fin false M.length (execs (callN prog W k) W m__law_number [some x0, some x1] M) := by
  unfold callN
  rfl
theorem u__law_ladder (k : Nat) (x0 : PV) (x1 : PV) (x2 : PV) (M : Mem) : callN prog W (k + 1) 52 [x0, x1, x2] M = fin false M.length (execs (callN prog W k) W m__law_ladder [some x0, some x1, some x2, none] M) := by
  unfold callN
  rfl
theorem u__law_chain_of (k : Nat) (x0 : PV) (M : Mem) : callN prog W (k + 1) 53 [x0] M = fin false M.length (execs (callN prog W k) W m__law_chain_of [some x0, none, none, none] M) := by
  unfold callN
  rfl
theorem u__law_divisor (k : Nat) (x0 : PV) (x1 : PV) (M : Mem) : callN prog W (k + 1) 54 [x0, x1] M = fin false M.length (execs (callN prog W k) W m__law_divisor [some x0, some x1] M) := by
  unfold callN
  rfl
theorem u__law_end (k : Nat) (x0 : PV) (M : Mem) : callN prog W (k + 1) 55 [x0] M = fin false M.length (execs (callN prog W k) W m__law_end [some x0, none, none, none, none, none, none, none, none, none] M) := by
  unfold callN
  rfl
theorem u__law_worth (k : Nat) (x0 : PV) (x1 : PV) (M : Mem) : callN prog W (k + 1) 56 [x0, x1] M = fin false M.length (execs (callN prog W k) W m__law_worth [some x0, some x1, none, none] M) := by
  unfold callN
  rfl
theorem u__law_right (k : Nat) (x0 : PV) (x1 : PV) (M : Mem) : callN prog W (k + 1) 57 [x0, x1] M = fin false M.length (execs (callN prog W k) W m__law_right [some x0, some x1, none, none, none, none, none, none, none, none, none, none, none, none, none, none] M) := by
  unfold callN
  rfl
theorem u__law_back_right (k : Nat) (x0 : PV) (M : Mem) : callN prog W (k + 1) 58 [x0] M = fin false M.length (execs (callN prog W k) W m__law_back_right [some x0, none] M) := by
  unfold callN
  rfl
theorem u__law_drawn (k : Nat) (x0 : PV) (x1 : PV) (M : Mem) : callN prog W (k + 1) 59 [x0, x1] M = fin false M.length (execs (callN prog W k) W m__law_drawn [some x0, some x1, none, none, none] M) := by
  unfold callN
  rfl
theorem u_law (k : Nat) (x0 : PV) (M : Mem) : callN prog W (k + 1) 60 [x0] M = fin false M.length (execs (callN prog W k) W m_law [some x0, none, none, none, none, none, none, none, none, none] M) := by
  unfold callN
  rfl
/-! ### fractions: what the defs reckon -/
local macro_rules | `(tactic| walk_at "ev") => `(tactic| simp -implicitDefEqProofs only [execs, exec, eval, evals, evalI, conds, bnd_some, bnd_none, bifb_t, bifb_f, bifb_d, bifb_b, iff_t, iff_d, nxt_nx, nxt_rt, binop, cmpop, addOp_ii, addOp_tt, addOp_ll, subOp_ii, mulOp_ii, fdivOp_ii, modOp_ii, cmpI_ii, tru_bl, tru_int, absB_i, intB_i, asM_int, asM_bl, asM_tup, asM_false, isOp_n, isOp_bb, isNon, setAll_nil, setAll_cons, bindT_nm, bindT_tp, fin_rt, fin_nx, leave_same, bltOp, idx_tup0, idx_tup1, idx_tup2, idx_tup3, idx_lst0, idx_lst1, idx_lst2, idx_lst3, eqD_ii, eqD_bb, eqD_fr, Option.map_some, Option.map_none, Option.bind_some, List.getElem?_cons_zero, List.getElem?_cons_succ, List.set_cons_zero, List.set_cons_succ, List.length_cons, List.length_nil, if_true, if_false, decide_true, decide_false, Bool.not_true, Bool.not_false, decide_eq_true_eq, sizeL, Nat.reduceAdd, Nat.reduceLeDiff, Nat.zero_add, beq_self_eq_true, seqG_tup, seqG_lst, lenB_tup, lenB_lst, idx_cup0, idx_cup1, setAt0, setAt1, cup, isTy, Bool.false_eq_true, newL_f, newL_t, fin_rtk, List.nil_append, wipeE, Int.reduceNe, Int.reduceEq, Int.reduceLT, Int.reduceLE, Int.reduceAdd, Int.reduceSub, Int.reduceMul, Int.reduceNeg, Int.reduceGT])
local macro_rules | `(tactic| walk_at "evt") => `(tactic| try (walk_at "ev"))
theorem isNon_non : isNon .non = true := rfl
theorem isNon_tup (x : List PV) : isNon (.tup x) = false := rfl
theorem isNon_lst (x : List PV) : isNon (.lst x) = false := rfl
theorem isNon_rol (x : List PV) : isNon (.rol x) = false := rfl
theorem isNon_int (x : Int) : isNon (.int x) = false := rfl
theorem isNon_bl (x : Bool) : isNon (.bl x) = false := rfl
theorem isNon_str (x : PySem.Str) : isNon (.str x) = false := rfl
theorem isNon_ref (x : Nat) : isNon (.ref x) = false := rfl
theorem isNon_fr (x : Rat) : isNon (fr x) = false := rfl
theorem abs_nat (a : Int) : (if a < 0 then -a else a) = ((a.natAbs : Nat) : Int) := by omega
theorem divisor_of_ok (k : Nat) (a b : Int) (M : Mem) {n : Nat} (hb : lt2 n b) (hn : n ≤ 100000) : callN prog W (k + 1) 4 [.int a, .int b] M = some (.int (Int.gcd a b : Nat), M) := by
  rw [u_divisor_of]
  unfold m_divisor_of
  walk_at "ev"
  rw [abs_nat, abs_nat, whl_gcd (fun x y => [some (.int x), some (.int y)]) _ _ M (fun a b => ?_) (fun a b h => ?_) n W a.natAbs b.natAbs hb (by unfold W; omega)]
  · walk_at "ev"
    rfl
  · walk_at "ev"
    rw [decide_not]
  · walk_at "ev"
    rw [if_pos h]
    rfl
theorem lt2_gcd {n : Nat} {a b : Int} (hb : lt2 n b) (h0 : b ≠ 0) : lt2 n ((Int.gcd a b : Nat) : Int) := by
  unfold lt2
  rw [Int.natAbs_natCast]
  refine Nat.lt_of_le_of_lt ?_ hb
  have := Int.gcd_dvd_right a b
  have h := Int.natAbs_dvd_natAbs.mpr this
  rw [Int.natAbs_natCast] at h
  exact Nat.le_of_dvd (by omega) h
theorem sgn_eq {b : Int} (h : b ≠ 0) : (if 0 < b then (1 : Int) else -1) = b.sign := by
  rcases Int.lt_or_gt_of_ne h with h1 | h1
  · rw [if_neg (by omega), Int.sign_eq_neg_one_of_neg h1]
  · rw [if_pos h1, Int.sign_eq_one_of_pos h1]
theorem sgn2_eq {b : Int} (h : b ≠ 0) : (if b < 0 then (-1 : Int) else 1) = b.sign := by
  rcases Int.lt_or_gt_of_ne h with h1 | h1
  · rw [if_pos h1, Int.sign_eq_neg_one_of_neg h1]
  · rw [if_neg (by omega), Int.sign_eq_one_of_pos h1]
theorem sign_small (b : Int) : -(2 ^ 64) < b.sign ∧ b.sign < 2 ^ 64 := by
  have e : (2 : Int) ^ 64 = 18446744073709551616 := rfl
  rcases Int.lt_trichotomy b 0 with h | h | h
  · rw [Int.sign_eq_neg_one_of_neg h]; omega
  · rw [h, Int.sign_zero]; omega
  · rw [Int.sign_eq_one_of_pos h]; omega
theorem low_facts {n : Nat} {b s : Int} (a : Int) (hb : lt2 n b) (h0 : b ≠ 0) (hn : n ≤ 8000) (hs : s = b.sign) : mulOk ((Int.gcd a b : Nat) : Int) s = true ∧ divOk a (((Int.gcd a b : Nat) : Int) * s) = true ∧ divOk b (((Int.gcd a b : Nat) : Int) * s) = true ∧
    a.fdiv (((Int.gcd a b : Nat) : Int) * s) = (Rat.divInt a b).num ∧ b.fdiv (((Int.gcd a b : Nat) : Int) * s) = ((Rat.divInt a b).den : Int) := by
  have hg := lt2_gcd (a := a) hb h0
  have hg0 : ((Int.gcd a b : Nat) : Int) ≠ 0 := by
    have := Int.gcd_pos_of_ne_zero_right a h0
    omega
  have hsn : s ≠ 0 := fun z => h0 (Int.sign_eq_zero_iff_zero.mp (hs ▸ z))
  have hp : lt2 n (((Int.gcd a b : Nat) : Int) * s) := by
    unfold lt2
    rw [hs, Int.natAbs_mul, Int.natAbs_sign, if_neg h0, Nat.mul_one]
    exact hg
  have hp0 : ((Int.gcd a b : Nat) : Int) * s ≠ 0 := fun z => (Int.mul_eq_zero.mp z).elim hg0 hsn
  have hm : mulOk ((Int.gcd a b : Nat) : Int) s = true := mulOk_small (hs ▸ sign_small b)
  exact ⟨hm, divOk_of hp0 hp (by omega), divOk_of hp0 hp (by omega), low_num h0 hs⟩
theorem lowest_ok (k : Nat) (a b : Int) (M : Mem) {n : Nat} (hb : lt2 n b) (h0 : b ≠ 0) (hn : n ≤ 8000) : callN prog W (k + 2) 5 [.int a, .int b] M = some (fr (Rat.divInt a b), M) := by
  rw [u_lowest]
  unfold m_lowest
  walk_at "ev"
  rw [divisor_of_ok k a b M hb (by omega)]
  walk_at "ev"
  have hs := sgn_eq h0
  by_cases hpos : 0 < b
  · rw [if_pos hpos] at hs
    obtain ⟨f1, f2, f3, f4, f5⟩ := low_facts a hb h0 hn hs
    rw [if_pos hpos]
    walk_at "ev"
    rw [f1]
    walk_at "ev"
    rw [f2, f3]
    walk_at "ev"
    rw [f4, f5]
    rfl
  · rw [if_neg hpos] at hs
    obtain ⟨f1, f2, f3, f4, f5⟩ := low_facts a hb h0 hn hs
    rw [if_neg hpos]
    walk_at "ev"
    rw [f1]
    walk_at "ev"
    rw [f2, f3]
    walk_at "ev"
    rw [f4, f5]
    rfl
theorem sum_of_ok (k : Nat) {p q : Rat} (M : Mem) {a b : Nat} (hp : sm a p) (hq : sm b q) (h : a + b ≤ 7990) : callN prog W (k + 3) 6 [fr p, fr q] M = some (fr (p + q), M) := by
  rw [u_sum_of]
  unfold m_sum_of fr
  walk_at "ev"
  rw [mulOk_of hp.1 hq.den (by omega), mulOk_of hq.1 hp.den (by omega), mulOk_of hp.den hq.den (by omega)]
  walk_at "ev"
  rw [lowest_ok k _ _ M (hp.den.mul hq.den) (Int.ne_of_gt (Int.mul_pos (den_pos p) (den_pos q))) (by omega), add_low]
  walk_at "ev"
  rfl
theorem less_by_ok (k : Nat) {p q : Rat} (M : Mem) {a b : Nat} (hp : sm a p) (hq : sm b q) (h : a + b ≤ 7990) : callN prog W (k + 3) 7 [fr p, fr q] M = some (fr (p - q), M) := by
  rw [u_less_by]
  unfold m_less_by fr
  walk_at "ev"
  rw [mulOk_of hp.1 hq.den (by omega), mulOk_of hq.1 hp.den (by omega), mulOk_of hp.den hq.den (by omega)]
  walk_at "ev"
  rw [lowest_ok k _ _ M (hp.den.mul hq.den) (Int.ne_of_gt (Int.mul_pos (den_pos p) (den_pos q))) (by omega), sub_low]
  walk_at "ev"
  rfl
theorem product_of_ok (k : Nat) {p q : Rat} (M : Mem) {a b : Nat} (hp : sm a p) (hq : sm b q) (h : a + b ≤ 7990) : callN prog W (k + 3) 8 [fr p, fr q] M = some (fr (p * q), M) := by
  rw [u_product_of]
  unfold m_product_of fr
  walk_at "ev"
  rw [mulOk_of hp.1 hq.1 (by omega), mulOk_of hp.den hq.den (by omega)]
  walk_at "ev"
  rw [lowest_ok k _ _ M (hp.den.mul hq.den) (Int.ne_of_gt (Int.mul_pos (den_pos p) (den_pos q))) (by omega), mul_low]
  walk_at "ev"
  rfl
theorem part_of_ok (k : Nat) {p q : Rat} (M : Mem) {a b : Nat} (hp : sm a p) (hq : sm b q) (h : a + b ≤ 7990) (h0 : q ≠ 0) : callN prog W (k + 3) 9 [fr p, fr q] M = some (fr (p / q), M) := by
  rw [u_part_of]
  unfold m_part_of fr
  walk_at "ev"
  rw [mulOk_of hp.1 hq.den (by omega), mulOk_of hp.den hq.1 (by omega)]
  walk_at "ev"
  rw [lowest_ok k _ _ M (hp.den.mul hq.1) (fun z => (Int.mul_eq_zero.mp z).elim (Int.ne_of_gt (den_pos p)) (num_ne h0)) (by omega), div_low p q h0]
  walk_at "ev"
  rfl
theorem is_under_ok (k : Nat) {p q : Rat} (M : Mem) {a b : Nat} (hp : sm a p) (hq : sm b q) (h : a + b ≤ 7990) : callN prog W (k + 1) 10 [fr p, fr q] M = some (.bl (decide (p < q)), M) := by
  rw [u_is_under]
  unfold m_is_under fr
  walk_at "ev"
  rw [mulOk_of hp.1 hq.den (by omega), mulOk_of hq.1 hp.den (by omega)]
  walk_at "ev"
  rw [decide_eq_decide.mpr (Rat.lt_iff p q)]

/-! ### the law's own fractions -/
theorem l_least_ok (k : Nat) (a b : Int) (M : Mem) {n : Nat} (hb : lt2 n b) (h0 : b ≠ 0) (hn : n ≤ 8000) : callN prog W (k + 1) 43 [.int a, .int b] M = some (fr (Rat.divInt a b), M) := by
  rw [u__law_least]
  unfold m__law_least
  walk_at "ev"
  rw [abs_nat, abs_nat, whl_gcd (fun x y => [some (.int a), some (.int b), some (.int x), some (.int y), none]) _ _ M (fun a b => ?_) (fun a b h => ?_) n W a.natAbs b.natAbs hb (by unfold W; omega)]
  rotate_left
  · walk_at "ev"
    rw [decide_not]
  · walk_at "ev"
    rw [if_pos h]
    walk_at "ev"
  walk_at "ev"
  have hs := sgn2_eq h0
  have hgd : ∀ s : Int, s = b.sign → mulOk s a = true ∧ mulOk s b = true ∧ divOk (s * a) ((Nat.gcd a.natAbs b.natAbs : Nat) : Int) = true ∧ divOk (s * b) ((Nat.gcd a.natAbs b.natAbs : Nat) : Int) = true ∧
      (s * a).fdiv ((Nat.gcd a.natAbs b.natAbs : Nat) : Int) = (Rat.divInt a b).num ∧ (s * b).fdiv ((Nat.gcd a.natAbs b.natAbs : Nat) : Int) = ((Rat.divInt a b).den : Int) := fun s hs => by
    have hg : lt2 n ((Nat.gcd a.natAbs b.natAbs : Nat) : Int) := lt2_gcd (a := a) hb h0
    have hg1 : 0 < Nat.gcd a.natAbs b.natAbs := Int.gcd_pos_of_ne_zero_right a h0
    have hg0 : ((Nat.gcd a.natAbs b.natAbs : Nat) : Int) ≠ 0 := by omega
    obtain ⟨l1, l2⟩ := low_num (a := a) h0 hs
    have hss : s * s = 1 := by
      rcases Int.lt_or_gt_of_ne h0 with h | h
      · rw [hs, Int.sign_eq_neg_one_of_neg h]; rfl
      · rw [hs, Int.sign_eq_one_of_pos h]; rfl
    have mv : ∀ z : Int, ((Int.gcd a b : Nat) : Int) ∣ z → (s * z).fdiv ((Nat.gcd a.natAbs b.natAbs : Nat) : Int) = z.fdiv (((Int.gcd a b : Nat) : Int) * s) := fun z ⟨w, hw⟩ => by
      have e1 : s * z = ((Nat.gcd a.natAbs b.natAbs : Nat) : Int) * (s * w) := by
        rw [hw, ← Int.mul_assoc, Int.mul_comm s, Int.mul_assoc]; rfl
      have e2 : z = (((Int.gcd a b : Nat) : Int) * s) * (s * w) := by
        rw [Int.mul_assoc, ← Int.mul_assoc s s w, hss, Int.one_mul]; exact hw
      have hgs : ((Int.gcd a b : Nat) : Int) * s ≠ 0 := fun q => by
        rcases Int.mul_eq_zero.mp q with q | q
        · exact hg0 q
        · rw [q] at hss; cases hss
      rw [Int.fdiv_eq_ediv_of_dvd ⟨s * w, e1⟩, Int.fdiv_eq_ediv_of_dvd ⟨s * w, e2⟩]
      conv => lhs; rw [e1]
      conv => rhs; rw [e2]
      rw [Int.mul_ediv_cancel_left _ hg0, Int.mul_ediv_cancel_left _ hgs]
    exact ⟨mulOk_smallL (hs ▸ sign_small b), mulOk_smallL (hs ▸ sign_small b), divOk_of hg0 hg (by omega), divOk_of hg0 hg (by omega), (mv a (Int.gcd_dvd_left a b)).trans l1, (mv b (Int.gcd_dvd_right a b)).trans l2⟩
  by_cases hpos : b < 0
  · rw [if_pos hpos] at hs
    obtain ⟨f1, f2, f3, f4, f5, f6⟩ := hgd _ hs
    rw [if_pos hpos]
    walk_at "ev"
    rw [f1, f2]
    walk_at "ev"
    rw [f3, f4]
    walk_at "ev"
    rw [f5, f6]
    rfl
  · rw [if_neg hpos] at hs
    obtain ⟨f1, f2, f3, f4, f5, f6⟩ := hgd _ hs
    rw [if_neg hpos]
    walk_at "ev"
    rw [f1, f2]
    walk_at "ev"
    rw [f3, f4]
    walk_at "ev"
    rw [f5, f6]
    rfl

theorem l_plus_ok (k : Nat) {p q : Rat} (M : Mem) {a b : Nat} (hp : sm a p) (hq : sm b q) (h : a + b ≤ 7990) : callN prog W (k + 2) 44 [fr p, fr q] M = some (fr (p + q), M) := by
  rw [u__law_plus]
  unfold m__law_plus fr
  walk_at "ev"
  rw [mulOk_of hp.1 hq.den (by omega), mulOk_of hq.1 hp.den (by omega), mulOk_of hp.den hq.den (by omega)]
  walk_at "ev"
  rw [l_least_ok k _ _ M (hp.den.mul hq.den) (Int.ne_of_gt (Int.mul_pos (den_pos p) (den_pos q))) (by omega), add_low]
  walk_at "ev"
  rfl

theorem l_minus_ok (k : Nat) {p q : Rat} (M : Mem) {a b : Nat} (hp : sm a p) (hq : sm b q) (h : a + b ≤ 7990) : callN prog W (k + 2) 45 [fr p, fr q] M = some (fr (p - q), M) := by
  rw [u__law_minus]
  unfold m__law_minus fr
  walk_at "ev"
  rw [mulOk_of hp.1 hq.den (by omega), mulOk_of hq.1 hp.den (by omega), mulOk_of hp.den hq.den (by omega)]
  walk_at "ev"
  rw [l_least_ok k _ _ M (hp.den.mul hq.den) (Int.ne_of_gt (Int.mul_pos (den_pos p) (den_pos q))) (by omega), sub_low]
  walk_at "ev"
  rfl

theorem l_times_ok (k : Nat) {p q : Rat} (M : Mem) {a b : Nat} (hp : sm a p) (hq : sm b q) (h : a + b ≤ 7990) : callN prog W (k + 2) 46 [fr p, fr q] M = some (fr (p * q), M) := by
  rw [u__law_times]
  unfold m__law_times fr
  walk_at "ev"
  rw [mulOk_of hp.1 hq.1 (by omega), mulOk_of hp.den hq.den (by omega)]
  walk_at "ev"
  rw [l_least_ok k _ _ M (hp.den.mul hq.den) (Int.ne_of_gt (Int.mul_pos (den_pos p) (den_pos q))) (by omega), mul_low]
  walk_at "ev"
  rfl

theorem l_over_ok (k : Nat) {p q : Rat} (M : Mem) {a b : Nat} (hp : sm a p) (hq : sm b q) (h : a + b ≤ 7990) (h0 : q ≠ 0) : callN prog W (k + 2) 47 [fr p, fr q] M = some (fr (p / q), M) := by
  rw [u__law_over]
  unfold m__law_over fr
  walk_at "ev"
  rw [mulOk_of hp.1 hq.den (by omega), mulOk_of hp.den hq.1 (by omega)]
  walk_at "ev"
  rw [l_least_ok k _ _ M (hp.den.mul hq.1) (fun z => (Int.mul_eq_zero.mp z).elim (Int.ne_of_gt (den_pos p)) (num_ne h0)) (by omega), div_low p q h0]
  walk_at "ev"
  rfl

theorem l_under_ok (k : Nat) {p q : Rat} (M : Mem) {a b : Nat} (hp : sm a p) (hq : sm b q) (h : a + b ≤ 7990) : callN prog W (k + 1) 48 [fr p, fr q] M = some (.bl (decide (p < q)), M) := by
  rw [u__law_under]
  unfold m__law_under fr
  walk_at "ev"
  rw [mulOk_of hp.1 hq.den (by omega), mulOk_of hq.1 hp.den (by omega)]
  walk_at "ev"
  rw [decide_eq_decide.mpr (Rat.lt_iff p q)]

/-! ### draws -/
theorem roll_ok (k : Nat) {x y many : Int} (T : Mem) (h : CupB x y) (h1 : 1 ≤ many) (h2 : lt2 8000 many) :
    ∃ r x' y', callN prog W (k + 1) 40 [.ref 0, .int many] (cup x y :: T) = some (.int r, cup x' y' :: T) ∧ CupB x' y' ∧ 0 ≤ r ∧ r < many := by
  obtain ⟨hx, hy, hy2⟩ := h
  rw [u__law_roll]
  unfold m__law_roll
  walk_at "evt"
  have hne : many ≠ 0 := by omega
  have d0 := divOk_of (x := x) hne h2 (by omega)
  by_cases hpos : 0 < x
  · rw [if_pos hpos]
    rw [if_pos hne]
    walk_at "evt"
    rw [d0]
    walk_at "evt"
    refine ⟨x.fmod many, x.fdiv many, y, ?_, ⟨?_, hy, hy2⟩, ?_, ?_⟩
    · exact leave_len rfl
    · rw [Int.fdiv_eq_ediv_of_nonneg x (by omega)]
      exact Int.ediv_nonneg hx (by omega)
    · rw [Int.fmod_eq_emod_of_nonneg x (by omega)]
      exact Int.emod_nonneg x hne
    · rw [Int.fmod_eq_emod_of_nonneg x (by omega)]
      exact Int.emod_lt_of_pos x (by omega)
  · rw [if_neg hpos]
    walk_at "evt"
    have c1 : mulOk y 31051 = true := mulOk_small (by decide)
    rw [c1]
    walk_at "evt"
    have e1 : 0 ≤ (y * 31051 + 7993).fmod 2147483543 ∧ (y * 31051 + 7993).fmod 2147483543 < 2147483543 := by
      rw [Int.fmod_eq_emod_of_nonneg _ (by omega)]
      omega
    generalize (y * 31051 + 7993).fmod 2147483543 = y1 at e1
    walk_at "evt"
    have c2 : mulOk y1 (y1 + 229) = true := mulOk_small (by omega)
    rw [c2]
    walk_at "evt"
    generalize (y1 * (y1 + 229)).fmod 2147483587 = d
    have c3 : divOk d 821 = true := divOk_of (n := 10) (by decide) (by unfold lt2; decide) (by omega)
    rw [c3]
    walk_at "evt"
    rw [if_pos hne]
    refine ⟨(d.fdiv 821).fmod many, x, y1, leave_len rfl, ⟨hx, e1.1, by omega⟩, ?_, ?_⟩
    · rw [Int.fmod_eq_emod_of_nonneg _ (by omega)]
      exact Int.emod_nonneg _ hne
    · rw [Int.fmod_eq_emod_of_nonneg _ (by omega)]
      exact Int.emod_lt_of_pos _ (by omega)
theorem listB_rol (M : Mem) (xs : List PV) : listB M [.rol xs] = some (.lst xs) := rfl
theorem cup_ok (k : Nat) (ns : List Int) (hl : ns.length ≤ 63) : ∃ x y, callN prog W (k + 1) 39 [.rol (ns.map PV.int)] [] = some (.ref 0, [cup x y]) ∧ CupB x y := by
  rw [u__law_cup]
  unfold m__law_cup
  walk_at "evt"
  rw [listB_rol]
  walk_at "evt"
  rw [if_pos (by rw [List.length_map]; omega)]
  obtain ⟨c, rest, e, hc⟩ : ∃ c rest, ns.map PV.int ++ [PV.int 0] = .int c :: rest ∧ True := by
    cases ns with
    | nil => exact ⟨0, [], rfl, trivial⟩
    | cons n ns => exact ⟨n, ns.map PV.int ++ [PV.int 0], rfl, trivial⟩
  rw [e]
  walk_at "evt"
  rw [abs_nat]
  generalize hcc : ((c.natAbs : Nat) : Int) = a
  have ha : 0 ≤ a := by omega
  have p18 : powOp (.int 10) (.int 18) = some (.int 1000000000000000000) := by rfl
  rw [p18]
  walk_at "evt"
  have c1 : mulOk a 283 = true := mulOk_small (by decide)
  have c2 : divOk a 73 = true := divOk_of (n := 7) (by decide) (by unfold lt2; decide) (by omega)
  rw [c1, c2]
  by_cases h18 : 1000000000000000000 ≤ a
  · walk_at "evt"
    rw [if_pos h18]
    walk_at "evt"
    have e1 : 0 ≤ (a * 283 + 3907).fmod 2077503167 ∧ (a * 283 + 3907).fmod 2077503167 < 2077503167 := by
      rw [Int.fmod_eq_emod_of_nonneg _ (by omega)]
      omega
    refine ⟨_, _, rfl, ?_, by omega, by omega⟩
    rw [Int.fdiv_eq_ediv_of_nonneg _ (by omega)]
    omega
  · walk_at "evt"
    rw [if_neg h18]
    walk_at "evt"
    have e1 : 0 ≤ (a * 283 + 3907).fmod 2077503167 ∧ (a * 283 + 3907).fmod 2077503167 < 2077503167 := by
      rw [Int.fmod_eq_emod_of_nonneg _ (by omega)]
      omega
    exact ⟨0, _, rfl, by omega, by omega, by omega⟩

/-! ### equal, including the kinds -/
theorem sort_ok (k : Nat) (v : PV) (M : Mem) : callN prog W (k + 1) 41 [v] M = some (.int (sortP v), M) := by
  rw [u__law_sort]
  unfold m__law_sort
  cases v <;> (walk_at "ev"; rfl)
theorem in_45 (M : Mem) (v : PV) : inOp M (.int (sortP v)) (.tup [.int 4, .int 5]) = some (decide (4 ≤ sortP v)) := by
  cases v <;> rfl
theorem eqD_nil (M : Mem) : eqD M (.lst []) (.lst []) = some true := rfl
theorem like_seq (k : Nat) (M : Mem) (a b : PV) (kd : Bool) (xs : List PV) (g : Gd) (ha : seqG M a = some (kd, xs, g)) (hb : seqG M b = some (kd, xs, [])) (hg : gOk (g ++ []) M = true) (la : lenB M [a] = some (.int xs.length)) (lb : lenB M [b] = some (.int xs.length))
    (hs : sortP a = sortP b) (h4 : 4 ≤ sortP b) (h6 : sortP b ≠ 6) (ih : ∀ x ∈ xs, callN prog W (k + 1) 42 [x, x] M = some (.bl true, M)) : callN prog W (k + 2) 42 [a, b] M = some (.bl true, M) := by
  rw [u__law_like]
  unfold m__law_like
  walk_at "evt"
  rw [sort_ok]
  walk_at "evt"
  rw [sort_ok, hs]
  walk_at "evt"
  rw [if_neg h6]
  walk_at "evt"
  rw [in_45]
  walk_at "evt"
  rw [if_pos h4]
  walk_at "evt"
  rw [la]
  walk_at "evt"
  rw [lb]
  walk_at "evt"
  rw [ha, hb]
  walk_at "evt"
  rw [lcL_none hg]
  · walk_at "evt"
    rw [eqD_nil]
    walk_at "evt"
  · intro z hz
    obtain ⟨x, hx, rfl⟩ := zip_mem hz
    refine ⟨_, by walk_at "ev"; rfl, ?_⟩
    walk_at "evt"
    rw [ih x hx]
    walk_at "evt"
theorem eqD_scal (M : Mem) (v : PV) (h : pl v = true) (h4 : ¬ 4 ≤ sortP v) : eqD M v v = some true := by
  cases v with
  | non => rfl
  | bl b => show some (b == b) = _; rw [beq_self_eq_true]
  | int i => rw [eqD_ii, decide_eq_true rfl]
  | str s =>
    have h' : PySem.PyData.canLay0 (.str s) = true := h
    show (if (PySem.SeqAt.shaped (.str s) && PySem.SeqAt.shaped (.str s)) = true then some (s == s) else none) = _
    unfold PySem.SeqAt.shaped
    rw [h']
    show (if true = true then some (s == s) else none) = _
    rw [if_pos rfl, beq_self_eq_true]
  | tup xs => exact absurd (show (4 : Int) ≤ 4 by decide) h4
  | lst xs => exact absurd (show (4 : Int) ≤ 5 by decide) h4
  | rol xs => exact absurd (show (4 : Int) ≤ 5 by decide) h4
  | ref n => exact absurd (show (4 : Int) ≤ 5 by decide) h4
theorem like_self : ∀ (k : Nat) (v : PV) (M : Mem), pl v = true → dpt v ≤ k → callN prog W (k + 2) 42 [v, v] M = some (.bl true, M)
  | k, v, M, hp, hd => by
    by_cases h4 : 4 ≤ sortP v
    · cases v with
      | tup xs =>
        have hd' : dpts xs + 1 ≤ k := hd
        obtain ⟨k, rfl⟩ : ∃ j, k = j + 1 := ⟨k - 1, by omega⟩
        refine like_seq (k + 1) M _ _ true xs [] rfl rfl rfl rfl rfl rfl h4 (by show (4 : Int) ≠ 6; decide) fun x hx => ?_
        obtain ⟨h1, h2⟩ := pls_mem hp hx
        exact like_self k x M h1 (by omega)
      | lst xs =>
        have hd' : dpts xs + 1 ≤ k := hd
        obtain ⟨k, rfl⟩ : ∃ j, k = j + 1 := ⟨k - 1, by omega⟩
        refine like_seq (k + 1) M _ _ false xs [] rfl rfl rfl rfl rfl rfl h4 (by show (5 : Int) ≠ 6; decide) fun x hx => ?_
        obtain ⟨h1, h2⟩ := pls_mem hp hx
        exact like_self k x M h1 (by omega)
      | rol xs => cases hp
      | ref n => cases hp
      | non => exact absurd h4 (by decide)
      | bl b => exact absurd h4 (by show ¬ (4 : Int) ≤ 1; decide)
      | int i => exact absurd h4 (by show ¬ (4 : Int) ≤ 2; decide)
      | str s => exact absurd h4 (by show ¬ (4 : Int) ≤ 3; decide)
    · rw [u__law_like]
      unfold m__law_like
      walk_at "evt"
      rw [sort_ok]
      walk_at "evt"
      rw [sort_ok]
      walk_at "evt"
      rw [if_neg (by omega)]
      walk_at "evt"
      rw [in_45]
      walk_at "evt"
      rw [if_neg h4]
      walk_at "evt"
      rw [eqD_scal M v hp h4]
      walk_at "evt"
  termination_by k => k
/-- a told list (a cell) beside the due one -/
theorem like_ref (k : Nat) (n : Nat) (xs : List PV) (M : Mem) (h : M[n]? = some (.lst xs)) (hp : pls xs = true) (hd : dpts xs ≤ k) : callN prog W (k + 3) 42 [.ref n, .lst xs] M = some (.bl true, M) := by
  refine like_seq (k + 1) M _ _ false xs [(n, xs)] (by show (match M[n]? with | some (.lst xs) => some (false, xs, [(n, xs)]) | _ => none) = _; rw [h]) rfl ?_ ?_ rfl rfl (by show (4 : Int) ≤ 5; decide) (by show (5 : Int) ≠ 6; decide) fun x hx => ?_
  · show ((match M[n]? with | some (.lst ys) => pbeqs ys xs | _ => false) && true) = true
    rw [h, Bool.and_true]
    exact pbeqs_self xs
  · unfold lenB itemsT items
    simp only [h]
    rfl
  · obtain ⟨h1, h2⟩ := pls_mem hp hx
    exact like_self k x M h1 (by omega)

/-! ### chains -/
theorem fr_0' : (PV.tup [.int 0, .int 1]) = fr 0 := rfl
theorem fr_1' : (PV.tup [.int 1, .int 1]) = fr 1 := rfl
theorem fr_m1' : (PV.tup [.int (-1), .int 1]) = fr (-1) := rfl
theorem idx_fr0 (M : Mem) (q : Rat) : idxOp M (fr q) (.int 0) = some (.int q.num) := idx_tup0 _ _ _
theorem idx_fr1 (M : Mem) (q : Rat) : idxOp M (fr q) (.int 1) = some (.int q.den) := idx_tup1 _ _ _ _
theorem lcL_n {t : T} {c : Env → Mem → Option (Bool × Mem)} {e : Env → Mem → Option (PV × Mem)} {env : Env} {acc : List PV} {M : Mem} : lcL t [] c e env [] acc M = some (acc, M) := by unfold lcL; rfl
theorem lcL_c {t : T} {c : Env → Mem → Option (Bool × Mem)} {e : Env → Mem → Option (PV × Mem)} {env : Env} {x : PV} {xs acc : List PV} {M : Mem} : lcL t [] c e env (x :: xs) acc M =
    (bindT t x env).bind fun env1 => bnd (c env1 M) fun b M1 => bifb (some b) (bnd (e env1 M1) fun v M2 => lcL t [] c e env xs (acc ++ [v]) M2) (lcL t [] c e env xs acc M1) := by
  conv => lhs; unfold lcL
  show (match bindT t x env with | some env1 => _ | none => none) = _
  cases bindT t x env with
  | none => rfl
  | some env1 =>
    show (match c env1 M with | some (true, M1) => _ | some (false, M1) => _ | none => none) = bnd (c env1 M) _
    rcases c env1 M with _ | ⟨b, M1⟩
    · rfl
    · cases b
      · rfl
      · show (match e env1 M1 with | some (v, M2) => _ | none => none) = bnd (e env1 M1) _
        rcases e env1 M1 with _ | ⟨v, M2⟩ <;> rfl
theorem forL_n {t : T} {body : Env → Mem → Option R} {env : Env} {M : Mem} : forL t [] body [] env M = some (.nx env M) := by unfold forL; rfl
theorem forL_c {t : T} {body : Env → Mem → Option R} {x : PV} {xs : List PV} {env : Env} {M : Mem} : forL t [] body (x :: xs) env M = (bindT t x env).bind fun env1 => nxt (body env1 M) fun env2 M2 => forL t [] body xs env2 M2 := by
  conv => lhs; unfold forL
  show (match bindT t x env with | some env1 => _ | none => none) = _
  cases bindT t x env with
  | none => rfl
  | some env1 =>
    show (match body env1 M with | some (.nx env2 M2) => _ | r => r) = nxt (body env1 M) _
    rcases body env1 M with _ | r
    · rfl
    · cases r <;> rfl
local macro_rules | `(tactic| walk_at "evf") => `(tactic| simp -implicitDefEqProofs only [execs, exec, eval, evals, evalI, conds, bnd_some, bnd_none, bifb_t, bifb_f, bifb_d, bifb_b, iff_t, iff_d, nxt_nx, nxt_rt, binop, cmpop, addOp_ii, addOp_tt, addOp_ll, subOp_ii, mulOp_ii, fdivOp_ii, modOp_ii, cmpI_ii, tru_bl, tru_int, absB_i, intB_i, asM_int, asM_bl, asM_tup, asM_false, isOp_n, isOp_bb, isNon_non, isNon_tup, isNon_int, isNon_bl, isNon_lst, isNon_ref, isNon_rol, isNon_str, isNon_fr, setAll_nil, setAll_cons, bindT_nm, bindT_tp, fin_rt, fin_nx, leave_same, bltOp, idx_tup0, idx_tup1, idx_tup2, idx_tup3, idx_lst0, idx_lst1, idx_lst2, idx_lst3, eqD_ii, eqD_bb, eqD_fr, Option.map_some, Option.map_none, Option.bind_some, List.getElem?_cons_zero, List.getElem?_cons_succ, List.set_cons_zero, List.set_cons_succ, List.length_cons, List.length_nil, if_true, if_false, decide_true, decide_false, Bool.not_true, Bool.not_false, decide_eq_true_eq, sizeL, Nat.reduceAdd, Nat.reduceLeDiff, Nat.zero_add, beq_self_eq_true, seqG_tup, seqG_lst, lenB_tup, lenB_lst, idx_cup0, idx_cup1, setAt0, setAt1, cup, isTy, Bool.false_eq_true, newL_f, newL_t, fin_rtk, List.nil_append, wipeE, Int.reduceNe, Int.reduceEq, Int.reduceLT, Int.reduceLE, Int.reduceAdd, Int.reduceSub, Int.reduceMul, Int.reduceNeg, Int.reduceGT, fr_0', fr_1', fr_m1', idx_fr0, idx_fr1, lcL_n, lcL_c, forL_n, forL_c, allB, items, boolsOf, List.all_cons, List.all_nil, id_eq, Bool.and_true, List.cons_append, List.append_nil, cmpop, k_ONE, k_NONE, k_PLAIN, k_MANY, k_DIGITS, not_true_eq_false, not_false_eq_true, ite_true, ite_false, *])
theorem is_tuple_of_ok (k : Nat) (xs : List PV) (lo hi : Int) (M : Mem) (h1 : lo ≤ (xs.length : Int)) (h2 : (xs.length : Int) ≤ hi) : callN prog W (k + 1) 3 [.tup xs, .int lo, .int hi] M = some (.bl true, M) := by
  rw [u_is_tuple_of]
  unfold m_is_tuple_of
  walk_at "evf"
theorem is_integer_ok (k : Nat) (i : Int) (M : Mem) : callN prog W (k + 1) 0 [.int i] M = some (.bl true, M) := by
  rw [u_is_integer]
  unfold m_is_integer
  walk_at "evf"
theorem num_one {a : Int} {q : Rat} : Int.gcd q.num (q.den : Int) = 1 := by
  have := q.reduced
  unfold Nat.Coprime at this
  unfold Int.gcd
  rw [Int.natAbs_natCast]
  exact this
theorem fits_fraction_ok (k : Nat) {q : Rat} (M : Mem) (h : sm 132 q) : callN prog W (k + 2) 11 [fr q] M = some (.bl true, M) := by
  obtain ⟨h1, h2⟩ := h
  have e : (2 : Nat) ^ 132 < 10000000000000000000000000000000000000000 := by decide +kernel
  have p1 : -10000000000000000000000000000000000000000 < q.num := by unfold lt2 at h1; omega
  have p2 : q.num < 10000000000000000000000000000000000000000 := by unfold lt2 at h1; omega
  have p3 : -10000000000000000000000000000000000000000 < (q.den : Int) := by omega
  have p4 : (q.den : Int) < 10000000000000000000000000000000000000000 := by omega
  have p5 : 1 ≤ (q.den : Int) := den_pos q
  have f1 : ∀ k, callN prog W (k + 1) 3 [.tup [.int q.num, .int q.den], .int 2, .int 2] M = some (.bl true, M) := fun k => is_tuple_of_ok k _ _ _ M (by simp) (by simp)
  have f2 := fun k i => is_integer_ok k i M
  have f3 : ∀ k, callN prog W (k + 1) 4 [.int q.num, .int q.den] M = some (.int 1, M) := fun k => by
    rw [divisor_of_ok k _ _ M (n := 132) (by unfold lt2; rw [Int.natAbs_natCast]; exact h2) (by omega), num_one (a := 0)]
    rfl
  rw [u_fits_fraction]
  unfold m_fits_fraction fr
  walk_at "evf"

def ch (a b c d : Rat) : PV := .tup [fr a, fr b, fr c, fr d]
structure Sm (n : Nat) (a b c d : Rat) : Prop where
  a : sm n a
  b : sm n b
  c : sm n c
  d : sm n d
theorem Sm.w {a b c d : Rat} {n m : Nat} (h : Sm n a b c d) (hm : n ≤ m) : Sm m a b c d := ⟨h.a.mono hm, h.b.mono hm, h.c.mono hm, h.d.mono hm⟩
theorem sm_0 (n : Nat) (h : 1 ≤ n) : sm n 0 := by
  have : 2 ^ 1 ≤ 2 ^ n := Nat.pow_le_pow_right (by decide) h
  refine ⟨?_, ?_⟩
  · show (0 : Nat) < 2 ^ n; omega
  · show (1 : Nat) < 2 ^ n; omega
theorem sm_1 (n : Nat) (h : 1 ≤ n) : sm n 1 := by
  have : 2 ^ 1 ≤ 2 ^ n := Nat.pow_le_pow_right (by decide) h
  refine ⟨?_, ?_⟩
  · show (1 : Nat) < 2 ^ n; omega
  · show (1 : Nat) < 2 ^ n; omega
theorem fits_chain_ok (k : Nat) {a b c d : Rat} (M : Mem) (h : Sm 132 a b c d) (hd : a * d - b * c = 1) : callN prog W (k + 4) 13 [ch a b c d] M = some (.bl true, M) := by
  have f1 : ∀ k, callN prog W (k + 1) 3 [.tup [fr a, fr b, fr c, fr d], .int 4, .int 4] M = some (.bl true, M) := fun k => is_tuple_of_ok k _ _ _ M (by simp) (by simp)
  have f2 := fun k => fits_fraction_ok k M h.a
  have f3 := fun k => fits_fraction_ok k M h.b
  have f4 := fun k => fits_fraction_ok k M h.c
  have f5 := fun k => fits_fraction_ok k M h.d
  have f6 := fun k => product_of_ok k M h.a h.d (by omega)
  have f7 := fun k => product_of_ok k M h.b h.c (by omega)
  have f8 := fun k => less_by_ok k M (sm_mul h.a h.d) (sm_mul h.b h.c) (by omega)
  rw [u_fits_chain]
  unfold m_fits_chain ch
  walk_at "evf"
theorem need_chain_ok (k : Nat) {a b c d : Rat} (M : Mem) (h : Sm 132 a b c d) (hd : a * d - b * c = 1) : callN prog W (k + 5) 14 [ch a b c d] M = some (.non, M) := by
  have f1 := fun k => fits_chain_ok k M h hd
  rw [u_need_chain]
  unfold m_need_chain
  walk_at "evf"
theorem is_from_none_ok (k : Nat) (q : Rat) (M : Mem) : callN prog W (k + 1) 15 [fr q] M = some (.bl (decide (0 ≤ q)), M) := by
  rw [u_is_from_none]
  unfold m_is_from_none
  walk_at "evf"
  rw [decide_eq_decide.mpr Rat.num_nonneg]
theorem joined_chain_ok (k : Nat) {a b c d e f g h : Rat} (M : Mem) {n m : Nat} (p : Sm n a b c d) (q : Sm m e f g h) (hn : 2 * (n + m) ≤ 7990) :
    callN prog W (k + 4) 17 [ch a b c d, ch e f g h] M = some (ch (a * e + b * g) (a * f + b * h) (c * e + d * g) (c * f + d * h), M) := by
  have f1 := fun k => product_of_ok k M p.a q.a (by omega)
  have f2 := fun k => product_of_ok k M p.b q.c (by omega)
  have f3 := fun k => product_of_ok k M p.a q.b (by omega)
  have f4 := fun k => product_of_ok k M p.b q.d (by omega)
  have f5 := fun k => product_of_ok k M p.c q.a (by omega)
  have f6 := fun k => product_of_ok k M p.d q.c (by omega)
  have f7 := fun k => product_of_ok k M p.c q.b (by omega)
  have f8 := fun k => product_of_ok k M p.d q.d (by omega)
  have g1 := fun k => sum_of_ok k M (sm_mul p.a q.a) (sm_mul p.b q.c) (by omega)
  have g2 := fun k => sum_of_ok k M (sm_mul p.a q.b) (sm_mul p.b q.d) (by omega)
  have g3 := fun k => sum_of_ok k M (sm_mul p.c q.a) (sm_mul p.d q.c) (by omega)
  have g4 := fun k => sum_of_ok k M (sm_mul p.c q.b) (sm_mul p.d q.d) (by omega)
  rw [u_joined_chain]
  unfold m_joined_chain ch
  walk_at "evf"
theorem Sm_join {a b c d e f g h : Rat} {n m : Nat} (p : Sm n a b c d) (q : Sm m e f g h) : Sm (2 * (n + m) + 1) (a * e + b * g) (a * f + b * h) (c * e + d * g) (c * f + d * h) :=
  ⟨(sm_add (sm_mul p.a q.a) (sm_mul p.b q.c)).mono (by omega), (sm_add (sm_mul p.a q.b) (sm_mul p.b q.d)).mono (by omega), (sm_add (sm_mul p.c q.a) (sm_mul p.d q.c)).mono (by omega), (sm_add (sm_mul p.c q.b) (sm_mul p.d q.d)).mono (by omega)⟩
def told (a b c d : Rat) : Prop := 1 ≤ a ∧ 1 ≤ d ∧ 0 ≤ b ∧ 0 ≤ c
instance (a b c d : Rat) : Decidable (told a b c d) := by unfold told; exact inferInstance
theorem told_eq (a b c d : Rat) : told a b c d ↔ (¬ a < 1 ∧ ¬ d < 1 ∧ 0 ≤ b ∧ 0 ≤ c) := by
  unfold told
  rw [Rat.not_lt, Rat.not_lt]
theorem is_told_in_ok (k : Nat) {a b c d : Rat} (M : Mem) (h : Sm 132 a b c d) : callN prog W (k + 2) 20 [ch a b c d] M = some (.bl (decide (told a b c d)), M) := by
  have f1 := fun k => is_under_ok k M h.a (sm_1 1 (by decide)) (by omega)
  have f2 := fun k => is_under_ok k M h.d (sm_1 1 (by decide)) (by omega)
  have f3 := fun k q => is_from_none_ok k q M
  rw [u_is_told_in]
  unfold m_is_told_in ch
  have e : decide (told a b c d) = decide (¬ a < 1 ∧ ¬ d < 1 ∧ 0 ≤ b ∧ 0 ≤ c) := decide_eq_decide.mpr (told_eq a b c d)
  rw [e]
  by_cases h1 : a < 1
  · walk_at "evf"
    simp
  · by_cases h2 : d < 1
    · walk_at "evf"
      simp
    · by_cases h3 : 0 ≤ b
      · walk_at "evf"
        simp
      · walk_at "evf"
        simp
theorem is_told_chain_ok (k : Nat) {a b c d : Rat} (M : Mem) (h : Sm 132 a b c d) (hd : a * d - b * c = 1) : callN prog W (k + 6) 23 [ch a b c d] M = some (.bl (decide (told a b c d)), M) := by
  have f1 := fun k => need_chain_ok k M h hd
  have f2 := fun k => is_told_in_ok k M h
  rw [u_is_told_chain]
  unfold m_is_told_chain
  walk_at "evf"

/-! ### the law about one chain -/
theorem pl_fr (q : Rat) : pl (fr q) = true := rfl
theorem dpt_fr (q : Rat) : dpt (fr q) = 1 := rfl
theorem like_ok (k : Nat) (v : PV) (M : Mem) (hp : pl v = true) (hd : dpt v ≤ 5) : callN prog W (k + 7) 42 [v, v] M = some (.bl true, M) := like_self (k + 5) v M hp (by omega)
theorem revOp_tup (M : Mem) (xs : List PV) : revOp M (.tup xs) = some (.tup xs.reverse) := rfl
theorem rev3 (a b c : PV) : [a, b, c].reverse = [c, b, a] := rfl
theorem natc3 : ((3 : Nat) : Int) = 3 := rfl
theorem num0 : (0 : Rat).num = 0 := rfl
local macro_rules | `(tactic| walk_at "evg") => `(tactic| simp -implicitDefEqProofs only [execs, exec, eval, evals, evalI, conds, bnd_some, bnd_none, bifb_t, bifb_f, bifb_d, bifb_b, iff_t, iff_d, nxt_nx, nxt_rt, binop, cmpop, addOp_ii, addOp_tt, addOp_ll, subOp_ii, mulOp_ii, fdivOp_ii, modOp_ii, cmpI_ii, tru_bl, tru_int, absB_i, intB_i, asM_int, asM_bl, asM_tup, asM_false, isOp_n, isOp_bb, isNon_non, isNon_tup, isNon_int, isNon_bl, isNon_lst, isNon_ref, isNon_rol, isNon_str, isNon_fr, setAll_nil, setAll_cons, bindT_nm, bindT_tp, fin_rt, fin_nx, leave_same, bltOp, idx_tup0, idx_tup1, idx_tup2, idx_tup3, idx_lst0, idx_lst1, idx_lst2, idx_lst3, eqD_ii, eqD_bb, eqD_fr, Option.map_some, Option.map_none, Option.bind_some, List.getElem?_cons_zero, List.getElem?_cons_succ, List.set_cons_zero, List.set_cons_succ, List.length_cons, List.length_nil, if_true, if_false, decide_true, decide_false, Bool.not_true, Bool.not_false, decide_eq_true_eq, sizeL, Nat.reduceAdd, Nat.reduceLeDiff, Nat.zero_add, beq_self_eq_true, seqG_tup, seqG_lst, lenB_tup, lenB_lst, idx_cup0, idx_cup1, setAt0, setAt1, cup, isTy, Bool.false_eq_true, newL_f, newL_t, fin_rtk, List.nil_append, wipeE, Int.reduceNe, Int.reduceEq, Int.reduceLT, Int.reduceLE, Int.reduceAdd, Int.reduceSub, Int.reduceMul, Int.reduceNeg, Int.reduceGT, fr_0', fr_1', fr_m1', idx_fr0, idx_fr1, lcL_n, lcL_c, forL_n, forL_c, allB, items, boolsOf, List.all_cons, List.all_nil, id_eq, Bool.and_true, List.cons_append, List.append_nil, cmpop, not_true_eq_false, not_false_eq_true, ite_true, ite_false, eq_self, Bool.true_eq_false, reduceCtorEq, natc3, revOp_tup, rev3, num0, *])

/-! ### what is drawn -/
def nb (s : Nat) (q : Rat) : Prop := q.num.natAbs ≤ s ∧ q.den ≤ s
theorem leave_cup (c : Cell) (v : PV) (T : Mem) : leave (T.length + 1) v (c :: T) = some (v, c :: T) := leave_len rfl
theorem low_nb {a b : Int} {s : Nat} (ha : a.natAbs ≤ s) (hb : b.natAbs ≤ s) (h0 : b ≠ 0) : nb s (Rat.divInt a b) := by
  obtain ⟨h1, h2⟩ := low_le a b h0
  exact ⟨Nat.le_trans h1 ha, Nat.le_trans h2 hb⟩
theorem nb.sm {s : Nat} {q : Rat} (h : nb s q) {n : Nat} (hs : s < 2 ^ n) : sm n q := ⟨Nat.lt_of_le_of_lt h.1 hs, Nat.lt_of_le_of_lt h.2 hs⟩
theorem lt2_of {n m : Nat} {x : Int} (h : x.natAbs ≤ m) (hm : m < 2 ^ n) : lt2 n x := Nat.lt_of_le_of_lt h hm
theorem rngI_len : ∀ (n : Nat) (a : Int), (rngI a n).length = n
  | 0, _ => rfl
  | n + 1, a => by
    show (rngI (a + 1) n).length + 1 = n + 1
    rw [rngI_len n]
theorem rngI_int : ∀ (n : Nat) (a : Int) (v : PV), v ∈ rngI a n → ∃ i, v = .int i
  | n + 1, a, v, h => by
    rcases List.mem_cons.mp (show v ∈ .int a :: rngI (a + 1) n from h) with h | h
    · exact ⟨a, h⟩
    · exact rngI_int n _ v h
theorem tupleB_lst (M : Mem) (xs : List PV) : tupleB M [.lst xs] = some (.tup xs) := rfl

theorem law_joined_ok (k : Nat) {a b c d e f g h : Rat} (M : Mem) {n m : Nat} (p : Sm n a b c d) (q : Sm m e f g h) (hn : 2 * (n + m) ≤ 7990) :
    callN prog W (k + 3) 49 [ch a b c d, ch e f g h] M = some (ch (a * e + b * g) (a * f + b * h) (c * e + d * g) (c * f + d * h), M) := by
  have f1 := fun k => l_times_ok k M p.a q.a (by omega)
  have f2 := fun k => l_times_ok k M p.b q.c (by omega)
  have f3 := fun k => l_times_ok k M p.a q.b (by omega)
  have f4 := fun k => l_times_ok k M p.b q.d (by omega)
  have f5 := fun k => l_times_ok k M p.c q.a (by omega)
  have f6 := fun k => l_times_ok k M p.d q.c (by omega)
  have f7 := fun k => l_times_ok k M p.c q.b (by omega)
  have f8 := fun k => l_times_ok k M p.d q.d (by omega)
  have g1 := fun k => l_plus_ok k M (sm_mul p.a q.a) (sm_mul p.b q.c) (by omega)
  have g2 := fun k => l_plus_ok k M (sm_mul p.a q.b) (sm_mul p.b q.d) (by omega)
  have g3 := fun k => l_plus_ok k M (sm_mul p.c q.a) (sm_mul p.d q.c) (by omega)
  have g4 := fun k => l_plus_ok k M (sm_mul p.c q.b) (sm_mul p.d q.d) (by omega)
  have ht := tupleB_lst M
  rw [u__law_joined]
  unfold m__law_joined ch
  walk_at "evf"
/-! common denominators -/
def cmn (D N : Nat) (q : Rat) : Prop := ∃ A : Int, q * (D : Rat) = (A : Rat) ∧ A.natAbs ≤ N
structure Cm (D N : Nat) (a b c d : Rat) : Prop where
  a : cmn D N a
  b : cmn D N b
  c : cmn D N c
  d : cmn D N d
  p : 0 < D
  l : D ≤ N
theorem cmn.sm {D N : Nat} {q : Rat} (h : cmn D N q) (hp : 0 < D) (hl : D ≤ N) {n : Nat} (hn : N < 2 ^ n) : sm n q := by
  obtain ⟨A, h1, h2⟩ := h
  have e : q = Rat.divInt A D := by
    rw [Rat.divInt_eq_div, ← h1]
    have : ((D : Int) : Rat) = (D : Rat) := rfl
    rw [this]
    have h0 : (D : Rat) ≠ 0 := by
      intro z
      have : (D : Nat) = 0 := by exact_mod_cast z
      omega
    grind
  rw [e]
  refine sm_low (n := n) ?_ ?_ (by omega)
  · unfold lt2; omega
  · unfold lt2; omega
theorem cmn_keep {D N s t : Nat} {q : Rat} (h : cmn D N q) (ht : t ≤ s) : cmn (D * t) (N * (2 * s)) q := by
  obtain ⟨A, h1, h2⟩ := h
  refine ⟨A * t, ?_, ?_⟩
  · rw [Rat.natCast_mul, Rat.intCast_mul, ← Rat.mul_assoc, h1]
    rfl
  · rw [Int.natAbs_mul, Int.natAbs_natCast]
    exact Nat.mul_le_mul h2 (by omega)
theorem cmn_join {D N s : Nat} {p q r : Rat} (h : cmn D N p) (h' : cmn D N q) (hr : nb s r) : cmn (D * r.den) (N * (2 * s)) (p * r + q) := by
  obtain ⟨A, h1, h2⟩ := h
  obtain ⟨B, h3, h4⟩ := h'
  have er : r * (r.den : Rat) = (r.num : Rat) := by
    have h5 := Rat.num_divInt_den r
    rw [Rat.divInt_eq_div] at h5
    have h6 : (((r.den : Nat) : Int) : Rat) = ((r.den : Nat) : Rat) := rfl
    rw [h6] at h5
    have h0 : (r.den : Rat) ≠ 0 := by
      intro z
      have : (r.den : Nat) = 0 := by exact_mod_cast z
      exact r.den_nz this
    generalize (r.den : Rat) = y at *
    generalize (r.num : Rat) = x at *
    grind
  refine ⟨A * r.num + B * r.den, ?_, ?_⟩
  · rw [Rat.natCast_mul, Rat.intCast_add, Rat.intCast_mul, Rat.intCast_mul, ← h1, ← h3, ← er]
    have : (((r.den : Nat) : Int) : Rat) = ((r.den : Nat) : Rat) := rfl
    rw [this]
    grind
  · have n1 : (A * r.num).natAbs ≤ N * s := by rw [Int.natAbs_mul]; exact Nat.mul_le_mul h2 hr.1
    have n2 : (B * (r.den : Int)).natAbs ≤ N * s := by rw [Int.natAbs_mul, Int.natAbs_natCast]; exact Nat.mul_le_mul h4 hr.2
    have n3 : N * (2 * s) = N * s + N * s := by rw [Nat.mul_comm 2 s, ← Nat.mul_assoc]; omega
    omega
theorem Cm.Sm {D N : Nat} {a b c d : Rat} (h : Cm D N a b c d) {n : Nat} (hn : N < 2 ^ n) : Sm n a b c d := ⟨h.a.sm h.p h.l hn, h.b.sm h.p h.l hn, h.c.sm h.p h.l hn, h.d.sm h.p h.l hn⟩
theorem den_up {D N s t : Nat} (h : D ≤ N) (ht : t ≤ s) : D * t ≤ N * (2 * s) := Nat.mul_le_mul h (by omega)

/-! ### a drawn number -/
theorem number_ok (k : Nat) {x y : Int} (T : Mem) (h : CupB x y) (s : Nat) (h1 : 1 ≤ s) (h2 : s ≤ 9) :
    ∃ q x' y', callN prog W (k + 2) 51 [.ref 0, .int s] (cup x y :: T) = some (fr q, cup x' y' :: T) ∧ CupB x' y' ∧ nb s q := by
  obtain ⟨r, x1, y1, e1, c1, -, -⟩ := roll_ok k (many := 5) T h (by decide) (by unfold lt2; decide +kernel)
  obtain ⟨r2, x2, y2, e2, c2, p2, q2⟩ := roll_ok k (many := s) T c1 (by omega) (lt2.mono (n := 4) (lt2_of (m := 9) (by omega) (by decide)) (by decide))
  obtain ⟨r3, x3, y3, e3, c3, p3, q3⟩ := roll_ok k (many := s) T c2 (by omega) (lt2.mono (n := 4) (lt2_of (m := 9) (by omega) (by decide)) (by decide))
  have f := l_least_ok k (1 + r2) (1 + r3) (cup x3 y3 :: T) (n := 4) (lt2_of (m := 9) (by omega) (by decide)) (by omega) (by decide)
  rw [u__law_number]
  unfold m__law_number
  by_cases h0 : r = 0
  · refine ⟨0, x1, y1, ?_, c1, ⟨Nat.zero_le _, h1⟩⟩
    subst h0
    clear e2 e3 f
    walk_at "evf"
    exact leave_len rfl
  · refine ⟨_, x3, y3, ?_, c3, low_nb (a := 1 + r2) (b := 1 + r3) (by omega) (by omega) (by omega)⟩
    walk_at "evf"
    exact leave_len rfl

/-! ### chains as numbers -/
structure Q4 where
  a : Rat
  b : Rat
  c : Rat
  d : Rat
namespace Q4
def mul (x y : Q4) : Q4 := ⟨x.a * y.a + x.b * y.c, x.a * y.b + x.b * y.d, x.c * y.a + x.d * y.c, x.c * y.b + x.d * y.d⟩
def one : Q4 := ⟨1, 0, 0, 1⟩
def tn (x : Q4) : Q4 := ⟨x.d, x.b, x.c, x.a⟩
def pv (x : Q4) : PV := ch x.a x.b x.c x.d
def ok (x : Q4) : Prop := x.a * x.d - x.b * x.c = 1
theorem ext {x y : Q4} (h1 : x.a = y.a) (h2 : x.b = y.b) (h3 : x.c = y.c) (h4 : x.d = y.d) : x = y := by
  cases x; cases y
  cases h1; cases h2; cases h3; cases h4
  rfl
theorem assoc (x y z : Q4) : mul (mul x y) z = mul x (mul y z) := by
  unfold mul
  apply ext <;> (simp only []; grind)
theorem one_mul (x : Q4) : mul one x = x := by
  unfold mul one
  apply ext <;> (simp only []; grind)
theorem mul_one (x : Q4) : mul x one = x := by
  unfold mul one
  apply ext <;> (simp only []; grind)
theorem ok_mul {x y : Q4} (hx : ok x) (hy : ok y) : ok (mul x y) := by
  unfold ok mul at *
  simp only []
  grind
theorem ok_one : ok one := by unfold ok one; simp only []; grind
theorem ok_tn {x : Q4} (h : ok x) : ok (tn x) := by unfold ok tn at *; simp only []; grind
theorem tn_mul (x y : Q4) : tn (mul x y) = mul (tn y) (tn x) := by
  unfold mul tn
  apply ext <;> (simp only []; grind)
theorem tn_one : tn one = one := rfl
def prod : List Q4 → Q4
  | [] => one
  | x :: xs => mul x (prod xs)
theorem foldl_prod : ∀ (xs : List Q4) (w : Q4), xs.foldl mul w = mul w (prod xs)
  | [], w => by rw [List.foldl_nil]; exact (mul_one w).symm
  | x :: xs, w => by
    rw [List.foldl_cons, foldl_prod xs, assoc]
    rfl
theorem prod_app : ∀ (xs ys : List Q4), prod (xs ++ ys) = mul (prod xs) (prod ys)
  | [], ys => (one_mul _).symm
  | x :: xs, ys => by
    show mul x (prod (xs ++ ys)) = mul (mul x (prod xs)) (prod ys)
    rw [prod_app xs, assoc]
theorem prod_tn : ∀ xs : List Q4, prod (xs.reverse.map tn) = tn (prod xs)
  | [] => tn_one.symm
  | x :: xs => by
    rw [List.reverse_cons, List.map_append, prod_app, prod_tn xs]
    show mul (tn (prod xs)) (mul (tn x) one) = tn (mul x (prod xs))
    rw [mul_one, tn_mul]
theorem ok_prod : ∀ xs : List Q4, (∀ x ∈ xs, ok x) → ok (prod xs)
  | [], _ => ok_one
  | x :: xs, h => ok_mul (h x List.mem_cons_self) (ok_prod xs fun y hy => h y (List.mem_cons_of_mem _ hy))
end Q4
/-- within 2 ^ n over a common denominator -/
def Bd (n : Nat) (x : Q4) : Prop := ∃ D N, Cm D N x.a x.b x.c x.d ∧ N ≤ 2 ^ n
theorem Bd.mono {n m : Nat} {x : Q4} (h : Bd n x) (hm : n ≤ m) : Bd m x := let ⟨D, N, h1, h2⟩ := h; ⟨D, N, h1, Nat.le_trans h2 (Nat.pow_le_pow_right (by decide) hm)⟩
theorem Bd.Sm {n : Nat} {x : Q4} (h : Bd n x) : Sm (n + 1) x.a x.b x.c x.d := by
  obtain ⟨D, N, h1, h2⟩ := h
  refine h1.Sm (Nat.lt_of_le_of_lt h2 ?_)
  rw [Nat.pow_succ]
  have := Nat.pow_pos (n := n) (show 0 < 2 by decide)
  omega
theorem cmn_mul {D N E K : Nat} {p q r s : Rat} (h1 : cmn D N p) (h2 : cmn D N q) (h3 : cmn E K r) (h4 : cmn E K s) : cmn (D * E) (2 * (N * K)) (p * r + q * s) := by
  obtain ⟨A, a1, a2⟩ := h1
  obtain ⟨B, b1, b2⟩ := h2
  obtain ⟨C, c1, c2⟩ := h3
  obtain ⟨F, f1, f2⟩ := h4
  refine ⟨A * C + B * F, ?_, ?_⟩
  · rw [Rat.natCast_mul, Rat.intCast_add, Rat.intCast_mul, Rat.intCast_mul, ← a1, ← b1, ← c1, ← f1]
    grind
  · have n1 : (A * C).natAbs ≤ N * K := by rw [Int.natAbs_mul]; exact Nat.mul_le_mul a2 c2
    have n2 : (B * F).natAbs ≤ N * K := by rw [Int.natAbs_mul]; exact Nat.mul_le_mul b2 f2
    omega
theorem Bd_mul {n m : Nat} {x y : Q4} (h : Bd n x) (h' : Bd m y) : Bd (n + m + 1) (Q4.mul x y) := by
  obtain ⟨D, N, h1, h2⟩ := h
  obtain ⟨E, K, h3, h4⟩ := h'
  refine ⟨D * E, 2 * (N * K), ⟨cmn_mul h1.a h1.b h3.a h3.c, cmn_mul h1.a h1.b h3.b h3.d, cmn_mul h1.c h1.d h3.a h3.c, cmn_mul h1.c h1.d h3.b h3.d, Nat.mul_pos h1.p h3.p, ?_⟩, ?_⟩
  · have := Nat.mul_le_mul h1.l h3.l
    omega
  · have := Nat.mul_le_mul h2 h4
    rw [← Nat.pow_add] at this
    rw [Nat.pow_succ]
    omega
theorem Bd_one : Bd 0 Q4.one := ⟨1, 1, ⟨⟨1, by decide +kernel, by decide⟩, ⟨0, by decide +kernel, by decide⟩, ⟨0, by decide +kernel, by decide⟩, ⟨1, by decide +kernel, by decide⟩, by decide, by decide⟩, by decide⟩
theorem Bd_prod (b : Nat) : ∀ xs : List Q4, (∀ x ∈ xs, Bd b x) → Bd ((b + 1) * xs.length) (Q4.prod xs)
  | [], _ => Bd_one
  | x :: xs, h => by
    have := Bd_mul (h x List.mem_cons_self) (Bd_prod b xs fun y hy => h y (List.mem_cons_of_mem _ hy))
    refine this.mono ?_
    rw [List.length_cons, Nat.mul_succ]
    omega
theorem rat_mul_den (r : Rat) : r * (r.den : Rat) = (r.num : Rat) := by
  have h5 := Rat.num_divInt_den r
  rw [Rat.divInt_eq_div] at h5
  have h6 : (((r.den : Nat) : Int) : Rat) = ((r.den : Nat) : Rat) := rfl
  rw [h6] at h5
  have h0 : (r.den : Rat) ≠ 0 := by
    intro z
    have : (r.den : Nat) = 0 := by exact_mod_cast z
    exact r.den_nz this
  generalize (r.den : Rat) = y at *
  generalize (r.num : Rat) = x at *
  grind
theorem cmn_one {q : Rat} {t D L B : Nat} (hD : q.den * t = D) (hL : D ≤ L) (hn : q.num.natAbs ≤ B) : cmn D (L * B) q := by
  refine ⟨q.num * t, ?_, ?_⟩
  · rw [← hD, Rat.natCast_mul, ← Rat.mul_assoc, rat_mul_den, Rat.intCast_mul]
    rfl
  · rw [Int.natAbs_mul, Int.natAbs_natCast, Nat.mul_comm L]
    refine Nat.mul_le_mul hn (Nat.le_trans ?_ hL)
    rw [← hD]
    exact Nat.le_mul_of_pos_left _ q.den_pos
theorem Bd_of {x : Q4} {s t u B n : Nat} (h1 : x.a.den ≤ s) (h2 : x.b.den ≤ s) (h3 : x.c.den ≤ t) (h4 : x.d.den ≤ u) (n1 : x.a.num.natAbs ≤ B) (n2 : x.b.num.natAbs ≤ B) (n3 : x.c.num.natAbs ≤ B) (n4 : x.d.num.natAbs ≤ B) (hB : 1 ≤ B) (hn : s * s * t * u * B ≤ 2 ^ n) : Bd n x := by
  have hL : x.a.den * x.b.den * x.c.den * x.d.den ≤ s * s * t * u := Nat.mul_le_mul (Nat.mul_le_mul (Nat.mul_le_mul h1 h2) h3) h4
  refine ⟨_, _, ⟨cmn_one (t := x.b.den * x.c.den * x.d.den) ?_ hL n1, cmn_one (t := x.a.den * x.c.den * x.d.den) ?_ hL n2, cmn_one (t := x.a.den * x.b.den * x.d.den) ?_ hL n3, cmn_one (t := x.a.den * x.b.den * x.c.den) ?_ hL n4, ?_, ?_⟩, hn⟩
  · simp only [Nat.mul_assoc]
  · simp only [Nat.mul_comm, Nat.mul_left_comm]
  · simp only [Nat.mul_comm, Nat.mul_left_comm]
  · simp only [Nat.mul_comm, Nat.mul_left_comm]
  · exact Nat.mul_pos (Nat.mul_pos (Nat.mul_pos x.a.den_pos x.b.den_pos) x.c.den_pos) x.d.den_pos
  · exact Nat.le_trans hL (Nat.le_mul_of_pos_right _ hB)

theorem any_q4 (k : Nat) {x y : Int} (T : Mem) (h : CupB x y) (s n : Nat) (h1 : 1 ≤ s) (h2 : s ≤ 9) (hn : s * s * s * (s * s * s) * (2 * (s * s * s)) ≤ 2 ^ n) :
    ∃ (q : Q4) (x' y' : Int), callN prog W (k + 4) 50 [.ref 0, .int s] (cup x y :: T) = some (q.pv, cup x' y' :: T) ∧ CupB x' y' ∧ Bd n q ∧ q.ok := by
  rw [u__law_any_chain]
  unfold m__law_any_chain
  generalize hE : (E.call 43 (.cons (.bin .sub false (.call 40 (.cons (.var 0) (.cons (.bin .add false (.bin .mul false (.cst (.int (2))) (.var 1)) (.cst (.int (1)))) .nil))) (.var 1)) (.cons (.bin .add false (.cst (.int (1))) (.call 40 (.cons (.var 0) (.cons (.var 1) .nil)))) .nil))) = el
  have b1 : (decide (-2 ^ 62 ≤ (0 : Int)) && decide ((0 : Int) < 2 ^ 62) && decide (-2 ^ 62 ≤ (3 : Int)) && decide ((3 : Int) < 2 ^ 62)) = true := by decide
  obtain ⟨vs, M', e, el, hp, x2, y2, rfl, c2⟩ := lcL_draw (t := .nm 5) (cond := fun _ M => some (true, M)) (elt := eval (callN prog W (k + 3)) el)
    (env := [some (.ref 0), some (.int s), none, none, none, none]) (fun v => ∃ q, v = fr q ∧ nb s q) (fun M => ∃ x y, M = cup x y :: T ∧ CupB x y) (rngI 0 (Int.toNat 3)) [] (cup x y :: T) ⟨x, y, rfl, h⟩ (by
      rintro v hv _ ⟨x, y, rfl, c⟩
      obtain ⟨r, x1, y1, e1, c1, p1, q1⟩ := roll_ok (k + 2) (many := 2 * (s : Int) + 1) T c (by omega) (lt2.mono (n := 5) (lt2_of (m := 19) (by omega) (by decide)) (by decide))
      obtain ⟨r2, x2, y2, e2, c2, p2, q2⟩ := roll_ok (k + 2) (many := s) T c1 (by omega) (lt2.mono (n := 4) (lt2_of (m := 9) (by omega) (by decide)) (by decide))
      have f := l_least_ok (k + 2) (r - s) (1 + r2) (cup x2 y2 :: T) (n := 4) (lt2_of (m := 9) (by omega) (by decide)) (by omega) (by decide)
      have m1 : mulOk 2 (s : Int) = true := mulOk_smallL (by decide)
      refine ⟨_, _, cup x2 y2 :: T, bindT_nm _ _, rfl, ?_, ⟨_, rfl, low_nb (a := r - s) (b := 1 + r2) (by omega) (by omega) (by omega)⟩, x2, y2, rfl, c2⟩
      rw [← hE]
      clear hE
      walk_at "evf")
  rw [List.nil_append] at e
  obtain ⟨v1, v2, v3, rfl⟩ : ∃ v1 v2 v3, vs = [v1, v2, v3] := by
    have el' : vs.length = 3 := el
    match vs, el' with
    | [v1, v2, v3], _ => exact ⟨v1, v2, v3, rfl⟩
  obtain ⟨a, rfl, na⟩ := hp v1 (by simp)
  obtain ⟨b, rfl, nB⟩ := hp v2 (by simp)
  obtain ⟨c, rfl, nc⟩ := hp v3 (by simp)
  have sa : sm 4 a := na.sm (by omega)
  have sb : sm 4 b := nB.sm (by omega)
  have sc : sm 4 c := nc.sm (by omega)
  have b2 : ∀ env, bindT (.ls [2, 3, 4]) (.lst [fr a, fr b, fr c]) env = some (setAll env [2, 3, 4] [fr a, fr b, fr c]) := fun env => by
    rw [bindT_ls0, if_pos (by rfl)]
  have hw := fun v => leave_cup (cup x2 y2) v T
  have m1 : sm 4 (-1) := ⟨by unfold lt2; decide, by decide⟩
  clear hE el hp
  have s3 : s ≤ s * s * s := by
    have : 1 ≤ s * s := Nat.mul_pos h1 h1
    exact Nat.le_mul_of_pos_left _ this
  by_cases ha : a = 0
  · subst ha
    by_cases hb : b = 0
    · subst hb
      have f := fun k => l_over_ok k (cup x2 y2 :: T) m1 (sm_1 4 (by decide)) (by omega) (by decide)
      refine ⟨⟨0, 1, (-1) / 1, c⟩, x2, y2, ?_, c2, ?_, by unfold Q4.ok; grind⟩
      · unfold Q4.pv ch
        clear sa sb sc na nB nc c2 s3
        walk_at "evf"
      · exact Bd_of (s := s) (t := s) (u := s * s * s) (B := 2 * (s * s * s)) h1 h1 (by rw [show ((-1 : Rat) / 1) = -1 by decide +kernel]; exact h1) (Nat.le_trans nc.2 s3) (Nat.zero_le _) (by show (1 : Nat) ≤ _; omega) (by rw [show ((-1 : Rat) / 1) = -1 by decide +kernel]; show (1 : Nat) ≤ _; omega) (by have := nc.1; show c.num.natAbs ≤ _; omega) (by omega) hn
    · have f := fun k => l_over_ok k (cup x2 y2 :: T) m1 sb (by omega) hb
      have hd := div_low (-1) b hb
      have hle := low_le ((-1 : Rat).num * b.den) ((-1 : Rat).den * b.num) (by
        have := num_ne hb
        show (1 : Int) * b.num ≠ 0
        omega)
      rw [hd] at hle
      have e1 : ((-1 : Rat).num * (b.den : Int)).natAbs = b.den := by show ((-1 : Int) * (b.den : Int)).natAbs = _; omega
      have e2 : (((-1 : Rat).den : Int) * b.num).natAbs = b.num.natAbs := by show ((1 : Int) * b.num).natAbs = _; omega
      rw [e1, e2] at hle
      refine ⟨⟨0, b, (-1) / b, c⟩, x2, y2, ?_, c2, ?_, ?_⟩
      · unfold Q4.pv ch
        clear sa sb sc na nB nc c2 s3 hd hle e1 e2
        walk_at "evf"
      · exact Bd_of (s := s) (t := s) (u := s * s * s) (B := 2 * (s * s * s)) h1 nB.2 (Nat.le_trans hle.2 nB.1) (Nat.le_trans nc.2 s3) (Nat.zero_le _) (by have := nB.1; show b.num.natAbs ≤ _; omega) (by have := nB.2; show ((-1) / b).num.natAbs ≤ _; omega) (by have := nc.1; show c.num.natAbs ≤ _; omega) (by omega) hn
      · have : (-1) / b * b = -1 := Rat.div_mul_cancel hb
        unfold Q4.ok
        grind
  · have f := fun k => l_times_ok k (cup x2 y2 :: T) sb sc (by omega)
    have f2 := fun k => l_plus_ok k (cup x2 y2 :: T) (sm_1 1 (by decide)) (sm_mul sb sc) (by omega)
    have f3 := fun k => l_over_ok k (cup x2 y2 :: T) (sm_add (sm_1 1 (by decide)) (sm_mul sb sc)) sa (by omega) ha
    refine ⟨⟨a, b, c, (1 + b * c) / a⟩, x2, y2, ?_, c2, ?_, ?_⟩
    · unfold Q4.pv ch
      clear sa sb sc na nB nc c2 s3
      walk_at "evf"
    · have l1 := low_le (b.num * c.num) (b.den * c.den) (Int.ne_of_gt (Int.mul_pos (den_pos b) (den_pos c)))
      rw [mul_low] at l1
      generalize hp : b * c = p at *
      have l2 := low_le ((1 : Rat).num * p.den + p.num * (1 : Rat).den) ((1 : Rat).den * p.den) (Int.ne_of_gt (Int.mul_pos (den_pos 1) (den_pos p)))
      rw [add_low] at l2
      generalize 1 + p = r at *
      have l3 := low_le (r.num * a.den) (r.den * a.num) (fun z => by
        rcases Int.mul_eq_zero.mp z with z | z
        · exact Int.ne_of_gt (den_pos r) z
        · exact num_ne ha z)
      rw [div_low r a ha] at l3
      have p1 : p.num.natAbs ≤ s * s := by
        refine Nat.le_trans l1.1 ?_
        rw [Int.natAbs_mul]
        exact Nat.mul_le_mul nB.1 nc.1
      have p2 : p.den ≤ s * s := by
        refine Nat.le_trans l1.2 ?_
        rw [Int.natAbs_mul, Int.natAbs_natCast, Int.natAbs_natCast]
        exact Nat.mul_le_mul nB.2 nc.2
      have r1 : r.num.natAbs ≤ 2 * (s * s) := by
        refine Nat.le_trans l2.1 ?_
        show ((1 : Int) * p.den + p.num * 1).natAbs ≤ _
        omega
      have r2 : r.den ≤ s * s := by
        refine Nat.le_trans l2.2 ?_
        show ((1 : Int) * p.den).natAbs ≤ _
        omega
      have q1 : (r / a).num.natAbs ≤ 2 * (s * s * s) := by
        refine Nat.le_trans l3.1 ?_
        rw [Int.natAbs_mul, Int.natAbs_natCast, show 2 * (s * s * s) = 2 * (s * s) * s by simp only [Nat.mul_assoc]]
        exact Nat.mul_le_mul r1 na.2
      have q2 : (r / a).den ≤ s * s * s := by
        refine Nat.le_trans l3.2 ?_
        rw [Int.natAbs_mul, Int.natAbs_natCast]
        exact Nat.mul_le_mul r2 na.1
      exact Bd_of (s := s) (t := s) (u := s * s * s) (B := 2 * (s * s * s)) na.2 nB.2 nc.2 q2 (by have := na.1; show a.num.natAbs ≤ _; omega) (by have := nB.1; show b.num.natAbs ≤ _; omega) (by have := nc.1; show c.num.natAbs ≤ _; omega) q1 (by omega) hn
    · have : (1 + b * c) / a * a = 1 + b * c := Rat.div_mul_cancel ha
      unfold Q4.ok
      grind

/-! ### products of chains -/
def pvs (xs : List Q4) : List PV := xs.map Q4.pv
theorem q_join (k : Nat) {x y : Q4} (M : Mem) {n m : Nat} (p : Sm n x.a x.b x.c x.d) (q : Sm m y.a y.b y.c y.d) (hn : 2 * (n + m) ≤ 7990) : callN prog W (k + 4) 17 [x.pv, y.pv] M = some ((Q4.mul x y).pv, M) := joined_chain_ok k M p q hn
theorem ql_join (k : Nat) {x y : Q4} (M : Mem) {n m : Nat} (p : Sm n x.a x.b x.c x.d) (q : Sm m y.a y.b y.c y.d) (hn : 2 * (n + m) ≤ 7990) : callN prog W (k + 3) 49 [x.pv, y.pv] M = some ((Q4.mul x y).pv, M) := law_joined_ok k M p q hn
theorem prod_loop (k b : Nat) (M : Mem) (L : PV) (body : Ss) (hB : body = (.cons (.set 1 (.call 17 (.cons (.var 1) (.cons (.var 2) .nil)))) .nil)) :
    ∀ (xs : List Q4) (w : Q4) (n : Nat) (o : Option PV), Bd n w → (∀ x ∈ xs, Bd b x) → n + (b + 1) * xs.length + b ≤ 3900 → ∃ o', forL (.nm 2) [] (execs (callN prog W (k + 4)) W body) (pvs xs) [some L, some w.pv, o] M = some (.nx [some L, some (xs.foldl Q4.mul w).pv, o'] M)
  | [], w, n, o, _, _, _ => ⟨o, forL_n⟩
  | x :: xs, w, n, o, hw, hx, hn => by
    have bx := hx x List.mem_cons_self
    rw [List.length_cons, Nat.mul_succ] at hn
    have hn' : n + b + 1 + (b + 1) * xs.length + b ≤ 3900 := by omega
    have j := q_join k M hw.Sm bx.Sm (by omega)
    obtain ⟨o', e⟩ := prod_loop k b M L body hB xs (Q4.mul w x) (n + b + 1) (some x.pv) (Bd_mul hw bx) (fun y hy => hx y (List.mem_cons_of_mem _ hy)) hn'
    refine ⟨o', ?_⟩
    have e1 : execs (callN prog W (k + 4)) W body [some L, some w.pv, some x.pv] M = some (.nx [some L, some (Q4.mul w x).pv, some x.pv] M) := by
      rw [hB]
      clear hB hx bx hw hn hn' e
      walk_at "evf"
    show forL (.nm 2) [] (execs (callN prog W (k + 4)) W body) (x.pv :: pvs xs) [some L, some w.pv, o] M = _
    rw [forL_c, bindT_nm, Option.bind_some]
    show nxt (execs (callN prog W (k + 4)) W body [some L, some w.pv, some x.pv] M) _ = _
    rw [e1, nxt_nx]
    exact e
theorem product_in_ok (k b : Nat) (M : Mem) (L : PV) (xs : List Q4) (hs : seqG M L = some (true, pvs xs, []) ∨ seqG M L = some (false, pvs xs, [])) (hx : ∀ x ∈ xs, Bd b x) (hn : (b + 1) * xs.length + b ≤ 3900) : callN prog W (k + 5) 18 [L] M = some ((Q4.prod xs).pv, M) := by
  rw [u_product_in]
  unfold m_product_in
  generalize hB : (Ss.cons (.set 1 (.call 17 (.cons (.var 1) (.cons (.var 2) .nil)))) .nil) = body
  obtain ⟨o, e⟩ := prod_loop k b M L body hB.symm xs Q4.one 0 none Bd_one hx (by omega)
  rw [Q4.foldl_prod, Q4.one_mul] at e
  have e1 : Q4.one.pv = .tup [fr 1, fr 0, fr 0, fr 1] := rfl
  rw [e1] at e
  clear hB hx hn e1
  rcases hs with hs | hs
  · walk_at "evf"
  · walk_at "evf"
theorem fits_q (k : Nat) {x : Q4} (M : Mem) {n : Nat} (h : Bd n x) (hn : n ≤ 131) (ho : x.ok) : callN prog W (k + 4) 13 [x.pv] M = some (.bl true, M) := fits_chain_ok k M (h.Sm.w (by omega)) ho
theorem boolsOf_map (xs : List PV) (f : PV → PV) (h : ∀ x ∈ xs, f x = .bl true) : boolsOf (xs.map f) = some (xs.map fun _ => true) := by
  induction xs with
  | nil => rfl
  | cons x xs ih =>
    rw [List.map_cons, h x List.mem_cons_self]
    show (boolsOf (xs.map f)).map (true :: ·) = _
    rw [ih fun y hy => h y (List.mem_cons_of_mem _ hy)]
    rfl
theorem all_true (M : Mem) (xs : List PV) : allB M [.lst (xs.map fun _ => PV.bl true)] = some (.bl true) := by
  show (boolsOf (xs.map fun _ => PV.bl true)).map (fun bs => PV.bl (bs.all id)) = _
  rw [boolsOf_map xs (fun _ => .bl true) fun _ _ => rfl]
  show some (PV.bl _) = _
  congr 2
  induction xs with
  | nil => rfl
  | cons x xs ih => exact ih

/-! ### what is seen through a chain; many of one -/
def sv (u v : Rat) : PV := if v = 0 then .non else fr (u / v)
theorem isOp_frn (q : Rat) : isOp (fr q) .non = some false := rfl
theorem need_load_n (k : Nat) (M : Mem) : callN prog W (k + 3) 16 [.non] M = some (.non, M) := by
  rw [u_need_load]
  unfold m_need_load
  walk_at "evf"
theorem need_load_q (k : Nat) {q : Rat} (M : Mem) (h : sm 132 q) (h0 : 0 ≤ q) : callN prog W (k + 3) 16 [fr q] M = some (.non, M) := by
  have f1 := fun k => fits_fraction_ok k M h
  have f2 := fun k => is_from_none_ok k q M
  have f3 := isOp_frn q
  rw [u_need_load]
  unfold m_need_load
  walk_at "evf"
theorem seen_n (k : Nat) {x : Q4} (M : Mem) {n : Nat} (h : Bd n x) (hn : n ≤ 131) (ho : x.ok) : callN prog W (k + 6) 22 [x.pv, .non] M = some (sv x.a x.c, M) := by
  have f1 := fun k => need_chain_ok k M (h.Sm.w (m := 132) (by omega)) ho
  have f2 := fun k => need_load_n k M
  have f3 : ∀ k, callN prog W (k + 4) 19 [ch x.a x.b x.c x.d, .non] M = some (sv x.a x.c, M) := fun k => by
    rw [u_seen_in]
    unfold m_seen_in ch sv
    by_cases hc : x.c = 0
    · clear f1 f2
      walk_at "evf"
    · have f4 := fun k => part_of_ok k M h.Sm.a h.Sm.c (by omega) hc
      clear f1 f2
      walk_at "evf"
  rw [u_chain_seen]
  unfold m_chain_seen Q4.pv
  clear h ho
  walk_at "evf"
theorem seen_q (k : Nat) {x : Q4} {q : Rat} (M : Mem) {n : Nat} (h : Bd n x) (hn : n ≤ 131) (ho : x.ok) (hq : sm 132 q) (h0 : 0 ≤ q) : callN prog W (k + 6) 22 [x.pv, fr q] M = some (sv (x.a * q + x.b) (x.c * q + x.d), M) := by
  have f1 := fun k => need_chain_ok k M (h.Sm.w (m := 132) (by omega)) ho
  have f2 := fun k => need_load_q k M hq h0
  have f3 : ∀ k, callN prog W (k + 4) 19 [ch x.a x.b x.c x.d, fr q] M = some (sv (x.a * q + x.b) (x.c * q + x.d), M) := fun k => by
    have g1 := fun k => product_of_ok k M h.Sm.a hq (by omega)
    have g2 := fun k => product_of_ok k M h.Sm.c hq (by omega)
    have g3 := fun k => sum_of_ok k M (sm_mul h.Sm.a hq) h.Sm.b (by omega)
    have g4 := fun k => sum_of_ok k M (sm_mul h.Sm.c hq) h.Sm.d (by omega)
    have g6 := isOp_frn q
    rw [u_seen_in]
    unfold m_seen_in ch sv
    by_cases hc : x.c * q + x.d = 0
    · clear f1 f2 hq h0
      walk_at "evf"
    · have g5 := fun k => part_of_ok k M (sm_add (sm_mul h.Sm.a hq) h.Sm.b) (sm_add (sm_mul h.Sm.c hq) h.Sm.d) (by omega) hc
      clear f1 f2 hq h0
      walk_at "evf"
  rw [u_chain_seen]
  unfold m_chain_seen Q4.pv
  clear h ho hq h0
  walk_at "evf"
theorem rep1 (t : Nat) (v : PV) : (List.replicate t [v]).flatten = List.replicate t v := by
  induction t with
  | zero => rfl
  | succ t ih => rw [List.replicate_succ, List.flatten_cons, ih, List.replicate_succ]; rfl
theorem mulOp_ll (M : Mem) (xs : List PV) (k : Int) : mulOp M (.lst xs) (.int k) = if decide (-(2 ^ 63) ≤ k) && decide (k < 2 ^ 63) && decide (xs.length * k.toNat ≤ PySem.sizeLine) then some (.lst (List.replicate k.toNat xs).flatten) else none := rfl
theorem mulOp_l1 (M : Mem) (v : PV) (t : Nat) (ht : t ≤ 1000) : mulOp M (.lst [v]) (.int t) = some (.lst (List.replicate t v)) := by
  have c : (decide (-(2 ^ 63) ≤ (t : Int)) && decide ((t : Int) < 2 ^ 63) && decide ([v].length * (t : Int).toNat ≤ PySem.sizeLine)) = true := by
    rw [Bool.and_eq_true, Bool.and_eq_true]
    exact ⟨⟨decide_eq_true (by omega), decide_eq_true (by omega)⟩, decide_eq_true (by rw [sizeL, Int.toNat_natCast]; simp only [List.length_cons, List.length_nil]; omega)⟩
  rw [mulOp_ll, if_pos c, Int.toNat_natCast, rep1]
def powQ (x : Q4) : Nat → Q4
  | 0 => Q4.one
  | n + 1 => Q4.mul (powQ x n) x
theorem prod_rep (x : Q4) : ∀ n, Q4.prod (List.replicate n x) = powQ x n
  | 0 => rfl
  | n + 1 => by
    rw [List.replicate_succ', Q4.prod_app, prod_rep x n]
    show Q4.mul (powQ x n) (Q4.mul x Q4.one) = Q4.mul (powQ x n) x
    rw [Q4.mul_one]

/-! ### seen through many chains -/
def act (x : Q4) (p : Rat × Rat) : Rat × Rat := (x.a * p.1 + x.b * p.2, x.c * p.1 + x.d * p.2)
theorem act_mul (x y : Q4) (p : Rat × Rat) : act (Q4.mul x y) p = act x (act y p) := by
  unfold act Q4.mul
  simp only [Prod.mk.injEq]
  constructor <;> grind
theorem act_one (p : Rat × Rat) : act Q4.one p = p := by
  unfold act Q4.one
  cases p
  simp only [Prod.mk.injEq]
  constructor <;> grind
theorem act_prod (p : Rat × Rat) : ∀ xs : List Q4, act (Q4.prod xs) p = xs.foldr act p
  | [] => act_one p
  | x :: xs => by
    show act (Q4.mul x (Q4.prod xs)) p = act x (xs.foldr act p)
    rw [act_mul, act_prod p xs]
def Vb (n : Nat) (p : Rat × Rat) : Prop := ∃ D A B, p.1 * (D : Nat) = ((A : Int) : Rat) ∧ p.2 * (D : Nat) = ((B : Int) : Rat) ∧ 0 < D ∧ A.natAbs ≤ 2 ^ n ∧ B.natAbs ≤ 2 ^ n
def nzv (p : Rat × Rat) : Prop := ¬ (p.1 = 0 ∧ p.2 = 0)
theorem Vb_act {n b : Nat} {x : Q4} {p : Rat × Rat} (h : Bd b x) (h' : Vb n p) : Vb (n + b + 1) (act x p) := by
  obtain ⟨D, N, h1, h2⟩ := h
  obtain ⟨E, A, B, e1, e2, e3, e4, e5⟩ := h'
  have ca : cmn E (2 ^ n) p.1 := ⟨A, e1, e4⟩
  have cb : cmn E (2 ^ n) p.2 := ⟨B, e2, e5⟩
  obtain ⟨A', a1, a2⟩ := cmn_mul h1.a h1.b ca cb
  obtain ⟨B', b1, b2⟩ := cmn_mul h1.c h1.d ca cb
  have hz : 2 * (N * 2 ^ n) ≤ 2 ^ (n + b + 1) := by
    have := Nat.mul_le_mul_right (2 ^ n) h2
    rw [← Nat.pow_add, Nat.add_comm b n] at this
    rw [Nat.pow_succ]
    omega
  exact ⟨D * E, A', B', a1, b1, Nat.mul_pos h1.p e3, Nat.le_trans a2 hz, Nat.le_trans b2 hz⟩
theorem nzv_act {x : Q4} {p : Rat × Rat} (h : x.ok) (h' : nzv p) : nzv (act x p) := by
  unfold nzv act Q4.ok at *
  simp only []
  intro ⟨z1, z2⟩
  apply h'
  constructor
  · have : x.d * (x.a * p.1 + x.b * p.2) - x.b * (x.c * p.1 + x.d * p.2) = p.1 := by grind
    rw [← this, z1, z2]
    grind
  · have : x.a * (x.c * p.1 + x.d * p.2) - x.c * (x.a * p.1 + x.b * p.2) = p.2 := by grind
    rw [← this, z1, z2]
    grind
theorem Vb_sm {n : Nat} {p : Rat × Rat} (h : Vb n p) (h0 : p.2 ≠ 0) : sm (n + 1) (p.1 / p.2) := by
  obtain ⟨D, A, B, e1, e2, e3, e4, e5⟩ := h
  have hD : ((D : Nat) : Rat) ≠ 0 := by
    intro z
    have : (D : Nat) = 0 := by exact_mod_cast z
    omega
  have hB : B ≠ 0 := fun z => by
    rw [z] at e2
    have : p.2 * ((D : Nat) : Rat) = 0 := e2
    grind
  have hBr : ((B : Int) : Rat) ≠ 0 := by
    intro z
    have : (B : Int) = 0 := by exact_mod_cast z
    exact hB this
  have e : p.1 / p.2 = Rat.divInt A B := by
    rw [Rat.divInt_eq_div, ← e1, ← e2]
    generalize ((D : Nat) : Rat) = y at *
    generalize p.1 = u at *
    generalize p.2 = v at *
    grind
  rw [e]
  have hp : 2 ^ n < 2 ^ (n + 1) := Nat.pow_lt_pow_right (by decide) (by omega)
  exact sm_low (Nat.lt_of_le_of_lt e4 hp) (Nat.lt_of_le_of_lt e5 hp) hB
theorem sv_scale {t u v : Rat} (ht : t ≠ 0) : sv (t * u) (t * v) = sv u v := by
  unfold sv
  by_cases h : v = 0
  · rw [if_pos h, if_pos (by rw [h]; grind)]
  · rw [if_neg h, if_neg (by grind)]
    congr 1
    grind
theorem sv_pl (u v : Rat) : pl (sv u v) = true ∧ dpt (sv u v) ≤ 1 := by
  unfold sv
  split
  · exact ⟨rfl, Nat.zero_le _⟩
  · exact ⟨rfl, Nat.le_refl _⟩
def told4 (x : Q4) : Prop := told x.a x.b x.c x.d
theorem told_act {x : Q4} {p : Rat × Rat} (h : told4 x) (h1 : 0 ≤ p.1) (h2 : 0 ≤ p.2) : 0 ≤ (act x p).1 ∧ 0 ≤ (act x p).2 := by
  obtain ⟨t1, t2, t3, t4⟩ := h
  have a0 : 0 ≤ x.a := by grind
  have d0 : 0 ≤ x.d := by grind
  exact ⟨Rat.add_nonneg (Rat.mul_nonneg a0 h1) (Rat.mul_nonneg t3 h2), Rat.add_nonneg (Rat.mul_nonneg t4 h1) (Rat.mul_nonneg d0 h2)⟩

/-! ### ladders as numbers -/
abbrev Rg := Rat × Rat
def rg (x : Rg) : PV := .tup [fr x.1, fr x.2]
def rgs (L : List Rg) : List PV := L.map rg
def qR (r : Rat) : Q4 := ⟨1, r, 0, 1⟩
def qG (g : Rat) : Q4 := ⟨1, 0, g, 1⟩
def qs : List Rg → List Q4
  | [] => []
  | x :: xs => qR x.1 :: qG x.2 :: qs xs
def gd (s : Nat) (x : Rg) : Prop := nb s x.1 ∧ nb s x.2 ∧ 0 ≤ x.1 ∧ 0 ≤ x.2
theorem qs_len : ∀ L : List Rg, (qs L).length = 2 * L.length
  | [] => rfl
  | x :: xs => by
    show ((qs xs).length + 1) + 1 = 2 * (xs.length + 1)
    rw [qs_len xs]; omega
theorem qs_app : ∀ L K : List Rg, qs (L ++ K) = qs L ++ qs K
  | [], K => rfl
  | x :: xs, K => by
    show qR x.1 :: qG x.2 :: qs (xs ++ K) = _
    rw [qs_app xs K]; rfl
theorem cmn_0 {D N : Nat} : cmn D N 0 := ⟨0, by rw [Rat.zero_mul]; rfl, Nat.zero_le _⟩
theorem cmn_1 {D N : Nat} (h : D ≤ N) : cmn D N 1 := ⟨D, by rw [Rat.one_mul]; rfl, by rw [Int.natAbs_natCast]; exact h⟩
theorem Bd_qR {s b : Nat} {r : Rat} (h : nb s r) (hs : s ≤ 2 ^ b) : Bd b (qR r) := ⟨r.den, s, ⟨cmn_1 h.2, ⟨r.num, rat_mul_den r, h.1⟩, cmn_0, cmn_1 h.2, r.den_pos, h.2⟩, hs⟩
theorem Bd_qG {s b : Nat} {r : Rat} (h : nb s r) (hs : s ≤ 2 ^ b) : Bd b (qG r) := ⟨r.den, s, ⟨cmn_1 h.2, cmn_0, ⟨r.num, rat_mul_den r, h.1⟩, cmn_1 h.2, r.den_pos, h.2⟩, hs⟩
theorem ok_qR (r : Rat) : (qR r).ok := by unfold Q4.ok qR; simp only []; grind
theorem ok_qG (r : Rat) : (qG r).ok := by unfold Q4.ok qG; simp only []; grind
theorem qs_all {P : Q4 → Prop} {L : List Rg} (h : ∀ x ∈ L, P (qR x.1) ∧ P (qG x.2)) : ∀ q ∈ qs L, P q := by
  induction L with
  | nil => intro q hq; cases hq
  | cons x xs ih =>
    intro q hq
    have hq' : q ∈ qR x.1 :: qG x.2 :: qs xs := hq
    rcases List.mem_cons.mp hq' with e | hq'
    · rw [e]; exact (h x List.mem_cons_self).1
    · rcases List.mem_cons.mp hq' with e | hq'
      · rw [e]; exact (h x List.mem_cons_self).2
      · exact ih (fun y hy => h y (List.mem_cons_of_mem _ hy)) q hq'
theorem qs_Bd {s b : Nat} {L : List Rg} (h : ∀ x ∈ L, gd s x) (hs : s ≤ 2 ^ b) : ∀ q ∈ qs L, Bd b q := qs_all fun x hx => ⟨Bd_qR (h x hx).1 hs, Bd_qG (h x hx).2.1 hs⟩
theorem qs_ok (L : List Rg) : ∀ q ∈ qs L, q.ok := qs_all fun x _ => ⟨ok_qR _, ok_qG _⟩
theorem told_qR {r : Rat} (h : 0 ≤ r) : told4 (qR r) := (told_eq _ _ _ _).mpr ⟨by show ¬ (1 : Rat) < 1; exact Rat.lt_irrefl, by show ¬ (1 : Rat) < 1; exact Rat.lt_irrefl, h, Rat.le_refl⟩
theorem told_qG {r : Rat} (h : 0 ≤ r) : told4 (qG r) := (told_eq _ _ _ _).mpr ⟨by show ¬ (1 : Rat) < 1; exact Rat.lt_irrefl, by show ¬ (1 : Rat) < 1; exact Rat.lt_irrefl, Rat.le_refl, h⟩
theorem qs_told {s : Nat} {L : List Rg} (h : ∀ x ∈ L, gd s x) : ∀ q ∈ qs L, told4 q := qs_all fun x hx => ⟨told_qR (h x hx).2.2.1, told_qG (h x hx).2.2.2⟩
def lcB : Ss := (Ss.cons (.set 1 (.call 49 (.cons (.var 1) (.cons (.tup (.cons (.tup (.cons (.cst (.int (1))) (.cons (.cst (.int (1))) .nil))) (.cons (.var 2) (.cons (.tup (.cons (.cst (.int (0))) (.cons (.cst (.int (1))) .nil))) (.cons (.tup (.cons (.cst (.int (1))) (.cons (.cst (.int (1))) .nil))) .nil))))) .nil)))) (.cons (.set 1 (.call 49 (.cons (.var 1) (.cons (.tup (.cons (.tup (.cons (.cst (.int (1))) (.cons (.cst (.int (1))) .nil))) (.cons (.tup (.cons (.cst (.int (0))) (.cons (.cst (.int (1))) .nil))) (.cons (.var 3) (.cons (.tup (.cons (.cst (.int (1))) (.cons (.cst (.int (1))) .nil))) .nil))))) .nil)))) .nil))
theorem law_chain_loop (k b s : Nat) (M : Mem) (hs : s ≤ 2 ^ b) (o0 : Option PV) : ∀ (L : List Rg) (w : Q4) (n : Nat) (o2 o3 : Option PV), (∀ x ∈ L, gd s x) → Bd n w → n + 2 * (b + 1) * L.length + b ≤ 3900 →
    ∃ o2' o3', forL (.tp [2, 3]) [] (execs (callN prog W (k + 3)) W lcB) (rgs L) [o0, some w.pv, o2, o3] M = some (.nx [o0, some ((qs L).foldl Q4.mul w).pv, o2', o3'] M)
  | [], w, n, o2, o3, _, _, _ => ⟨o2, o3, forL_n⟩
  | x :: xs, w, n, o2, o3, h, hw, hn => by
    rw [List.length_cons, Nat.mul_succ] at hn
    obtain ⟨g1, g2, -, -⟩ := h x List.mem_cons_self
    have b1 := Bd_qR g1 hs
    have b2 := Bd_qG g2 hs
    have w1 := Bd_mul hw b1
    have w2 := Bd_mul w1 b2
    have j1 := fun k => ql_join k M hw.Sm b1.Sm (by omega)
    have j2 := fun k => ql_join k M w1.Sm b2.Sm (by omega)
    obtain ⟨o2', o3', e⟩ := law_chain_loop k b s M hs o0 xs _ _ (some (fr x.1)) (some (fr x.2)) (fun y hy => h y (List.mem_cons_of_mem _ hy)) w2 (by omega)
    refine ⟨o2', o3', ?_⟩
    have p1 : (qR x.1).pv = .tup [fr 1, fr x.1, fr 0, fr 1] := rfl
    have p2 : (qG x.2).pv = .tup [fr 1, fr 0, fr x.2, fr 1] := rfl
    rw [p1] at j1
    rw [p2] at j2
    have e1 : execs (callN prog W (k + 3)) W lcB [o0, some w.pv, some (fr x.1), some (fr x.2)] M = some (.nx [o0, some (Q4.mul (Q4.mul w (qR x.1)) (qG x.2)).pv, some (fr x.1), some (fr x.2)] M) := by
      unfold lcB
      generalize (Q4.mul (Q4.mul w (qR x.1)) (qG x.2)).pv = r2 at *
      generalize (Q4.mul w (qR x.1)).pv = r1 at *
      clear e h hn b1 b2 w1 w2 hw g1 g2 p1 p2
      walk_at "evg"
    show forL (.tp [2, 3]) [] (execs (callN prog W (k + 3)) W lcB) (rg x :: rgs xs) _ M = _
    rw [forL_c]
    show (some _ : Option Env).bind _ = _
    rw [Option.bind_some]
    show nxt (execs (callN prog W (k + 3)) W lcB [o0, some w.pv, some (fr x.1), some (fr x.2)] M) _ = _
    rw [e1, nxt_nx]
    exact e
theorem law_chain_of_ok (k b s : Nat) (M : Mem) (L : List Rg) (h : ∀ x ∈ L, gd s x) (hs : s ≤ 2 ^ b) (hl : L.length ≤ 30) (hb : b ≤ 20) : callN prog W (k + 4) 53 [.tup (rgs L)] M = some ((Q4.prod (qs L)).pv, M) := by
  have hbl : 2 * (b + 1) * L.length ≤ 42 * 30 := Nat.mul_le_mul (by omega) hl
  obtain ⟨o2, o3, e⟩ := law_chain_loop k b s M hs (some (.tup (rgs L))) L Q4.one 0 none none h Bd_one (by omega)
  rw [Q4.foldl_prod, Q4.one_mul] at e
  have e1 : Q4.one.pv = .tup [fr 1, fr 0, fr 0, fr 1] := rfl
  rw [e1] at e
  rw [u__law_chain_of]
  unfold m__law_chain_of
  rw [show (Ss.cons (.set 1 (.call 49 (.cons (.var 1) (.cons (.tup (.cons (.tup (.cons (.cst (.int (1))) (.cons (.cst (.int (1))) .nil))) (.cons (.var 2) (.cons (.tup (.cons (.cst (.int (0))) (.cons (.cst (.int (1))) .nil))) (.cons (.tup (.cons (.cst (.int (1))) (.cons (.cst (.int (1))) .nil))) .nil))))) .nil)))) (.cons (.set 1 (.call 49 (.cons (.var 1) (.cons (.tup (.cons (.tup (.cons (.cst (.int (1))) (.cons (.cst (.int (1))) .nil))) (.cons (.tup (.cons (.cst (.int (0))) (.cons (.cst (.int (1))) .nil))) (.cons (.var 3) (.cons (.tup (.cons (.cst (.int (1))) (.cons (.cst (.int (1))) .nil))) .nil))))) .nil)))) .nil)) = lcB from rfl]
  clear h hs hl hb hbl e1
  generalize lcB = body at *
  walk_at "evg"

theorem frac0 {a b : Int} (ha : 0 ≤ a) (hb : 0 < b) : 0 ≤ Rat.divInt a b := by
  rw [Rat.divInt_eq_div, Rat.div_def]
  refine Rat.mul_nonneg ?_ (Rat.le_of_lt (Rat.inv_pos.mpr ?_))
  · exact_mod_cast ha
  · exact_mod_cast hb
/-! ### drawn ladders -/
theorem rgs_app (L K : List Rg) : rgs (L ++ K) = rgs L ++ rgs K := by unfold rgs; rw [List.map_append]
theorem rgs_of {s : Nat} : ∀ {vs : List PV}, (∀ v ∈ vs, ∃ x : Rg, v = rg x ∧ gd s x) → ∃ L : List Rg, vs = rgs L ∧ ∀ x ∈ L, gd s x
  | [], _ => ⟨[], rfl, fun _ h => nomatch h⟩
  | v :: vs, h => by
    obtain ⟨x, rfl, hx⟩ := h v List.mem_cons_self
    obtain ⟨L, rfl, hL⟩ := rgs_of fun u hu => h u (List.mem_cons_of_mem _ hu)
    exact ⟨x :: L, rfl, fun y hy => by
      rcases List.mem_cons.mp hy with rfl | hy
      · exact hx
      · exact hL y hy⟩
theorem number0_ok (k : Nat) {x y : Int} (T : Mem) (h : CupB x y) (s : Nat) (h1 : 1 ≤ s) (h2 : s ≤ 9) :
    ∃ q x' y', callN prog W (k + 2) 51 [.ref 0, .int s] (cup x y :: T) = some (fr q, cup x' y' :: T) ∧ CupB x' y' ∧ nb s q ∧ 0 ≤ q := by
  obtain ⟨r, x1, y1, e1, c1, -, -⟩ := roll_ok k (many := 5) T h (by decide) (by unfold lt2; decide +kernel)
  obtain ⟨r2, x2, y2, e2, c2, p2, q2⟩ := roll_ok k (many := s) T c1 (by omega) (lt2.mono (n := 4) (lt2_of (m := 9) (by omega) (by decide)) (by decide))
  obtain ⟨r3, x3, y3, e3, c3, p3, q3⟩ := roll_ok k (many := s) T c2 (by omega) (lt2.mono (n := 4) (lt2_of (m := 9) (by omega) (by decide)) (by decide))
  have f := l_least_ok k (1 + r2) (1 + r3) (cup x3 y3 :: T) (n := 4) (lt2_of (m := 9) (by omega) (by decide)) (by omega) (by decide)
  rw [u__law_number]
  unfold m__law_number
  by_cases h0 : r = 0
  · refine ⟨0, x1, y1, ?_, c1, ⟨Nat.zero_le _, h1⟩, Rat.le_refl⟩
    subst h0
    clear e2 e3 f
    walk_at "evf"
    exact leave_len rfl
  · refine ⟨_, x3, y3, ?_, c3, low_nb (a := 1 + r2) (b := 1 + r3) (by omega) (by omega) (by omega), frac0 (by omega) (by omega)⟩
    walk_at "evf"
    exact leave_len rfl
theorem rng_b {r : Int} (h0 : 0 ≤ r) (h1 : r ≤ 1000) : (decide (-2 ^ 62 ≤ (0 : Int)) && decide ((0 : Int) < 2 ^ 62) && decide (-2 ^ 62 ≤ r) && decide (r < 2 ^ 62)) = true := by
  have e62 : (2 : Int) ^ 62 = 4611686018427387904 := rfl
  simp only [Bool.and_eq_true, decide_eq_true_eq]
  omega
theorem ladder_draw (k s n : Nat) {x y : Int} (T : Mem) (h : CupB x y) (h1 : 1 ≤ s) (h2 : s ≤ 9) (t : Nat) (el : Env → Mem → Option (PV × Mem)) (env : Env)
    (he : ∀ (v : PV) (x y : Int) (p q : Rat) (x2 y2 x3 y3 : Int), callN prog W (k + 2) 51 [.ref 0, .int s] (cup x y :: T) = some (fr p, cup x2 y2 :: T) → callN prog W (k + 2) 51 [.ref 0, .int s] (cup x2 y2 :: T) = some (fr q, cup x3 y3 :: T) → el (env.set t (some v)) (cup x y :: T) = some (.tup [fr p, fr q], cup x3 y3 :: T)) :
    ∃ L x' y', lcL (.nm t) [] (fun _ M => some (true, M)) el env (rngI 0 n) [] (cup x y :: T) = some (rgs L, cup x' y' :: T) ∧ CupB x' y' ∧ L.length = n ∧ ∀ x ∈ L, gd s x := by
  obtain ⟨vs, M', e, hl, hp, x2, y2, rfl, c2⟩ := lcL_draw (t := .nm t) (cond := fun _ M => some (true, M)) (elt := el) (env := env) (fun v => ∃ x : Rg, v = rg x ∧ gd s x) (fun M => ∃ x y, M = cup x y :: T ∧ CupB x y) (rngI 0 n) [] (cup x y :: T) ⟨x, y, rfl, h⟩ (by
      rintro v hv _ ⟨x, y, rfl, c⟩
      obtain ⟨p, x2, y2, e2, c2, n2, p0⟩ := number0_ok k T c s h1 h2
      obtain ⟨q, x3, y3, e3, c3, n3, q0⟩ := number0_ok k T c2 s h1 h2
      exact ⟨_, .tup [fr p, fr q], cup x3 y3 :: T, bindT_nm _ _, rfl, he v x y p q x2 y2 x3 y3 e2 e3, ⟨(p, q), rfl, n2, n3, p0, q0⟩, x3, y3, rfl, c3⟩)
  rw [List.nil_append] at e
  obtain ⟨L, rfl, hL⟩ := rgs_of hp
  refine ⟨L, x2, y2, e, c2, ?_, hL⟩
  have : (rgs L).length = L.length := by unfold rgs; rw [List.length_map]
  rw [← this, hl, rngI_len]
theorem ladder_ok (k : Nat) {x y : Int} (T : Mem) (h : CupB x y) (most s : Nat) (hm : most ≤ 20) (h1 : 1 ≤ s) (h2 : s ≤ 9) :
    ∃ L x' y', callN prog W (k + 3) 52 [.ref 0, .int most, .int s] (cup x y :: T) = some (.tup (rgs L), cup x' y' :: T) ∧ CupB x' y' ∧ L.length ≤ most ∧ ∀ x ∈ L, gd s x := by
  obtain ⟨r, x1, y1, e1, c1, p1, q1⟩ := roll_ok (k + 1) (many := (most : Int) + 1) T h (by omega) (lt2.mono (n := 5) (lt2_of (m := 21) (by omega) (by decide)) (by decide))
  rw [u__law_ladder]
  unfold m__law_ladder
  generalize hE : (E.tup (.cons (.call 51 (.cons (.var 0) (.cons (.var 2) .nil))) (.cons (.call 51 (.cons (.var 0) (.cons (.var 2) .nil))) .nil))) = el
  have b1 := rng_b p1 (by omega)
  obtain ⟨L, x2, y2, e, c2, hl, hL⟩ := ladder_draw k s (r - 0).toNat T c1 h1 h2 3 (eval (callN prog W (k + 2)) el) [some (.ref 0), some (.int most), some (.int s), none] (fun v x y p q x2 y2 x3 y3 g1 g2 => by
    rw [← hE]
    clear hE e1
    walk_at "evf")
  refine ⟨L, x2, y2, ?_, c2, by omega, hL⟩
  have hv : (rgs L).length ≤ 16777216 := by unfold rgs; rw [List.length_map]; omega
  have ht : ∀ M : Mem, tupleB M [.lst (rgs L)] = some (.tup (rgs L)) := fun M => tupleB_lst M _
  have hw := leave_cup (cup x2 y2) (.tup (rgs L)) T
  generalize rgs L = vs at *
  clear hl hL hE h c1 c2 h1 h2 hm p1 q1
  walk_at "evf"

/-! ### end numbers -/
theorem l_divisor_ok (k : Nat) (a b : Int) (M : Mem) {n : Nat} (hb : lt2 n b) (hn : n ≤ 100000) : callN prog W (k + 1) 54 [.int a, .int b] M = some (.int (Int.gcd a b : Nat), M) := by
  rw [u__law_divisor]
  unfold m__law_divisor
  walk_at "ev"
  rw [abs_nat, abs_nat, whl_gcd (fun x y => [some (.int x), some (.int y)]) _ _ M (fun a b => ?_) (fun a b h => ?_) n W a.natAbs b.natAbs hb (by unfold W; omega)]
  · walk_at "ev"
    rfl
  · walk_at "ev"
    rw [decide_not]
  · walk_at "ev"
    rw [if_pos h]
    walk_at "ev"
def g3 (x y z : Int) : Nat := Int.gcd ((Int.gcd x y : Nat) : Int) z
theorem g3_mul (k x y z : Int) : g3 (k * x) (k * y) (k * z) = k.natAbs * g3 x y z := by
  unfold g3
  rw [Int.gcd_mul_left]
  have : ((k.natAbs * Int.gcd x y : Nat) : Int) = (k.natAbs : Int) * ((Int.gcd x y : Nat) : Int) := by rw [Int.natCast_mul]
  rw [this]
  unfold Int.gcd
  rw [Int.natAbs_mul, Int.natAbs_mul, Int.natAbs_natCast, Nat.gcd_mul_left]
structure Ep (X Y Z : Int) : Prop where
  x : 0 < X
  z : 0 < Z
  g : g3 X Y Z = 1
theorem g3_dvd (x y z : Int) : ((g3 x y z : Nat) : Int) ∣ x ∧ ((g3 x y z : Nat) : Int) ∣ y ∧ ((g3 x y z : Nat) : Int) ∣ z := by
  have h1 : ((g3 x y z : Nat) : Int) ∣ ((Int.gcd x y : Nat) : Int) := Int.gcd_dvd_left _ _
  exact ⟨Int.dvd_trans h1 (Int.gcd_dvd_left _ _), Int.dvd_trans h1 (Int.gcd_dvd_right _ _), Int.gcd_dvd_right _ _⟩
theorem fdiv_ex {p q r : Int} (hq : q ≠ 0) (h : p = q * r) : p.fdiv q = r := by
  rw [Int.fdiv_eq_ediv_of_dvd ⟨r, h⟩, h]
  exact Int.mul_ediv_cancel_left _ hq
/-- the least whole numbers in the same share -/
theorem prim {x y z : Int} (hx : 0 < x) (hz : 0 < z) : ∃ X Y Z : Int, x = (g3 x y z : Nat) * X ∧ y = (g3 x y z : Nat) * Y ∧ z = (g3 x y z : Nat) * Z ∧ Ep X Y Z ∧ 0 < g3 x y z ∧ x.fdiv (g3 x y z : Nat) = X ∧ y.fdiv (g3 x y z : Nat) = Y ∧ z.fdiv (g3 x y z : Nat) = Z := by
  obtain ⟨⟨X, e1⟩, ⟨Y, e2⟩, ⟨Z, e3⟩⟩ := g3_dvd x y z
  have hg : 0 < g3 x y z := by
    rcases Nat.eq_zero_or_pos (g3 x y z) with h | h
    · rw [h] at e1; simp at e1; omega
    · exact h
  have hgi : (0 : Int) < (g3 x y z : Nat) := by omega
  have hne : ((g3 x y z : Nat) : Int) ≠ 0 := by omega
  refine ⟨X, Y, Z, e1, e2, e3, ⟨?_, ?_, ?_⟩, hg, ?_, ?_, ?_⟩
  · rw [e1] at hx
    exact Int.pos_of_mul_pos_right hx hgi
  · rw [e3] at hz
    exact Int.pos_of_mul_pos_right hz hgi
  · have h := g3_mul (g3 x y z : Nat) X Y Z
    rw [← e1, ← e2, ← e3, Int.natAbs_natCast] at h
    have h2 : g3 x y z * 1 = g3 x y z * g3 X Y Z := by omega
    exact (Nat.eq_of_mul_eq_mul_left hg h2).symm
  · exact fdiv_ex hne e1
  · exact fdiv_ex hne e2
  · exact fdiv_ex hne e3
theorem Ep_uniq {X Y Z X' Y' Z' : Int} (h : Ep X Y Z) (h' : Ep X' Y' Z') (e1 : X * Y' = X' * Y) (e2 : X * Z' = X' * Z) : X = X' ∧ Y = Y' ∧ Z = Z' := by
  have a := g3_mul X X' Y' Z'
  have b := g3_mul X' X Y Z
  rw [h'.g, Nat.mul_one] at a
  rw [h.g, Nat.mul_one] at b
  rw [e1, e2, Int.mul_comm X X'] at a
  rw [a] at b
  have hx := h.x
  have hx' := h'.x
  have e : X = X' := by omega
  subst e
  exact ⟨rfl, (Int.eq_of_mul_eq_mul_left (by omega) e1).symm, (Int.eq_of_mul_eq_mul_left (by omega) e2).symm⟩
/-- the whole numbers of a chain -/
structure Wn (q : Q4) (x y z T : Int) : Prop where
  eT : (q.b.den : Int) * q.c.den * (q.d - q.a).den = T
  ex : (q.c.num * T).fdiv q.c.den = x
  ey : ((q.d - q.a).num * T).fdiv (q.d - q.a).den = y
  ez : (q.b.num * T).fdiv q.b.den = z
  T0 : 0 < T
  rx : (x : Rat) = q.c * T
  ry : (y : Rat) = (q.d - q.a) * T
  rz : (z : Rat) = q.b * T
  fx : x = q.c.num * ((q.b.den : Int) * (q.d - q.a).den)
  fy : y = (q.d - q.a).num * ((q.b.den : Int) * q.c.den)
  fz : z = q.b.num * ((q.c.den : Int) * (q.d - q.a).den)
theorem exact_d {p : Rat} {T u : Int} (h : T = p.den * u) : (p.num * T).fdiv p.den = p.num * u ∧ ((p.num * u : Int) : Rat) = p * T := by
  refine ⟨fdiv_ex (Int.ne_of_gt (den_pos p)) (by rw [h, ← Int.mul_assoc, Int.mul_comm p.num, Int.mul_assoc]), ?_⟩
  rw [h, Rat.intCast_mul, Rat.intCast_mul]
  have := rat_mul_den p
  have e : (((p.den : Nat) : Int) : Rat) = ((p.den : Nat) : Rat) := rfl
  rw [e, ← Rat.mul_assoc, this]
theorem wn_ex (q : Q4) : ∃ x y z T, Wn q x y z T := by
  obtain ⟨a1, a2⟩ := exact_d (p := q.c) (T := (q.b.den : Int) * q.c.den * (q.d - q.a).den) (u := q.b.den * (q.d - q.a).den) (by rw [Int.mul_comm (q.b.den : Int), Int.mul_assoc])
  obtain ⟨b1, b2⟩ := exact_d (p := q.d - q.a) (T := (q.b.den : Int) * q.c.den * (q.d - q.a).den) (u := q.b.den * q.c.den) (by rw [Int.mul_comm])
  obtain ⟨c1, c2⟩ := exact_d (p := q.b) (T := (q.b.den : Int) * q.c.den * (q.d - q.a).den) (u := q.c.den * (q.d - q.a).den) (by rw [Int.mul_assoc])
  exact ⟨_, _, _, _, rfl, a1, b1, c1, Int.mul_pos (Int.mul_pos (den_pos _) (den_pos _)) (den_pos _), a2, b2, c2, rfl, rfl, rfl⟩
theorem sm_da {n : Nat} {q : Q4} (h : Bd n q) : sm (n + 2) (q.d - q.a) := by
  obtain ⟨D, N, h1, h2⟩ := h
  obtain ⟨A, a1, a2⟩ := h1.a
  obtain ⟨B, b1, b2⟩ := h1.d
  have c : cmn D (2 * N) (q.d - q.a) := ⟨B - A, by rw [show (q.d - q.a) * (D : Rat) = q.d * D - q.a * D by grind, a1, b1, Rat.intCast_sub], by omega⟩
  refine c.sm h1.p (by have := h1.l; omega) ?_
  rw [Nat.pow_succ, Nat.pow_succ]
  have := Nat.pow_pos (n := n) (show 0 < 2 by decide)
  omega

theorem g3_lt {n : Nat} {x y z : Int} (hz : lt2 n z) (h0 : z ≠ 0) : lt2 n ((g3 x y z : Nat) : Int) := lt2_gcd hz h0
theorem int_lt {n m : Nat} {x y z : Int} (hx : lt2 n x) (hy : lt2 m y) (e : z = x * y) : lt2 (n + m) z := by rw [e]; exact hx.mul hy
theorem divOk_n {n : Nat} {x : Int} {g : Nat} (h : 0 < g) (hg : lt2 n (g : Int)) (hn : n ≤ 8990) : divOk x (g : Int) = true := divOk_of (by omega) hg hn
/-- what both reckon of a chain -/
structure En (n : Nat) (q : Q4) (X Y Z : Int) : Prop where
  p : Ep X Y Z
  x : lt2 n X
  y : lt2 n Y
  z : lt2 n Z
  r1 : (X : Rat) * (q.d - q.a) = Y * q.c
  r2 : (X : Rat) * q.b = Z * q.c
theorem end_both (q : Q4) {n : Nat} (hq : Bd n q) (hn : n ≤ 200) (hb : 0 < q.b) (hc : 0 < q.c) : ∃ X Y Z : Int, En (3 * n + 4) q X Y Z ∧ (∀ k M, callN prog W (k + 4) 28 [q.pv] M = some (.tup [.int X, .int Y, .int Z], M)) ∧ (∀ k M, callN prog W (k + 3) 55 [q.pv] M = some (.tup [.int X, .int Y, .int Z], M)) := by
  obtain ⟨x, y, z, T, wn⟩ := wn_ex q
  have sb := hq.Sm.b
  have sc := hq.Sm.c
  have sm' := sm_da hq
  have f1 := fun k M => less_by_ok k M hq.Sm.d hq.Sm.a (by omega)
  have f2 := fun k M => l_minus_ok k M hq.Sm.d hq.Sm.a (by omega)
  obtain ⟨eT, ex, ey, ez, T0, rx, ry, rz, fx, fy, fz⟩ := wn
  generalize hm : q.d - q.a = m at *
  have tq : (0 : Rat) < T := by exact_mod_cast T0
  have hx : 0 < x := by
    have : (0 : Rat) < x := by rw [rx]; exact Rat.mul_pos hc tq
    exact_mod_cast this
  have hz : 0 < z := by
    have : (0 : Rat) < z := by rw [rz]; exact Rat.mul_pos hb tq
    exact_mod_cast this
  have lT : lt2 (3 * n + 4) T := by
    rw [← eT]
    exact ((sb.den.mul sc.den).mul sm'.den).mono (by omega)
  have lx : lt2 (3 * n + 4) x := by rw [fx]; exact (sc.1.mul (sb.den.mul sm'.den)).mono (by omega)
  have ly : lt2 (3 * n + 4) y := by rw [fy]; exact (sm'.1.mul (sb.den.mul sc.den)).mono (by omega)
  have lz : lt2 (3 * n + 4) z := by rw [fz]; exact (sb.1.mul (sc.den.mul sm'.den)).mono (by omega)
  have m1 : mulOk (q.b.den : Int) q.c.den = true := mulOk_of sb.den sc.den (by omega)
  have m2 : mulOk ((q.b.den : Int) * q.c.den) m.den = true := mulOk_of (sb.den.mul sc.den) sm'.den (by omega)
  have m3 : mulOk q.c.num T = true := mulOk_of sc.1 lT (by omega)
  have m4 : mulOk m.num T = true := mulOk_of sm'.1 lT (by omega)
  have m5 : mulOk q.b.num T = true := mulOk_of sb.1 lT (by omega)
  have d1 : divOk (q.c.num * T) q.c.den = true := divOk_of (Int.ne_of_gt (den_pos _)) sc.den (by omega)
  have d2 : divOk (m.num * T) m.den = true := divOk_of (Int.ne_of_gt (den_pos _)) sm'.den (by omega)
  have d3 : divOk (q.b.num * T) q.b.den = true := divOk_of (Int.ne_of_gt (den_pos _)) sb.den (by omega)
  have fle : ∀ {u g w : Int} {a : Nat}, lt2 a u → 0 < g → u = g * w → lt2 a w := fun {u g w a} h hg e => by
    unfold lt2 at *
    rw [e, Int.natAbs_mul] at h
    exact Nat.lt_of_le_of_lt (Nat.le_mul_of_pos_left _ (by omega)) h
  obtain ⟨X, Y, Z, e1, e2, e3, ep, g0, v1, v2, v3⟩ := prim (y := y) hx hz
  have lg := g3_lt (x := x) (y := y) lz (by omega)
  have D1 := fun k M => divisor_of_ok k x y M ly (by omega)
  have D2 : ∀ k M, callN prog W (k + 1) 4 [.int ((Int.gcd x y : Nat) : Int), .int z] M = some (.int (g3 x y z : Nat), M) := fun k M => divisor_of_ok k _ z M lz (by omega)
  have D3 := fun k M => l_divisor_ok k x y M ly (by omega)
  have D4 : ∀ k M, callN prog W (k + 1) 54 [.int ((Int.gcd x y : Nat) : Int), .int z] M = some (.int (g3 x y z : Nat), M) := fun k M => l_divisor_ok k _ z M lz (by omega)
  have q1 : divOk x (g3 x y z : Nat) = true := divOk_n g0 lg (by omega)
  have q2 : divOk y (g3 x y z : Nat) = true := divOk_n g0 lg (by omega)
  have q3 : divOk z (g3 x y z : Nat) = true := divOk_n g0 lg (by omega)
  have gp : (0 : Int) < (g3 x y z : Nat) := by omega
  have gne : (((g3 x y z : Nat) : Int) : Rat) ≠ 0 := by
    have : ((g3 x y z : Nat) : Int) ≠ 0 := by omega
    exact_mod_cast this
  refine ⟨X, Y, Z, ⟨ep, fle lx gp e1, fle ly gp e2, fle lz gp e3, ?_, ?_⟩, fun k M => ?_, fun k M => ?_⟩
  · rw [hm]
    have a1 : ((((g3 x y z : Nat) : Int) : Rat)) * X = q.c * T := by rw [← rx, ← Rat.intCast_mul, ← e1]
    have a2 : ((((g3 x y z : Nat) : Int) : Rat)) * Y = m * T := by rw [← ry, ← Rat.intCast_mul, ← e2]
    have tn : (T : Rat) ≠ 0 := by grind
    generalize (((g3 x y z : Nat) : Int) : Rat) = G at *
    generalize (X : Rat) = X' at *
    generalize (Y : Rat) = Y' at *
    generalize (T : Rat) = T' at *
    have : G * (X' * m - Y' * q.c) = 0 := by grind
    rcases Rat.mul_eq_zero.mp this with h | h
    · exact absurd h gne
    · grind
  · have a1 : ((((g3 x y z : Nat) : Int) : Rat)) * X = q.c * T := by rw [← rx, ← Rat.intCast_mul, ← e1]
    have a2 : ((((g3 x y z : Nat) : Int) : Rat)) * Z = q.b * T := by rw [← rz, ← Rat.intCast_mul, ← e3]
    generalize (((g3 x y z : Nat) : Int) : Rat) = G at *
    generalize (X : Rat) = X' at *
    generalize (Z : Rat) = Z' at *
    generalize (T : Rat) = T' at *
    have : G * (X' * q.b - Z' * q.c) = 0 := by grind
    rcases Rat.mul_eq_zero.mp this with h | h
    · exact absurd h gne
    · grind
  · have f1 := fun k => f1 k M
    have D1 := fun k => D1 k M
    have D2 := fun k => D2 k M
    rw [u_end_in]
    unfold m_end_in Q4.pv ch
    generalize q.a = qa at *
    generalize q.d = qd at *
    generalize q.b = qb at *
    generalize q.c = qc at *
    generalize g3 x y z = gg at *
    clear f2 D3 D4 fle fx fy fz hx hz lx ly lz e1 e2 e3 ep g0 lg gp gne lT sb sc sm' tq rx ry rz hq hb hc hm T0
    walk_at "evf"
  · have f2 := fun k => f2 k M
    have D3 := fun k => D3 k M
    have D4 := fun k => D4 k M
    have ht := tupleB_lst M
    rw [u__law_end]
    unfold m__law_end Q4.pv ch
    generalize q.a = qa at *
    generalize q.d = qd at *
    generalize q.b = qb at *
    generalize q.c = qc at *
    generalize g3 x y z = gg at *
    clear f1 D1 D2 fle fx fy fz hx hz lx ly lz e1 e2 e3 ep g0 lg gp gne lT sb sc sm' tq rx ry rz hq hb hc hm T0
    walk_at "evg"

/-! ### lasting chains -/
theorem subOp_bb (a b : Bool) : subOp (.bl a) (.bl b) = some (.int ((if a then 1 else 0) - (if b then 1 else 0))) := rfl
def sgnI (n : Int) : Int := (if decide (0 < n) then 1 else 0) - (if decide (n < 0) then 1 else 0)
theorem sign_of_ok (k : Nat) (n : Int) (M : Mem) : callN prog W (k + 1) 29 [.int n] M = some (.int (sgnI n), M) := by
  have h := subOp_bb (decide (0 < n)) (decide (n < 0))
  rw [u_sign_of]
  unfold m_sign_of sgnI
  simp -implicitDefEqProofs only [execs, exec, eval, evals, evalI, conds, bnd_some, bnd_none, bifb_t, bifb_f, bifb_d, bifb_b, iff_t, iff_d, nxt_nx, nxt_rt, binop, cmpop, addOp_ii, addOp_tt, addOp_ll, subOp_ii, mulOp_ii, fdivOp_ii, modOp_ii, cmpI_ii, tru_bl, tru_int, absB_i, intB_i, asM_int, asM_bl, asM_tup, asM_false, isOp_n, isOp_bb, isNon_non, isNon_tup, isNon_int, isNon_bl, isNon_lst, isNon_ref, isNon_rol, isNon_str, isNon_fr, setAll_nil, setAll_cons, bindT_nm, bindT_tp, fin_rt, fin_nx, leave_same, bltOp, idx_tup0, idx_tup1, idx_tup2, idx_tup3, idx_lst0, idx_lst1, idx_lst2, idx_lst3, eqD_ii, eqD_bb, eqD_fr, Option.map_some, Option.map_none, Option.bind_some, List.getElem?_cons_zero, List.getElem?_cons_succ, List.set_cons_zero, List.set_cons_succ, List.length_cons, List.length_nil, if_true, if_false, decide_true, decide_false, Bool.not_true, Bool.not_false, decide_eq_true_eq, sizeL, Nat.reduceAdd, Nat.reduceLeDiff, Nat.zero_add, beq_self_eq_true, seqG_tup, seqG_lst, lenB_tup, lenB_lst, idx_cup0, idx_cup1, setAt0, setAt1, cup, isTy, Bool.false_eq_true, newL_f, newL_t, fin_rtk, List.nil_append, wipeE, Int.reduceNe, Int.reduceEq, Int.reduceLT, Int.reduceLE, Int.reduceAdd, Int.reduceSub, Int.reduceMul, Int.reduceNeg, Int.reduceGT, cmpop, gt_iff_lt, h]
def wf (X Y Z u v : Int) : Int := X * u * u + Y * u * v - Z * v * v
theorem worth_ok (k : Nat) {X Y Z : Int} {q : Rat} (M : Mem) {n m : Nat} (hX : lt2 n X) (hY : lt2 n Y) (hZ : lt2 n Z) (hq : sm m q) (hn : n ≤ 3000) (hm : m ≤ 3000) : callN prog W (k + 1) 56 [.tup [.int X, .int Y, .int Z], fr q] M = some (.int (wf X Y Z q.num q.den), M) := by
  have a1 : mulOk X q.num = true := mulOk_of hX hq.1 (by omega)
  have a2 : mulOk (X * q.num) q.num = true := mulOk_of (hX.mul hq.1) hq.1 (by omega)
  have a3 : mulOk Y q.num = true := mulOk_of hY hq.1 (by omega)
  have a4 : mulOk (Y * q.num) q.den = true := mulOk_of (hY.mul hq.1) hq.den (by omega)
  have a5 : mulOk Z q.den = true := mulOk_of hZ hq.den (by omega)
  have a6 : mulOk (Z * q.den) q.den = true := mulOk_of (hZ.mul hq.den) hq.den (by omega)
  have bd : ∀ (e : Env), bindT (.tp [2, 3]) (fr q) e = some ((e.set 2 (some (.int q.num))).set 3 (some (.int q.den))) := fun e => rfl
  rw [u__law_worth]
  unfold m__law_worth wf
  clear hX hY hZ hq
  walk_at "evf"
theorem beside_ok (k : Nat) {X Y Z : Int} {q : Rat} (M : Mem) {n m : Nat} (hX : lt2 n X) (hY : lt2 n Y) (hZ : lt2 n Z) (hq : sm m q) (hn : n ≤ 3000) (hm : m ≤ 3000) (hp : 0 < q.num) : callN prog W (k + 2) 30 [.tup [.int X, .int Y, .int Z], fr q] M = some (.int (-sgnI (wf X Y Z q.num q.den)), M) := by
  have a1 : mulOk X q.num = true := mulOk_of hX hq.1 (by omega)
  have a2 : mulOk (X * q.num) q.num = true := mulOk_of (hX.mul hq.1) hq.1 (by omega)
  have a3 : mulOk Y q.num = true := mulOk_of hY hq.1 (by omega)
  have a4 : mulOk (Y * q.num) q.den = true := mulOk_of (hY.mul hq.1) hq.den (by omega)
  have a5 : mulOk Z q.den = true := mulOk_of hZ hq.den (by omega)
  have a6 : mulOk (Z * q.den) q.den = true := mulOk_of (hZ.mul hq.den) hq.den (by omega)
  have bd : ∀ (e : Env), bindT (.tp [5, 6]) (fr q) e = some ((e.set 5 (some (.int q.num))).set 6 (some (.int q.den))) := fun e => rfl
  have f := fun k => sign_of_ok k (wf X Y Z q.num q.den) M
  unfold wf at f
  have hp' : ¬ q.num ≤ 0 := by omega
  rw [u_beside_in]
  unfold m_beside_in wf
  clear hX hY hZ hq hp
  walk_at "evf"
theorem is_last_ok (k : Nat) {q : Q4} (M : Mem) {n : Nat} (h : Bd n q) (hn : n ≤ 131) (ho : q.ok) (g : Bool) (hg : g = (!decide (q.a < 1) && (!decide (q.d < 1) && (decide (0 < q.b.num) && decide (0 < q.c.num))))) : (∀ k, callN prog W (k + 2) 24 [q.pv] M = some (.bl g, M)) ∧ ∀ k, callN prog W (k + 6) 32 [q.pv] M = some (.bl g, M) := by
  have f1 := fun k => is_under_ok k M h.Sm.a (sm_1 1 (by decide)) (by omega)
  have f2 := fun k => is_under_ok k M h.Sm.d (sm_1 1 (by decide)) (by omega)
  have f3 : ∀ k, callN prog W (k + 5) 14 [q.pv] M = some (.non, M) := fun k => need_chain_ok k M (h.Sm.w (by omega)) ho
  have main : ∀ k, callN prog W (k + 2) 24 [q.pv] M = some (.bl g, M) := fun k => by
    subst hg
    rw [u_is_lasting_in]
    unfold m_is_lasting_in Q4.pv ch
    generalize q.a = qa at *
    generalize q.b = qb at *
    generalize q.c = qc at *
    generalize q.d = qd at *
    have kO : k_ONE = fr 1 := rfl
    clear f3 h ho
    by_cases h1 : qa < 1
    · rw [decide_eq_true h1] at *
      walk_at "evg"
      try rfl
    · rw [decide_eq_false h1] at *
      by_cases h2 : qd < 1
      · rw [decide_eq_true h2] at *
        walk_at "evg"
        try rfl
      · rw [decide_eq_false h2] at *
        by_cases h3 : 0 < qb.num
        · by_cases h4 : 0 < qc.num
          · simp -implicitDefEqProofs only [execs, exec, eval, evals, evalI, conds, bnd_some, bnd_none, bifb_t, bifb_f, bifb_d, bifb_b, iff_t, iff_d, nxt_nx, nxt_rt, binop, cmpop, addOp_ii, addOp_tt, addOp_ll, subOp_ii, mulOp_ii, fdivOp_ii, modOp_ii, cmpI_ii, tru_bl, tru_int, absB_i, intB_i, asM_int, asM_bl, asM_tup, asM_false, isOp_n, isOp_bb, isNon_non, isNon_tup, isNon_int, isNon_bl, isNon_lst, isNon_ref, isNon_rol, isNon_str, isNon_fr, setAll_nil, setAll_cons, bindT_nm, bindT_tp, fin_rt, fin_nx, leave_same, bltOp, idx_tup0, idx_tup1, idx_tup2, idx_tup3, idx_lst0, idx_lst1, idx_lst2, idx_lst3, eqD_ii, eqD_bb, eqD_fr, Option.map_some, Option.map_none, Option.bind_some, List.getElem?_cons_zero, List.getElem?_cons_succ, List.set_cons_zero, List.set_cons_succ, List.length_cons, List.length_nil, if_true, if_false, decide_true, decide_false, Bool.not_true, Bool.not_false, decide_eq_true_eq, sizeL, Nat.reduceAdd, Nat.reduceLeDiff, Nat.zero_add, beq_self_eq_true, seqG_tup, seqG_lst, lenB_tup, lenB_lst, idx_cup0, idx_cup1, setAt0, setAt1, cup, isTy, Bool.false_eq_true, newL_f, newL_t, fin_rtk, List.nil_append, wipeE, Int.reduceNe, Int.reduceEq, Int.reduceLT, Int.reduceLE, Int.reduceAdd, Int.reduceSub, Int.reduceMul, Int.reduceNeg, Int.reduceGT, idx_fr0, idx_fr1, cmpop, gt_iff_lt, Bool.true_and, *]
          · simp -implicitDefEqProofs only [execs, exec, eval, evals, evalI, conds, bnd_some, bnd_none, bifb_t, bifb_f, bifb_d, bifb_b, iff_t, iff_d, nxt_nx, nxt_rt, binop, cmpop, addOp_ii, addOp_tt, addOp_ll, subOp_ii, mulOp_ii, fdivOp_ii, modOp_ii, cmpI_ii, tru_bl, tru_int, absB_i, intB_i, asM_int, asM_bl, asM_tup, asM_false, isOp_n, isOp_bb, isNon_non, isNon_tup, isNon_int, isNon_bl, isNon_lst, isNon_ref, isNon_rol, isNon_str, isNon_fr, setAll_nil, setAll_cons, bindT_nm, bindT_tp, fin_rt, fin_nx, leave_same, bltOp, idx_tup0, idx_tup1, idx_tup2, idx_tup3, idx_lst0, idx_lst1, idx_lst2, idx_lst3, eqD_ii, eqD_bb, eqD_fr, Option.map_some, Option.map_none, Option.bind_some, List.getElem?_cons_zero, List.getElem?_cons_succ, List.set_cons_zero, List.set_cons_succ, List.length_cons, List.length_nil, if_true, if_false, decide_true, decide_false, Bool.not_true, Bool.not_false, decide_eq_true_eq, sizeL, Nat.reduceAdd, Nat.reduceLeDiff, Nat.zero_add, beq_self_eq_true, seqG_tup, seqG_lst, lenB_tup, lenB_lst, idx_cup0, idx_cup1, setAt0, setAt1, cup, isTy, Bool.false_eq_true, newL_f, newL_t, fin_rtk, List.nil_append, wipeE, Int.reduceNe, Int.reduceEq, Int.reduceLT, Int.reduceLE, Int.reduceAdd, Int.reduceSub, Int.reduceMul, Int.reduceNeg, Int.reduceGT, idx_fr0, idx_fr1, cmpop, gt_iff_lt, Bool.true_and, *]
        · simp -implicitDefEqProofs only [execs, exec, eval, evals, evalI, conds, bnd_some, bnd_none, bifb_t, bifb_f, bifb_d, bifb_b, iff_t, iff_d, nxt_nx, nxt_rt, binop, cmpop, addOp_ii, addOp_tt, addOp_ll, subOp_ii, mulOp_ii, fdivOp_ii, modOp_ii, cmpI_ii, tru_bl, tru_int, absB_i, intB_i, asM_int, asM_bl, asM_tup, asM_false, isOp_n, isOp_bb, isNon_non, isNon_tup, isNon_int, isNon_bl, isNon_lst, isNon_ref, isNon_rol, isNon_str, isNon_fr, setAll_nil, setAll_cons, bindT_nm, bindT_tp, fin_rt, fin_nx, leave_same, bltOp, idx_tup0, idx_tup1, idx_tup2, idx_tup3, idx_lst0, idx_lst1, idx_lst2, idx_lst3, eqD_ii, eqD_bb, eqD_fr, Option.map_some, Option.map_none, Option.bind_some, List.getElem?_cons_zero, List.getElem?_cons_succ, List.set_cons_zero, List.set_cons_succ, List.length_cons, List.length_nil, if_true, if_false, decide_true, decide_false, Bool.not_true, Bool.not_false, decide_eq_true_eq, sizeL, Nat.reduceAdd, Nat.reduceLeDiff, Nat.zero_add, beq_self_eq_true, seqG_tup, seqG_lst, lenB_tup, lenB_lst, idx_cup0, idx_cup1, setAt0, setAt1, cup, isTy, Bool.false_eq_true, newL_f, newL_t, fin_rtk, List.nil_append, wipeE, Int.reduceNe, Int.reduceEq, Int.reduceLT, Int.reduceLE, Int.reduceAdd, Int.reduceSub, Int.reduceMul, Int.reduceNeg, Int.reduceGT, idx_fr0, idx_fr1, cmpop, gt_iff_lt, Bool.true_and, Bool.false_and, *]
  refine ⟨main, fun k => ?_⟩
  rw [u_is_lasting]
  unfold m_is_lasting
  clear f1 f2 h ho
  walk_at "evf"
theorem fits_end_ok (k : Nat) {X Y Z m : Int} (M : Mem) {n : Nat} (hp : Ep X Y Z) (x1 : -m < X) (x2 : X < m) (y1 : -m < Y) (y2 : Y < m) (z1 : -m < Z) (z2 : Z < m) (hY : lt2 n Y) (hZ : lt2 n Z) (hn : n ≤ 3000) : callN prog W (k + 2) 26 [.tup [.int X, .int Y, .int Z], .int m] M = some (.bl true, M) := by
  have f1 : ∀ k, callN prog W (k + 1) 3 [.tup [.int X, .int Y, .int Z], .int 3, .int 3] M = some (.bl true, M) := fun k => is_tuple_of_ok k _ _ _ M (by simp) (by simp)
  have f2 := fun k i => is_integer_ok k i M
  have D1 := fun k => divisor_of_ok k X Y M hY (by omega)
  have D2 : ∀ k, callN prog W (k + 1) 4 [.int ((Int.gcd X Y : Nat) : Int), .int Z] M = some (.int 1, M) := fun k => by
    rw [divisor_of_ok k _ Z M hZ (by omega)]
    have := hp.g
    unfold g3 at this
    rw [this]
    rfl
  have hx := hp.x
  have hz := hp.z
  rw [u_fits_end]
  unfold m_fits_end
  clear hp hY hZ
  simp -implicitDefEqProofs only [execs, exec, eval, evals, evalI, conds, bnd_some, bnd_none, bifb_t, bifb_f, bifb_d, bifb_b, iff_t, iff_d, nxt_nx, nxt_rt, binop, cmpop, addOp_ii, addOp_tt, addOp_ll, subOp_ii, mulOp_ii, fdivOp_ii, modOp_ii, cmpI_ii, tru_bl, tru_int, absB_i, intB_i, asM_int, asM_bl, asM_tup, asM_false, isOp_n, isOp_bb, isNon_non, isNon_tup, isNon_int, isNon_bl, isNon_lst, isNon_ref, isNon_rol, isNon_str, isNon_fr, setAll_nil, setAll_cons, bindT_nm, bindT_tp, fin_rt, fin_nx, leave_same, bltOp, idx_tup0, idx_tup1, idx_tup2, idx_tup3, idx_lst0, idx_lst1, idx_lst2, idx_lst3, eqD_ii, eqD_bb, eqD_fr, Option.map_some, Option.map_none, Option.bind_some, List.getElem?_cons_zero, List.getElem?_cons_succ, List.set_cons_zero, List.set_cons_succ, List.length_cons, List.length_nil, if_true, if_false, decide_true, decide_false, Bool.not_true, Bool.not_false, decide_eq_true_eq, sizeL, Nat.reduceAdd, Nat.reduceLeDiff, Nat.zero_add, beq_self_eq_true, seqG_tup, seqG_lst, lenB_tup, lenB_lst, idx_cup0, idx_cup1, setAt0, setAt1, cup, isTy, Bool.false_eq_true, newL_f, newL_t, fin_rtk, List.nil_append, wipeE, Int.reduceNe, Int.reduceEq, Int.reduceLT, Int.reduceLE, Int.reduceAdd, Int.reduceSub, Int.reduceMul, Int.reduceNeg, Int.reduceGT, lcL_n, lcL_c, allB, items, boolsOf, List.all_cons, List.all_nil, id_eq, Bool.and_true, List.cons_append, cmpop, gt_iff_lt, *]

/-! ### a lasting chain: its numbers -/
structure La (q : Q4) : Prop where
  a : 1 ≤ q.a
  d : 1 ≤ q.d
  b : 0 < q.b
  c : 0 < q.c
theorem rnum_pos {q : Rat} : 0 < q.num ↔ 0 < q := by
  have h1 := @Rat.num_nonneg q
  have h2 := @Rat.num_eq_zero q
  constructor
  · intro h
    have a : 0 ≤ q := h1.mp (by omega)
    have b : q ≠ 0 := fun z => by have := h2.mpr z; omega
    grind
  · intro h
    have a : 0 ≤ q.num := h1.mpr (by grind)
    have b : q.num ≠ 0 := fun z => by have := h2.mp z; grind
    omega
theorem La.good {q : Q4} (h : La q) : (!decide (q.a < 1) && (!decide (q.d < 1) && (decide (0 < q.b.num) && decide (0 < q.c.num)))) = true := by
  rw [decide_eq_false (Rat.not_lt.mpr h.a), decide_eq_false (Rat.not_lt.mpr h.d), decide_eq_true (rnum_pos.mpr h.b), decide_eq_true (rnum_pos.mpr h.c)]
  rfl
theorem good_La {q : Q4} (h : (!decide (q.a < 1) && (!decide (q.d < 1) && (decide (0 < q.b.num) && decide (0 < q.c.num)))) = true) : La q := by
  simp only [Bool.and_eq_true, Bool.not_eq_true', decide_eq_false_iff_not, decide_eq_true_eq] at h
  obtain ⟨h1, h2, h3, h4⟩ := h
  exact ⟨Rat.not_lt.mp h1, Rat.not_lt.mp h2, rnum_pos.mp h3, rnum_pos.mp h4⟩
theorem La.told {q : Q4} (h : La q) : told q.a q.b q.c q.d := (told_eq _ _ _ _).mpr ⟨Rat.not_lt.mpr h.a, Rat.not_lt.mpr h.d, Rat.le_of_lt h.b, Rat.le_of_lt h.c⟩
theorem La.mul {x y : Q4} (h : La x) (h' : La y) : La (Q4.mul x y) := by
  obtain ⟨a, d, b, c⟩ := h
  obtain ⟨a', d', b', c'⟩ := h'
  have xa : 0 < x.a := by grind
  have xd : 0 < x.d := by grind
  have ya : 0 < y.a := by grind
  have yd : 0 < y.d := by grind
  have e1 : 1 ≤ x.a * y.a := by
    have := Rat.mul_le_mul_of_nonneg_left a' (Rat.le_of_lt xa)
    grind
  have e2 : 1 ≤ x.d * y.d := by
    have := Rat.mul_le_mul_of_nonneg_left d' (Rat.le_of_lt xd)
    grind
  have f1 := Rat.mul_pos b c'
  have f2 := Rat.mul_pos c b'
  have f3 := Rat.mul_pos xa b'
  have f4 := Rat.mul_pos b yd
  have f5 := Rat.mul_pos c ya
  have f6 := Rat.mul_pos xd c'
  refine ⟨?_, ?_, ?_, ?_⟩
  · show 1 ≤ x.a * y.a + x.b * y.c
    grind
  · show 1 ≤ x.c * y.b + x.d * y.d
    grind
  · show 0 < x.a * y.b + x.b * y.d
    grind
  · show 0 < x.c * y.a + x.d * y.c
    grind
theorem La_pow {q : Q4} (h : La q) : ∀ n, La (powQ q (n + 1))
  | 0 => by show La (Q4.mul Q4.one q); rw [Q4.one_mul]; exact h
  | n + 1 => La.mul (La_pow h n) h
theorem ok_pow {q : Q4} (h : q.ok) : ∀ n, (powQ q n).ok
  | 0 => Q4.ok_one
  | n + 1 => Q4.ok_mul (ok_pow h n) h
theorem comm_pow (q : Q4) : ∀ n, Q4.mul (powQ q n) q = Q4.mul q (powQ q n)
  | 0 => by show Q4.mul Q4.one q = Q4.mul q Q4.one; rw [Q4.one_mul, Q4.mul_one]
  | n + 1 => by
    show Q4.mul (Q4.mul (powQ q n) q) q = Q4.mul q (Q4.mul (powQ q n) q)
    rw [← Q4.assoc, ← comm_pow q n]
theorem Bd_pow {q : Q4} {b : Nat} (h : Bd b q) : ∀ n, Bd ((b + 1) * n) (powQ q n)
  | 0 => Bd_one
  | n + 1 => (Bd_mul (Bd_pow h n) h).mono (by rw [Nat.mul_succ]; omega)
/-- the form that a chain keeps -/
def qf (q : Q4) (u v : Rat) : Rat := q.c * u * u + (q.d - q.a) * u * v - q.b * v * v
theorem qf_act {q : Q4} (h : q.ok) (p : Rat × Rat) : qf q (act q p).1 (act q p).2 = qf q p.1 p.2 := by
  unfold qf act Q4.ok at *
  simp only []
  have e : q.a * q.d - q.b * q.c = 1 := h
  generalize q.a = a at *
  generalize q.b = b at *
  generalize q.c = c at *
  generalize q.d = d at *
  have k : c * (a * p.1 + b * p.2) * (a * p.1 + b * p.2) + (d - a) * (a * p.1 + b * p.2) * (c * p.1 + d * p.2) - b * (c * p.1 + d * p.2) * (c * p.1 + d * p.2) = (a * d - b * c) * (c * p.1 * p.1 + (d - a) * p.1 * p.2 - b * p.2 * p.2) := by grind
  rw [k, e, Rat.one_mul]
theorem qf_low {q w : Q4} (hw : w.ok) (h : Q4.mul w q = Q4.mul q w) : qf q w.b w.d = -q.b ∧ qf q w.a w.c = q.c := by
  have h1 := congrArg Q4.a h
  have h2 := congrArg Q4.b h
  have h3 := congrArg Q4.c h
  unfold Q4.mul at h1 h2 h3
  unfold qf Q4.ok at *
  simp only [] at h1 h2 h3 ⊢
  generalize q.a = a at *
  generalize q.b = b at *
  generalize q.c = c at *
  generalize q.d = d at *
  have c1 : w.b * c = b * w.c := by grind
  have c2 : w.b * (d - a) = b * (w.d - w.a) := by grind
  have c3 : w.c * (d - a) = c * (w.d - w.a) := by grind
  constructor
  · have : c * w.b * w.b + (d - a) * w.b * w.d - b * w.d * w.d = (w.b * c) * w.b + (w.b * (d - a)) * w.d - b * w.d * w.d := by grind
    rw [this, c1, c2]
    have : b * w.c * w.b + b * (w.d - w.a) * w.d - b * w.d * w.d = -(b * (w.a * w.d - w.b * w.c)) := by grind
    rw [this, hw]
    grind
  · have : c * w.a * w.a + (d - a) * w.a * w.c - b * w.c * w.c = c * w.a * w.a + (w.c * (d - a)) * w.a - (b * w.c) * w.c := by grind
    rw [this, ← c1, c3]
    have : c * w.a * w.a + c * (w.d - w.a) * w.a - w.b * c * w.c = c * (w.a * w.d - w.b * w.c) := by grind
    rw [this, hw]
    grind
/-- the worth's sign is the form's -/
theorem wf_qf {n : Nat} {q : Q4} {X Y Z : Int} (h : En n q X Y Z) (r : Rat) : (wf X Y Z r.num r.den : Rat) * q.c = X * (r.den * r.den) * qf q r 1 := by
  have e1 := h.r1
  have e2 := h.r2
  have er := rat_mul_den r
  unfold wf qf
  have ed : (((r.den : Nat) : Int) : Rat) = ((r.den : Nat) : Rat) := rfl
  rw [Rat.intCast_sub, Rat.intCast_add, Rat.intCast_mul, Rat.intCast_mul, Rat.intCast_mul, Rat.intCast_mul, Rat.intCast_mul, Rat.intCast_mul, ed, ← er]
  generalize ((r.den : Nat) : Rat) = t at *
  generalize (X : Rat) = x at *
  generalize (Y : Rat) = y at *
  generalize (Z : Rat) = z at *
  generalize q.c = c at *
  generalize q.b = b at *
  generalize q.d - q.a = m at *
  have k1 : (x * (r * t) * (r * t) + y * (r * t) * t - z * t * t) * c = x * c * (r * t) * (r * t) + (y * c) * (r * t) * t - (z * c) * t * t := by grind
  rw [k1, ← e1, ← e2]
  grind
theorem wf_neg {n : Nat} {q : Q4} {X Y Z : Int} (h : En n q X Y Z) (hc : 0 < q.c) (r : Rat) : (wf X Y Z r.num r.den < 0 ↔ qf q r 1 < 0) ∧ (0 < wf X Y Z r.num r.den ↔ 0 < qf q r 1) ∧ (wf X Y Z r.num r.den = 0 ↔ qf q r 1 = 0) := by
  have e := wf_qf h r
  have x0 : (0 : Rat) < X := by exact_mod_cast h.p.x
  have d0 : (0 : Rat) < (r.den : Rat) := by
    have := r.den_pos
    exact_mod_cast this
  have k0 : 0 < (X : Rat) * ((r.den : Rat) * (r.den : Rat)) := Rat.mul_pos x0 (Rat.mul_pos d0 d0)
  have z1 : (wf X Y Z r.num r.den < 0 ↔ ((wf X Y Z r.num r.den : Int) : Rat) < 0) := by exact_mod_cast Iff.rfl
  have z2 : (0 < wf X Y Z r.num r.den ↔ 0 < ((wf X Y Z r.num r.den : Int) : Rat)) := by exact_mod_cast Iff.rfl
  have z3 : (wf X Y Z r.num r.den = 0 ↔ ((wf X Y Z r.num r.den : Int) : Rat) = 0) := by exact_mod_cast Iff.rfl
  rw [z1, z2, z3]
  generalize ((wf X Y Z r.num r.den : Int) : Rat) = w at *
  generalize (X : Rat) * ((r.den : Rat) * (r.den : Rat)) = k at *
  generalize qf q r 1 = f at *
  generalize q.c = c at *
  have tri : ∀ u : Rat, u < 0 ∨ u = 0 ∨ 0 < u := fun u => by
    by_cases h : u < 0
    · exact .inl h
    · by_cases h' : 0 < u
      · exact .inr (.inr h')
      · exact .inr (.inl (by grind))
  have np : ∀ {u v : Rat}, 0 < u → v < 0 → u * v < 0 := fun {u v} hu hv => by
    have := Rat.mul_pos hu (show 0 < -v by grind)
    grind
  rcases tri w with h1 | h1 | h1 <;> rcases tri f with h2 | h2 | h2
  · exact ⟨⟨fun _ => h2, fun _ => h1⟩, ⟨fun z => by grind, fun z => by grind⟩, ⟨fun z => by grind, fun z => by grind⟩⟩
  · exfalso; have := np hc h1; grind
  · exfalso; have := np hc h1; have := Rat.mul_pos k0 h2; grind
  · exfalso; have := np k0 h2; grind
  · exact ⟨⟨fun z => by grind, fun z => by grind⟩, ⟨fun z => by grind, fun z => by grind⟩, ⟨fun _ => h2, fun _ => h1⟩⟩
  · exfalso; have := Rat.mul_pos k0 h2; grind
  · exfalso; have := np k0 h2; have := Rat.mul_pos hc h1; grind
  · exfalso; have := Rat.mul_pos hc h1; grind
  · exact ⟨⟨fun z => by grind, fun z => by grind⟩, ⟨fun _ => h2, fun _ => h1⟩, ⟨fun z => by grind, fun z => by grind⟩⟩
theorem qf_scale (q : Q4) {u v : Rat} (hv : 0 < v) : qf q (u / v) 1 * (v * v) = qf q u v := by
  unfold qf
  have : u / v * v = u := Rat.div_mul_cancel (by grind)
  generalize u / v = t at *
  subst this
  grind
theorem sgn_scale {f s : Rat} (h : 0 < s) : (f * s < 0 ↔ f < 0) ∧ (0 < f * s ↔ 0 < f) := by
  constructor
  · constructor
    · intro z
      apply Classical.byContradiction
      intro h2
      have := Rat.mul_nonneg (Rat.not_lt.mp h2) (Rat.le_of_lt h)
      grind
    · intro z
      have := Rat.mul_pos (show 0 < -f by grind) h
      grind
  · constructor
    · intro z
      apply Classical.byContradiction
      intro h2
      have := Rat.mul_nonneg (show 0 ≤ -f by grind) (Rat.le_of_lt h)
      grind
    · intro z
      exact Rat.mul_pos z h

/-! ### the law about one lasting chain -/
theorem fits_lt (k : Nat) {q : Rat} (M : Mem) (p1 : -10000000000000000000000000000000000000000 < q.num) (p2 : q.num < 10000000000000000000000000000000000000000) (p4 : (q.den : Int) < 10000000000000000000000000000000000000000) : callN prog W (k + 2) 11 [fr q] M = some (.bl true, M) := by
  have p5 : 1 ≤ (q.den : Int) := den_pos q
  have p3 : -10000000000000000000000000000000000000000 < (q.den : Int) := by omega
  have f1 : ∀ k, callN prog W (k + 1) 3 [.tup [.int q.num, .int q.den], .int 2, .int 2] M = some (.bl true, M) := fun k => is_tuple_of_ok k _ _ _ M (by simp) (by simp)
  have f2 := fun k i => is_integer_ok k i M
  have e : (10000000000000000000000000000000000000000 : Nat) < 2 ^ 133 := by decide +kernel
  have f3 : ∀ k, callN prog W (k + 1) 4 [.int q.num, .int q.den] M = some (.int 1, M) := fun k => by
    rw [divisor_of_ok k _ _ M (n := 133) (by unfold lt2; omega) (by omega), num_one (a := 0)]
    rfl
  rw [u_fits_fraction]
  unfold m_fits_fraction fr
  simp -implicitDefEqProofs only [execs, exec, eval, evals, evalI, conds, bnd_some, bnd_none, bifb_t, bifb_f, bifb_d, bifb_b, iff_t, iff_d, nxt_nx, nxt_rt, binop, cmpop, addOp_ii, addOp_tt, addOp_ll, subOp_ii, mulOp_ii, fdivOp_ii, modOp_ii, cmpI_ii, tru_bl, tru_int, absB_i, intB_i, asM_int, asM_bl, asM_tup, asM_false, isOp_n, isOp_bb, isNon_non, isNon_tup, isNon_int, isNon_bl, isNon_lst, isNon_ref, isNon_rol, isNon_str, isNon_fr, setAll_nil, setAll_cons, bindT_nm, bindT_tp, fin_rt, fin_nx, leave_same, bltOp, idx_tup0, idx_tup1, idx_tup2, idx_tup3, idx_lst0, idx_lst1, idx_lst2, idx_lst3, eqD_ii, eqD_bb, eqD_fr, Option.map_some, Option.map_none, Option.bind_some, List.getElem?_cons_zero, List.getElem?_cons_succ, List.set_cons_zero, List.set_cons_succ, List.length_cons, List.length_nil, if_true, if_false, decide_true, decide_false, Bool.not_true, Bool.not_false, decide_eq_true_eq, sizeL, Nat.reduceAdd, Nat.reduceLeDiff, Nat.zero_add, beq_self_eq_true, seqG_tup, seqG_lst, lenB_tup, lenB_lst, idx_cup0, idx_cup1, setAt0, setAt1, cup, isTy, Bool.false_eq_true, newL_f, newL_t, fin_rtk, List.nil_append, wipeE, Int.reduceNe, Int.reduceEq, Int.reduceLT, Int.reduceLE, Int.reduceAdd, Int.reduceSub, Int.reduceMul, Int.reduceNeg, Int.reduceGT, lcL_n, lcL_c, allB, items, boolsOf, List.all_cons, List.all_nil, id_eq, Bool.and_true, List.cons_append, cmpop, k_DIGITS, *]
theorem need_frac_lt (k : Nat) {q : Rat} (M : Mem) (p1 : -10000000000000000000000000000000000000000 < q.num) (p2 : q.num < 10000000000000000000000000000000000000000) (p4 : (q.den : Int) < 10000000000000000000000000000000000000000) : callN prog W (k + 3) 12 [fr q] M = some (.non, M) := by
  have f := fun k => fits_lt k M p1 p2 p4
  rw [u_need_fraction]
  unfold m_need_fraction
  walk_at "evf"
theorem seen_in_n (k : Nat) {x : Q4} (M : Mem) {n : Nat} (h : Bd n x) (hn : n ≤ 3000) : callN prog W (k + 4) 19 [x.pv, .non] M = some (sv x.a x.c, M) := by
  rw [u_seen_in]
  unfold m_seen_in sv Q4.pv ch
  by_cases hc : x.c = 0
  · walk_at "evf"
  · have f4 := fun k => part_of_ok k M h.Sm.a h.Sm.c (by omega) hc
    clear h
    walk_at "evf"
theorem seen_in_q (k : Nat) {x : Q4} {q : Rat} (M : Mem) {n : Nat} (h : Bd n x) (hn : n ≤ 800) (hq : sm 132 q) : callN prog W (k + 4) 19 [x.pv, fr q] M = some (sv (x.a * q + x.b) (x.c * q + x.d), M) := by
  have g1 := fun k => product_of_ok k M h.Sm.a hq (by omega)
  have g2 := fun k => product_of_ok k M h.Sm.c hq (by omega)
  have g3 := fun k => sum_of_ok k M (sm_mul h.Sm.a hq) h.Sm.b (by omega)
  have g4 := fun k => sum_of_ok k M (sm_mul h.Sm.c hq) h.Sm.d (by omega)
  have g6 := isOp_frn q
  rw [u_seen_in]
  unfold m_seen_in sv Q4.pv ch
  by_cases hc : x.c * q + x.d = 0
  · clear hq
    walk_at "evf"
  · have g5 := fun k => part_of_ok k M (sm_add (sm_mul h.Sm.a hq) h.Sm.b) (sm_add (sm_mul h.Sm.c hq) h.Sm.d) (by omega) hc
    clear hq
    walk_at "evf"
theorem need_last_ok (k : Nat) {q : Q4} (M : Mem) {n : Nat} (h : Bd n q) (hn : n ≤ 131) (ho : q.ok) (hl : La q) : callN prog W (k + 6) 25 [q.pv] M = some (.non, M) := by
  have f1 : ∀ k, callN prog W (k + 5) 14 [q.pv] M = some (.non, M) := fun k => need_chain_ok k M (h.Sm.w (by omega)) ho
  have f2 := (is_last_ok 0 M h hn ho true hl.good.symm).1
  rw [u_need_lasting]
  unfold m_need_lasting
  clear h ho hl
  walk_at "evf"
def lowq (q : Q4) (t : Nat) : Rat := (powQ q t).b / (powQ q t).d
def highq (q : Q4) (t : Nat) : Rat := (powQ q t).a / (powQ q t).c
theorem bounds_ok (k : Nat) {q : Q4} (M : Mem) {n : Nat} (h : Bd n q) (hn : n ≤ 36) (ho : q.ok) (hl : La q) (t : Nat) (ht : t ≤ 5) : callN prog W (k + 8) 34 [q.pv, .int ((t + 1 : Nat) : Int)] M = some (.tup [fr (lowq q (t + 1)), fr (highq q (t + 1))], M) := by
  have f1 := fun k => need_last_ok k M h (by omega) ho hl
  have f2 : ∀ k, callN prog W (k + 3) 2 [.int ((t + 1 : Nat) : Int), .int 1, .int 30] M = some (.non, M) := fun k => by
    have g1 := fun k => is_integer_ok k ((t + 1 : Nat) : Int) M
    have g2 : (1 : Int) ≤ ((t + 1 : Nat) : Int) := by omega
    have g3 : ((t + 1 : Nat) : Int) ≤ 30 := by omega
    have g4 : ∀ k, callN prog W (k + 2) 1 [.int ((t + 1 : Nat) : Int), .int 1, .int 30] M = some (.bl true, M) := fun k => by
      rw [u_is_whole]
      unfold m_is_whole
      generalize ((t + 1 : Nat) : Int) = tt at *
      walk_at "evf"
    rw [u_need_whole]
    unfold m_need_whole
    clear g1 g2 g3
    generalize ((t + 1 : Nat) : Int) = tt at *
    walk_at "evf"
  have f3 := mulOp_l1 M q.pv (t + 1) (by omega)
  have hbl : (n + 1) * (t + 1) ≤ 37 * 6 := Nat.mul_le_mul (by omega) (by omega)
  have f4 : ∀ k, callN prog W (k + 5) 18 [.lst (List.replicate (t + 1) q.pv)] M = some ((powQ q (t + 1)).pv, M) := fun k => by
    rw [← prod_rep]
    refine product_in_ok k n M _ _ (.inr ?_) (fun y hy => ?_) ?_
    · show some (false, List.replicate (t + 1) q.pv, []) = some (false, List.map Q4.pv (List.replicate (t + 1) q), [])
      rw [List.map_replicate]
    · rw [(List.mem_replicate.mp hy).2]; exact h
    · rw [List.length_replicate]; omega
  have bw := Bd_pow h (t + 1)
  have lw := La_pow hl t
  have f5 := fun k => seen_in_n k M bw (by omega)
  have f6 := fun k => seen_in_q k M bw (by omega) (sm_0 132 (by decide))
  have e1 : sv (powQ q (t + 1)).a (powQ q (t + 1)).c = fr (highq q (t + 1)) := by
    unfold sv highq
    rw [if_neg (by have := lw.c; grind)]
  have e2 : sv ((powQ q (t + 1)).a * 0 + (powQ q (t + 1)).b) ((powQ q (t + 1)).c * 0 + (powQ q (t + 1)).d) = fr (lowq q (t + 1)) := by
    rw [Rat.mul_zero, Rat.mul_zero, Rat.zero_add, Rat.zero_add]
    unfold sv lowq
    rw [if_neg (by have := lw.d; grind)]
  rw [e1] at f5
  rw [e2] at f6
  have k0 : k_NONE = fr 0 := rfl
  have km : k_MANY = .int 30 := rfl
  rw [u_end_bounds]
  unfold m_end_bounds
  clear h ho hl bw lw e1 e2 hbl
  generalize (powQ q (t + 1)).pv = wp at *
  generalize List.replicate (t + 1) q.pv = rp at *
  generalize ((t + 1 : Nat) : Int) = tt at *
  simp -implicitDefEqProofs only [execs, exec, eval, evals, evalI, conds, bnd_some, bnd_none, bifb_t, bifb_f, bifb_d, bifb_b, iff_t, iff_d, nxt_nx, nxt_rt, binop, cmpop, addOp_ii, addOp_tt, addOp_ll, subOp_ii, mulOp_ii, fdivOp_ii, modOp_ii, cmpI_ii, tru_bl, tru_int, absB_i, intB_i, asM_int, asM_bl, asM_tup, asM_false, isOp_n, isOp_bb, isNon_non, isNon_tup, isNon_int, isNon_bl, isNon_lst, isNon_ref, isNon_rol, isNon_str, isNon_fr, setAll_nil, setAll_cons, bindT_nm, bindT_tp, fin_rt, fin_nx, leave_same, bltOp, idx_tup0, idx_tup1, idx_tup2, idx_tup3, idx_lst0, idx_lst1, idx_lst2, idx_lst3, eqD_ii, eqD_bb, eqD_fr, Option.map_some, Option.map_none, Option.bind_some, List.getElem?_cons_zero, List.getElem?_cons_succ, List.set_cons_zero, List.set_cons_succ, List.length_cons, List.length_nil, if_true, if_false, decide_true, decide_false, Bool.not_true, Bool.not_false, decide_eq_true_eq, sizeL, Nat.reduceAdd, Nat.reduceLeDiff, Nat.zero_add, beq_self_eq_true, seqG_tup, seqG_lst, lenB_tup, lenB_lst, idx_cup0, idx_cup1, setAt0, setAt1, cup, isTy, Bool.false_eq_true, newL_f, newL_t, fin_rtk, List.nil_append, wipeE, Int.reduceNe, Int.reduceEq, Int.reduceLT, Int.reduceLE, Int.reduceAdd, Int.reduceSub, Int.reduceMul, Int.reduceNeg, Int.reduceGT, cmpop, k0, km, *]

theorem dig_132 {X : Int} (h : lt2 132 X) : -10000000000000000000000000000000000000000 < X ∧ X < 10000000000000000000000000000000000000000 := by
  have e : (2 : Nat) ^ 132 < 10000000000000000000000000000000000000000 := by decide +kernel
  unfold lt2 at h
  omega
theorem fits_en (k : Nat) {n : Nat} {q : Q4} {X Y Z : Int} (M : Mem) (h : En n q X Y Z) (hn : n ≤ 132) : callN prog W (k + 2) 26 [.tup [.int X, .int Y, .int Z], .int 10000000000000000000000000000000000000000] M = some (.bl true, M) := by
  obtain ⟨x1, x2⟩ := dig_132 (h.x.mono hn)
  obtain ⟨y1, y2⟩ := dig_132 (h.y.mono hn)
  obtain ⟨z1, z2⟩ := dig_132 (h.z.mono hn)
  exact fits_end_ok k M h.p x1 x2 y1 y2 z1 z2 h.y h.z (by omega)
theorem end_of_ok (k : Nat) {q : Q4} {X Y Z : Int} {n : Nat} (M : Mem) (hb : Bd n q) (hn : n ≤ 40) (ho : q.ok) (hl : La q) (h : En (3 * n + 4) q X Y Z) (he : ∀ k M, callN prog W (k + 4) 28 [q.pv] M = some (.tup [.int X, .int Y, .int Z], M)) : callN prog W (k + 7) 33 [q.pv] M = some (.tup [.int X, .int Y, .int Z], M) := by
  have f1 := fun k => need_last_ok k M hb (by omega) ho hl
  have f2 := fun k => he k M
  have f3 := fun k => fits_en k M h (by omega)
  have kd : k_DIGITS = .int 10000000000000000000000000000000000000000 := rfl
  rw [u_end_of_chain]
  unfold m_end_of_chain
  clear hb ho hl h he
  simp -implicitDefEqProofs only [execs, exec, eval, evals, evalI, conds, bnd_some, bnd_none, bifb_t, bifb_f, bifb_d, bifb_b, iff_t, iff_d, nxt_nx, nxt_rt, binop, cmpop, addOp_ii, addOp_tt, addOp_ll, subOp_ii, mulOp_ii, fdivOp_ii, modOp_ii, cmpI_ii, tru_bl, tru_int, absB_i, intB_i, asM_int, asM_bl, asM_tup, asM_false, isOp_n, isOp_bb, isNon_non, isNon_tup, isNon_int, isNon_bl, isNon_lst, isNon_ref, isNon_rol, isNon_str, isNon_fr, setAll_nil, setAll_cons, bindT_nm, bindT_tp, fin_rt, fin_nx, leave_same, bltOp, idx_tup0, idx_tup1, idx_tup2, idx_tup3, idx_lst0, idx_lst1, idx_lst2, idx_lst3, eqD_ii, eqD_bb, eqD_fr, Option.map_some, Option.map_none, Option.bind_some, List.getElem?_cons_zero, List.getElem?_cons_succ, List.set_cons_zero, List.set_cons_succ, List.length_cons, List.length_nil, if_true, if_false, decide_true, decide_false, Bool.not_true, Bool.not_false, decide_eq_true_eq, sizeL, Nat.reduceAdd, Nat.reduceLeDiff, Nat.zero_add, beq_self_eq_true, seqG_tup, seqG_lst, lenB_tup, lenB_lst, idx_cup0, idx_cup1, setAt0, setAt1, cup, isTy, Bool.false_eq_true, newL_f, newL_t, fin_rtk, List.nil_append, wipeE, Int.reduceNe, Int.reduceEq, Int.reduceLT, Int.reduceLE, Int.reduceAdd, Int.reduceSub, Int.reduceMul, Int.reduceNeg, Int.reduceGT, cmpop, kd, *]
theorem is_end_ok (k : Nat) {n : Nat} {q : Q4} {X Y Z : Int} (M : Mem) (h : En n q X Y Z) (hn : n ≤ 132) : callN prog W (k + 3) 36 [.tup [.int X, .int Y, .int Z]] M = some (.bl true, M) := by
  have f3 := fun k => fits_en k M h hn
  have kd : k_DIGITS = .int 10000000000000000000000000000000000000000 := rfl
  rw [u_is_end_number]
  unfold m_is_end_number
  clear h
  simp -implicitDefEqProofs only [execs, exec, eval, evals, evalI, conds, bnd_some, bnd_none, bifb_t, bifb_f, bifb_d, bifb_b, iff_t, iff_d, nxt_nx, nxt_rt, binop, cmpop, addOp_ii, addOp_tt, addOp_ll, subOp_ii, mulOp_ii, fdivOp_ii, modOp_ii, cmpI_ii, tru_bl, tru_int, absB_i, intB_i, asM_int, asM_bl, asM_tup, asM_false, isOp_n, isOp_bb, isNon_non, isNon_tup, isNon_int, isNon_bl, isNon_lst, isNon_ref, isNon_rol, isNon_str, isNon_fr, setAll_nil, setAll_cons, bindT_nm, bindT_tp, fin_rt, fin_nx, leave_same, bltOp, idx_tup0, idx_tup1, idx_tup2, idx_tup3, idx_lst0, idx_lst1, idx_lst2, idx_lst3, eqD_ii, eqD_bb, eqD_fr, Option.map_some, Option.map_none, Option.bind_some, List.getElem?_cons_zero, List.getElem?_cons_succ, List.set_cons_zero, List.set_cons_succ, List.length_cons, List.length_nil, if_true, if_false, decide_true, decide_false, Bool.not_true, Bool.not_false, decide_eq_true_eq, sizeL, Nat.reduceAdd, Nat.reduceLeDiff, Nat.zero_add, beq_self_eq_true, seqG_tup, seqG_lst, lenB_tup, lenB_lst, idx_cup0, idx_cup1, setAt0, setAt1, cup, isTy, Bool.false_eq_true, newL_f, newL_t, fin_rtk, List.nil_append, wipeE, Int.reduceNe, Int.reduceEq, Int.reduceLT, Int.reduceLE, Int.reduceAdd, Int.reduceSub, Int.reduceMul, Int.reduceNeg, Int.reduceGT, cmpop, kd, *]
theorem need_end_ok (k : Nat) {n : Nat} {q : Q4} {X Y Z : Int} (M : Mem) (h : En n q X Y Z) (hn : n ≤ 132) : callN prog W (k + 3) 27 [.tup [.int X, .int Y, .int Z]] M = some (.non, M) := by
  have f3 := fun k => fits_en k M h hn
  have kd : k_DIGITS = .int 10000000000000000000000000000000000000000 := rfl
  rw [u_need_end]
  unfold m_need_end
  clear h
  simp -implicitDefEqProofs only [execs, exec, eval, evals, evalI, conds, bnd_some, bnd_none, bifb_t, bifb_f, bifb_d, bifb_b, iff_t, iff_d, nxt_nx, nxt_rt, binop, cmpop, addOp_ii, addOp_tt, addOp_ll, subOp_ii, mulOp_ii, fdivOp_ii, modOp_ii, cmpI_ii, tru_bl, tru_int, absB_i, intB_i, asM_int, asM_bl, asM_tup, asM_false, isOp_n, isOp_bb, isNon_non, isNon_tup, isNon_int, isNon_bl, isNon_lst, isNon_ref, isNon_rol, isNon_str, isNon_fr, setAll_nil, setAll_cons, bindT_nm, bindT_tp, fin_rt, fin_nx, leave_same, bltOp, idx_tup0, idx_tup1, idx_tup2, idx_tup3, idx_lst0, idx_lst1, idx_lst2, idx_lst3, eqD_ii, eqD_bb, eqD_fr, Option.map_some, Option.map_none, Option.bind_some, List.getElem?_cons_zero, List.getElem?_cons_succ, List.set_cons_zero, List.set_cons_succ, List.length_cons, List.length_nil, if_true, if_false, decide_true, decide_false, Bool.not_true, Bool.not_false, decide_eq_true_eq, sizeL, Nat.reduceAdd, Nat.reduceLeDiff, Nat.zero_add, beq_self_eq_true, seqG_tup, seqG_lst, lenB_tup, lenB_lst, idx_cup0, idx_cup1, setAt0, setAt1, cup, isTy, Bool.false_eq_true, newL_f, newL_t, fin_rtk, List.nil_append, wipeE, Int.reduceNe, Int.reduceEq, Int.reduceLT, Int.reduceLE, Int.reduceAdd, Int.reduceSub, Int.reduceMul, Int.reduceNeg, Int.reduceGT, cmpop, kd, *]
theorem tab_1 : tabV tb_WORDS (.int 1) = some (.str "greater") := rfl
theorem tab_m : tabV tb_WORDS (.int (-1)) = some (.str "less") := rfl
theorem tab_0 : tabV tb_WORDS (.int 0) = some (.str "same") := rfl
theorem sgnI_n {n : Int} (h : n < 0) : sgnI n = -1 := by unfold sgnI; rw [decide_eq_false (by omega), decide_eq_true h]; rfl
theorem sgnI_p {n : Int} (h : 0 < n) : sgnI n = 1 := by unfold sgnI; rw [decide_eq_true h, decide_eq_false (by omega)]; rfl
theorem sgnI_0 : sgnI 0 = 0 := rfl
theorem beside_word (k : Nat) {n m : Nat} {q : Q4} {X Y Z : Int} {r : Rat} (M : Mem) (h : En n q X Y Z) (hn : n ≤ 132) (hr : sm m r) (hm : m ≤ 3000) (r0 : 0 < r.num) (r1 : r.num < 10000000000000000000000000000000000000000) (r2 : (r.den : Int) < 10000000000000000000000000000000000000000) (s : PySem.Str)
    (hs : (wf X Y Z r.num r.den < 0 ∧ s = "greater") ∨ (0 < wf X Y Z r.num r.den ∧ s = "less")) : callN prog W (k + 4) 37 [.tup [.int X, .int Y, .int Z], fr r] M = some (.str s, M) := by
  have f1 := fun k => need_end_ok k M h hn
  have f2 := fun k => need_frac_lt k M (q := r) (by omega) r1 r2
  have f3 := fun k => beside_ok k M h.x h.y h.z hr (by omega) hm r0
  have t1 := tab_1
  have t2 := tab_m
  have nn : -(-1 : Int) = 1 := rfl
  rw [u_end_beside]
  unfold m_end_beside
  generalize wf X Y Z r.num r.den = w at *
  clear h hr r0 r1 r2
  generalize tb_WORDS = tb at *
  rcases hs with ⟨hw, rfl⟩ | ⟨hw, rfl⟩
  · rw [sgnI_n hw] at f3
    rw [nn] at f3
    clear hw
    simp -implicitDefEqProofs only [execs, exec, eval, evals, evalI, conds, bnd_some, bnd_none, bifb_t, bifb_f, bifb_d, bifb_b, iff_t, iff_d, nxt_nx, nxt_rt, binop, cmpop, addOp_ii, addOp_tt, addOp_ll, subOp_ii, mulOp_ii, fdivOp_ii, modOp_ii, cmpI_ii, tru_bl, tru_int, absB_i, intB_i, asM_int, asM_bl, asM_tup, asM_false, isOp_n, isOp_bb, isNon_non, isNon_tup, isNon_int, isNon_bl, isNon_lst, isNon_ref, isNon_rol, isNon_str, isNon_fr, setAll_nil, setAll_cons, bindT_nm, bindT_tp, fin_rt, fin_nx, leave_same, bltOp, idx_tup0, idx_tup1, idx_tup2, idx_tup3, idx_lst0, idx_lst1, idx_lst2, idx_lst3, eqD_ii, eqD_bb, eqD_fr, Option.map_some, Option.map_none, Option.bind_some, List.getElem?_cons_zero, List.getElem?_cons_succ, List.set_cons_zero, List.set_cons_succ, List.length_cons, List.length_nil, if_true, if_false, decide_true, decide_false, Bool.not_true, Bool.not_false, decide_eq_true_eq, sizeL, Nat.reduceAdd, Nat.reduceLeDiff, Nat.zero_add, beq_self_eq_true, seqG_tup, seqG_lst, lenB_tup, lenB_lst, idx_cup0, idx_cup1, setAt0, setAt1, cup, isTy, Bool.false_eq_true, newL_f, newL_t, fin_rtk, List.nil_append, wipeE, Int.reduceNe, Int.reduceEq, Int.reduceLT, Int.reduceLE, Int.reduceAdd, Int.reduceSub, Int.reduceMul, Int.reduceNeg, Int.reduceGT, cmpop, *]
  · rw [sgnI_p hw] at f3
    clear hw
    simp -implicitDefEqProofs only [execs, exec, eval, evals, evalI, conds, bnd_some, bnd_none, bifb_t, bifb_f, bifb_d, bifb_b, iff_t, iff_d, nxt_nx, nxt_rt, binop, cmpop, addOp_ii, addOp_tt, addOp_ll, subOp_ii, mulOp_ii, fdivOp_ii, modOp_ii, cmpI_ii, tru_bl, tru_int, absB_i, intB_i, asM_int, asM_bl, asM_tup, asM_false, isOp_n, isOp_bb, isNon_non, isNon_tup, isNon_int, isNon_bl, isNon_lst, isNon_ref, isNon_rol, isNon_str, isNon_fr, setAll_nil, setAll_cons, bindT_nm, bindT_tp, fin_rt, fin_nx, leave_same, bltOp, idx_tup0, idx_tup1, idx_tup2, idx_tup3, idx_lst0, idx_lst1, idx_lst2, idx_lst3, eqD_ii, eqD_bb, eqD_fr, Option.map_some, Option.map_none, Option.bind_some, List.getElem?_cons_zero, List.getElem?_cons_succ, List.set_cons_zero, List.set_cons_succ, List.length_cons, List.length_nil, if_true, if_false, decide_true, decide_false, Bool.not_true, Bool.not_false, decide_eq_true_eq, sizeL, Nat.reduceAdd, Nat.reduceLeDiff, Nat.zero_add, beq_self_eq_true, seqG_tup, seqG_lst, lenB_tup, lenB_lst, idx_cup0, idx_cup1, setAt0, setAt1, cup, isTy, Bool.false_eq_true, newL_f, newL_t, fin_rtk, List.nil_append, wipeE, Int.reduceNe, Int.reduceEq, Int.reduceLT, Int.reduceLE, Int.reduceAdd, Int.reduceSub, Int.reduceMul, Int.reduceNeg, Int.reduceGT, cmpop, *]
/-! the bounds of many in a row -/
theorem low_facts49 {q : Q4} {n : Nat} {X Y Z : Int} {m : Nat} (hb : Bd n q) (hn : n ≤ 36) (ho : q.ok) (hl : La q) (h : En m q X Y Z) (t : Nat) (ht : t ≤ 5) :
    sm 500 (lowq q (t + 1)) ∧ sm 500 (highq q (t + 1)) ∧ 0 < lowq q (t + 1) ∧ 0 < highq q (t + 1) ∧ wf X Y Z (lowq q (t + 1)).num (lowq q (t + 1)).den < 0 ∧ 0 < wf X Y Z (highq q (t + 1)).num (highq q (t + 1)).den := by
  have bw := Bd_pow hb (t + 1)
  have hbl : (n + 1) * (t + 1) ≤ 37 * 6 := Nat.mul_le_mul (by omega) (by omega)
  have lw := La_pow hl t
  have ow := ok_pow ho (t + 1)
  have d0 : 0 < (powQ q (t + 1)).d := by have := lw.d; grind
  have a0 : 0 < (powQ q (t + 1)).a := by have := lw.a; grind
  have pos : ∀ {u v : Rat}, 0 < u → 0 < v → 0 < u / v := fun hu hv => by rw [Rat.div_def]; exact Rat.mul_pos hu (Rat.inv_pos.mpr hv)
  obtain ⟨q1, q2⟩ := qf_low ow (comm_pow q (t + 1))
  refine ⟨(sm_div bw.Sm.b bw.Sm.d (by grind)).mono (by omega), (sm_div bw.Sm.a bw.Sm.c (by have := lw.c; grind)).mono (by omega), pos lw.b d0, pos a0 lw.c, ?_, ?_⟩
  · refine (wf_neg h hl.c _).1.mpr ?_
    have s := qf_scale q (u := (powQ q (t + 1)).b) d0
    rw [q1] at s
    refine (sgn_scale (Rat.mul_pos d0 d0)).1.mp ?_
    show qf q (lowq q (t + 1)) 1 * _ < 0
    unfold lowq
    rw [s]
    have := hl.b
    grind
  · refine (wf_neg h hl.c _).2.1.mpr ?_
    have s := qf_scale q (u := (powQ q (t + 1)).a) lw.c
    rw [q2] at s
    refine (sgn_scale (Rat.mul_pos lw.c lw.c)).2.mp ?_
    show 0 < qf q (highq q (t + 1)) 1 * _
    unfold highq
    rw [s]
    exact hl.c
theorem cross_lt {u v u' v' : Rat} (hv : 0 < v) (hv' : 0 < v') (h : u * v' < u' * v) : u / v < u' / v' := by
  apply Classical.byContradiction
  intro z
  have z := Rat.not_lt.mp z
  have a1 : u / v * v = u := Rat.div_mul_cancel (by grind)
  have a2 : u' / v' * v' = u' := Rat.div_mul_cancel (by grind)
  have a3 := Rat.mul_le_mul_of_nonneg_right z (Rat.le_of_lt (Rat.mul_pos hv hv'))
  rw [show u' / v' * (v * v') = u' * v by rw [Rat.mul_comm v v', ← Rat.mul_assoc, a2], show u / v * (v * v') = u * v' by rw [← Rat.mul_assoc, a1]] at a3
  exact absurd h (Rat.not_lt.mpr a3)
theorem rise49 {q : Q4} (ho : q.ok) (hl : La q) (t : Nat) : lowq q (t + 1) < lowq q (t + 2) ∧ highq q (t + 2) < highq q (t + 1) := by
  have lw := La_pow hl t
  have lw' := La_pow hl (t + 1)
  have ow := ok_pow ho (t + 1)
  have e : powQ q (t + 2) = Q4.mul (powQ q (t + 1)) q := rfl
  have d0 : 0 < (powQ q (t + 1)).d := by have := lw.d; grind
  have d1 : 0 < (powQ q (t + 2)).d := by have := lw'.d; grind
  have eb : (powQ q (t + 2)).b = (powQ q (t + 1)).a * q.b + (powQ q (t + 1)).b * q.d := rfl
  have ed : (powQ q (t + 2)).d = (powQ q (t + 1)).c * q.b + (powQ q (t + 1)).d * q.d := rfl
  have ea : (powQ q (t + 2)).a = (powQ q (t + 1)).a * q.a + (powQ q (t + 1)).b * q.c := rfl
  have ec : (powQ q (t + 2)).c = (powQ q (t + 1)).c * q.a + (powQ q (t + 1)).d * q.c := rfl
  unfold Q4.ok at ow
  have b0 := hl.b
  have c0 := hl.c
  refine ⟨cross_lt d0 d1 ?_, cross_lt lw'.c lw.c ?_⟩
  · rw [eb, ed]
    generalize (powQ q (t + 1)).a = A at *
    generalize (powQ q (t + 1)).b = B at *
    generalize (powQ q (t + 1)).c = C at *
    generalize (powQ q (t + 1)).d = D at *
    have : (A * q.b + B * q.d) * D - B * (C * q.b + D * q.d) = q.b * (A * D - B * C) := by grind
    rw [ow] at this
    grind
  · rw [ea, ec]
    generalize (powQ q (t + 1)).a = A at *
    generalize (powQ q (t + 1)).b = B at *
    generalize (powQ q (t + 1)).c = C at *
    generalize (powQ q (t + 1)).d = D at *
    have : A * (C * q.a + D * q.c) - (A * q.a + B * q.c) * C = q.c * (A * D - B * C) := by grind
    rw [ow] at this
    grind

theorem maxB_4i (M : Mem) (a b c d : Int) : maxB M [.int a, .int b, .int c, .int d] = some (.int (max (max (max a b) c) d)) := rfl
def lastP (q : Q4) : Nat → PV
  | 0 => .non
  | t + 1 => .tup [fr (lowq q (t + 1)), fr (highq q (t + 1))]
def stepB : Ss := (Ss.cons (.set 9 (.call 49 (.cons (.var 9) (.cons (.var 1) .nil)))) (.cons (.asg (.tp [11, 12]) (.call 34 (.cons (.var 1) (.cons (.var 10) .nil)))) (.cons (.ite (.not (.call 42 (.cons (.lst false (.cons (.var 11) (.cons (.var 12) .nil))) (.cons (.lst false (.cons (.call 47 (.cons (.idx (.var 9) (.cst (.int (1)))) (.cons (.idx (.var 9) (.cst (.int (3)))) .nil))) (.cons (.call 47 (.cons (.idx (.var 9) (.cst (.int (0)))) (.cons (.idx (.var 9) (.cst (.int (2)))) .nil))) .nil))) .nil)))) (.cons (.ret (.cst (.bl false))) .nil) .nil) (.cons (.ite (.or (.cmp .ge (.call 56 (.cons (.var 7) (.cons (.var 11) .nil))) (.cst (.int (0)))) (.cmp .le (.call 56 (.cons (.var 7) (.cons (.var 12) .nil))) (.cst (.int (0))))) (.cons (.ret (.cst (.bl false))) .nil) .nil) (.cons (.ite (.and (.cmp .isn (.var 8) (.cst .non)) (.or (.not (.call 48 (.cons (.idx (.var 8) (.cst (.int (0)))) (.cons (.var 11) .nil)))) (.not (.call 48 (.cons (.var 12) (.cons (.idx (.var 8) (.cst (.int (1)))) .nil)))))) (.cons (.ret (.cst (.bl false))) .nil) .nil) (.cons (.set 8 (.tup (.cons (.var 11) (.cons (.var 12) .nil)))) (.cons (.ite (.and (.cmp .lt (.blt .max false (.cons (.idx (.var 11) (.cst (.int (0)))) (.cons (.idx (.var 11) (.cst (.int (1)))) (.cons (.idx (.var 12) (.cst (.int (0)))) (.cons (.idx (.var 12) (.cst (.int (1)))) .nil))))) (.bin .pow false (.cst (.int (10))) (.cst (.int (40))))) (.not (.call 42 (.cons (.lst false (.cons (.call 37 (.cons (.var 7) (.cons (.var 11) .nil))) (.cons (.call 37 (.cons (.var 7) (.cons (.var 12) .nil))) .nil))) (.cons (.lst false (.cons (.cst (.str "greater")) (.cons (.cst (.str "less")) .nil))) .nil))))) (.cons (.ret (.cst (.bl false))) .nil) .nil) .nil)))))))
theorem step49 (k : Nat) {q : Q4} {n : Nat} {X Y Z : Int} (M : Mem) (hb : Bd n q) (hn : n ≤ 36) (ho : q.ok) (hl : La q) (h : En (3 * n + 4) q X Y Z) (t : Nat) (ht : t ≤ 5) (o0 o2 o3 o4 o5 o6 o11 o12 o13 o14 o15 : Option PV) :
    execs (callN prog W (k + 20)) W stepB [o0, some q.pv, o2, o3, o4, o5, o6, some (.tup [.int X, .int Y, .int Z]), some (lastP q t), some (powQ q t).pv, some (.int ((t + 1 : Nat) : Int)), o11, o12, o13, o14, o15] M =
      some (.nx [o0, some q.pv, o2, o3, o4, o5, o6, some (.tup [.int X, .int Y, .int Z]), some (lastP q (t + 1)), some (powQ q (t + 1)).pv, some (.int ((t + 1 : Nat) : Int)), some (fr (lowq q (t + 1))), some (fr (highq q (t + 1))), o13, o14, o15] M) := by
  have hbl : (n + 1) * t ≤ 37 * 5 := Nat.mul_le_mul (by omega) (by omega)
  have hbl1 : (n + 1) * (t + 1) ≤ 37 * 6 := Nat.mul_le_mul (by omega) (by omega)
  have j : ∀ k, callN prog W (k + 3) 49 [(powQ q t).pv, q.pv] M = some ((powQ q (t + 1)).pv, M) := fun k => ql_join k M (Bd_pow hb t).Sm hb.Sm (by omega)
  have bo := fun k => bounds_ok k M hb hn ho hl t ht
  have bw := Bd_pow hb (t + 1)
  have lw := La_pow hl t
  have v1 : ∀ k, callN prog W (k + 2) 47 [fr (powQ q (t + 1)).b, fr (powQ q (t + 1)).d] M = some (fr (lowq q (t + 1)), M) := fun k => l_over_ok k M bw.Sm.b bw.Sm.d (by omega) (by have := lw.d; grind)
  have v2 : ∀ k, callN prog W (k + 2) 47 [fr (powQ q (t + 1)).a, fr (powQ q (t + 1)).c] M = some (fr (highq q (t + 1)), M) := fun k => l_over_ok k M bw.Sm.a bw.Sm.c (by omega) (by have := lw.c; grind)
  obtain ⟨s1, s2, l0, h0, w1, w2⟩ := low_facts49 hb hn ho hl h t ht
  have u1 := fun k => worth_ok k M h.x h.y h.z s1 (by omega) (by omega)
  have u2 := fun k => worth_ok k M h.x h.y h.z s2 (by omega) (by omega)
  have e1 := fun k c1 c2 => beside_word k M h (by omega) s1 (by omega) (rnum_pos.mpr l0) c1 c2 "greater" (.inl ⟨w1, rfl⟩)
  have e2 := fun k c1 c2 => beside_word k M h (by omega) s2 (by omega) (rnum_pos.mpr h0) c1 c2 "less" (.inr ⟨w2, rfl⟩)
  have i0 : ∀ M, idxOp M (powQ q (t + 1)).pv (.int 0) = some (fr (powQ q (t + 1)).a) := fun M => idx_tup0 _ _ _
  have i1 : ∀ M, idxOp M (powQ q (t + 1)).pv (.int 1) = some (fr (powQ q (t + 1)).b) := fun M => idx_tup1 _ _ _ _
  have i2 : ∀ M, idxOp M (powQ q (t + 1)).pv (.int 2) = some (fr (powQ q (t + 1)).c) := fun M => idx_tup2 _ _ _ _ _
  have i3 : ∀ M, idxOp M (powQ q (t + 1)).pv (.int 3) = some (fr (powQ q (t + 1)).d) := fun M => idx_tup3 _ _ _ _ _ _
  have eL : lastP q (t + 1) = .tup [fr (lowq q (t + 1)), fr (highq q (t + 1))] := rfl
  have lk := fun k => like_ok k (.lst [fr (lowq q (t + 1)), fr (highq q (t + 1))]) M rfl (Nat.le_of_ble_eq_true rfl)
  have ls := fun k => like_ok k (.lst [.str "greater", .str "less"]) M (by decide +kernel) (Nat.le_of_ble_eq_true rfl)
  have mx := maxB_4i M (lowq q (t + 1)).num (lowq q (t + 1)).den (highq q (t + 1)).num (highq q (t + 1)).den
  have p40 : powOp (.int 10) (.int 40) = some (.int 10000000000000000000000000000000000000000) := by rfl
  have pr : ∀ p : Rat × Rat, lastP q t = .non ∨ ∃ a b, lastP q t = .tup [fr a, fr b] ∧ (∀ k, callN prog W (k + 1) 48 [fr a, fr (lowq q (t + 1))] M = some (.bl true, M)) ∧ ∀ k, callN prog W (k + 1) 48 [fr (highq q (t + 1)), fr b] M = some (.bl true, M) := fun _ => by
    cases t with
    | zero => exact .inl rfl
    | succ t =>
      obtain ⟨s3, s4, -, -, -, -⟩ := low_facts49 hb hn ho hl h t (by omega)
      obtain ⟨r1, r2⟩ := rise49 ho hl t
      refine .inr ⟨_, _, rfl, fun k => ?_, fun k => ?_⟩
      · rw [l_under_ok k M s3 s1 (by omega), decide_eq_true r1]
      · rw [l_under_ok k M s2 s4 (by omega), decide_eq_true r2]
  have pr := pr (0, 0)
  have b11 : ∀ (a b : PV) (e : Env), bindT (.tp [11, 12]) (.tup [a, b]) e = some ((e.set 11 (some a)).set 12 (some b)) := fun a b e => rfl
  rw [eL]
  unfold stepB
  generalize lowq q (t + 1) = l at *
  generalize highq q (t + 1) = hh at *
  generalize (powQ q (t + 1)).pv = wp at *
  generalize (powQ q t).pv = wp0 at *
  generalize (powQ q (t + 1)).a = wa at *
  generalize (powQ q (t + 1)).b = wb at *
  generalize (powQ q (t + 1)).c = wc at *
  generalize (powQ q (t + 1)).d = wd at *
  generalize lastP q t = la at *
  generalize ((t + 1 : Nat) : Int) = tt at *
  have w1' : ¬ (0 : Int) ≤ wf X Y Z l.num l.den := by omega
  have w2' : ¬ wf X Y Z hh.num hh.den ≤ 0 := by omega
  generalize wf X Y Z l.num l.den = wx at *
  generalize wf X Y Z hh.num hh.den = wy at *
  generalize hmx : max (max (max l.num (l.den : Int)) hh.num) (hh.den : Int) = mm at *
  have pos1 := l.den_pos
  have pos2 := hh.den_pos
  by_cases hm : mm < 10000000000000000000000000000000000000000
  · have e1 := fun k => e1 k (by omega) (by omega)
    have e2 := fun k => e2 k (by omega) (by omega)
    clear hb ho hl h bw lw s1 s2 l0 h0 w1 w2 hbl hbl1 hmx eL pos1 pos2
    rcases pr with rfl | ⟨a, b, rfl, g1, g2⟩
    · simp -implicitDefEqProofs only [execs, exec, eval, evals, evalI, conds, bnd_some, bnd_none, bifb_t, bifb_f, bifb_d, bifb_b, iff_t, iff_d, nxt_nx, nxt_rt, binop, cmpop, addOp_ii, addOp_tt, addOp_ll, subOp_ii, mulOp_ii, fdivOp_ii, modOp_ii, cmpI_ii, tru_bl, tru_int, absB_i, intB_i, asM_int, asM_bl, asM_tup, asM_false, isOp_n, isOp_bb, isNon_non, isNon_tup, isNon_int, isNon_bl, isNon_lst, isNon_ref, isNon_rol, isNon_str, isNon_fr, setAll_nil, setAll_cons, bindT_nm, bindT_tp, fin_rt, fin_nx, leave_same, bltOp, idx_tup0, idx_tup1, idx_tup2, idx_tup3, idx_lst0, idx_lst1, idx_lst2, idx_lst3, eqD_ii, eqD_bb, eqD_fr, Option.map_some, Option.map_none, Option.bind_some, List.getElem?_cons_zero, List.getElem?_cons_succ, List.set_cons_zero, List.set_cons_succ, List.length_cons, List.length_nil, if_true, if_false, decide_true, decide_false, Bool.not_true, Bool.not_false, decide_eq_true_eq, sizeL, Nat.reduceAdd, Nat.reduceLeDiff, Nat.zero_add, beq_self_eq_true, seqG_tup, seqG_lst, lenB_tup, lenB_lst, idx_cup0, idx_cup1, setAt0, setAt1, cup, isTy, Bool.false_eq_true, newL_f, newL_t, fin_rtk, List.nil_append, wipeE, Int.reduceNe, Int.reduceEq, Int.reduceLT, Int.reduceLE, Int.reduceAdd, Int.reduceSub, Int.reduceMul, Int.reduceNeg, Int.reduceGT, idx_fr0, idx_fr1, cmpop, ge_iff_le, *]
    · simp -implicitDefEqProofs only [execs, exec, eval, evals, evalI, conds, bnd_some, bnd_none, bifb_t, bifb_f, bifb_d, bifb_b, iff_t, iff_d, nxt_nx, nxt_rt, binop, cmpop, addOp_ii, addOp_tt, addOp_ll, subOp_ii, mulOp_ii, fdivOp_ii, modOp_ii, cmpI_ii, tru_bl, tru_int, absB_i, intB_i, asM_int, asM_bl, asM_tup, asM_false, isOp_n, isOp_bb, isNon_non, isNon_tup, isNon_int, isNon_bl, isNon_lst, isNon_ref, isNon_rol, isNon_str, isNon_fr, setAll_nil, setAll_cons, bindT_nm, bindT_tp, fin_rt, fin_nx, leave_same, bltOp, idx_tup0, idx_tup1, idx_tup2, idx_tup3, idx_lst0, idx_lst1, idx_lst2, idx_lst3, eqD_ii, eqD_bb, eqD_fr, Option.map_some, Option.map_none, Option.bind_some, List.getElem?_cons_zero, List.getElem?_cons_succ, List.set_cons_zero, List.set_cons_succ, List.length_cons, List.length_nil, if_true, if_false, decide_true, decide_false, Bool.not_true, Bool.not_false, decide_eq_true_eq, sizeL, Nat.reduceAdd, Nat.reduceLeDiff, Nat.zero_add, beq_self_eq_true, seqG_tup, seqG_lst, lenB_tup, lenB_lst, idx_cup0, idx_cup1, setAt0, setAt1, cup, isTy, Bool.false_eq_true, newL_f, newL_t, fin_rtk, List.nil_append, wipeE, Int.reduceNe, Int.reduceEq, Int.reduceLT, Int.reduceLE, Int.reduceAdd, Int.reduceSub, Int.reduceMul, Int.reduceNeg, Int.reduceGT, idx_fr0, idx_fr1, cmpop, ge_iff_le, *]
  · clear e1 e2 hb ho hl h bw lw s1 s2 l0 h0 w1 w2 hbl hbl1 hmx eL pos1 pos2
    rcases pr with rfl | ⟨a, b, rfl, g1, g2⟩
    · simp -implicitDefEqProofs only [execs, exec, eval, evals, evalI, conds, bnd_some, bnd_none, bifb_t, bifb_f, bifb_d, bifb_b, iff_t, iff_d, nxt_nx, nxt_rt, binop, cmpop, addOp_ii, addOp_tt, addOp_ll, subOp_ii, mulOp_ii, fdivOp_ii, modOp_ii, cmpI_ii, tru_bl, tru_int, absB_i, intB_i, asM_int, asM_bl, asM_tup, asM_false, isOp_n, isOp_bb, isNon_non, isNon_tup, isNon_int, isNon_bl, isNon_lst, isNon_ref, isNon_rol, isNon_str, isNon_fr, setAll_nil, setAll_cons, bindT_nm, bindT_tp, fin_rt, fin_nx, leave_same, bltOp, idx_tup0, idx_tup1, idx_tup2, idx_tup3, idx_lst0, idx_lst1, idx_lst2, idx_lst3, eqD_ii, eqD_bb, eqD_fr, Option.map_some, Option.map_none, Option.bind_some, List.getElem?_cons_zero, List.getElem?_cons_succ, List.set_cons_zero, List.set_cons_succ, List.length_cons, List.length_nil, if_true, if_false, decide_true, decide_false, Bool.not_true, Bool.not_false, decide_eq_true_eq, sizeL, Nat.reduceAdd, Nat.reduceLeDiff, Nat.zero_add, beq_self_eq_true, seqG_tup, seqG_lst, lenB_tup, lenB_lst, idx_cup0, idx_cup1, setAt0, setAt1, cup, isTy, Bool.false_eq_true, newL_f, newL_t, fin_rtk, List.nil_append, wipeE, Int.reduceNe, Int.reduceEq, Int.reduceLT, Int.reduceLE, Int.reduceAdd, Int.reduceSub, Int.reduceMul, Int.reduceNeg, Int.reduceGT, idx_fr0, idx_fr1, cmpop, ge_iff_le, *]
    · simp -implicitDefEqProofs only [execs, exec, eval, evals, evalI, conds, bnd_some, bnd_none, bifb_t, bifb_f, bifb_d, bifb_b, iff_t, iff_d, nxt_nx, nxt_rt, binop, cmpop, addOp_ii, addOp_tt, addOp_ll, subOp_ii, mulOp_ii, fdivOp_ii, modOp_ii, cmpI_ii, tru_bl, tru_int, absB_i, intB_i, asM_int, asM_bl, asM_tup, asM_false, isOp_n, isOp_bb, isNon_non, isNon_tup, isNon_int, isNon_bl, isNon_lst, isNon_ref, isNon_rol, isNon_str, isNon_fr, setAll_nil, setAll_cons, bindT_nm, bindT_tp, fin_rt, fin_nx, leave_same, bltOp, idx_tup0, idx_tup1, idx_tup2, idx_tup3, idx_lst0, idx_lst1, idx_lst2, idx_lst3, eqD_ii, eqD_bb, eqD_fr, Option.map_some, Option.map_none, Option.bind_some, List.getElem?_cons_zero, List.getElem?_cons_succ, List.set_cons_zero, List.set_cons_succ, List.length_cons, List.length_nil, if_true, if_false, decide_true, decide_false, Bool.not_true, Bool.not_false, decide_eq_true_eq, sizeL, Nat.reduceAdd, Nat.reduceLeDiff, Nat.zero_add, beq_self_eq_true, seqG_tup, seqG_lst, lenB_tup, lenB_lst, idx_cup0, idx_cup1, setAt0, setAt1, cup, isTy, Bool.false_eq_true, newL_f, newL_t, fin_rtk, List.nil_append, wipeE, Int.reduceNe, Int.reduceEq, Int.reduceLT, Int.reduceLE, Int.reduceAdd, Int.reduceSub, Int.reduceMul, Int.reduceNeg, Int.reduceGT, idx_fr0, idx_fr1, cmpop, ge_iff_le, *]
theorem steps49 (k : Nat) {q : Q4} {n : Nat} {X Y Z : Int} (M : Mem) (hb : Bd n q) (hn : n ≤ 36) (ho : q.ok) (hl : La q) (h : En (3 * n + 4) q X Y Z) (o0 o2 o3 o4 o5 o6 o13 o14 o15 : Option PV) : ∀ (m t : Nat), t + m ≤ 6 → ∀ (o10 o11 o12 : Option PV), ∃ o8 o9 o10' o11' o12',
    forL (.nm 10) [] (execs (callN prog W (k + 20)) W stepB) (rngI ((t + 1 : Nat) : Int) m) [o0, some q.pv, o2, o3, o4, o5, o6, some (.tup [.int X, .int Y, .int Z]), some (lastP q t), some (powQ q t).pv, o10, o11, o12, o13, o14, o15] M =
      some (.nx [o0, some q.pv, o2, o3, o4, o5, o6, some (.tup [.int X, .int Y, .int Z]), o8, o9, o10', o11', o12', o13, o14, o15] M)
  | 0, t, _, o10, o11, o12 => ⟨_, _, _, _, _, forL_n⟩
  | m + 1, t, hm, o10, o11, o12 => by
    have e1 := step49 k M hb hn ho hl h t (by omega) o0 o2 o3 o4 o5 o6 o11 o12 o13 o14 o15
    obtain ⟨o8, o9, a, b, c, e⟩ := steps49 k M hb hn ho hl h o0 o2 o3 o4 o5 o6 o13 o14 o15 m (t + 1) (by omega) (some (.int ((t + 1 : Nat) : Int))) (some (fr (lowq q (t + 1)))) (some (fr (highq q (t + 1))))
    refine ⟨o8, o9, a, b, c, ?_⟩
    have er : rngI ((t + 1 : Nat) : Int) (m + 1) = .int ((t + 1 : Nat) : Int) :: rngI ((t + 1 + 1 : Nat) : Int) m := by
      show .int ((t + 1 : Nat) : Int) :: rngI (((t + 1 : Nat) : Int) + 1) m = _
      rfl
    rw [er, forL_c, bindT_nm, Option.bind_some]
    show nxt (execs (callN prog W (k + 20)) W stepB [o0, some q.pv, o2, o3, o4, o5, o6, some (.tup [.int X, .int Y, .int Z]), some (lastP q t), some (powQ q t).pv, some (.int ((t + 1 : Nat) : Int)), o11, o12, o13, o14, o15] M) _ = _
    rw [e1, nxt_nx]
    exact e

theorem is_chain_q (k : Nat) {x : Q4} (M : Mem) {n : Nat} (h : Bd n x) (hn : n ≤ 131) (ho : x.ok) : callN prog W (k + 5) 21 [x.pv] M = some (.bl true, M) := by
  have f := fun k => fits_q k M h hn ho
  clear h ho
  rw [u_is_chain]
  unfold m_is_chain
  walk_at "evf"
theorem right49 (k n : Nat) {x y : Int} (T : Mem) (h : CupB x y) (q : Q4) (hb : Bd n q) (hn : n ≤ 36) (ho : q.ok) :
    ∃ x' y', callN prog W (k + 25) 57 [.ref 0, q.pv] (cup x y :: T) = some (.bl true, cup x' y' :: T) ∧ CupB x' y' := by
  obtain ⟨g, hg⟩ : ∃ g : Bool, g = (!decide (q.a < 1) && (!decide (q.d < 1) && (decide (0 < q.b.num) && decide (0 < q.c.num)))) := ⟨_, rfl⟩
  have f1 := fun k M => is_chain_q k M hb (by omega) ho
  have f2 := fun k M => (is_last_ok 0 M hb (by omega) ho g hg).2 k
  have u1 := fun k M => l_under_ok k M hb.Sm.a (sm_1 1 (by decide)) (by omega)
  have u2 := fun k M => l_under_ok k M hb.Sm.d (sm_1 1 (by decide)) (by omega)
  have i1 : ∀ M, idxOp M (fr q.b) (.int 0) = some (.int q.b.num) := fun M => idx_fr0 M q.b
  have i2 : ∀ M, idxOp M (fr q.c) (.int 0) = some (.int q.c.num) := fun M => idx_fr0 M q.c
  have bd : ∀ e : Env, bindT (.tp [2, 3, 4, 5]) q.pv e = some (setAll e [2, 3, 4, 5] [fr q.a, fr q.b, fr q.c, fr q.d]) := fun e => rfl
  have lg := fun k M => like_ok k (.lst [.bl true, .bl g]) M rfl (Nat.le_of_ble_eq_true rfl)
  have gE : ∀ (k : Nat) (M : Mem) (o0 o1 o6 o7 o8 o9 o10 o11 o12 o13 o14 o15 : Option PV), eval (callN prog W (k + 24)) (.and (.not (.call 48 (.cons (.var 2) (.cons (.tup (.cons (.cst (.int (1))) (.cons (.cst (.int (1))) .nil))) .nil)))) (.and (.not (.call 48 (.cons (.var 5) (.cons (.tup (.cons (.cst (.int (1))) (.cons (.cst (.int (1))) .nil))) .nil)))) (.and (.cmp .gt (.idx (.var 3) (.cst (.int (0)))) (.cst (.int (0)))) (.cmp .gt (.idx (.var 4) (.cst (.int (0)))) (.cst (.int (0))))))) [o0, o1, some (fr q.a), some (fr q.b), some (fr q.c), some (fr q.d), o6, o7, o8, o9, o10, o11, o12, o13, o14, o15] M = some (.bl g, M) := fun k M o0 o1 o6 o7 o8 o9 o10 o11 o12 o13 o14 o15 => by
    have u1 := fun k => u1 k M
    have u2 := fun k => u2 k M
    subst hg
    clear f1 f2 lg hb ho bd
    generalize q.a = qa at *
    generalize q.b = qb at *
    generalize q.c = qc at *
    generalize q.d = qd at *
    by_cases h1 : qa < 1
    · rw [decide_eq_true h1] at *
      walk_at "evg"
      try rfl
    · rw [decide_eq_false h1] at *
      by_cases h2 : qd < 1
      · rw [decide_eq_true h2] at *
        walk_at "evg"
        try rfl
      · rw [decide_eq_false h2] at *
        by_cases h3 : 0 < qb.num
        · by_cases h4 : 0 < qc.num
          · simp -implicitDefEqProofs only [execs, exec, eval, evals, evalI, conds, bnd_some, bnd_none, bifb_t, bifb_f, bifb_d, bifb_b, iff_t, iff_d, nxt_nx, nxt_rt, binop, cmpop, addOp_ii, addOp_tt, addOp_ll, subOp_ii, mulOp_ii, fdivOp_ii, modOp_ii, cmpI_ii, tru_bl, tru_int, absB_i, intB_i, asM_int, asM_bl, asM_tup, asM_false, isOp_n, isOp_bb, isNon_non, isNon_tup, isNon_int, isNon_bl, isNon_lst, isNon_ref, isNon_rol, isNon_str, isNon_fr, setAll_nil, setAll_cons, bindT_nm, bindT_tp, fin_rt, fin_nx, leave_same, bltOp, idx_tup0, idx_tup1, idx_tup2, idx_tup3, idx_lst0, idx_lst1, idx_lst2, idx_lst3, eqD_ii, eqD_bb, eqD_fr, Option.map_some, Option.map_none, Option.bind_some, List.getElem?_cons_zero, List.getElem?_cons_succ, List.set_cons_zero, List.set_cons_succ, List.length_cons, List.length_nil, if_true, if_false, decide_true, decide_false, Bool.not_true, Bool.not_false, decide_eq_true_eq, sizeL, Nat.reduceAdd, Nat.reduceLeDiff, Nat.zero_add, beq_self_eq_true, seqG_tup, seqG_lst, lenB_tup, lenB_lst, idx_cup0, idx_cup1, setAt0, setAt1, cup, isTy, Bool.false_eq_true, newL_f, newL_t, fin_rtk, List.nil_append, wipeE, Int.reduceNe, Int.reduceEq, Int.reduceLT, Int.reduceLE, Int.reduceAdd, Int.reduceSub, Int.reduceMul, Int.reduceNeg, Int.reduceGT, fr_1', idx_fr0, idx_fr1, cmpop, gt_iff_lt, Bool.true_and, *]
          · simp -implicitDefEqProofs only [execs, exec, eval, evals, evalI, conds, bnd_some, bnd_none, bifb_t, bifb_f, bifb_d, bifb_b, iff_t, iff_d, nxt_nx, nxt_rt, binop, cmpop, addOp_ii, addOp_tt, addOp_ll, subOp_ii, mulOp_ii, fdivOp_ii, modOp_ii, cmpI_ii, tru_bl, tru_int, absB_i, intB_i, asM_int, asM_bl, asM_tup, asM_false, isOp_n, isOp_bb, isNon_non, isNon_tup, isNon_int, isNon_bl, isNon_lst, isNon_ref, isNon_rol, isNon_str, isNon_fr, setAll_nil, setAll_cons, bindT_nm, bindT_tp, fin_rt, fin_nx, leave_same, bltOp, idx_tup0, idx_tup1, idx_tup2, idx_tup3, idx_lst0, idx_lst1, idx_lst2, idx_lst3, eqD_ii, eqD_bb, eqD_fr, Option.map_some, Option.map_none, Option.bind_some, List.getElem?_cons_zero, List.getElem?_cons_succ, List.set_cons_zero, List.set_cons_succ, List.length_cons, List.length_nil, if_true, if_false, decide_true, decide_false, Bool.not_true, Bool.not_false, decide_eq_true_eq, sizeL, Nat.reduceAdd, Nat.reduceLeDiff, Nat.zero_add, beq_self_eq_true, seqG_tup, seqG_lst, lenB_tup, lenB_lst, idx_cup0, idx_cup1, setAt0, setAt1, cup, isTy, Bool.false_eq_true, newL_f, newL_t, fin_rtk, List.nil_append, wipeE, Int.reduceNe, Int.reduceEq, Int.reduceLT, Int.reduceLE, Int.reduceAdd, Int.reduceSub, Int.reduceMul, Int.reduceNeg, Int.reduceGT, fr_1', idx_fr0, idx_fr1, cmpop, gt_iff_lt, Bool.true_and, *]
        · simp -implicitDefEqProofs only [execs, exec, eval, evals, evalI, conds, bnd_some, bnd_none, bifb_t, bifb_f, bifb_d, bifb_b, iff_t, iff_d, nxt_nx, nxt_rt, binop, cmpop, addOp_ii, addOp_tt, addOp_ll, subOp_ii, mulOp_ii, fdivOp_ii, modOp_ii, cmpI_ii, tru_bl, tru_int, absB_i, intB_i, asM_int, asM_bl, asM_tup, asM_false, isOp_n, isOp_bb, isNon_non, isNon_tup, isNon_int, isNon_bl, isNon_lst, isNon_ref, isNon_rol, isNon_str, isNon_fr, setAll_nil, setAll_cons, bindT_nm, bindT_tp, fin_rt, fin_nx, leave_same, bltOp, idx_tup0, idx_tup1, idx_tup2, idx_tup3, idx_lst0, idx_lst1, idx_lst2, idx_lst3, eqD_ii, eqD_bb, eqD_fr, Option.map_some, Option.map_none, Option.bind_some, List.getElem?_cons_zero, List.getElem?_cons_succ, List.set_cons_zero, List.set_cons_succ, List.length_cons, List.length_nil, if_true, if_false, decide_true, decide_false, Bool.not_true, Bool.not_false, decide_eq_true_eq, sizeL, Nat.reduceAdd, Nat.reduceLeDiff, Nat.zero_add, beq_self_eq_true, seqG_tup, seqG_lst, lenB_tup, lenB_lst, idx_cup0, idx_cup1, setAt0, setAt1, cup, isTy, Bool.false_eq_true, newL_f, newL_t, fin_rtk, List.nil_append, wipeE, Int.reduceNe, Int.reduceEq, Int.reduceLT, Int.reduceLE, Int.reduceAdd, Int.reduceSub, Int.reduceMul, Int.reduceNeg, Int.reduceGT, fr_1', idx_fr0, idx_fr1, cmpop, gt_iff_lt, Bool.true_and, Bool.false_and, *]
  have hlv := fun (c : Cell) => leave_cup c (.bl true) T
  cases hgv : g with
  | false =>
    rw [hgv] at f2 lg gE
    refine ⟨x, y, ?_, h⟩
    rw [u__law_right]
    unfold m__law_right
    generalize (Ss.cons (.set 9 (.call 49 (.cons (.var 9) (.cons (.var 1) .nil)))) (.cons (.asg (.tp [11, 12]) (.call 34 (.cons (.var 1) (.cons (.var 10) .nil)))) (.cons (.ite (.not (.call 42 (.cons (.lst false (.cons (.var 11) (.cons (.var 12) .nil))) (.cons (.lst false (.cons (.call 47 (.cons (.idx (.var 9) (.cst (.int (1)))) (.cons (.idx (.var 9) (.cst (.int (3)))) .nil))) (.cons (.call 47 (.cons (.idx (.var 9) (.cst (.int (0)))) (.cons (.idx (.var 9) (.cst (.int (2)))) .nil))) .nil))) .nil)))) (.cons (.ret (.cst (.bl false))) .nil) .nil) (.cons (.ite (.or (.cmp .ge (.call 56 (.cons (.var 7) (.cons (.var 11) .nil))) (.cst (.int (0)))) (.cmp .le (.call 56 (.cons (.var 7) (.cons (.var 12) .nil))) (.cst (.int (0))))) (.cons (.ret (.cst (.bl false))) .nil) .nil) (.cons (.ite (.and (.cmp .isn (.var 8) (.cst .non)) (.or (.not (.call 48 (.cons (.idx (.var 8) (.cst (.int (0)))) (.cons (.var 11) .nil)))) (.not (.call 48 (.cons (.var 12) (.cons (.idx (.var 8) (.cst (.int (1)))) .nil)))))) (.cons (.ret (.cst (.bl false))) .nil) .nil) (.cons (.set 8 (.tup (.cons (.var 11) (.cons (.var 12) .nil)))) (.cons (.ite (.and (.cmp .lt (.blt .max false (.cons (.idx (.var 11) (.cst (.int (0)))) (.cons (.idx (.var 11) (.cst (.int (1)))) (.cons (.idx (.var 12) (.cst (.int (0)))) (.cons (.idx (.var 12) (.cst (.int (1)))) .nil))))) (.bin .pow false (.cst (.int (10))) (.cst (.int (40))))) (.not (.call 42 (.cons (.lst false (.cons (.call 37 (.cons (.var 7) (.cons (.var 11) .nil))) (.cons (.call 37 (.cons (.var 7) (.cons (.var 12) .nil))) .nil))) (.cons (.lst false (.cons (.cst (.str "greater")) (.cons (.cst (.str "less")) .nil))) .nil))))) (.cons (.ret (.cst (.bl false))) .nil) .nil) .nil))))))) = sB at *
    generalize (E.and (.not (.call 48 (.cons (.var 2) (.cons (.tup (.cons (.cst (.int (1))) (.cons (.cst (.int (1))) .nil))) .nil)))) (.and (.not (.call 48 (.cons (.var 5) (.cons (.tup (.cons (.cst (.int (1))) (.cons (.cst (.int (1))) .nil))) .nil)))) (.and (.cmp .gt (.idx (.var 3) (.cst (.int (0)))) (.cst (.int (0)))) (.cmp .gt (.idx (.var 4) (.cst (.int (0)))) (.cst (.int (0))))))) = ge at *
    have hl2 := hlv (cup x y)
    clear hb ho hg hgv u1 u2 h hlv
    generalize q.pv = qp at *
    simp -implicitDefEqProofs only [execs, exec, eval, evals, evalI, conds, bnd_some, bnd_none, bifb_t, bifb_f, bifb_d, bifb_b, iff_t, iff_d, nxt_nx, nxt_rt, binop, cmpop, addOp_ii, addOp_tt, addOp_ll, subOp_ii, mulOp_ii, fdivOp_ii, modOp_ii, cmpI_ii, tru_bl, tru_int, absB_i, intB_i, asM_int, asM_bl, asM_tup, asM_false, isOp_n, isOp_bb, isNon_non, isNon_tup, isNon_int, isNon_bl, isNon_lst, isNon_ref, isNon_rol, isNon_str, isNon_fr, setAll_nil, setAll_cons, bindT_nm, bindT_tp, fin_rt, fin_nx, leave_same, bltOp, idx_tup0, idx_tup1, idx_tup2, idx_tup3, idx_lst0, idx_lst1, idx_lst2, idx_lst3, eqD_ii, eqD_bb, eqD_fr, Option.map_some, Option.map_none, Option.bind_some, List.getElem?_cons_zero, List.getElem?_cons_succ, List.set_cons_zero, List.set_cons_succ, List.length_cons, List.length_nil, if_true, if_false, decide_true, decide_false, Bool.not_true, Bool.not_false, decide_eq_true_eq, sizeL, Nat.reduceAdd, Nat.reduceLeDiff, Nat.zero_add, beq_self_eq_true, seqG_tup, seqG_lst, lenB_tup, lenB_lst, idx_cup0, idx_cup1, setAt0, setAt1, cup, isTy, Bool.false_eq_true, newL_f, newL_t, fin_rtk, List.nil_append, wipeE, Int.reduceNe, Int.reduceEq, Int.reduceLT, Int.reduceLE, Int.reduceAdd, Int.reduceSub, Int.reduceMul, Int.reduceNeg, Int.reduceGT, cmpop, *]
  | true =>
    have hl : La q := good_La (hg ▸ hgv)
    rw [hgv] at f2 lg gE
    obtain ⟨X, Y, Z, en, e1, e2⟩ := end_both q hb (by omega) hl.b hl.c
    have t1 := fun k M => is_told_chain_ok k M (hb.Sm.w (m := 132) (by omega)) ho
    simp only [decide_eq_true hl.told] at t1
    have t1 : ∀ k M, callN prog W (k + 6) 23 [q.pv] M = some (.bl true, M) := t1
    have g1 := fun k M => end_of_ok k M hb (by omega) ho hl en e1
    have g2 := fun k M => is_end_ok k M en (by omega)
    have lk := fun k M => like_ok k (.lst [.tup [.int X, .int Y, .int Z], .bl true]) M rfl (Nat.le_of_ble_eq_true rfl)
    obtain ⟨r1, x1, y1, d1, c1, p1, q1⟩ := roll_ok (k + 23) (many := 4) T h (by omega) (lt2.mono (n := 4) (by unfold lt2; decide) (by decide))
    obtain ⟨r2, x2, y2, d2, c2, p2, q2⟩ := roll_ok (k + 23) (many := 40) T c1 (by omega) (lt2.mono (n := 6) (by unfold lt2; decide) (by decide))
    obtain ⟨r3, x3, y3, d3, c3, p3, q3⟩ := roll_ok (k + 23) (many := 20) T c2 (by omega) (lt2.mono (n := 6) (by unfold lt2; decide) (by decide))
    have d4 := l_least_ok (k + 23) (1 + r2) (1 + r3) (cup x3 y3 :: T) (n := 6) (lt2_of (m := 21) (by omega) (by decide)) (by omega) (by decide)
    have nq : nb 40 (Rat.divInt (1 + r2) (1 + r3)) := low_nb (by omega) (by omega) (by omega)
    have np : 0 < Rat.divInt (1 + r2) (1 + r3) := by
      rw [Rat.divInt_eq_div, Rat.div_def]
      refine Rat.mul_pos ?_ (Rat.inv_pos.mpr ?_)
      · exact_mod_cast (show (0 : Int) < 1 + r2 by omega)
      · exact_mod_cast (show (0 : Int) < 1 + r3 by omega)
    generalize Rat.divInt (1 + r2) (1 + r3) = p at *
    have sp : sm 6 p := nq.sm (by decide)
    have v0 : 0 < q.c * p + q.d := by
      have a1 := Rat.mul_pos hl.c np
      have a2 := hl.d
      grind
    have sA := sm_add (sm_mul hb.Sm.a sp) hb.Sm.b
    have sB := sm_add (sm_mul hb.Sm.c sp) hb.Sm.d
    have sn := fun k M => seen_q k M hb (by omega) ho (sp.mono (by omega)) (Rat.le_of_lt np)
    have es : sv (q.a * p + q.b) (q.c * p + q.d) = fr ((q.a * p + q.b) / (q.c * p + q.d)) := by unfold sv; rw [if_neg (by grind)]
    rw [es] at sn
    have sl := sm_div sA sB (by grind)
    have form : qf q ((q.a * p + q.b) / (q.c * p + q.d)) 1 * ((q.c * p + q.d) * (q.c * p + q.d)) = qf q p 1 := by
      rw [qf_scale q v0]
      have := qf_act ho (p, 1)
      unfold act at this
      simp only [Rat.mul_one] at this
      exact this
    have gap : (q.a * p + q.b) - p * (q.c * p + q.d) = - qf q p 1 := by unfold qf; grind
    have hdm : (q.a * p + q.b) / (q.c * p + q.d) * (q.c * p + q.d) = q.a * p + q.b := Rat.div_mul_cancel (by grind)
    generalize (q.a * p + q.b) / (q.c * p + q.d) = l at *
    rw [← hdm] at gap
    generalize q.c * p + q.d = v at *
    have w1 := fun k M => worth_ok k M en.x en.y en.z sp (by omega) (by omega)
    have w2 := fun k M => worth_ok k M en.x en.y en.z sl (by omega) (by omega)
    have un := fun k M => l_under_ok k M sp sl (by omega)
    have n1 := wf_neg en hl.c p
    have n2 := wf_neg en hl.c l
    have sc := sgn_scale (f := qf q l 1) (Rat.mul_pos v0 v0)
    rw [form] at sc
    have fin3 : (wf X Y Z p.num p.den = 0 ∧ l = p) ∨ (wf X Y Z p.num p.den < 0 ∧ wf X Y Z l.num l.den < 0 ∧ p < l) ∨ (0 < wf X Y Z p.num p.den ∧ ¬ wf X Y Z l.num l.den < 0 ∧ ¬ p < l) := by
      rcases Int.lt_trichotomy (wf X Y Z p.num p.den) 0 with z | z | z
      · have a := n1.1.mp z
        refine .inr (.inl ⟨z, n2.1.mpr (sc.1.mp a), ?_⟩)
        apply Classical.byContradiction
        intro h2
        have := Rat.mul_nonneg (show 0 ≤ p - l by have := Rat.not_lt.mp h2; grind) (Rat.le_of_lt v0)
        grind
      · have a := n1.2.2.mp z
        refine .inl ⟨z, ?_⟩
        have : (l - p) * v = 0 := by grind
        rcases Rat.mul_eq_zero.mp this with h | h <;> grind
      · have a := n1.2.1.mp z
        refine .inr (.inr ⟨z, fun h2 => ?_, fun h2 => ?_⟩)
        · have := n2.1.mp h2
          have := sc.1.mpr this
          grind
        · have := Rat.mul_pos (show 0 < l - p by grind) v0
          grind
    have b1 : (decide (-2 ^ 62 ≤ (1 : Int)) && decide ((1 : Int) < 2 ^ 62) && decide (-2 ^ 62 ≤ 4 + r1) && decide (4 + r1 < 2 ^ 62)) = true := by
      have e62 : (2 : Int) ^ 62 = 4611686018427387904 := rfl
      simp only [Bool.and_eq_true, decide_eq_true_eq]
      omega
    obtain ⟨o8, o9, o10, o11, o12, st⟩ := steps49 (k + 4) (cup x1 y1 :: T) hb hn ho hl en (some (.ref 0)) (some (fr q.a)) (some (fr q.b)) (some (fr q.c)) (some (fr q.d)) (some (.bl true)) none none none (4 + r1 - 1).toNat 0 (by omega) none none none
    have e0 : (powQ q 0).pv = .tup [fr 1, fr 0, fr 0, fr 1] := rfl
    have e01 : (((0 + 1 : Nat) : Int)) = 1 := rfl
    have el0 : lastP q 0 = .non := rfl
    rw [e0, e01, el0] at st
    have hl2 := hlv (cup x3 y3)
    refine ⟨x3, y3, ?_, c3⟩
    rw [u__law_right]
    unfold m__law_right
    rw [show (Ss.cons (.set 9 (.call 49 (.cons (.var 9) (.cons (.var 1) .nil)))) (.cons (.asg (.tp [11, 12]) (.call 34 (.cons (.var 1) (.cons (.var 10) .nil)))) (.cons (.ite (.not (.call 42 (.cons (.lst false (.cons (.var 11) (.cons (.var 12) .nil))) (.cons (.lst false (.cons (.call 47 (.cons (.idx (.var 9) (.cst (.int (1)))) (.cons (.idx (.var 9) (.cst (.int (3)))) .nil))) (.cons (.call 47 (.cons (.idx (.var 9) (.cst (.int (0)))) (.cons (.idx (.var 9) (.cst (.int (2)))) .nil))) .nil))) .nil)))) (.cons (.ret (.cst (.bl false))) .nil) .nil) (.cons (.ite (.or (.cmp .ge (.call 56 (.cons (.var 7) (.cons (.var 11) .nil))) (.cst (.int (0)))) (.cmp .le (.call 56 (.cons (.var 7) (.cons (.var 12) .nil))) (.cst (.int (0))))) (.cons (.ret (.cst (.bl false))) .nil) .nil) (.cons (.ite (.and (.cmp .isn (.var 8) (.cst .non)) (.or (.not (.call 48 (.cons (.idx (.var 8) (.cst (.int (0)))) (.cons (.var 11) .nil)))) (.not (.call 48 (.cons (.var 12) (.cons (.idx (.var 8) (.cst (.int (1)))) .nil)))))) (.cons (.ret (.cst (.bl false))) .nil) .nil) (.cons (.set 8 (.tup (.cons (.var 11) (.cons (.var 12) .nil)))) (.cons (.ite (.and (.cmp .lt (.blt .max false (.cons (.idx (.var 11) (.cst (.int (0)))) (.cons (.idx (.var 11) (.cst (.int (1)))) (.cons (.idx (.var 12) (.cst (.int (0)))) (.cons (.idx (.var 12) (.cst (.int (1)))) .nil))))) (.bin .pow false (.cst (.int (10))) (.cst (.int (40))))) (.not (.call 42 (.cons (.lst false (.cons (.call 37 (.cons (.var 7) (.cons (.var 11) .nil))) (.cons (.call 37 (.cons (.var 7) (.cons (.var 12) .nil))) .nil))) (.cons (.lst false (.cons (.cst (.str "greater")) (.cons (.cst (.str "less")) .nil))) .nil))))) (.cons (.ret (.cst (.bl false))) .nil) .nil) .nil))))))) = stepB from rfl]
    generalize (E.and (.not (.call 48 (.cons (.var 2) (.cons (.tup (.cons (.cst (.int (1))) (.cons (.cst (.int (1))) .nil))) .nil)))) (.and (.not (.call 48 (.cons (.var 5) (.cons (.tup (.cons (.cst (.int (1))) (.cons (.cst (.int (1))) .nil))) .nil)))) (.and (.cmp .gt (.idx (.var 3) (.cst (.int (0)))) (.cst (.int (0)))) (.cmp .gt (.idx (.var 4) (.cst (.int (0)))) (.cst (.int (0))))))) = ge at *
    generalize stepB = sBd at *
    have e1' := e1
    clear hb ho hg hgv u1 u2 h hlv c1 c2 c3 nq np sp v0 sA sB es sl form gap hdm n1 n2 sc en e1 e1' e0 e01 el0 hl p1 p2 p3 q1 q2 q3
    generalize q.pv = qp at *
    generalize wf X Y Z p.num p.den = wp at *
    generalize wf X Y Z l.num l.den = wl at *
    rcases fin3 with ⟨z1, hz⟩ | ⟨z1, z2, z3⟩ | ⟨z1, z2, z3⟩
    · clear w2
      subst hz
      subst z1
      simp -implicitDefEqProofs only [execs, exec, eval, evals, evalI, conds, bnd_some, bnd_none, bifb_t, bifb_f, bifb_d, bifb_b, iff_t, iff_d, nxt_nx, nxt_rt, binop, cmpop, addOp_ii, addOp_tt, addOp_ll, subOp_ii, mulOp_ii, fdivOp_ii, modOp_ii, cmpI_ii, tru_bl, tru_int, absB_i, intB_i, asM_int, asM_bl, asM_tup, asM_false, isOp_n, isOp_bb, isNon_non, isNon_tup, isNon_int, isNon_bl, isNon_lst, isNon_ref, isNon_rol, isNon_str, isNon_fr, setAll_nil, setAll_cons, bindT_nm, bindT_tp, fin_rt, fin_nx, leave_same, bltOp, idx_tup0, idx_tup1, idx_tup2, idx_tup3, idx_lst0, idx_lst1, idx_lst2, idx_lst3, eqD_ii, eqD_bb, eqD_fr, Option.map_some, Option.map_none, Option.bind_some, List.getElem?_cons_zero, List.getElem?_cons_succ, List.set_cons_zero, List.set_cons_succ, List.length_cons, List.length_nil, if_true, if_false, decide_true, decide_false, Bool.not_true, Bool.not_false, decide_eq_true_eq, sizeL, Nat.reduceAdd, Nat.reduceLeDiff, Nat.zero_add, beq_self_eq_true, seqG_tup, seqG_lst, lenB_tup, lenB_lst, idx_cup0, idx_cup1, setAt0, setAt1, cup, isTy, Bool.false_eq_true, newL_f, newL_t, fin_rtk, List.nil_append, wipeE, Int.reduceNe, Int.reduceEq, Int.reduceLT, Int.reduceLE, Int.reduceAdd, Int.reduceSub, Int.reduceMul, Int.reduceNeg, Int.reduceGT, fr_0', fr_1', cmpop, *]
    · have z0 : ¬ wp = 0 := by omega
      simp -implicitDefEqProofs only [execs, exec, eval, evals, evalI, conds, bnd_some, bnd_none, bifb_t, bifb_f, bifb_d, bifb_b, iff_t, iff_d, nxt_nx, nxt_rt, binop, cmpop, addOp_ii, addOp_tt, addOp_ll, subOp_ii, mulOp_ii, fdivOp_ii, modOp_ii, cmpI_ii, tru_bl, tru_int, absB_i, intB_i, asM_int, asM_bl, asM_tup, asM_false, isOp_n, isOp_bb, isNon_non, isNon_tup, isNon_int, isNon_bl, isNon_lst, isNon_ref, isNon_rol, isNon_str, isNon_fr, setAll_nil, setAll_cons, bindT_nm, bindT_tp, fin_rt, fin_nx, leave_same, bltOp, idx_tup0, idx_tup1, idx_tup2, idx_tup3, idx_lst0, idx_lst1, idx_lst2, idx_lst3, eqD_ii, eqD_bb, eqD_fr, Option.map_some, Option.map_none, Option.bind_some, List.getElem?_cons_zero, List.getElem?_cons_succ, List.set_cons_zero, List.set_cons_succ, List.length_cons, List.length_nil, if_true, if_false, decide_true, decide_false, Bool.not_true, Bool.not_false, decide_eq_true_eq, sizeL, Nat.reduceAdd, Nat.reduceLeDiff, Nat.zero_add, beq_self_eq_true, seqG_tup, seqG_lst, lenB_tup, lenB_lst, idx_cup0, idx_cup1, setAt0, setAt1, cup, isTy, Bool.false_eq_true, newL_f, newL_t, fin_rtk, List.nil_append, wipeE, Int.reduceNe, Int.reduceEq, Int.reduceLT, Int.reduceLE, Int.reduceAdd, Int.reduceSub, Int.reduceMul, Int.reduceNeg, Int.reduceGT, fr_0', fr_1', cmpop, *]
    · have z0 : ¬ wp = 0 := by omega
      have z4 : ¬ wp < 0 := by omega
      simp -implicitDefEqProofs only [execs, exec, eval, evals, evalI, conds, bnd_some, bnd_none, bifb_t, bifb_f, bifb_d, bifb_b, iff_t, iff_d, nxt_nx, nxt_rt, binop, cmpop, addOp_ii, addOp_tt, addOp_ll, subOp_ii, mulOp_ii, fdivOp_ii, modOp_ii, cmpI_ii, tru_bl, tru_int, absB_i, intB_i, asM_int, asM_bl, asM_tup, asM_false, isOp_n, isOp_bb, isNon_non, isNon_tup, isNon_int, isNon_bl, isNon_lst, isNon_ref, isNon_rol, isNon_str, isNon_fr, setAll_nil, setAll_cons, bindT_nm, bindT_tp, fin_rt, fin_nx, leave_same, bltOp, idx_tup0, idx_tup1, idx_tup2, idx_tup3, idx_lst0, idx_lst1, idx_lst2, idx_lst3, eqD_ii, eqD_bb, eqD_fr, Option.map_some, Option.map_none, Option.bind_some, List.getElem?_cons_zero, List.getElem?_cons_succ, List.set_cons_zero, List.set_cons_succ, List.length_cons, List.length_nil, if_true, if_false, decide_true, decide_false, Bool.not_true, Bool.not_false, decide_eq_true_eq, sizeL, Nat.reduceAdd, Nat.reduceLeDiff, Nat.zero_add, beq_self_eq_true, seqG_tup, seqG_lst, lenB_tup, lenB_lst, idx_cup0, idx_cup1, setAt0, setAt1, cup, isTy, Bool.false_eq_true, newL_f, newL_t, fin_rtk, List.nil_append, wipeE, Int.reduceNe, Int.reduceEq, Int.reduceLT, Int.reduceLE, Int.reduceAdd, Int.reduceSub, Int.reduceMul, Int.reduceNeg, Int.reduceGT, fr_0', fr_1', cmpop, *]

/-! ### a chain for each end number -/
theorem end_of_ok2 (k : Nat) {q : Q4} {X Y Z : Int} {n m : Nat} (M : Mem) (hb : Bd n q) (hn : n ≤ 131) (ho : q.ok) (hl : La q) (h : En m q X Y Z) (hm : m ≤ 132) (he : ∀ k M, callN prog W (k + 4) 28 [q.pv] M = some (.tup [.int X, .int Y, .int Z], M)) : callN prog W (k + 7) 33 [q.pv] M = some (.tup [.int X, .int Y, .int Z], M) := by
  have f1 := fun k => need_last_ok k M hb (by omega) ho hl
  have f2 := fun k => he k M
  have f3 := fun k => fits_en k M h (by omega)
  have kd : k_DIGITS = .int 10000000000000000000000000000000000000000 := rfl
  rw [u_end_of_chain]
  unfold m_end_of_chain
  clear hb ho hl h he
  simp -implicitDefEqProofs only [execs, exec, eval, evals, evalI, conds, bnd_some, bnd_none, bifb_t, bifb_f, bifb_d, bifb_b, iff_t, iff_d, nxt_nx, nxt_rt, binop, cmpop, addOp_ii, addOp_tt, addOp_ll, subOp_ii, mulOp_ii, fdivOp_ii, modOp_ii, cmpI_ii, tru_bl, tru_int, absB_i, intB_i, asM_int, asM_bl, asM_tup, asM_false, isOp_n, isOp_bb, isNon_non, isNon_tup, isNon_int, isNon_bl, isNon_lst, isNon_ref, isNon_rol, isNon_str, isNon_fr, setAll_nil, setAll_cons, bindT_nm, bindT_tp, fin_rt, fin_nx, leave_same, bltOp, idx_tup0, idx_tup1, idx_tup2, idx_tup3, idx_lst0, idx_lst1, idx_lst2, idx_lst3, eqD_ii, eqD_bb, eqD_fr, Option.map_some, Option.map_none, Option.bind_some, List.getElem?_cons_zero, List.getElem?_cons_succ, List.set_cons_zero, List.set_cons_succ, List.length_cons, List.length_nil, if_true, if_false, decide_true, decide_false, Bool.not_true, Bool.not_false, decide_eq_true_eq, sizeL, Nat.reduceAdd, Nat.reduceLeDiff, Nat.zero_add, beq_self_eq_true, seqG_tup, seqG_lst, lenB_tup, lenB_lst, idx_cup0, idx_cup1, setAt0, setAt1, cup, isTy, Bool.false_eq_true, newL_f, newL_t, fin_rtk, List.nil_append, wipeE, Int.reduceNe, Int.reduceEq, Int.reduceLT, Int.reduceLE, Int.reduceAdd, Int.reduceSub, Int.reduceMul, Int.reduceNeg, Int.reduceGT, cmpop, kd, *]
/-- the end number is the least in its share -/
theorem end_is {q : Q4} {n m : Nat} (hb : Bd n q) (hn : n ≤ 131) (ho : q.ok) (hl : La q) {X Y Z : Int} (hp : Ep X Y Z) (r1 : (X : Rat) * (q.d - q.a) = Y * q.c) (r2 : (X : Rat) * q.b = Z * q.c) (hX : lt2 m X) (hY : lt2 m Y) (hZ : lt2 m Z) (hm : m ≤ 132) :
    En m q X Y Z ∧ (∀ k M, callN prog W (k + 7) 33 [q.pv] M = some (.tup [.int X, .int Y, .int Z], M)) ∧ (∀ k M, callN prog W (k + 3) 55 [q.pv] M = some (.tup [.int X, .int Y, .int Z], M)) := by
  obtain ⟨X', Y', Z', en, e1, e2⟩ := end_both q hb (by omega) hl.b hl.c
  have c0 : q.c ≠ 0 := by have := hl.c; grind
  have k1 : (X : Rat) * Y' = X' * Y := by
    have a := en.r1
    have : ((X : Rat) * Y' - X' * Y) * q.c = 0 := by
      have z1 : (X : Rat) * Y' * q.c = X * (X' * (q.d - q.a)) := by rw [a]; grind
      have z2 : (X' : Rat) * Y * q.c = X' * (X * (q.d - q.a)) := by rw [r1]; grind
      grind
    rcases Rat.mul_eq_zero.mp this with h | h
    · grind
    · exact absurd h c0
  have k2 : (X : Rat) * Z' = X' * Z := by
    have a := en.r2
    have : ((X : Rat) * Z' - X' * Z) * q.c = 0 := by
      have z1 : (X : Rat) * Z' * q.c = X * (X' * q.b) := by rw [a]; grind
      have z2 : (X' : Rat) * Z * q.c = X' * (X * q.b) := by rw [r2]; grind
      grind
    rcases Rat.mul_eq_zero.mp this with h | h
    · grind
    · exact absurd h c0
  have k1' : X * Y' = X' * Y := by exact_mod_cast k1
  have k2' : X * Z' = X' * Z := by exact_mod_cast k2
  obtain ⟨rfl, rfl, rfl⟩ := Ep_uniq hp en.p k1' k2'
  have en' : En m q X Y Z := ⟨hp, hX, hY, hZ, r1, r2⟩
  exact ⟨en', fun k M => end_of_ok2 k M hb hn ho hl en' hm e1, e2⟩
theorem same_ok (k : Nat) {n : Nat} {q : Q4} {X Y Z : Int} (M : Mem) (h : En n q X Y Z) (hn : n ≤ 132) : callN prog W (k + 4) 38 [.tup [.int X, .int Y, .int Z], .tup [.int X, .int Y, .int Z]] M = some (.str "same", M) := by
  have f1 := fun k => need_end_ok k M h hn
  have f2 : ∀ k, callN prog W (k + 3) 31 [.tup [.int X, .int Y, .int Z], .tup [.int X, .int Y, .int Z]] M = some (.int 0, M) := fun k => by
    have a1 : mulOk X Y = true := mulOk_of h.x h.y (by omega)
    have a2 : mulOk X Z = true := mulOk_of h.x h.z (by omega)
    have a3 : X * Y - X * Y = 0 := by omega
    have a4 : X * Z - X * Z = 0 := by omega
    have a5 : ∀ k, callN prog W (k + 1) 29 [.int 0] M = some (.int 0, M) := fun k => sign_of_ok k 0 M
    rw [u_compared]
    unfold m_compared
    clear h f1
    walk_at "evf"
  have t0 := tab_0
  rw [u_compare_ends]
  unfold m_compare_ends
  clear h
  generalize tb_WORDS = tb at *
  walk_at "evf"
theorem mulOk_b {x y : Int} (h : y.natAbs < 2 ^ 64) : mulOk x y = true := mulOk_small (by have e : (2 : Nat) ^ 64 = 18446744073709551616 := rfl; have e2 : (2 : Int) ^ 64 = 18446744073709551616 := rfl; omega)
theorem mulOk_a {x y : Int} (h : x.natAbs < 2 ^ 64) : mulOk x y = true := mulOk_smallL (by have e : (2 : Nat) ^ 64 = 18446744073709551616 := rfl; have e2 : (2 : Int) ^ 64 = 18446744073709551616 := rfl; omega)
def shr (y : Int) : Int := if y = 0 then 1 else (y.natAbs : Int)
def cfe (x y z : Int) : Q4 := let s := shr y; let D := y * y + 4 * x * z - s * s
  ⟨1 + Rat.divInt (4 * s * (s - y)) (2 * D), Rat.divInt (4 * s * z) D, Rat.divInt (4 * s * x) D, 1 + Rat.divInt (4 * s * (s + y)) (2 * D)⟩
theorem shr_facts {x y z : Int} (hx : 0 < x) (hz : 0 < z) (hy : y.natAbs < 10 ^ 12) (hx2 : x < 10 ^ 12) (hz2 : z < 10 ^ 12) : 0 < shr y ∧ shr y < 10 ^ 12 + 1 ∧ y ≤ shr y ∧ -y ≤ shr y ∧ 0 < y * y + 4 * x * z - shr y * shr y ∧ y * y + 4 * x * z - shr y * shr y < 2 ^ 90 := by
  have hxz : 0 < x * z := Int.mul_pos hx hz
  have e1 : 4 * x * z = 4 * (x * z) := Int.mul_assoc _ _ _
  have hxz2 : x * z < 10 ^ 12 * 10 ^ 12 := Int.mul_lt_mul hx2 (by omega) hz (by decide)
  unfold shr
  by_cases h : y = 0
  · rw [if_pos h]
    subst h
    refine ⟨by decide, by decide, by decide, by decide, by rw [e1]; omega, ?_⟩
    rw [e1]
    have : (10 : Int) ^ 12 * 10 ^ 12 * 4 < 2 ^ 90 := by decide
    omega
  · rw [if_neg h]
    have e2 : ((y.natAbs : Nat) : Int) * (y.natAbs : Nat) = y * y := Int.natAbs_mul_self' y
    refine ⟨by omega, by omega, by omega, by omega, by rw [e1, e2]; omega, ?_⟩
    rw [e1, e2]
    have : (10 : Int) ^ 12 * 10 ^ 12 * 4 < 2 ^ 90 := by decide
    omega
theorem lt2_i {n : Nat} {x : Int} (h1 : -(2 ^ n : Int) < x) (h2 : x < 2 ^ n) : lt2 n x := by
  unfold lt2
  have e : ((2 ^ n : Nat) : Int) = (2 : Int) ^ n := by norm_cast
  omega
theorem cfe_ok (k : Nat) {X Y Z : Int} (M : Mem) (hp : Ep X Y Z) (hy : Y.natAbs < 10 ^ 12) (hx2 : X < 10 ^ 12) (hz2 : Z < 10 ^ 12) : callN prog W (k + 4) 35 [.tup [.int X, .int Y, .int Z]] M = some ((cfe X Y Z).pv, M) := by
  obtain ⟨s0, s1, s2, s3, D0, D1⟩ := shr_facts hp.x hp.z hy hx2 hz2
  have t12 : (10 : Int) ^ 12 = 1000000000000 := by decide
  have t12n : (10 : Nat) ^ 12 = 1000000000000 := by decide
  have x0 := hp.x
  have z0 := hp.z
  have e64 : (2 : Nat) ^ 64 = 18446744073709551616 := rfl
  have f0 : ∀ k, callN prog W (k + 2) 26 [.tup [.int X, .int Y, .int Z], .int 1000000000000] M = some (.bl true, M) := fun k => fits_end_ok k M (n := 40) hp (by omega) (by omega) (by omega) (by omega) (by omega) (by omega) (by unfold lt2; omega) (by unfold lt2; omega) (by omega)
  have ks : k_SHORT = .int 1000000000000 := rfl
  have sh : ∀ (e : Env) (k : Nat), e[2]? = some (some (.int Y)) → eval (callN prog W k) (.ite (.cmp .ne (.var 2) (.cst (.int (0)))) (.blt .abs false (.cons (.var 2) .nil)) (.cst (.int (1)))) e M = some (.int (shr Y), M) := fun e k he => by
    unfold shr
    by_cases h : Y = 0
    · rw [if_pos h]
      subst h
      simp -implicitDefEqProofs only [execs, exec, eval, evals, evalI, conds, bnd_some, bnd_none, bifb_t, bifb_f, bifb_d, bifb_b, iff_t, iff_d, nxt_nx, nxt_rt, binop, cmpop, addOp_ii, addOp_tt, addOp_ll, subOp_ii, mulOp_ii, fdivOp_ii, modOp_ii, cmpI_ii, tru_bl, tru_int, absB_i, intB_i, asM_int, asM_bl, asM_tup, asM_false, isOp_n, isOp_bb, isNon_non, isNon_tup, isNon_int, isNon_bl, isNon_lst, isNon_ref, isNon_rol, isNon_str, isNon_fr, setAll_nil, setAll_cons, bindT_nm, bindT_tp, fin_rt, fin_nx, leave_same, bltOp, idx_tup0, idx_tup1, idx_tup2, idx_tup3, idx_lst0, idx_lst1, idx_lst2, idx_lst3, eqD_ii, eqD_bb, eqD_fr, Option.map_some, Option.map_none, Option.bind_some, List.getElem?_cons_zero, List.getElem?_cons_succ, List.set_cons_zero, List.set_cons_succ, List.length_cons, List.length_nil, if_true, if_false, decide_true, decide_false, Bool.not_true, Bool.not_false, decide_eq_true_eq, sizeL, Nat.reduceAdd, Nat.reduceLeDiff, Nat.zero_add, beq_self_eq_true, seqG_tup, seqG_lst, lenB_tup, lenB_lst, idx_cup0, idx_cup1, setAt0, setAt1, cup, isTy, Bool.false_eq_true, newL_f, newL_t, fin_rtk, List.nil_append, wipeE, Int.reduceNe, Int.reduceEq, Int.reduceLT, Int.reduceLE, Int.reduceAdd, Int.reduceSub, Int.reduceMul, Int.reduceNeg, Int.reduceGT, cmpop, he]
      try rfl
    · rw [if_neg h]
      simp -implicitDefEqProofs only [execs, exec, eval, evals, evalI, conds, bnd_some, bnd_none, bifb_t, bifb_f, bifb_d, bifb_b, iff_t, iff_d, nxt_nx, nxt_rt, binop, cmpop, addOp_ii, addOp_tt, addOp_ll, subOp_ii, mulOp_ii, fdivOp_ii, modOp_ii, cmpI_ii, tru_bl, tru_int, absB_i, intB_i, asM_int, asM_bl, asM_tup, asM_false, isOp_n, isOp_bb, isNon_non, isNon_tup, isNon_int, isNon_bl, isNon_lst, isNon_ref, isNon_rol, isNon_str, isNon_fr, setAll_nil, setAll_cons, bindT_nm, bindT_tp, fin_rt, fin_nx, leave_same, bltOp, idx_tup0, idx_tup1, idx_tup2, idx_tup3, idx_lst0, idx_lst1, idx_lst2, idx_lst3, eqD_ii, eqD_bb, eqD_fr, Option.map_some, Option.map_none, Option.bind_some, List.getElem?_cons_zero, List.getElem?_cons_succ, List.set_cons_zero, List.set_cons_succ, List.length_cons, List.length_nil, if_true, if_false, decide_true, decide_false, Bool.not_true, Bool.not_false, decide_eq_true_eq, sizeL, Nat.reduceAdd, Nat.reduceLeDiff, Nat.zero_add, beq_self_eq_true, seqG_tup, seqG_lst, lenB_tup, lenB_lst, idx_cup0, idx_cup1, setAt0, setAt1, cup, isTy, Bool.false_eq_true, newL_f, newL_t, fin_rtk, List.nil_append, wipeE, Int.reduceNe, Int.reduceEq, Int.reduceLT, Int.reduceLE, Int.reduceAdd, Int.reduceSub, Int.reduceMul, Int.reduceNeg, Int.reduceGT, cmpop, he, h, abs_nat, not_false_eq_true]
      try rfl
  have D2 : 0 < 2 * (Y * Y + 4 * X * Z - shr Y * shr Y) := by omega
  unfold cfe Q4.pv ch
  simp only []
  generalize hs : shr Y = s at *
  generalize hD : Y * Y + 4 * X * Z - s * s = D at *
  have lD : lt2 91 D := lt2_i (by omega) (by have : (2 : Int) ^ 90 < 2 ^ 91 := by decide
                                             omega)
  have lD2 : lt2 91 (2 * D) := lt2_i (by omega) (by have : (2 : Int) ^ 90 * 2 = 2 ^ 91 := by decide
                                                    omega)
  have m1 : mulOk 4 s = true := mulOk_b (by omega)
  have m2 : mulOk Y Y = true := mulOk_b (by omega)
  have m3 : mulOk 4 X = true := mulOk_b (by omega)
  have m4 : mulOk (4 * X) Z = true := mulOk_b (by omega)
  have m5 : mulOk s s = true := mulOk_b (by omega)
  have m6 : mulOk (4 * s) (s - Y) = true := mulOk_b (by omega)
  have m7 : mulOk (4 * s) (s + Y) = true := mulOk_b (by omega)
  have m8 : mulOk 2 D = true := mulOk_a (by decide)
  have m9 : mulOk (4 * s) Z = true := mulOk_b (by omega)
  have m10 : mulOk (4 * s) X = true := mulOk_b (by omega)
  have l1 := fun k => lowest_ok k (4 * s * (s - Y)) (2 * D) M lD2 (by omega) (by omega)
  have l2 := fun k => lowest_ok k (4 * s * (s + Y)) (2 * D) M lD2 (by omega) (by omega)
  have l3 := fun k => lowest_ok k (4 * s * Z) D M lD (by omega) (by omega)
  have l4 := fun k => lowest_ok k (4 * s * X) D M lD (by omega) (by omega)
  have num : ∀ {u : Int}, u.natAbs < 10 ^ 12 * 4 → lt2 91 (4 * s * u) := fun {u} hu => by
    unfold lt2
    rw [Int.natAbs_mul]
    have a : (4 * s).natAbs < 2 ^ 43 := by have : (2 : Nat) ^ 43 = 8796093022208 := rfl
                                           omega
    have b : u.natAbs < 2 ^ 43 := by have : (2 : Nat) ^ 43 = 8796093022208 := rfl
                                     omega
    calc (4 * s).natAbs * u.natAbs ≤ 2 ^ 43 * 2 ^ 43 := Nat.mul_le_mul (Nat.le_of_lt a) (Nat.le_of_lt b)
      _ < 2 ^ 91 := by decide
  have b1 := sm_low (num (u := s - Y) (by omega)) lD2 (by omega)
  have b2 := sm_low (num (u := s + Y) (by omega)) lD2 (by omega)
  have p1 := fun k => sum_of_ok k M (sm_1 1 (by decide)) b1 (by omega)
  have p2 := fun k => sum_of_ok k M (sm_1 1 (by decide)) b2 (by omega)
  have kO : k_ONE = fr 1 := rfl
  rw [u_chain_for_end]
  unfold m_chain_for_end
  generalize (E.ite (.cmp .ne (.var 2) (.cst (.int (0)))) (.blt .abs false (.cons (.var 2) .nil)) (.cst (.int (1)))) = se at *
  generalize Rat.divInt (4 * s * (s - Y)) (2 * D) = c1 at *
  generalize Rat.divInt (4 * s * (s + Y)) (2 * D) = c2 at *
  generalize Rat.divInt (4 * s * Z) D = c3 at *
  generalize Rat.divInt (4 * s * X) D = c4 at *
  clear hp hy hx2 hz2 s0 s1 s2 s3 D0 D1 D2 t12 t12n x0 z0 e64 lD lD2 b1 b2 num hs
  have sh := fun e k he => sh e k he
  simp -implicitDefEqProofs only [execs, exec, eval, evals, evalI, conds, bnd_some, bnd_none, bifb_t, bifb_f, bifb_d, bifb_b, iff_t, iff_d, nxt_nx, nxt_rt, binop, cmpop, addOp_ii, addOp_tt, addOp_ll, subOp_ii, mulOp_ii, fdivOp_ii, modOp_ii, cmpI_ii, tru_bl, tru_int, absB_i, intB_i, asM_int, asM_bl, asM_tup, asM_false, isOp_n, isOp_bb, isNon_non, isNon_tup, isNon_int, isNon_bl, isNon_lst, isNon_ref, isNon_rol, isNon_str, isNon_fr, setAll_nil, setAll_cons, bindT_nm, bindT_tp, fin_rt, fin_nx, leave_same, bltOp, idx_tup0, idx_tup1, idx_tup2, idx_tup3, idx_lst0, idx_lst1, idx_lst2, idx_lst3, eqD_ii, eqD_bb, eqD_fr, Option.map_some, Option.map_none, Option.bind_some, List.getElem?_cons_zero, List.getElem?_cons_succ, List.set_cons_zero, List.set_cons_succ, List.length_cons, List.length_nil, if_true, if_false, decide_true, decide_false, Bool.not_true, Bool.not_false, decide_eq_true_eq, sizeL, Nat.reduceAdd, Nat.reduceLeDiff, Nat.zero_add, beq_self_eq_true, seqG_tup, seqG_lst, lenB_tup, lenB_lst, idx_cup0, idx_cup1, setAt0, setAt1, cup, isTy, Bool.false_eq_true, newL_f, newL_t, fin_rtk, List.nil_append, wipeE, Int.reduceNe, Int.reduceEq, Int.reduceLT, Int.reduceLE, Int.reduceAdd, Int.reduceSub, Int.reduceMul, Int.reduceNeg, Int.reduceGT, cmpop, *]

theorem divI {a b : Int} (hb : b ≠ 0) : Rat.divInt a b * b = a := by
  rw [Rat.divInt_eq_div]
  have : ((b : Int) : Rat) ≠ 0 := by
    intro z
    exact hb (by exact_mod_cast z)
  exact Rat.div_mul_cancel this
structure Cf (q : Q4) (X Y Z s D : Int) : Prop where
  a : (q.a - 1) * D = 2 * s * (s - Y)
  d : (q.d - 1) * D = 2 * s * (s + Y)
  b : q.b * D = 4 * s * Z
  c : q.c * D = 4 * s * X
  D : (D : Rat) = Y * Y + 4 * X * Z - s * s
theorem cfe_cf {X Y Z : Int} (hD : Y * Y + 4 * X * Z - shr Y * shr Y ≠ 0) : Cf (cfe X Y Z) X Y Z (shr Y) (Y * Y + 4 * X * Z - shr Y * shr Y) := by
  unfold cfe
  simp only []
  generalize shr Y = s at *
  have eD : ((Y * Y + 4 * X * Z - s * s : Int) : Rat) = Y * Y + 4 * X * Z - s * s := by
    rw [Rat.intCast_sub, Rat.intCast_add, Rat.intCast_mul, Rat.intCast_mul, Rat.intCast_mul, Rat.intCast_mul]; rfl
  generalize Y * Y + 4 * X * Z - s * s = D at *
  have h2 : 2 * D ≠ 0 := by omega
  have i1 := divI (a := 4 * s * (s - Y)) h2
  have i2 := divI (a := 4 * s * (s + Y)) h2
  have i3 := divI (a := 4 * s * Z) hD
  have i4 := divI (a := 4 * s * X) hD
  rw [Rat.intCast_mul, Rat.intCast_mul, Rat.intCast_mul, Rat.intCast_sub] at i1
  rw [Rat.intCast_mul, Rat.intCast_mul, Rat.intCast_mul, Rat.intCast_add] at i2
  rw [Rat.intCast_mul, Rat.intCast_mul] at i3
  rw [Rat.intCast_mul, Rat.intCast_mul] at i4
  have c2 : ((2 : Int) : Rat) = 2 := rfl
  have c4 : ((4 : Int) : Rat) = 4 := rfl
  rw [c2, c4] at i1 i2
  rw [c4] at i3 i4
  refine ⟨?_, ?_, i3, i4, eD⟩
  · show (1 + Rat.divInt (4 * s * (s - Y)) (2 * D) - 1) * D = _
    generalize Rat.divInt (4 * s * (s - Y)) (2 * D) = F at *
    grind
  · show (1 + Rat.divInt (4 * s * (s + Y)) (2 * D) - 1) * D = _
    generalize Rat.divInt (4 * s * (s + Y)) (2 * D) = F at *
    grind
theorem Cf.ok {q : Q4} {X Y Z s D : Int} (h : Cf q X Y Z s D) (hD : (D : Rat) ≠ 0) : q.ok := by
  obtain ⟨h1, h2, h3, h4, h5⟩ := h
  unfold Q4.ok
  generalize q.a = a at *
  generalize q.b = b at *
  generalize q.c = c at *
  generalize q.d = d at *
  generalize (X : Rat) = x at *
  generalize (Y : Rat) = y at *
  generalize (Z : Rat) = z at *
  generalize (s : Rat) = t at *
  generalize (D : Rat) = w at *
  have e : (a * d - b * c - 1) * (w * w) = 0 := by
    have k : (a * d - b * c - 1) * (w * w) = ((a - 1) * w) * ((d - 1) * w) + ((a - 1) * w) * w + ((d - 1) * w) * w - (b * w) * (c * w) := by grind
    rw [k, h1, h2, h3, h4]
    have : w = y * y + 4 * x * z - t * t := h5
    clear h1 h2 h3 h4 k h5 hD
    subst this
    grind
  rcases Rat.mul_eq_zero.mp e with h | h
  · grind
  · rcases Rat.mul_eq_zero.mp h with h | h <;> exact absurd h hD
theorem pos_of {a w r : Rat} (hw : 0 < w) (h : a * w = r) (hr : 0 < r) : 0 < a := by
  apply Classical.byContradiction
  intro z
  have := Rat.mul_nonneg (show 0 ≤ -a by grind) (Rat.le_of_lt hw)
  grind
theorem nn_of {a w r : Rat} (hw : 0 < w) (h : a * w = r) (hr : 0 ≤ r) : 0 ≤ a := by
  apply Classical.byContradiction
  intro z
  have := Rat.mul_pos (show 0 < -a by grind) hw
  grind
theorem Cf.la {q : Q4} {X Y Z s D : Int} (h : Cf q X Y Z s D) (hD : (0 : Int) < D) (hs : 0 < s) (h1 : Y ≤ s) (h2 : -Y ≤ s) (hx : 0 < X) (hz : 0 < Z) : La q := by
  have D0 : (0 : Rat) < D := by exact_mod_cast hD
  have s0 : (0 : Rat) < s := by exact_mod_cast hs
  have x0 : (0 : Rat) < X := by exact_mod_cast hx
  have z0 : (0 : Rat) < Z := by exact_mod_cast hz
  have y1 : (0 : Rat) ≤ s - Y := by
    have : (Y : Rat) ≤ s := by exact_mod_cast h1
    grind
  have y2 : (0 : Rat) ≤ s + Y := by
    have : ((-Y : Int) : Rat) ≤ s := by exact_mod_cast h2
    rw [Rat.intCast_neg] at this
    grind
  have t0 : (0 : Rat) ≤ 2 * s := by grind
  have a := nn_of D0 h.a (Rat.mul_nonneg t0 y1)
  have d := nn_of D0 h.d (Rat.mul_nonneg t0 y2)
  exact ⟨by grind, by grind, pos_of D0 h.b (Rat.mul_pos (by grind) z0), pos_of D0 h.c (Rat.mul_pos (by grind) x0)⟩
theorem Cf.bd {q : Q4} {X Y Z s D : Int} (h : Cf q X Y Z s D) (hD : (0 : Int) < D) (hD2 : D < 2 ^ 90) (hs : 0 < s) (hs2 : s < 10 ^ 12 + 1) (hy : Y.natAbs < 10 ^ 12) (hx : 0 < X) (hx2 : X < 10 ^ 12) (hz : 0 < Z) (hz2 : Z < 10 ^ 12) : Bd 91 q := by
  have eD : ((D.toNat : Nat) : Rat) = (D : Rat) := by
    have : ((D.toNat : Nat) : Int) = D := by omega
    have e2 : (((D.toNat : Nat) : Int) : Rat) = ((D.toNat : Nat) : Rat) := rfl
    rw [← e2, this]
  have p90 : (2 : Int) ^ 90 = 1237940039285380274899124224 := by decide
  have n91 : (2 : Nat) ^ 91 = 2475880078570760549798248448 := by decide
  have t12 : (10 : Int) ^ 12 = 1000000000000 := by decide
  have n12 : (10 : Nat) ^ 12 = 1000000000000 := by decide
  have bnd : ∀ {u : Int}, u.natAbs ≤ 10 ^ 12 * 4 → (s * u).natAbs ≤ 10 ^ 12 * (10 ^ 12 * 4) := fun {u} hu => by
    rw [Int.natAbs_mul]
    exact Nat.mul_le_mul (by omega) hu
  have b1 := bnd (u := s - Y) (by omega)
  have b2 := bnd (u := s + Y) (by omega)
  have b3 := bnd (u := Z) (by omega)
  have b4 := bnd (u := X) (by omega)
  have big : 10 ^ 12 * (10 ^ 12 * 4) = 4000000000000000000000000 := by decide
  rw [big] at b1 b2 b3 b4
  refine ⟨D.toNat, 2 ^ 91, ⟨⟨D + 2 * (s * (s - Y)), ?_, by omega⟩, ⟨4 * (s * Z), ?_, by omega⟩, ⟨4 * (s * X), ?_, by omega⟩, ⟨D + 2 * (s * (s + Y)), ?_, by omega⟩, by omega, by omega⟩, Nat.le_refl _⟩
  · rw [eD, Rat.intCast_add, Rat.intCast_mul, Rat.intCast_mul, Rat.intCast_sub]
    have := h.a
    have c2 : ((2 : Int) : Rat) = 2 := rfl
    rw [c2]
    grind
  · rw [eD, Rat.intCast_mul, Rat.intCast_mul]
    have := h.b
    have c2 : ((4 : Int) : Rat) = 4 := rfl
    rw [c2]
    grind
  · rw [eD, Rat.intCast_mul, Rat.intCast_mul]
    have := h.c
    have c2 : ((4 : Int) : Rat) = 4 := rfl
    rw [c2]
    grind
  · rw [eD, Rat.intCast_add, Rat.intCast_mul, Rat.intCast_mul, Rat.intCast_add]
    have := h.d
    have c2 : ((2 : Int) : Rat) = 2 := rfl
    rw [c2]
    grind
theorem pl_same : pl (.str "same") = true := by decide +kernel
theorem back_ok (k : Nat) {X Y Z : Int} (M : Mem) (hp : Ep X Y Z) (hy : Y.natAbs < 10 ^ 12) (hx2 : X < 10 ^ 12) (hz2 : Z < 10 ^ 12) : (∀ k M, callN prog W (k + 7) 33 [(cfe X Y Z).pv] M = some (.tup [.int X, .int Y, .int Z], M)) ∧ callN prog W (k + 15) 58 [.tup [.int X, .int Y, .int Z]] M = some (.bl true, M) := by
  obtain ⟨s0, s1, s2, s3, D0, D1⟩ := shr_facts hp.x hp.z hy hx2 hz2
  have cf := cfe_cf (X := X) (Y := Y) (Z := Z) (by omega)
  have f1 := fun k M => cfe_ok k M hp hy hx2 hz2
  have n12 : (10 : Nat) ^ 12 = 1000000000000 := by decide
  have t12 : (10 : Int) ^ 12 = 1000000000000 := by decide
  have x0 := hp.x
  have z0 := hp.z
  generalize cfe X Y Z = q at *
  have Dr : ((Y * Y + 4 * X * Z - shr Y * shr Y : Int) : Rat) ≠ 0 := by
    have : Y * Y + 4 * X * Z - shr Y * shr Y ≠ 0 := by omega
    intro z
    exact this (by exact_mod_cast z)
  have ho := cf.ok Dr
  have hl := cf.la D0 s0 s2 s3 hp.x hp.z
  have hb := cf.bd D0 D1 s0 s1 hy hp.x hx2 hp.z hz2
  have e40 : (2 : Nat) ^ 40 = 1099511627776 := by decide
  obtain ⟨en, g1, g2⟩ := end_is (m := 40) hb (by omega) ho hl hp (by
    have a := cf.a
    have d := cf.d
    have c := cf.c
    generalize ((Y * Y + 4 * X * Z - shr Y * shr Y : Int) : Rat) = w at *
    generalize ((shr Y : Int) : Rat) = t at *
    generalize (X : Rat) = x at *
    generalize (Y : Rat) = y at *
    have : (x * (q.d - q.a) - y * q.c) * w = 0 := by
      have k : (x * (q.d - q.a) - y * q.c) * w = x * ((q.d - 1) * w) - x * ((q.a - 1) * w) - y * (q.c * w) := by grind
      rw [k, a, d, c]
      grind
    rcases Rat.mul_eq_zero.mp this with h | h
    · grind
    · exact absurd h Dr) (by
    have b := cf.b
    have c := cf.c
    generalize ((Y * Y + 4 * X * Z - shr Y * shr Y : Int) : Rat) = w at *
    generalize ((shr Y : Int) : Rat) = t at *
    generalize (X : Rat) = x at *
    generalize (Z : Rat) = z at *
    have : (x * q.b - z * q.c) * w = 0 := by
      have k : (x * q.b - z * q.c) * w = x * (q.b * w) - z * (q.c * w) := by grind
      rw [k, b, c]
      grind
    rcases Rat.mul_eq_zero.mp this with h | h
    · grind
    · exact absurd h Dr) (by unfold lt2; omega) (by unfold lt2; omega) (by unfold lt2; omega) (by omega)
  refine ⟨g1, ?_⟩
  have f2 := fun k => is_chain_q k M hb (by omega) ho
  have f3 := (is_last_ok 0 M hb (by omega) ho true hl.good.symm).2
  have f4 := fun k => same_ok k M en (by omega)
  have f5 := fun k => like_ok k (.lst [.tup [.int X, .int Y, .int Z], .tup [.int X, .int Y, .int Z], .str "same"]) M (by show (pl (.tup [.int X, .int Y, .int Z]) && (pl (.tup [.int X, .int Y, .int Z]) && (pl (.str "same") && true))) = true; rw [pl_same]; rfl) (Nat.le_of_ble_eq_true rfl)
  have f1 := fun k => f1 k M
  have g1 := fun k => g1 k M
  have g2 := fun k => g2 k M
  rw [u__law_back_right]
  unfold m__law_back_right
  clear en cf Dr ho hl hb s0 s1 s2 s3 D0 D1 hp hy hx2 hz2 x0 z0
  generalize q.pv = qp at *
  simp -implicitDefEqProofs only [execs, exec, eval, evals, evalI, conds, bnd_some, bnd_none, bifb_t, bifb_f, bifb_d, bifb_b, iff_t, iff_d, nxt_nx, nxt_rt, binop, cmpop, addOp_ii, addOp_tt, addOp_ll, subOp_ii, mulOp_ii, fdivOp_ii, modOp_ii, cmpI_ii, tru_bl, tru_int, absB_i, intB_i, asM_int, asM_bl, asM_tup, asM_false, isOp_n, isOp_bb, isNon_non, isNon_tup, isNon_int, isNon_bl, isNon_lst, isNon_ref, isNon_rol, isNon_str, isNon_fr, setAll_nil, setAll_cons, bindT_nm, bindT_tp, fin_rt, fin_nx, leave_same, bltOp, idx_tup0, idx_tup1, idx_tup2, idx_tup3, idx_lst0, idx_lst1, idx_lst2, idx_lst3, eqD_ii, eqD_bb, eqD_fr, Option.map_some, Option.map_none, Option.bind_some, List.getElem?_cons_zero, List.getElem?_cons_succ, List.set_cons_zero, List.set_cons_succ, List.length_cons, List.length_nil, if_true, if_false, decide_true, decide_false, Bool.not_true, Bool.not_false, decide_eq_true_eq, sizeL, Nat.reduceAdd, Nat.reduceLeDiff, Nat.zero_add, beq_self_eq_true, seqG_tup, seqG_lst, lenB_tup, lenB_lst, idx_cup0, idx_cup1, setAt0, setAt1, cup, isTy, Bool.false_eq_true, newL_f, newL_t, fin_rtk, List.nil_append, wipeE, Int.reduceNe, Int.reduceEq, Int.reduceLT, Int.reduceLE, Int.reduceAdd, Int.reduceSub, Int.reduceMul, Int.reduceNeg, Int.reduceGT, cmpop, *]

/-! ### the law -/
theorem drawn49 (k s : Nat) {x y : Int} (T : Mem) (h : CupB x y) (h1 : 1 ≤ s) (h2 : s < 10 ^ 12) :
    ∃ X Y Z x' y', callN prog W (k + 3) 59 [.ref 0, .int s] (cup x y :: T) = some (.tup [.int X, .int Y, .int Z], cup x' y' :: T) ∧ CupB x' y' ∧ Ep X Y Z ∧ Y.natAbs < 10 ^ 12 ∧ X < 10 ^ 12 ∧ Z < 10 ^ 12 := by
  have n12 : (10 : Nat) ^ 12 = 1000000000000 := by decide
  have t12 : (10 : Int) ^ 12 = 1000000000000 := by decide
  have e41 : (2 : Nat) ^ 42 = 4398046511104 := by decide
  obtain ⟨r1, x1, y1, d1, c1, p1, q1⟩ := roll_ok (k + 1) (many := (s : Int)) T h (by omega) (lt2.mono (n := 42) (by unfold lt2; omega) (by decide))
  obtain ⟨r2, x2, y2, d2, c2, p2, q2⟩ := roll_ok (k + 1) (many := 2 * (s : Int) + 1) T c1 (by omega) (lt2.mono (n := 42) (by unfold lt2; omega) (by decide))
  obtain ⟨r3, x3, y3, d3, c3, p3, q3⟩ := roll_ok (k + 1) (many := (s : Int)) T c2 (by omega) (lt2.mono (n := 42) (by unfold lt2; omega) (by decide))
  have m1 : mulOk 2 (s : Int) = true := mulOk_a (by decide)
  obtain ⟨X, Y, Z, e1, e2, e3, ep, g0, v1, v2, v3⟩ := prim (x := 1 + r1) (y := r2 - s) (z := 1 + r3) (by omega) (by omega)
  have lz : lt2 42 (1 + r3) := by unfold lt2; omega
  have ly : lt2 42 (r2 - s) := by unfold lt2; omega
  have lg := g3_lt (x := 1 + r1) (y := r2 - s) lz (by omega)
  have D3 := fun k M => l_divisor_ok k (1 + r1) (r2 - s) M ly (by omega)
  have D4 : ∀ k M, callN prog W (k + 1) 54 [.int ((Int.gcd (1 + r1) (r2 - s) : Nat) : Int), .int (1 + r3)] M = some (.int (g3 (1 + r1) (r2 - s) (1 + r3) : Nat), M) := fun k M => l_divisor_ok k _ _ M lz (by omega)
  have q1' : divOk (1 + r1) (g3 (1 + r1) (r2 - s) (1 + r3) : Nat) = true := divOk_n g0 lg (by omega)
  have q2' : divOk (r2 - s) (g3 (1 + r1) (r2 - s) (1 + r3) : Nat) = true := divOk_n g0 lg (by omega)
  have q3' : divOk (1 + r3) (g3 (1 + r1) (r2 - s) (1 + r3) : Nat) = true := divOk_n g0 lg (by omega)
  generalize g3 (1 + r1) (r2 - s) (1 + r3) = g at *
  have le : ∀ {u w : Int}, u = (g : Int) * w → w.natAbs ≤ u.natAbs := fun {u w} e => by
    rw [e, Int.natAbs_mul, Int.natAbs_natCast]
    exact Nat.le_mul_of_pos_left _ g0
  have z1 := le e1
  have z2 := le e2
  have z3 := le e3
  refine ⟨X, Y, Z, x3, y3, ?_, c3, ep, by omega, by omega, by omega⟩
  have ht : ∀ (M : Mem) (xs : List PV), tupleB M [.lst xs] = some (.tup xs) := tupleB_lst
  have hlv := leave_cup (cup x3 y3) (.tup [.int X, .int Y, .int Z]) T
  have D3 := fun k => D3 k (cup x3 y3 :: T)
  have D4 := fun k => D4 k (cup x3 y3 :: T)
  rw [u__law_drawn]
  unfold m__law_drawn
  clear z1 z2 z3 le e1 e2 e3 ep g0 lz ly lg c1 c2 c3 h h1 h2 p1 p2 p3 q1 q2 q3 n12 t12 e41
  simp -implicitDefEqProofs only [execs, exec, eval, evals, evalI, conds, bnd_some, bnd_none, bifb_t, bifb_f, bifb_d, bifb_b, iff_t, iff_d, nxt_nx, nxt_rt, binop, cmpop, addOp_ii, addOp_tt, addOp_ll, subOp_ii, mulOp_ii, fdivOp_ii, modOp_ii, cmpI_ii, tru_bl, tru_int, absB_i, intB_i, asM_int, asM_bl, asM_tup, asM_false, isOp_n, isOp_bb, isNon_non, isNon_tup, isNon_int, isNon_bl, isNon_lst, isNon_ref, isNon_rol, isNon_str, isNon_fr, setAll_nil, setAll_cons, bindT_nm, bindT_tp, fin_rt, fin_nx, leave_same, bltOp, idx_tup0, idx_tup1, idx_tup2, idx_tup3, idx_lst0, idx_lst1, idx_lst2, idx_lst3, eqD_ii, eqD_bb, eqD_fr, Option.map_some, Option.map_none, Option.bind_some, List.getElem?_cons_zero, List.getElem?_cons_succ, List.set_cons_zero, List.set_cons_succ, List.length_cons, List.length_nil, if_true, if_false, decide_true, decide_false, Bool.not_true, Bool.not_false, decide_eq_true_eq, sizeL, Nat.reduceAdd, Nat.reduceLeDiff, Nat.zero_add, beq_self_eq_true, seqG_tup, seqG_lst, lenB_tup, lenB_lst, idx_cup0, idx_cup1, setAt0, setAt1, cup, isTy, Bool.false_eq_true, newL_f, newL_t, fin_rtk, List.nil_append, wipeE, Int.reduceNe, Int.reduceEq, Int.reduceLT, Int.reduceLE, Int.reduceAdd, Int.reduceSub, Int.reduceMul, Int.reduceNeg, Int.reduceGT, lcL_n, lcL_c, List.cons_append, cmpop, *]
def ladB : Ss := (Ss.cons (.ite (.not (.call 57 (.cons (.var 1) (.cons (.call 53 (.cons (.call 52 (.cons (.var 1) (.cons (.var 4) (.cons (.var 5) .nil)))) .nil)) .nil)))) (.cons (.ret (.cst (.bl false))) .nil) .nil) .nil)
theorem lad_step (k b s most : Nat) {x y : Int} (T : Mem) (h : CupB x y) (h1 : 1 ≤ s) (h2 : s ≤ 9) (hs : s ≤ 2 ^ b) (hb : b ≤ 4) (hm : most ≤ 20) (hbl : 2 * (b + 1) * most ≤ 36) :
    ∃ x' y', CupB x' y' ∧ ∀ (o0 o2 o3 : Option PV) (rest : Env), execs (callN prog W (k + 29)) W ladB (o0 :: some (.ref 0) :: o2 :: o3 :: some (.int most) :: some (.int s) :: rest) (cup x y :: T) = some (.nx (o0 :: some (.ref 0) :: o2 :: o3 :: some (.int most) :: some (.int s) :: rest) (cup x' y' :: T)) := by
  obtain ⟨L, x1, y1, e1, c1, l1, g1⟩ := ladder_ok (k + 26) T h most s hm h1 h2
  have hle : 2 * (b + 1) * L.length ≤ 36 := Nat.le_trans (Nat.mul_le_mul_left _ l1) hbl
  have hB : Bd 36 (Q4.prod (qs L)) := (Bd_prod b (qs L) (qs_Bd g1 hs)).mono (by rw [qs_len, ← Nat.mul_assoc, Nat.mul_comm (b + 1) 2]; exact hle)
  have f1 := fun k => law_chain_of_ok k b s (cup x1 y1 :: T) L g1 hs (by omega) (by omega)
  obtain ⟨x2, y2, e2, c2⟩ := right49 (k + 4) 36 T c1 _ hB (by omega) (Q4.ok_prod _ (qs_ok L))
  refine ⟨x2, y2, c2, fun o0 o2 o3 rest => ?_⟩
  unfold ladB
  clear hle hbl g1 l1 hB
  generalize (Q4.prod (qs L)).pv = qp at *
  generalize rgs L = rl at *
  walk_at "evf"
def sizB : Ss := (Ss.cons (.ite (.or (.not (.call 58 (.cons (.call 59 (.cons (.var 1) (.cons (.var 5) .nil))) .nil))) (.not (.call 58 (.cons (.tup (.cons (.cst (.int (1))) (.cons (.cst (.int (0))) (.cons (.bin .add false (.cst (.int (1))) (.call 40 (.cons (.var 1) (.cons (.var 5) .nil)))) .nil)))) .nil)))) (.cons (.ret (.cst (.bl false))) .nil) .nil) .nil)
theorem siz_step (k s : Nat) {x y : Int} (T : Mem) (h : CupB x y) (h1 : 1 ≤ s) (h2 : s < 10 ^ 12) :
    ∃ x' y', CupB x' y' ∧ ∀ (o0 o2 o3 o4 : Option PV) (rest : Env), execs (callN prog W (k + 29)) W sizB (o0 :: some (.ref 0) :: o2 :: o3 :: o4 :: some (.int s) :: rest) (cup x y :: T) = some (.nx (o0 :: some (.ref 0) :: o2 :: o3 :: o4 :: some (.int s) :: rest) (cup x' y' :: T)) := by
  have n12 : (10 : Nat) ^ 12 = 1000000000000 := by decide
  have t12 : (10 : Int) ^ 12 = 1000000000000 := by decide
  have e41 : (2 : Nat) ^ 42 = 4398046511104 := by decide
  obtain ⟨X, Y, Z, x1, y1, d1, c1, ep, b1, b2, b3⟩ := drawn49 (k + 26) s T h h1 h2
  obtain ⟨r2, x2, y2, d2, c2, p2, q2⟩ := roll_ok (k + 28) (many := (s : Int)) T c1 (by omega) (lt2.mono (n := 42) (by unfold lt2; omega) (by decide))
  have f1 := fun k M => (back_ok k M ep b1 b2 b3).2
  have ep2 : Ep 1 0 (1 + r2) := ⟨by decide, by omega, by
    unfold g3
    rw [show Int.gcd 1 0 = 1 from rfl]
    exact Int.one_gcd⟩
  have f2 := fun k M => (back_ok k M ep2 (by decide) (by decide) (by omega)).2
  refine ⟨x2, y2, c2, fun o0 o2 o3 o4 rest => ?_⟩
  unfold sizB
  clear ep ep2 b1 b2 b3 p2 q2 c1 c2 h n12 t12 e41
  walk_at "evf"

def one49 : Q4 := ⟨2, 1, 1, 1⟩
def oth49 : Q4 := ⟨1, 3, 0, 1⟩
def thr49 : Q4 := ⟨2, 3 / 2, 2, 2⟩
theorem Bd_one49 : Bd 1 one49 := ⟨1, 2, ⟨⟨2, by decide +kernel, by decide⟩, ⟨1, by decide +kernel, by decide⟩, ⟨1, by decide +kernel, by decide⟩, ⟨1, by decide +kernel, by decide⟩, by decide, by decide⟩, by decide⟩
theorem Bd_oth49 : Bd 2 oth49 := ⟨1, 3, ⟨⟨1, by decide +kernel, by decide⟩, ⟨3, by decide +kernel, by decide⟩, ⟨0, by decide +kernel, by decide⟩, ⟨1, by decide +kernel, by decide⟩, by decide, by decide⟩, by decide⟩
theorem Bd_thr49 : Bd 2 thr49 := ⟨2, 4, ⟨⟨4, by decide +kernel, by decide⟩, ⟨3, by decide +kernel, by decide⟩, ⟨4, by decide +kernel, by decide⟩, ⟨4, by decide +kernel, by decide⟩, by decide, by decide⟩, by decide⟩
theorem one49_pv : one49.pv = .tup [.tup [.int 2, .int 1], fr 1, fr 1, fr 1] := rfl
theorem oth49_pv : oth49.pv = .tup [fr 1, .tup [.int 3, .int 1], fr 0, fr 1] := rfl
theorem fr_lit {q : Rat} {n : Int} {d : Nat} (h1 : q.num = n) (h2 : q.den = d) : fr q = .tup [.int n, .int (d : Int)] := by unfold fr; rw [h1, h2]
theorem thr49_pv : thr49.pv = .tup [.tup [.int 2, .int 1], .tup [.int 3, .int 2], .tup [.int 2, .int 1], .tup [.int 2, .int 1]] := by
  unfold Q4.pv ch thr49
  simp only []
  rw [fr_lit (q := 3 / 2) (n := 3) (d := 2) (by decide +kernel) (by decide +kernel)]
  rfl
theorem La_one49 : La one49 := ⟨by unfold one49; decide +kernel, by unfold one49; decide +kernel, by unfold one49; decide +kernel, by unfold one49; decide +kernel⟩
theorem La_thr49 : La thr49 := ⟨by unfold thr49; decide +kernel, by unfold thr49; decide +kernel, by unfold thr49; decide +kernel, by unfold thr49; decide +kernel⟩
theorem ok_one49 : one49.ok := by unfold Q4.ok one49; decide +kernel
theorem ok_oth49 : oth49.ok := by unfold Q4.ok oth49; decide +kernel
theorem ok_thr49 : thr49.ok := by unfold Q4.ok thr49; decide +kernel
theorem half_fr : PV.tup [.int 1, .int 2] = fr (1 / 2) := (fr_lit (by decide +kernel) (by decide +kernel)).symm
set_option maxHeartbeats 0 in
theorem law_ok (k : Nat) (ns : List Int) (hl : ns.length ≤ 63) : ∃ M', callN prog W (k + 30) 60 [.rol (ns.map PV.int)] [] = some (.bl true, M') := by
  obtain ⟨x, y, e0, c0⟩ := cup_ok (k + 28) ns hl
  have W1 : ∀ k M, callN prog W (k + 6) 32 [.tup [.tup [.int 2, .int 1], fr 1, fr 1, fr 1]] M = some (.bl true, M) := fun k M => (is_last_ok 0 M Bd_one49 (by decide) ok_one49 true La_one49.good.symm).2 k
  have W2 : ∀ k M, callN prog W (k + 6) 32 [.tup [fr 1, .tup [.int 3, .int 1], fr 0, fr 1]] M = some (.bl false, M) := fun k M => (is_last_ok 0 M Bd_oth49 (by decide) ok_oth49 false (by unfold oth49; decide +kernel)).2 k
  have W3 : ∀ k M, callN prog W (k + 7) 33 [.tup [.tup [.int 2, .int 1], fr 1, fr 1, fr 1]] M = some (.tup [.int 1, .int (-1), .int 1], M) :=
    (end_is (m := 10) (X := 1) (Y := -1) (Z := 1) Bd_one49 (by decide) ok_one49 La_one49 ⟨by decide, by decide, by decide⟩ (by unfold one49; decide +kernel) (by unfold one49; decide +kernel) (by unfold lt2; decide) (by unfold lt2; decide) (by unfold lt2; decide) (by decide)).2.1
  have W4 : ∀ k M, callN prog W (k + 8) 34 [.tup [.tup [.int 2, .int 1], fr 1, fr 1, fr 1], .int 1] M = some (.tup [fr 1, .tup [.int 2, .int 1]], M) := fun k M => by
    have h := bounds_ok k M Bd_one49 (by decide) ok_one49 La_one49 0 (by decide)
    rw [show lowq one49 (0 + 1) = 1 by decide +kernel, show highq one49 (0 + 1) = 2 by decide +kernel] at h
    exact h
  have W5 : ∀ k M, callN prog W (k + 8) 34 [.tup [.tup [.int 2, .int 1], fr 1, fr 1, fr 1], .int 2] M = some (.tup [.tup [.int 3, .int 2], .tup [.int 5, .int 3]], M) := fun k M => by
    have h := bounds_ok k M Bd_one49 (by decide) ok_one49 La_one49 1 (by decide)
    rw [fr_lit (q := lowq one49 (1 + 1)) (n := 3) (d := 2) (by decide +kernel) (by decide +kernel), fr_lit (q := highq one49 (1 + 1)) (n := 5) (d := 3) (by decide +kernel) (by decide +kernel)] at h
    exact h
  have ep6 : Ep 1 0 2 := ⟨by decide, by decide, by decide⟩
  have W6 := fun k M => cfe_ok k M ep6 (by decide) (by decide) (by decide)
  have W7 := (back_ok 0 [] ep6 (by decide) (by decide) (by decide)).1
  generalize (cfe 1 0 2).pv = cp at *
  have W8 : ∀ k M, callN prog W (k + 7) 33 [.tup [.tup [.int 2, .int 1], .tup [.int 3, .int 2], .tup [.int 2, .int 1], .tup [.int 2, .int 1]]] M = some (.tup [.int 4, .int 0, .int 3], M) := by
    rw [← thr49_pv]
    exact (end_is (m := 10) (X := 4) (Y := 0) (Z := 3) Bd_thr49 (by decide) ok_thr49 La_thr49 ⟨by decide, by decide, by decide⟩ (by unfold thr49; decide +kernel) (by unfold thr49; decide +kernel) (by unfold lt2; decide) (by unfold lt2; decide) (by unfold lt2; decide) (by decide)).2.1
  have LR := fun k M => like_ok k (.lst [.bl true, .bl false, .tup [.int 1, .int (-1), .int 1], .tup [fr 1, .tup [.int 2, .int 1]], .tup [.tup [.int 3, .int 2], .tup [.int 5, .int 3]], .tup [.int 1, .int 0, .int 2], .tup [.int 4, .int 0, .int 3]]) M rfl (Nat.le_of_ble_eq_true rfl)
  have nc : ((3 : Nat) : Int) = 3 ∧ ((9 : Nat) : Int) = 9 ∧ ((6 : Nat) : Int) = 6 ∧ ((5 : Nat) : Int) = 5 ∧ ((4 : Nat) : Int) = 4 ∧ ((60 : Nat) : Int) = 60 ∧ ((1000000 : Nat) : Int) = 1000000 ∧ ((2 : Nat) : Int) = 2 ∧ ((999999999999 : Nat) : Int) = 999999999999 := ⟨rfl, rfl, rfl, rfl, rfl, rfl, rfl, rfl, rfl⟩
  obtain ⟨nc3, nc9, nc6, nc5, nc4, nc60, ncM, nc2, ncT⟩ := nc
  obtain ⟨x1, y1, c1, R1⟩ := lad_step k 4 9 2 [] c0 (by decide) (by decide) (by decide) (by decide) (by decide) (by decide)
  obtain ⟨x2, y2, c2, R2⟩ := lad_step k 3 5 4 [] c1 (by decide) (by decide) (by decide) (by decide) (by decide) (by decide)
  obtain ⟨x3, y3, c3, R3⟩ := lad_step k 2 3 6 [] c2 (by decide) (by decide) (by decide) (by decide) (by decide) (by decide)
  simp only [nc2, nc9] at R1
  simp only [nc4, nc5] at R2
  simp only [nc6, nc3] at R3
  obtain ⟨p, x4, y4, e4, c4, n4, p4⟩ := number0_ok (k + 27) [] c3 9 (by decide) (by decide)
  obtain ⟨r, x5, y5, e5, c5, n5, p5⟩ := number0_ok (k + 27) [] c4 9 (by decide) (by decide)
  obtain ⟨qa, x6, y6, e6, c6, b6, o6⟩ := any_q4 (k + 25) [] c5 5 22 (by decide) (by decide) (by decide)
  rw [nc9] at e4 e5
  rw [nc5] at e6
  obtain ⟨x7, y7, e7, c7⟩ := right49 (k + 4) 22 [] c6 qa b6 (by decide) o6
  have nb1 : nb 9 1 := ⟨by decide, by decide⟩
  have nbh : nb 9 (1 / 2) := ⟨by decide +kernel, by decide +kernel⟩
  have gS : ∀ x ∈ ([(p, 1), (1 / 2, r)] : List Rg), gd 9 x := fun x hx => by
    simp only [List.mem_cons, List.not_mem_nil, or_false] at hx
    rcases hx with rfl | rfl
    · exact ⟨n4, nb1, p4, by show (0 : Rat) ≤ 1; decide⟩
    · exact ⟨nbh, n5, by show (0 : Rat) ≤ 1 / 2; decide +kernel, p5⟩
  have e8 : ∀ k M, callN prog W (k + 4) 53 [.tup [.tup [fr p, fr 1], .tup [.tup [.int 1, .int 2], fr r]]] M = some ((Q4.prod (qs [(p, 1), (1 / 2, r)])).pv, M) := fun k M => by
    rw [half_fr]
    exact law_chain_of_ok k 4 9 M [(p, 1), (1 / 2, r)] gS (by decide) (by simp) (by decide)
  have b8 : Bd 36 (Q4.prod (qs [(p, 1), (1 / 2, r)])) := (Bd_prod 4 _ (qs_Bd gS (by decide))).mono (by rw [qs_len]; simp)
  obtain ⟨x8, y8, e9, c8⟩ := right49 (k + 4) 36 [] c7 _ b8 (by decide) (Q4.ok_prod _ (qs_ok _))
  obtain ⟨x9, y9, c9, S1⟩ := siz_step k 4 [] c8 (by decide) (by decide)
  obtain ⟨x10, y10, c10, S2⟩ := siz_step k 60 [] c9 (by decide) (by decide)
  obtain ⟨x11, y11, c11, S3⟩ := siz_step k 1000000 [] c10 (by decide) (by decide)
  obtain ⟨x12, y12, c12, S4⟩ := siz_step k 999999999999 [] c11 (by decide) (by decide)
  simp only [nc4] at S1
  simp only [nc60] at S2
  simp only [ncM] at S3
  simp only [ncT] at S4
  obtain ⟨r1, x13, y13, d1, c13, p13, q13⟩ := roll_ok (k + 28) (many := 12) [] c12 (by omega) (lt2.mono (n := 4) (by unfold lt2; decide) (by decide))
  obtain ⟨r2, x14, y14, d2, c14, p14, q14⟩ := roll_ok (k + 28) (many := 12) [] c13 (by omega) (lt2.mono (n := 4) (by unfold lt2; decide) (by decide))
  have d3 := l_least_ok (k + 28) (1 + r1) (1 + r2) (cup x14 y14 :: []) (n := 4) (lt2_of (m := 13) (by omega) (by decide)) (by omega) (by decide)
  obtain ⟨r3, x15, y15, d4, c15, p15, q15⟩ := roll_ok (k + 28) (many := 12) [] c14 (by omega) (lt2.mono (n := 4) (by unfold lt2; decide) (by decide))
  obtain ⟨r4, x16, y16, d5, c16, p16, q16⟩ := roll_ok (k + 28) (many := 12) [] c15 (by omega) (lt2.mono (n := 4) (by unfold lt2; decide) (by decide))
  have d6 := l_least_ok (k + 28) (1 + r3) (1 + r4) (cup x16 y16 :: []) (n := 4) (lt2_of (m := 13) (by omega) (by decide)) (by omega) (by decide)
  have nr : nb 12 (Rat.divInt (1 + r1) (1 + r2)) := low_nb (by omega) (by omega) (by omega)
  have ng : nb 12 (Rat.divInt (1 + r3) (1 + r4)) := low_nb (by omega) (by omega) (by omega)
  have fpos : ∀ {a b : Int}, 0 < a → 0 < b → 0 < Rat.divInt a b := fun {a b} ha hb => by
    rw [Rat.divInt_eq_div, Rat.div_def]
    refine Rat.mul_pos ?_ (Rat.inv_pos.mpr ?_)
    · exact_mod_cast ha
    · exact_mod_cast hb
  have rp : 0 < Rat.divInt (1 + r1) (1 + r2) := fpos (by omega) (by omega)
  have gp : 0 < Rat.divInt (1 + r3) (1 + r4) := fpos (by omega) (by omega)
  generalize Rat.divInt (1 + r1) (1 + r2) = u at *
  generalize Rat.divInt (1 + r3) (1 + r4) = g at *
  have gG : ∀ x ∈ ([(u, g)] : List Rg), gd 12 x := fun x hx => by
    rw [List.mem_singleton.mp hx]
    exact ⟨nr, ng, Rat.le_of_lt rp, Rat.le_of_lt gp⟩
  have e17 : ∀ k M, callN prog W (k + 4) 53 [.tup [.tup [fr u, fr g]]] M = some ((Q4.prod (qs [(u, g)])).pv, M) := fun k M => law_chain_of_ok k 4 12 M [(u, g)] gG (by decide) (by simp) (by decide)
  have b17 : Bd 10 (Q4.prod (qs [(u, g)])) := (Bd_prod 4 _ (qs_Bd gG (by decide))).mono (by rw [qs_len]; simp)
  have o17 := Q4.ok_prod _ (qs_ok [(u, g)])
  have eq17 : Q4.prod (qs [(u, g)]) = ⟨1 + u * g, u, g, 1⟩ := by
    show Q4.mul (qR u) (Q4.mul (qG g) Q4.one) = _
    unfold Q4.mul qR qG Q4.one
    apply Q4.ext <;> (simp only []; grind)
  rw [eq17] at e17 b17 o17
  have ug := Rat.mul_pos rp gp
  have la17 : La ⟨1 + u * g, u, g, 1⟩ := ⟨by show 1 ≤ 1 + u * g; grind, by show (1 : Rat) ≤ 1; decide, rp, gp⟩
  obtain ⟨X, Y, Z, en, f1, -⟩ := end_both _ b17 (by decide) la17.b la17.c
  have f2 := fun k M => end_of_ok2 k M b17 (by decide) o17 la17 en (by decide) f1
  have xr : ((X : Int) : Rat) ≠ 0 := by
    have := en.p.x
    intro z
    have : X = 0 := by exact_mod_cast z
    omega
  have h1 : Rat.divInt (-Y) X = u := by
    have a := en.r1
    simp only [] at a
    rw [Rat.divInt_eq_div, Rat.intCast_neg]
    have : -(Y : Rat) = u * X := by
      have k1 : (-(Y : Rat) - u * X) * g = 0 := by grind
      rcases Rat.mul_eq_zero.mp k1 with h | h
      · grind
      · exfalso; grind
    rw [this]
    grind
  have h2 : Rat.divInt Z X = u / g := by
    have a := en.r2
    simp only [] at a
    rw [Rat.divInt_eq_div]
    have hg : g ≠ 0 := by grind
    generalize (Z : Rat) = z at *
    generalize (X : Rat) = x at *
    have : z = x * u / g := by grind
    rw [this]
    grind
  have x0 := en.p.x
  have d7 := fun k M => l_least_ok k (-Y) X M en.x (by omega) (by decide)
  have d8 := fun k M => l_least_ok k Z X M en.x (by omega) (by decide)
  rw [h1] at d7
  rw [h2] at d8
  have d9 := fun k M => l_over_ok k M (nr.sm (n := 4) (by decide)) (ng.sm (n := 4) (by decide)) (by decide) (by grind)
  have L9 := fun k M => like_ok k (.lst [fr u, fr (u / g)]) M rfl (Nat.le_of_ble_eq_true rfl)
  have p6 : powOp (.int 10) (.int 6) = some (.int 1000000) := by rfl
  have p12 : powOp (.int 10) (.int 12) = some (.int 1000000000000) := by rfl
  have lv : leave 0 (.bl true) [cup x16 y16] = some (.bl true, []) := rfl
  have p122 : (1000000000000 : Int) - 1 = 999999999999 := rfl
  refine ⟨[], ?_⟩
  rw [u_law]
  unfold m_law
  rw [show (Ss.cons (.ite (.not (.call 57 (.cons (.var 1) (.cons (.call 53 (.cons (.call 52 (.cons (.var 1) (.cons (.var 4) (.cons (.var 5) .nil)))) .nil)) .nil)))) (.cons (.ret (.cst (.bl false))) .nil) .nil) .nil) = ladB from rfl, show (Ss.cons (.ite (.or (.not (.call 58 (.cons (.call 59 (.cons (.var 1) (.cons (.var 5) .nil))) .nil))) (.not (.call 58 (.cons (.tup (.cons (.cst (.int (1))) (.cons (.cst (.int (0))) (.cons (.bin .add false (.cst (.int (1))) (.call 40 (.cons (.var 1) (.cons (.var 5) .nil)))) .nil)))) .nil)))) (.cons (.ret (.cst (.bl false))) .nil) .nil) .nil) = sizB from rfl]
  generalize ladB = lB at *
  generalize sizB = sB at *
  generalize (Q4.prod (qs [(p, 1), (1 / 2, r)])).pv = q8 at *
  generalize qa.pv = q6 at *
  generalize (⟨1 + u * g, u, g, 1⟩ : Q4).pv = q17 at *
  clear en f1 la17 o17 b17 eq17 gG gS b8 b6 o6 c0 c1 c2 c3 c4 c5 c6 c7 c8 c9 c10 c11 c12 c13 c14 c15 c16 nr ng rp gp ug xr h1 h2 x0 n4 n5 p4 p5 nb1 nbh ep6 nc2 nc3 nc4 nc5 nc6 nc9 nc60 ncM ncT hl p13 p14 p15 p16 q13 q14 q15 q16 fpos
  simp -implicitDefEqProofs only [execs, exec, eval, evals, evalI, conds, bnd_some, bnd_none, bifb_t, bifb_f, bifb_d, bifb_b, iff_t, iff_d, nxt_nx, nxt_rt, binop, cmpop, addOp_ii, addOp_tt, addOp_ll, subOp_ii, mulOp_ii, fdivOp_ii, modOp_ii, cmpI_ii, tru_bl, tru_int, absB_i, intB_i, asM_int, asM_bl, asM_tup, asM_false, isOp_n, isOp_bb, isNon_non, isNon_tup, isNon_int, isNon_bl, isNon_lst, isNon_ref, isNon_rol, isNon_str, isNon_fr, setAll_nil, setAll_cons, bindT_nm, bindT_tp, fin_rt, fin_nx, leave_same, bltOp, idx_tup0, idx_tup1, idx_tup2, idx_tup3, idx_lst0, idx_lst1, idx_lst2, idx_lst3, eqD_ii, eqD_bb, eqD_fr, Option.map_some, Option.map_none, Option.bind_some, List.getElem?_cons_zero, List.getElem?_cons_succ, List.set_cons_zero, List.set_cons_succ, List.length_cons, List.length_nil, if_true, if_false, decide_true, decide_false, Bool.not_true, Bool.not_false, decide_eq_true_eq, sizeL, Nat.reduceAdd, Nat.reduceLeDiff, Nat.zero_add, beq_self_eq_true, seqG_tup, seqG_lst, lenB_tup, lenB_lst, idx_cup0, idx_cup1, setAt0, setAt1, cup, isTy, Bool.false_eq_true, newL_f, newL_t, fin_rtk, List.nil_append, wipeE, Int.reduceNe, Int.reduceEq, Int.reduceLT, Int.reduceLE, Int.reduceAdd, Int.reduceSub, Int.reduceMul, Int.reduceNeg, Int.reduceGT, fr_0', fr_1', fr_m1', idx_fr0, idx_fr1, List.cons_append, List.append_nil, forL_n, forL_c, lcL_n, lcL_c, cmpop, *]

end Lw

namespace Lw
open Ev
theorem pure {P : Prop} (ns : List Int) (hl : ns.length ≤ 63) (_ : P) : ∃ M', callN prog W 30 60 [.rol (ns.map PV.int)] [] = some (.bl true, M') := law_ok 0 ns hl
end Lw
namespace Lw
open PySem PySem.Spec PyProof.Rows L2 Ev
theorem law_end {P : Program} {w : World} {K : PySem.W.Frag} {mg : Str → Option Value} {fa : Addr} {W : Nat} (hfa : mg "law" = some (.ref fa)) (d_is_integer : DefOf K mg "is_integer" s_is_integer) (d_is_whole : DefOf K mg "is_whole" s_is_whole) (d_need_whole : DefOf K mg "need_whole" s_need_whole) (d_is_tuple_of : DefOf K mg "is_tuple_of" s_is_tuple_of) (d_divisor_of : DefOf K mg "divisor_of" s_divisor_of) (d_lowest : DefOf K mg "lowest" s_lowest) (d_sum_of : DefOf K mg "sum_of" s_sum_of) (d_less_by : DefOf K mg "less_by" s_less_by) (d_product_of : DefOf K mg "product_of" s_product_of) (d_part_of : DefOf K mg "part_of" s_part_of) (d_is_under : DefOf K mg "is_under" s_is_under) (d_fits_fraction : DefOf K mg "fits_fraction" s_fits_fraction) (d_need_fraction : DefOf K mg "need_fraction" s_need_fraction) (d_fits_chain : DefOf K mg "fits_chain" s_fits_chain) (d_need_chain : DefOf K mg "need_chain" s_need_chain) (d_is_from_none : DefOf K mg "is_from_none" s_is_from_none) (d_need_load : DefOf K mg "need_load" s_need_load) (d_joined_chain : DefOf K mg "joined_chain" s_joined_chain) (d_product_in : DefOf K mg "product_in" s_product_in) (d_seen_in : DefOf K mg "seen_in" s_seen_in) (d_is_told_in : DefOf K mg "is_told_in" s_is_told_in) (d_is_chain : DefOf K mg "is_chain" s_is_chain) (d_chain_seen : DefOf K mg "chain_seen" s_chain_seen) (d_is_told_chain : DefOf K mg "is_told_chain" s_is_told_chain) (d_is_lasting_in : DefOf K mg "is_lasting_in" s_is_lasting_in) (d_need_lasting : DefOf K mg "need_lasting" s_need_lasting) (d_fits_end : DefOf K mg "fits_end" s_fits_end) (d_need_end : DefOf K mg "need_end" s_need_end) (d_end_in : DefOf K mg "end_in" s_end_in) (d_sign_of : DefOf K mg "sign_of" s_sign_of) (d_beside_in : DefOf K mg "beside_in" s_beside_in) (d_compared : DefOf K mg "compared" s_compared) (d_is_lasting : DefOf K mg "is_lasting" s_is_lasting) (d_end_of_chain : DefOf K mg "end_of_chain" s_end_of_chain) (d_end_bounds : DefOf K mg "end_bounds" s_end_bounds) (d_chain_for_end : DefOf K mg "chain_for_end" s_chain_for_end) (d_is_end_number : DefOf K mg "is_end_number" s_is_end_number) (d_end_beside : DefOf K mg "end_beside" s_end_beside) (d_compare_ends : DefOf K mg "compare_ends" s_compare_ends) (d__law_cup : DefOf K mg "_law_cup" s__law_cup) (d__law_roll : DefOf K mg "_law_roll" s__law_roll) (d__law_sort : DefOf K mg "_law_sort" s__law_sort) (d__law_like : DefOf K mg "_law_like" s__law_like) (d__law_least : DefOf K mg "_law_least" s__law_least) (d__law_plus : DefOf K mg "_law_plus" s__law_plus) (d__law_minus : DefOf K mg "_law_minus" s__law_minus) (d__law_times : DefOf K mg "_law_times" s__law_times) (d__law_over : DefOf K mg "_law_over" s__law_over) (d__law_under : DefOf K mg "_law_under" s__law_under) (d__law_joined : DefOf K mg "_law_joined" s__law_joined) (d__law_any_chain : DefOf K mg "_law_any_chain" s__law_any_chain) (d__law_number : DefOf K mg "_law_number" s__law_number) (d__law_ladder : DefOf K mg "_law_ladder" s__law_ladder) (d__law_chain_of : DefOf K mg "_law_chain_of" s__law_chain_of) (d__law_divisor : DefOf K mg "_law_divisor" s__law_divisor) (d__law_end : DefOf K mg "_law_end" s__law_end) (d__law_worth : DefOf K mg "_law_worth" s__law_worth) (d__law_right : DefOf K mg "_law_right" s__law_right) (d__law_back_right : DefOf K mg "_law_back_right" s__law_back_right) (d__law_drawn : DefOf K mg "_law_drawn" s__law_drawn) (d_law : DefOf K mg "law" s_law) (c_DIGITS : ∃ z u, mg "DIGITS" = some u ∧ RelV z u ∧ Con K k_DIGITS z) (c_ONE : ∃ z u, mg "ONE" = some u ∧ RelV z u ∧ Con K k_ONE z) (c_PLAIN : ∃ z u, mg "PLAIN" = some u ∧ RelV z u ∧ Con K k_PLAIN z) (c_NONE : ∃ z u, mg "NONE" = some u ∧ RelV z u ∧ Con K k_NONE z) (c_MANY : ∃ z u, mg "MANY" = some u ∧ RelV z u ∧ Con K k_MANY z) (c_SHORT : ∃ z u, mg "SHORT" = some u ∧ RelV z u ∧ Con K k_SHORT z) (z_isinstance : mg "isinstance" = none) (z_bool : mg "bool" = none) (z_int : mg "int" = none) (z_len : mg "len" = none) (z_tuple : mg "tuple" = none) (z_abs : mg "abs" = none) (z_all : mg "all" = none) (z_list : mg "list" = none) (z_str : mg "str" = none) (z_zip : mg "zip" = none) (z_range : mg "range" = none) (z_max : mg "max" = none) (t_WORDS : TabAt K mg "WORDS" tb_WORDS) :
    ∃ fd : FuncData, (∀ (s : Shared) (v : Value), BindsTo s fd ⟨[v], []⟩ [("script", v)]) ∧ ∀ base : Heap, K.In base → base.Ns mainGlobals mg → FnOk P w K mg base CX0 30 fa fd ["script"] (spC K (callN prog W 30) 60) := by
  obtain ⟨f, fd, e1, F⟩ := id d_law
  obtain rfl : fa = f := by rw [hfa] at e1; cases e1; rfl
  refine ⟨fd, fun s v => ?_, fun base _ _ => fn_ok F sc_law rfl rfl rfl (b_law (tops (P := P) (w := w) (base := base) (W := W) d_is_integer d_is_whole d_need_whole d_is_tuple_of d_divisor_of d_lowest d_sum_of d_less_by d_product_of d_part_of d_is_under d_fits_fraction d_need_fraction d_fits_chain d_need_chain d_is_from_none d_need_load d_joined_chain d_product_in d_seen_in d_is_told_in d_is_chain d_chain_seen d_is_told_chain d_is_lasting_in d_need_lasting d_fits_end d_need_end d_end_in d_sign_of d_beside_in d_compared d_is_lasting d_end_of_chain d_end_bounds d_chain_for_end d_is_end_number d_end_beside d_compare_ends d__law_cup d__law_roll d__law_sort d__law_like d__law_least d__law_plus d__law_minus d__law_times d__law_over d__law_under d__law_joined d__law_any_chain d__law_number d__law_ladder d__law_chain_of d__law_divisor d__law_end d__law_worth d__law_right d__law_back_right d__law_drawn d_law c_DIGITS c_ONE c_PLAIN c_NONE c_MANY c_SHORT z_isinstance z_bool z_int z_len z_tuple z_abs z_all z_list z_str z_zip z_range z_max t_WORDS 29) fa)⟩
  obtain ⟨oc, od, kV, doc, pm, an, cdv, ct, osl, rfl, lk, hcd⟩ := F.ex
  exact .of_eq (bi_law _ _ _ _ _ _ [v] rfl)
end Lw
open PySem PySem.W PyProof.Rows L2 Ev
set_option maxHeartbeats 0 in
theorem PySem.Challenge.cw_endsmeasured_k49_whole_lasting_chains_holds : PySem.Challenge.rw_endsmeasured_k49_whole_lasting_chains.Holds := by
  w_on; o_law; k_head; (case hw => w_witness2)
  k_fill
  refine L2.walk_ofB (l := PySem.Challenge.rw_endsmeasured_k49_whole_lasting_chains) (n := 63) (k := 30) (x := "script") (CX := fun _ => L2.CX0) (sp := fun w => spC _ (callN Lw.prog Lw.W 30) 60) rfl (by decide) rfl ⟨rfl, by decide, by decide⟩ (fun w h Y => PySem.W.kIn_of Y) ?F (fun _ _ a ns hl hb _ hS => let ⟨_, h⟩ := Lw.pure ns hl hb; law_sp hS h) (fun _ _ _ _ _ h => h)
  case F =>
    intro w mg fa h KX G hmg
    refine' Lw.law_end hmg (def_mk (x := "is_integer") (st := Lw.s_is_integer) KX G ?a0 ?l1 ?c2 ?k3)
      (def_mk (x := "is_whole") (st := Lw.s_is_whole) KX G ?a4 ?l5 ?c6 ?k7)
      (def_mk (x := "need_whole") (st := Lw.s_need_whole) KX G ?a8 ?l9 ?c10 ?k11)
      (def_mk (x := "is_tuple_of") (st := Lw.s_is_tuple_of) KX G ?a12 ?l13 ?c14 ?k15)
      (def_mk (x := "divisor_of") (st := Lw.s_divisor_of) KX G ?a16 ?l17 ?c18 ?k19)
      (def_mk (x := "lowest") (st := Lw.s_lowest) KX G ?a20 ?l21 ?c22 ?k23)
      (def_mk (x := "sum_of") (st := Lw.s_sum_of) KX G ?a24 ?l25 ?c26 ?k27)
      (def_mk (x := "less_by") (st := Lw.s_less_by) KX G ?a28 ?l29 ?c30 ?k31)
      (def_mk (x := "product_of") (st := Lw.s_product_of) KX G ?a32 ?l33 ?c34 ?k35)
      (def_mk (x := "part_of") (st := Lw.s_part_of) KX G ?a36 ?l37 ?c38 ?k39)
      (def_mk (x := "is_under") (st := Lw.s_is_under) KX G ?a40 ?l41 ?c42 ?k43)
      (def_mk (x := "fits_fraction") (st := Lw.s_fits_fraction) KX G ?a44 ?l45 ?c46 ?k47)
      (def_mk (x := "need_fraction") (st := Lw.s_need_fraction) KX G ?a48 ?l49 ?c50 ?k51)
      (def_mk (x := "fits_chain") (st := Lw.s_fits_chain) KX G ?a52 ?l53 ?c54 ?k55)
      (def_mk (x := "need_chain") (st := Lw.s_need_chain) KX G ?a56 ?l57 ?c58 ?k59)
      (def_mk (x := "is_from_none") (st := Lw.s_is_from_none) KX G ?a60 ?l61 ?c62 ?k63)
      (def_mk (x := "need_load") (st := Lw.s_need_load) KX G ?a64 ?l65 ?c66 ?k67)
      (def_mk (x := "joined_chain") (st := Lw.s_joined_chain) KX G ?a68 ?l69 ?c70 ?k71)
      (def_mk (x := "product_in") (st := Lw.s_product_in) KX G ?a72 ?l73 ?c74 ?k75)
      (def_mk (x := "seen_in") (st := Lw.s_seen_in) KX G ?a76 ?l77 ?c78 ?k79)
      (def_mk (x := "is_told_in") (st := Lw.s_is_told_in) KX G ?a80 ?l81 ?c82 ?k83)
      (def_mk (x := "is_chain") (st := Lw.s_is_chain) KX G ?a84 ?l85 ?c86 ?k87)
      (def_mk (x := "chain_seen") (st := Lw.s_chain_seen) KX G ?a88 ?l89 ?c90 ?k91)
      (def_mk (x := "is_told_chain") (st := Lw.s_is_told_chain) KX G ?a92 ?l93 ?c94 ?k95)
      (def_mk (x := "is_lasting_in") (st := Lw.s_is_lasting_in) KX G ?a96 ?l97 ?c98 ?k99)
      (def_mk (x := "need_lasting") (st := Lw.s_need_lasting) KX G ?a100 ?l101 ?c102 ?k103)
      (def_mk (x := "fits_end") (st := Lw.s_fits_end) KX G ?a104 ?l105 ?c106 ?k107)
      (def_mk (x := "need_end") (st := Lw.s_need_end) KX G ?a108 ?l109 ?c110 ?k111)
      (def_mk (x := "end_in") (st := Lw.s_end_in) KX G ?a112 ?l113 ?c114 ?k115)
      (def_mk (x := "sign_of") (st := Lw.s_sign_of) KX G ?a116 ?l117 ?c118 ?k119)
      (def_mk (x := "beside_in") (st := Lw.s_beside_in) KX G ?a120 ?l121 ?c122 ?k123)
      (def_mk (x := "compared") (st := Lw.s_compared) KX G ?a124 ?l125 ?c126 ?k127)
      (def_mk (x := "is_lasting") (st := Lw.s_is_lasting) KX G ?a128 ?l129 ?c130 ?k131)
      (def_mk (x := "end_of_chain") (st := Lw.s_end_of_chain) KX G ?a132 ?l133 ?c134 ?k135)
      (def_mk (x := "end_bounds") (st := Lw.s_end_bounds) KX G ?a136 ?l137 ?c138 ?k139)
      (def_mk (x := "chain_for_end") (st := Lw.s_chain_for_end) KX G ?a140 ?l141 ?c142 ?k143)
      (def_mk (x := "is_end_number") (st := Lw.s_is_end_number) KX G ?a144 ?l145 ?c146 ?k147)
      (def_mk (x := "end_beside") (st := Lw.s_end_beside) KX G ?a148 ?l149 ?c150 ?k151)
      (def_mk (x := "compare_ends") (st := Lw.s_compare_ends) KX G ?a152 ?l153 ?c154 ?k155)
      (def_mk (x := "_law_cup") (st := Lw.s__law_cup) KX G ?a156 ?l157 ?c158 ?k159)
      (def_mk (x := "_law_roll") (st := Lw.s__law_roll) KX G ?a160 ?l161 ?c162 ?k163)
      (def_mk (x := "_law_sort") (st := Lw.s__law_sort) KX G ?a164 ?l165 ?c166 ?k167)
      (def_mk (x := "_law_like") (st := Lw.s__law_like) KX G ?a168 ?l169 ?c170 ?k171)
      (def_mk (x := "_law_least") (st := Lw.s__law_least) KX G ?a172 ?l173 ?c174 ?k175)
      (def_mk (x := "_law_plus") (st := Lw.s__law_plus) KX G ?a176 ?l177 ?c178 ?k179)
      (def_mk (x := "_law_minus") (st := Lw.s__law_minus) KX G ?a180 ?l181 ?c182 ?k183)
      (def_mk (x := "_law_times") (st := Lw.s__law_times) KX G ?a184 ?l185 ?c186 ?k187)
      (def_mk (x := "_law_over") (st := Lw.s__law_over) KX G ?a188 ?l189 ?c190 ?k191)
      (def_mk (x := "_law_under") (st := Lw.s__law_under) KX G ?a192 ?l193 ?c194 ?k195)
      (def_mk (x := "_law_joined") (st := Lw.s__law_joined) KX G ?a196 ?l197 ?c198 ?k199)
      (def_mk (x := "_law_any_chain") (st := Lw.s__law_any_chain) KX G ?a200 ?l201 ?c202 ?k203)
      (def_mk (x := "_law_number") (st := Lw.s__law_number) KX G ?a204 ?l205 ?c206 ?k207)
      (def_mk (x := "_law_ladder") (st := Lw.s__law_ladder) KX G ?a208 ?l209 ?c210 ?k211)
      (def_mk (x := "_law_chain_of") (st := Lw.s__law_chain_of) KX G ?a212 ?l213 ?c214 ?k215)
      (def_mk (x := "_law_divisor") (st := Lw.s__law_divisor) KX G ?a216 ?l217 ?c218 ?k219)
      (def_mk (x := "_law_end") (st := Lw.s__law_end) KX G ?a220 ?l221 ?c222 ?k223)
      (def_mk (x := "_law_worth") (st := Lw.s__law_worth) KX G ?a224 ?l225 ?c226 ?k227)
      (def_mk (x := "_law_right") (st := Lw.s__law_right) KX G ?a228 ?l229 ?c230 ?k231)
      (def_mk (x := "_law_back_right") (st := Lw.s__law_back_right) KX G ?a232 ?l233 ?c234 ?k235)
      (def_mk (x := "_law_drawn") (st := Lw.s__law_drawn) KX G ?a236 ?l237 ?c238 ?k239)
      (def_mk (x := "law") (st := Lw.s_law) KX G ?a240 ?l241 ?c242 ?k243)
      (con_ofI KX G ?v244)
      (con_of (z := .ref _) KX G ?v245 rfl (con_tupA ?l246 ?e247 ?y248))
      (con_of (z := .ref _) KX G ?v249 rfl (con_tupR ?l250 ?h251 ?y252))
      (con_of (z := .ref _) KX G ?v253 rfl (con_tupA ?l254 ?e255 ?y256))
      (con_ofI KX G ?v257)
      (con_ofI KX G ?v258)
      (PySem.W.mg_none_of KX G ?z259)
      (PySem.W.mg_none_of KX G ?z260)
      (PySem.W.mg_none_of KX G ?z261)
      (PySem.W.mg_none_of KX G ?z262)
      (PySem.W.mg_none_of KX G ?z263)
      (PySem.W.mg_none_of KX G ?z264)
      (PySem.W.mg_none_of KX G ?z265)
      (PySem.W.mg_none_of KX G ?z266)
      (PySem.W.mg_none_of KX G ?z267)
      (PySem.W.mg_none_of KX G ?z268)
      (PySem.W.mg_none_of KX G ?z269)
      (PySem.W.mg_none_of KX G ?z270)
      (tab_of KX G ?v271 ?l272 ?e273 ?y274)
    (case a0 => k_is)
    (case l1 => k_is)
    (case c2 => k_is)
    (case k3 => k_is)
    (case a4 => k_is)
    (case l5 => k_is)
    (case c6 => k_is)
    (case k7 => k_is)
    (case a8 => k_is)
    (case l9 => k_is)
    (case c10 => k_is)
    (case k11 => k_is)
    (case a12 => k_is)
    (case l13 => k_is)
    (case c14 => k_is)
    (case k15 => k_is)
    (case a16 => k_is)
    (case l17 => k_is)
    (case c18 => k_is)
    (case k19 => k_is)
    (case a20 => k_is)
    (case l21 => k_is)
    (case c22 => k_is)
    (case k23 => k_is)
    (case a24 => k_is)
    (case l25 => k_is)
    (case c26 => k_is)
    (case k27 => k_is)
    (case a28 => k_is)
    (case l29 => k_is)
    (case c30 => k_is)
    (case k31 => k_is)
    (case a32 => k_is)
    (case l33 => k_is)
    (case c34 => k_is)
    (case k35 => k_is)
    (case a36 => k_is)
    (case l37 => k_is)
    (case c38 => k_is)
    (case k39 => k_is)
    (case a40 => k_is)
    (case l41 => k_is)
    (case c42 => k_is)
    (case k43 => k_is)
    (case a44 => k_is)
    (case l45 => k_is)
    (case c46 => k_is)
    (case k47 => k_is)
    (case a48 => k_is)
    (case l49 => k_is)
    (case c50 => k_is)
    (case k51 => k_is)
    (case a52 => k_is)
    (case l53 => k_is)
    (case c54 => k_is)
    (case k55 => k_is)
    (case a56 => k_is)
    (case l57 => k_is)
    (case c58 => k_is)
    (case k59 => k_is)
    (case a60 => k_is)
    (case l61 => k_is)
    (case c62 => k_is)
    (case k63 => k_is)
    (case a64 => k_is)
    (case l65 => k_is)
    (case c66 => k_is)
    (case k67 => k_is)
    (case a68 => k_is)
    (case l69 => k_is)
    (case c70 => k_is)
    (case k71 => k_is)
    (case a72 => k_is)
    (case l73 => k_is)
    (case c74 => k_is)
    (case k75 => k_is)
    (case a76 => k_is)
    (case l77 => k_is)
    (case c78 => k_is)
    (case k79 => k_is)
    (case a80 => k_is)
    (case l81 => k_is)
    (case c82 => k_is)
    (case k83 => k_is)
    (case a84 => k_is)
    (case l85 => k_is)
    (case c86 => k_is)
    (case k87 => k_is)
    (case a88 => k_is)
    (case l89 => k_is)
    (case c90 => k_is)
    (case k91 => k_is)
    (case a92 => k_is)
    (case l93 => k_is)
    (case c94 => k_is)
    (case k95 => k_is)
    (case a96 => k_is)
    (case l97 => k_is)
    (case c98 => k_is)
    (case k99 => k_is)
    (case a100 => k_is)
    (case l101 => k_is)
    (case c102 => k_is)
    (case k103 => k_is)
    (case a104 => k_is)
    (case l105 => k_is)
    (case c106 => k_is)
    (case k107 => k_is)
    (case a108 => k_is)
    (case l109 => k_is)
    (case c110 => k_is)
    (case k111 => k_is)
    (case a112 => k_is)
    (case l113 => k_is)
    (case c114 => k_is)
    (case k115 => k_is)
    (case a116 => k_is)
    (case l117 => k_is)
    (case c118 => k_is)
    (case k119 => k_is)
    (case a120 => k_is)
    (case l121 => k_is)
    (case c122 => k_is)
    (case k123 => k_is)
    (case a124 => k_is)
    (case l125 => k_is)
    (case c126 => k_is)
    (case k127 => k_is)
    (case a128 => k_is)
    (case l129 => k_is)
    (case c130 => k_is)
    (case k131 => k_is)
    (case a132 => k_is)
    (case l133 => k_is)
    (case c134 => k_is)
    (case k135 => k_is)
    (case a136 => k_is)
    (case l137 => k_is)
    (case c138 => k_is)
    (case k139 => k_is)
    (case a140 => k_is)
    (case l141 => k_is)
    (case c142 => k_is)
    (case k143 => k_is)
    (case a144 => k_is)
    (case l145 => k_is)
    (case c146 => k_is)
    (case k147 => k_is)
    (case a148 => k_is)
    (case l149 => k_is)
    (case c150 => k_is)
    (case k151 => k_is)
    (case a152 => k_is)
    (case l153 => k_is)
    (case c154 => k_is)
    (case k155 => k_is)
    (case a156 => k_is)
    (case l157 => k_is)
    (case c158 => k_is)
    (case k159 => k_is)
    (case a160 => k_is)
    (case l161 => k_is)
    (case c162 => k_is)
    (case k163 => k_is)
    (case a164 => k_is)
    (case l165 => k_is)
    (case c166 => k_is)
    (case k167 => k_is)
    (case a168 => k_is)
    (case l169 => k_is)
    (case c170 => k_is)
    (case k171 => k_is)
    (case a172 => k_is)
    (case l173 => k_is)
    (case c174 => k_is)
    (case k175 => k_is)
    (case a176 => k_is)
    (case l177 => k_is)
    (case c178 => k_is)
    (case k179 => k_is)
    (case a180 => k_is)
    (case l181 => k_is)
    (case c182 => k_is)
    (case k183 => k_is)
    (case a184 => k_is)
    (case l185 => k_is)
    (case c186 => k_is)
    (case k187 => k_is)
    (case a188 => k_is)
    (case l189 => k_is)
    (case c190 => k_is)
    (case k191 => k_is)
    (case a192 => k_is)
    (case l193 => k_is)
    (case c194 => k_is)
    (case k195 => k_is)
    (case a196 => k_is)
    (case l197 => k_is)
    (case c198 => k_is)
    (case k199 => k_is)
    (case a200 => k_is)
    (case l201 => k_is)
    (case c202 => k_is)
    (case k203 => k_is)
    (case a204 => k_is)
    (case l205 => k_is)
    (case c206 => k_is)
    (case k207 => k_is)
    (case a208 => k_is)
    (case l209 => k_is)
    (case c210 => k_is)
    (case k211 => k_is)
    (case a212 => k_is)
    (case l213 => k_is)
    (case c214 => k_is)
    (case k215 => k_is)
    (case a216 => k_is)
    (case l217 => k_is)
    (case c218 => k_is)
    (case k219 => k_is)
    (case a220 => k_is)
    (case l221 => k_is)
    (case c222 => k_is)
    (case k223 => k_is)
    (case a224 => k_is)
    (case l225 => k_is)
    (case c226 => k_is)
    (case k227 => k_is)
    (case a228 => k_is)
    (case l229 => k_is)
    (case c230 => k_is)
    (case k231 => k_is)
    (case a232 => k_is)
    (case l233 => k_is)
    (case c234 => k_is)
    (case k235 => k_is)
    (case a236 => k_is)
    (case l237 => k_is)
    (case c238 => k_is)
    (case k239 => k_is)
    (case a240 => k_is)
    (case l241 => k_is)
    (case c242 => k_is)
    (case k243 => k_is)
    (case v244 => k_is)
    (case v245 => k_is)
    (case l246 => k_is)
    (case e247 => rfl)
    (case y248 => decide)
    (case v249 => k_is)
    (case l250 => k_is)
    (case h251 => exact (.cons ⟨.ref _, rfl, con_tupA (by k_is) (by rfl) (by decide)⟩ (.cons ⟨.ref _, rfl, con_tupA (by k_is) (by rfl) (by decide)⟩ (.cons ⟨.ref _, rfl, con_tupA (by k_is) (by rfl) (by decide)⟩ (.cons ⟨.ref _, rfl, con_tupA (by k_is) (by rfl) (by decide)⟩ .nil)))))
    (case y252 => decide)
    (case v253 => k_is)
    (case l254 => k_is)
    (case e255 => rfl)
    (case y256 => decide)
    (case v257 => k_is)
    (case v258 => k_is)
    (case z259 => k_is)
    (case z260 => k_is)
    (case z261 => k_is)
    (case z262 => k_is)
    (case z263 => k_is)
    (case z264 => k_is)
    (case z265 => k_is)
    (case z266 => k_is)
    (case z267 => k_is)
    (case z268 => k_is)
    (case z269 => k_is)
    (case z270 => k_is)
    (case v271 => k_is)
    (case l272 => k_is)
    (case e273 => rfl)
    (case y274 => decide)
