import PyProof.Rows.All
import HandS.ForMost
import PyProof.MaxThree
import HandS.IsInst
import HandS.TupAny
import HandS.Zip
import HandS.Wide
import HandS.Flow
import HandS.Sort
import HandS.Style
import HandS.Codes
import HandS.TupMul
import HandS.Iter
import HandS.NoneIn
import HandS.SortInts
import PyProof.WalkInts
import PyProof.WalksMore
import KE.KDictZip
import HandS.Words
import PySem.Challenge.RW_endsmeasured_k52_whole_builds
import HandS.EndBits
set_option Elab.async false
set_option linter.all false
set_option maxRecDepth 100000
namespace Ev
open PySem PySem.Spec PyProof.Rows L2
theorem args_max4 (a b c d : Value) : argsOk "max" ⟨[a, b, c, d], []⟩ := by unfold argsOk; kernel_rfl
section
variable {prog : Program} {w : World} {A : Around} {E : Value → Shared → Prop} {s : Shared}
theorem call_max_four {a b c d : Value} {Q : Value → Shared → Prop}
    (h : wpAny (model prog w) A.in1 (pyIter (.ref s.heap.objs.size)) (fun it s₂ => ∃ I fp wr n P St bt, it = .ref I ∧ Walks prog w A.in1 I fp wr n P St ∧ St 0 s₂.heap ∧ (∀ b ∈ fp, b < s₂.heap.objs.size) ∧ 0 < n ∧ CmpOf prog w A.in1 .Gt P bt ∧
      ∀ v h' tk, P (argBest bt (n - 1)) v → (∀ b o, b ∉ wr → s₂.heap.get? b = some o → h'.get? b = some o) → Q v { s₂ with heap := h', toks := tk }) E
      { s with heap := s.heap.push { cls := .type "tuple", data := .seq #[a, b, c, d] } }) :
    wpAny (model prog w) A (call (.builtin "max") [a, b, c, d]) Q E s := by
  have hname : (toString "max" ++ toString ".loop" : String) = "max.loop" := by decide
  refine call_function_tree F.kind_max F.plain_max F.entry_max (args_max4 _ _ _ _) ?_
  show wpAny _ A.in1 (Builtin.Builtins.bindParams "max" ["key", "default"] 0 ⟨[], []⟩ >>= _) _ _ s
  refine wpAny_bind (wpAny_of_eq (show Builtin.Builtins.bindParams "max" ["key", "default"] 0 ⟨[], []⟩ = pure [none, none] from rfl) ?_)
  show wpAny _ A.in1 (newTuple [a, b, c, d] >>= _) _ _ s
  refine wpAny_bind (wpAny_newObj_type ?_)
  refine wpAny_bind (wpAny_mono h (fun it s₂ h₂ => ?_) fun _ _ e => e)
  obtain ⟨I, fp, wr, n, P, St, bt, rfl, W, hst, hfp, hn, hcmp, hQ⟩ := h₂
  refine wpAny_bind (wpAny_newObj_type ?_)
  have hSf : s₂.heap.objs.size ∉ fp := fun hm => Nat.lt_irrefl _ (hfp _ hm)
  rw [hname]
  refine wpAny_pure ⟨plainId_quiet F.plain_max_loop _, codeAny_max_loop_first W bt hcmp s₂.heap.objs.size hSf hn (W.frame _ _ _ hst fun b _ o e => Heap.get?_push_of_some _ e) (Heap.get?_push_size _ rfl) fun v h' tk hP hk => ?_⟩
  exact hQ v h' tk hP fun b o hbw e => hk b o hbw (Nat.ne_of_lt (Heap.lt_size e)) (Heap.get?_push_of_some _ e)
theorem max_four_ints {a b c d : Int} {t u x y : Tok} {Q : Value → Shared → Prop} (hh : A.handled = none)
    (h : ∀ h' tk m t', (∀ d o, s.heap.get? d = some o → h'.get? d = some o) → m ∈ [a, b, c, d] → (∀ z ∈ [a, b, c, d], z ≤ m) → Q (.int m t') { s with heap := h', toks := tk }) :
    wpAny (model prog w) A (call (.builtin "max") [.int a t, .int b u, .int c x, .int d y]) Q E s := by
  have hT : (s.heap.push { cls := .type "tuple", data := .seq #[.int a t, .int b u, .int c x, .int d y] }).IsTuple s.heap.objs.size (intItems #[(a, t), (b, u), (c, x), (d, y)]) := ⟨_, Heap.get?_push_size _ rfl, rfl, 0, by simp [intItems]⟩
  refine call_max_four (wpAny_pyIter_tuple hT ?_)
  have hsz : (s.heap.push { cls := .type "tuple", data := .seq #[.int a t, .int b u, .int c x, .int d y] }).objs.size = s.heap.objs.size + 1 := Heap.size_push ..
  refine ⟨_, [_, s.heap.objs.size], [_], _, _, _, _, rfl, Walks.tuple (A := A.in1) hh _ s.heap.objs.size (by rw [hsz]; exact Nat.ne_of_lt (Nat.lt_succ_self _)) (intItems #[(a, t), (b, u), (c, x), (d, y)]),
    ⟨⟨_, Heap.get?_push_size _ rfl, rfl, rfl⟩, hT.push _⟩, fun d hd => ?_, by simp [intItems], CmpOf.ints_gt (numAt #[(a, t), (b, u), (c, x), (d, y)]) (fun _ _ => intItems_at), fun v h' tk hP hk => ?_⟩
  · show d < ((s.heap.push _).push _).objs.size
    rw [Heap.size_push, hsz]
    rcases List.mem_cons.mp hd with rfl | hd
    · rw [hsz]; exact Nat.lt_succ_self _
    · rcases List.mem_cons.mp hd with rfl | hd
      · exact Nat.lt_succ_of_lt (Nat.lt_succ_self _)
      · cases hd
  · have hold : ∀ d o, s.heap.get? d = some o → h'.get? d = some o := fun d o e => by
      refine hk d o (fun hm => ?_) (Heap.get?_push_of_some _ (Heap.get?_push_of_some _ e))
      rcases List.mem_cons.mp hm with e1 | hm
      · have := Heap.lt_size e; rw [e1, hsz] at this; exact Nat.lt_irrefl _ (Nat.lt_of_succ_lt this)
      · cases hm
    have hsz2 : (intItems #[(a, t), (b, u), (c, x), (d, y)]).size - 1 = 3 := by simp [intItems]
    rw [hsz2] at hP
    obtain ⟨t', rfl⟩ := intItems_at hP
    obtain ⟨h1, h2⟩ := argBest_gt (numAt #[(a, t), (b, u), (c, x), (d, y)]) 3
    refine h h' tk _ t' hold ?_ fun z hz => ?_
    · generalize argBest _ 3 = j at h1
      rcases (show j = 0 ∨ j = 1 ∨ j = 2 ∨ j = 3 by omega) with rfl | rfl | rfl | rfl <;> simp [numAt]
    · simp only [List.mem_cons, List.not_mem_nil, or_false] at hz
      rcases hz with rfl | rfl | rfl | rfl
      · exact h2 0 (by omega)
      · exact h2 1 (by omega)
      · exact h2 2 (by omega)
      · exact h2 3 (by omega)
end
theorem call_max4 {X : Cx} (hc : X.calm = true) : CallR X (.builtin "max") (fun xs H Q => ∃ i j k l, xs = [.int i, .int j, .int k, .int l] ∧ ∀ m, m ∈ [i, j, k, l] → (∀ z ∈ [i, j, k, l], z ≤ m) → Q (.int m) H) := by
  intro pins s σ H xs us Q I r h
  obtain ⟨i, j, k, l, rfl, q⟩ := h
  cases r with
  | cons r1 r =>
  cases r with
  | cons r2 r =>
  cases r with
  | cons r3 r =>
  cases r with
  | cons r4 r =>
  cases r
  obtain ⟨t1, rfl⟩ := r1
  obtain ⟨t2, rfl⟩ := r2
  obtain ⟨t3, rfl⟩ := r3
  obtain ⟨t4, rfl⟩ := r4
  exact max_four_ints (I.ok.hd hc) fun h' tk m t' kp h1 h2 => ⟨.int m, H, I.kept kp, ⟨_, rfl⟩, q m h1 h2⟩
end Ev

/-! A pure interpreter for the programs' common subset: values, expressions, statements. -/
namespace Ev
open PySem L2

/-- values: tuples and read-only lists by value; `ref n` is the n-th mutable cell; `rol` a list that is only read -/
inductive PV where
  | non | bl (b : Bool) | int (i : Int) | str (s : Str)
  | tup (xs : List PV) | lst (xs : List PV) | rol (xs : List PV) | ref (n : Nat)
deriving Inhabited

inductive Cell where
  | lst (xs : List PV)
  | dic (kvs : List (PV × PV))
deriving Inhabited

abbrev Mem := List Cell
abbrev Env := List (Option PV)

inductive Bop where | add | sub | mul | fdiv | mod | pow
inductive Cm where | eq | ne | lt | le | gt | ge | is | isn | isin | notin
inductive Ty where | int | bool | str | tuple | list
inductive Bl where | abs | int | list | tuple | len | sum | all | any | max | min | ztup | srt | maxt

/-- a part of a nested target -/
inductive Tp1 where | n (i : Nat) | t (is : List Nat)
mutual
inductive E where
  | var (i : Nat) | cst (v : PV)
  | bin (o : Bop) (f : Bool) (a b : E) | neg (a : E) | not (a : E) | and (a b : E) | or (a b : E)
  | cmp (o : Cm) (a b : E) | chn (o o' : Cm) (a b c : E) | ite (c a b : E)
  | tup (es : Es) | lst (m : Bool) (es : Es)
  | idx (a b : E) | slc (a : E) (bl bh : Bool) (lo hi : E) | rev (a : E)
  | call (f : Nat) (es : Es) | blt (b : Bl) (m : Bool) (es : Es) | isi (a : E) (t : Ty)
  | app (a e : E) | tab (kvs : List (Int × PV)) (e : E)
  | lc (m : Bool) (w : List Nat) (t : T) (it : I) (cs : Es) (e : E)
inductive Es where | nil | cons (e : E) (es : Es)
inductive I where | seq (e : E) | rng (a b : E) | zip (a b : E) | enm (e : E)
inductive T where | nm (i : Nat) | tp (is : List Nat) | ls (is : List Nat) | t2 (ps : List Tp1)
end

mutual
inductive S where
  | set (i : Nat) (e : E) | par (i j : Nat) (a b : E) | par3 (i j l : Nat) (a b c : E) | asg (t : T) (e : E) | seti (o i e : E)
  | exp (e : E) | ite (c : E) (a b : Ss) | whl (c : E) (b : Ss) | for_ (t : T) (it : I) (b : Ss)
  | ret (e : E) | rais
inductive Ss where | nil | cons (s : S) (ss : Ss)
end

/-! ### the operations -/
def items (M : Mem) : PV → Option (List PV)
  | .lst xs | .rol xs => some xs
  | .ref n => match M[n]? with | some (.lst xs) => some xs | _ => none
  | _ => none
def itemsT (M : Mem) : PV → Option (List PV)
  | .tup xs => some xs
  | v => items M v

mutual
def toD : PV → Option PyData
  | .non => some .none
  | .bl b => some (.bool b)
  | .int i => some (.int i)
  | .str s => some (.str s)
  | .tup xs => (toDs xs).map .tuple
  | .lst xs | .rol xs => (toDs xs).map .list
  | .ref _ => none
def toDs : List PV → Option (List PyData)
  | [] => some []
  | x :: xs => match toD x, toDs xs with
    | some d, some ds => some (d :: ds)
    | _, _ => none
end
def toDM (M : Mem) : PV → Option PyData
  | .ref n => match M[n]? with | some (.lst xs) => (toDs xs).map .list | _ => none
  | v => toD v

def truthy (M : Mem) : PV → Option Bool
  | .non => some false
  | .bl b => some b
  | .int i => some (i != 0)
  | .str s => if s.length ≤ sizeLine then some ((s.length : Int) != 0) else none
  | .tup xs | .lst xs | .rol xs => some (!xs.isEmpty)
  | .ref n => match M[n]? with | some (.lst xs) => some (!xs.isEmpty) | _ => none

def iff' {α : Type} (b : Bool) (x : α) : Option α := match b with
  | true => some x
  | false => none
def mulOk (i j : Int) : Bool := decide ((-(2 ^ 64) < i ∧ i < 2 ^ 64) ∨ (-(2 ^ 64) < j ∧ j < 2 ^ 64)) || decide (i.natAbs.log2 + j.natAbs.log2 < 1000000)
def divOk (_i j : Int) : Bool := decide (j ≠ 0) && decide (j.natAbs.log2 < 9000)

/-- lists that may be joined: not the read-only ones -/
def itemsW (M : Mem) : PV → Option (List PV)
  | .lst xs => some xs
  | .ref n => match M[n]? with | some (.lst xs) => some xs | _ => none
  | _ => none

def addOp (M : Mem) (a b : PV) : Option PV := match a, b with
  | .int i, .int j => some (.int (i + j))
  | .tup xs, .tup ys => if decide (xs.length + ys.length ≤ sizeLine) then some (.tup (xs ++ ys)) else none
  | .str x, .str y => if decide (x.length + y.length ≤ sizeLine) then some (.str (x ++ y)) else none
  | a, b => match itemsW M a, itemsW M b with
    | some xs, some ys => if decide (xs.length + ys.length ≤ sizeLine) then some (.lst (xs ++ ys)) else none
    | _, _ => none
def subOp (a b : PV) : Option PV := match a, b with
  | .int i, .int j => some (.int (i - j))
  | .bl a, .bl b => some (.int ((if a then 1 else 0) - (if b then 1 else 0)))
  | _, _ => none
def mulOp (M : Mem) (a b : PV) : Option PV := match a, b with
  | .int i, .int j => if mulOk i j then some (.int (i * j)) else none
  | .tup [], .int k => if decide (-(2 ^ 63) ≤ k) && decide (k < 2 ^ 63) then some (.tup []) else none
  | .tup (x :: xs), .int k => if decide (2 ≤ k) && decide (k ≤ 1000) && decide ((x :: xs).length ≤ 1000) then some (.tup (List.replicate k.toNat (x :: xs)).flatten) else none
  | a, .int k => match itemsW M a with
    | some xs => if decide (-(2 ^ 63) ≤ k) && decide (k < 2 ^ 63) && decide (xs.length * k.toNat ≤ sizeLine) then some (.lst (List.replicate k.toNat xs).flatten) else none
    | _ => none
  | _, _ => none
def fdivOp (a b : PV) : Option PV := match a, b with
  | .int i, .int j => if divOk i j then some (.int (i.fdiv j)) else none
  | _, _ => none
def modOp (a b : PV) : Option PV := match a, b with
  | .int i, .int j => if decide (j ≠ 0) then some (.int (i.fmod j)) else none
  | _, _ => none
def powOp (a b : PV) : Option PV := match a, b with
  | .int i, .int j => if decide (0 ≤ j) && decide (j ≤ 1000000) && decide (i.natAbs < 2 ^ 64) then some (.int (i ^ j.toNat)) else none
  | _, _ => none
def binop (M : Mem) : Bop → PV → PV → Option PV
  | .add => addOp M
  | .sub => subOp
  | .mul => mulOp M
  | .fdiv => fdivOp
  | .mod => modOp
  | .pow => powOp

def eqD (M : Mem) (a b : PV) : Option Bool :=
  match toDM M a, toDM M b with
  | some d, some e => if SeqAt.shaped d && SeqAt.shaped e then some (PyData.eqv d e) else none
  | _, _ => none
/-- x in a list or a tuple of plain values -/
def flatP : PV → Bool
  | .non | .bl _ | .int _ | .str _ => true
  | _ => false
def pvToV : PV → V
  | .non => .non
  | .bl b => .bl b
  | .int i => .int i
  | .str s => .str s
  | _ => .non
def inOp (M : Mem) (a b : PV) : Option Bool :=
  match itemsT M b with
  | some xs => if flatP a && xs.all flatP && (flatV (pvToV a) && (xs.map pvToV).all flatV) then some (inV (pvToV a) (xs.map pvToV)) else none
  | none => none

def cmpI (p : Int → Int → Bool) (a b : PV) : Option Bool := match a, b with
  | .int i, .int j => some (p i j)
  | _, _ => none
def isNon : PV → Bool
  | .non => true
  | _ => false
def isOp (a b : PV) : Option Bool := match a, b with
  | a, .non => some (isNon a)
  | .bl a, .bl b => some (decide (a = b))
  | _, _ => none
def cmpop (M : Mem) : Cm → PV → PV → Option Bool
  | .eq => eqD M
  | .ne => fun a b => (eqD M a b).map (!·)
  | .lt => cmpI fun i j => decide (i < j)
  | .le => cmpI fun i j => decide (i ≤ j)
  | .gt => cmpI fun i j => decide (j < i)
  | .ge => cmpI fun i j => decide (j ≤ i)
  | .is => isOp
  | .isn => fun a b => (isOp a b).map (!·)
  | .isin => inOp M
  | .notin => fun a b => (inOp M a b).map (!·)

def idxOp (M : Mem) (a b : PV) : Option PV :=
  match b, itemsT M a with
  | .int i, some xs => atI xs i
  | _, _ => none
def cut (xs : List PV) (lo hi : Option Int) : List PV := (xs.drop (HT.sIx xs.length 0 lo)).take (HT.sIx xs.length xs.length hi - HT.sIx xs.length 0 lo)
def part : Bool → PV → Option (Option Int)
  | false, _ => some none
  | true, .int i => some (some i)
  | true, _ => none
def slcV (M : Mem) (a : PV) (l h : Option Int) : Option PV := match a with
  | .tup xs => some (.tup (cut xs l h))
  | _ => (items M a).map fun xs => .lst (cut xs l h)
def slcOp (M : Mem) (a : PV) (bl bh : Bool) (lo hi : PV) : Option PV :=
  (part bl lo).bind fun l => (part bh hi).bind fun h => slcV M a l h
def revOp (M : Mem) (a : PV) : Option PV :=
  match a with
  | .tup xs => some (.tup xs.reverse)
  | _ => (items M a).map fun xs => .lst xs.reverse

def intsOf : List PV → Option (List Int)
  | [] => some []
  | .int i :: xs => (intsOf xs).map (i :: ·)
  | _ :: _ => none
def boolsOf : List PV → Option (List Bool)
  | [] => some []
  | .bl b :: xs => (boolsOf xs).map (b :: ·)
  | _ :: _ => none

def absB (vs : List PV) : Option PV := match vs with
  | [.int i] => some (.int (if i < 0 then -i else i))
  | _ => none
def intB (vs : List PV) : Option PV := match vs with
  | [.int i] => some (.int i)
  | [.bl b] => some (.int (if b then 1 else 0))
  | _ => none
def listB (M : Mem) (vs : List PV) : Option PV := match vs with
  | [a] => (itemsT M a).map .lst
  | _ => none
def tupleB (M : Mem) (vs : List PV) : Option PV := match vs with
  | [.tup xs] => some (.tup xs)
  | [a] => (items M a).map .tup
  | _ => none
def lenB (M : Mem) (vs : List PV) : Option PV := match vs with
  | [.str s] => iff' (decide (s.length ≤ sizeLine)) (.int s.length)
  | [a] => (itemsT M a).map fun xs => .int xs.length
  | _ => none
def sumB (M : Mem) (vs : List PV) : Option PV := match vs with
  | [a] => (items M a).bind fun xs => (intsOf xs).map fun ns => .int ns.sum
  | _ => none
def allB (M : Mem) (vs : List PV) : Option PV := match vs with
  | [a] => (items M a).bind fun xs => (boolsOf xs).map fun bs => .bl (bs.all id)
  | _ => none
def anyB (M : Mem) (vs : List PV) : Option PV := match vs with
  | [a] => (items M a).bind fun xs => (boolsOf xs).map fun bs => .bl (bs.any id)
  | _ => none
def maxI : List Int → Option Int
  | [] => none
  | x :: xs => some (xs.foldl max x)
def minI : List Int → Option Int
  | [] => none
  | x :: xs => some (xs.foldl min x)
def maxB (M : Mem) (vs : List PV) : Option PV := match vs with
  | [.int i, .int j] => some (.int (if j > i then j else i))
  | [.int i, .int j, .int k, .int l] => some (.int (max (max (max i j) k) l))
  | [a] => (items M a).bind fun xs => (intsOf xs).bind fun ns => (maxI ns).map .int
  | _ => none
def minB (M : Mem) (vs : List PV) : Option PV := match vs with
  | [.int i, .int j] => some (.int (if j < i then j else i))
  | [a] => (items M a).bind fun xs => (intsOf xs).bind fun ns => (minI ns).map .int
  | _ => none
def pairP (x y : PV) : PV := .tup [x, y]
/-- tuple(zip(a, b)) of two lists -/
def ztupB (M : Mem) (vs : List PV) : Option PV := match vs with
  | [a, b] => (items M a).bind fun xs => (items M b).map fun ys => .tup (List.zipWith pairP xs ys)
  | _ => none
/-- sorted ints -/
def srtI (ns : List Int) : List Int := ns.mergeSort fun a b => decide (a ≤ b)
def srtB (M : Mem) (vs : List PV) : Option PV := match vs with
  | [a] => (itemsT M a).bind fun xs => (intsOf xs).map fun ns => .lst ((srtI ns).map .int)
  | _ => none
/-- max of a tuple of ints -/
def maxtB (_M : Mem) (vs : List PV) : Option PV := match vs with
  | [.tup xs] => (intsOf xs).bind fun ns => (maxI ns).map .int
  | _ => none
def bltOp (M : Mem) : Bl → List PV → Option PV
  | .abs => absB
  | .int => intB
  | .list => listB M
  | .tuple => tupleB M
  | .len => lenB M
  | .sum => sumB M
  | .all => allB M
  | .any => anyB M
  | .max => maxB M
  | .min => minB M
  | .ztup => ztupB M
  | .srt => srtB M
  | .maxt => maxtB M

def isTy : Ty → PV → Bool
  | .int, .int _ | .int, .bl _ | .bool, .bl _ | .str, .str _ | .tuple, .tup _ => true
  | .list, .lst _ | .list, .rol _ | .list, .ref _ => true
  | _, _ => false

def setAt (xs : List PV) (i : Int) (v : PV) : Option (List PV) := (ixN xs.length i).map fun j => xs.set j v

mutual
def pbeq : PV → PV → Bool
  | .non, .non => true
  | .bl a, .bl b => a == b
  | .int a, .int b => decide (a = b)
  | .str a, .str b => decide (a = b)
  | .tup a, .tup b => pbeqs a b
  | .lst a, .lst b => pbeqs a b
  | .rol a, .rol b => pbeqs a b
  | .ref a, .ref b => Nat.beq a b
  | _, _ => false
def pbeqs : List PV → List PV → Bool
  | [], [] => true
  | x :: xs, y :: ys => pbeq x y && pbeqs xs ys
  | _, _ => false
end
mutual
theorem pbeq_eq : ∀ {a b : PV}, pbeq a b = true → a = b
  | .non, .non, _ => rfl
  | .bl a, .bl b, h => by rw [show a = b from eq_of_beq h]
  | .int a, .int b, h => by rw [show a = b from of_decide_eq_true h]
  | .str a, .str b, h => by rw [show a = b from of_decide_eq_true h]
  | .tup a, .tup b, h => by rw [pbeqs_eq (a := a) (b := b) h]
  | .lst a, .lst b, h => by rw [pbeqs_eq (a := a) (b := b) h]
  | .rol a, .rol b, h => by rw [pbeqs_eq (a := a) (b := b) h]
  | .ref a, .ref b, h => by rw [Nat.eq_of_beq_eq_true h]
theorem pbeqs_eq : ∀ {a b : List PV}, pbeqs a b = true → a = b
  | [], [], _ => rfl
  | x :: xs, y :: ys, h => by
    have h' : (pbeq x y && pbeqs xs ys) = true := h
    rw [Bool.and_eq_true] at h'
    rw [pbeq_eq h'.1, pbeqs_eq h'.2]
end
mutual
theorem pbeq_self : ∀ a : PV, pbeq a a = true
  | .non => rfl
  | .bl a => beq_self_eq_true a
  | .int a => decide_eq_true rfl
  | .str a => decide_eq_true rfl
  | .tup a => pbeqs_self a
  | .lst a => pbeqs_self a
  | .rol a => pbeqs_self a
  | .ref a => Nat.beq_refl a
theorem pbeqs_self : ∀ a : List PV, pbeqs a a = true
  | [] => rfl
  | x :: xs => by
    show (pbeq x x && pbeqs xs xs) = true
    rw [pbeq_self x, pbeqs_self xs]
    rfl
end
/-- mutable lists that are walked: they must stay -/
abbrev Gd := List (Nat × List PV)
def gOk : Gd → Mem → Bool
  | [], _ => true
  | (n, xs) :: g, M => (match M[n]? with
    | some (.lst ys) => pbeqs ys xs
    | _ => false) && gOk g M
/-- the items of a sequence that is walked: is it a tuple? the items, what must stay -/
def seqG (M : Mem) : PV → Option (Bool × List PV × Gd)
  | .tup xs => some (true, xs, [])
  | .lst xs => some (false, xs, [])
  | .rol xs => some (false, xs, [])
  | .ref n => match M[n]? with
    | some (.lst xs) => some (false, xs, [(n, xs)])
    | _ => none
  | _ => none

/-- bind a target -/
def setAll (env : Env) : List Nat → List PV → Env
  | i :: is, v :: vs => setAll (env.set i (some v)) is vs
  | _, _ => env
def bindP (p : Tp1) (v : PV) (env : Env) : Option Env :=
  match p with
  | .n i => some (env.set i (some v))
  | .t is => match v with
    | .tup vs => if decide (vs.length = is.length) then some (setAll env is vs) else none
    | _ => none
def bindPs : List Tp1 → List PV → Env → Option Env
  | [], [], env => some env
  | p :: ps, v :: vs, env => (bindP p v env).bind fun env1 => bindPs ps vs env1
  | _, _, _ => none
def bindT (t : T) (v : PV) (env : Env) : Option Env :=
  match t with
  | .nm i => some (env.set i (some v))
  | .tp is => match v with
    | .tup vs => if decide (vs.length = is.length) then some (setAll env is vs) else none
    | _ => none
  | .ls is => match v with
    | .lst vs => if decide (vs.length = is.length) then some (setAll env is vs) else none
    | _ => none
  | .t2 ps => match v with
    | .tup vs => bindPs ps vs env
    | _ => none

def wipeE (env : Env) : List Nat → Env
  | [] => env
  | v :: vs => (wipeE env vs).set v none

/-- a loop over items; the body may end the def -/
inductive R where | nx (env : Env) (M : Mem) | rt (v : PV) (M : Mem)
def forL (t : T) (g : Gd) (body : Env → Mem → Option R) : List PV → Env → Mem → Option R
  | [], env, M => match gOk g M with
    | true => some (.nx env M)
    | false => none
  | x :: xs, env, M => match gOk g M with
    | true => (match bindT t x env with
      | some env1 => (match body env1 M with
        | some (.nx env2 M2) => forL t g body xs env2 M2
        | r => r)
      | none => none)
    | false => none
def whlL (c : Env → Mem → Option (Bool × Mem)) (body : Env → Mem → Option R) : Nat → Env → Mem → Option R
  | 0, _, _ => none
  | n + 1, env, M => match c env M with
    | some (true, M1) => (match body env M1 with
      | some (.nx env2 M2) => whlL c body n env2 M2
      | r => r)
    | some (false, M1) => some (.nx env M1)
    | none => none
/-- a table of the module: ints to plain values -/
def tabV (kvs : List (Int × PV)) (x : PV) : Option PV := match x with
  | .int i => (kvs.find? fun kv => decide (kv.1 = i)).map (·.2)
  | _ => none
/-- a comprehension: acc in order -/
def lcL (t : T) (g : Gd) (cond : Env → Mem → Option (Bool × Mem)) (elt : Env → Mem → Option (PV × Mem)) (env : Env) : List PV → List PV → Mem → Option (List PV × Mem)
  | [], acc, M => match gOk g M with
    | true => some (acc, M)
    | false => none
  | x :: xs, acc, M => match gOk g M with
    | true => (match bindT t x env with
      | some env1 => (match cond env1 M with
        | some (true, M1) => (match elt env1 M1 with
          | some (v, M2) => lcL t g cond elt env xs (acc ++ [v]) M2
          | none => none)
        | some (false, M1) => lcL t g cond elt env xs acc M1
        | none => none)
      | none => none)
    | false => none
def rngI (a : Int) : Nat → List PV
  | 0 => []
  | n + 1 => .int a :: rngI (a + 1) n
def zipP : List PV → List PV → List PV
  | x :: xs, y :: ys => .tup [x, y] :: zipP xs ys
  | _, _ => []
def enmP : Nat → List PV → List PV
  | _, [] => []
  | n, x :: xs => .tup [.int n, x] :: enmP (n + 1) xs

/-- a new list: a mutable cell, or by value -/
def newL (m : Bool) (xs : List PV) (M : Mem) : PV × Mem := if m then (.ref M.length, M ++ [.lst xs]) else (.lst xs, M)
def asM (m : Bool) (v : PV) (M : Mem) : PV × Mem := match m, v with
  | true, .lst xs => (.ref M.length, M ++ [.lst xs])
  | _, _ => (v, M)

/-- a step, then the next with its value and the memory behind it -/
def bnd {α β : Type} (x : Option (α × Mem)) (f : α → Mem → Option β) : Option β := match x with
  | some (a, M) => f a M
  | none => none
def bifb {β : Type} (b : Option Bool) (x y : Option β) : Option β := match b with
  | some true => x
  | some false => y
  | none => none
def iff_ {β : Type} (b : Bool) (x : Option β) : Option β := match b with
  | true => x
  | false => none
def nxt (r : Option R) (f : Env → Mem → Option R) : Option R := match r with
  | some (.nx env M) => f env M
  | r => r
section
variable (call : Nat → List PV → Mem → Option (PV × Mem)) (W : Nat)
mutual
def eval : E → Env → Mem → Option (PV × Mem)
  | .var i, env, M => match env[i]? with | some (some v) => some (v, M) | _ => none
  | .cst v, _, M => some (v, M)
  | .bin o f a b, env, M => bnd (eval a env M) fun x M1 => bnd (eval b env M1) fun y M2 => (binop M2 o x y).map fun z => asM f z M2
  | .neg a, env, M => bnd (eval a env M) fun x M1 => match x with | .int i => some (.int (-i), M1) | _ => none
  | .not a, env, M => bnd (eval a env M) fun x M1 => (truthy M1 x).map fun b => (.bl (!b), M1)
  | .and a b, env, M => bnd (eval a env M) fun x M1 => bifb (truthy M1 x) (eval b env M1) (some (x, M1))
  | .or a b, env, M => bnd (eval a env M) fun x M1 => bifb (truthy M1 x) (some (x, M1)) (eval b env M1)
  | .cmp o a b, env, M => bnd (eval a env M) fun x M1 => bnd (eval b env M1) fun y M2 => (cmpop M2 o x y).map fun z => (.bl z, M2)
  | .chn o o' a b c, env, M => bnd (eval a env M) fun x M1 => bnd (eval b env M1) fun y M2 =>
      bifb (cmpop M2 o x y) (bnd (eval c env M2) fun z M3 => (cmpop M3 o' y z).map fun r => (.bl r, M3)) (some (.bl false, M2))
  | .ite c a b, env, M => bnd (eval c env M) fun x M1 => bifb (truthy M1 x) (eval a env M1) (eval b env M1)
  | .tup es, env, M => bnd (evals es env M) fun vs M1 => iff_ (decide (vs.length ≤ sizeLine)) (some (.tup vs, M1))
  | .lst m es, env, M => bnd (evals es env M) fun vs M1 => iff_ (decide (vs.length ≤ sizeLine)) (some (newL m vs M1))
  | .idx a b, env, M => bnd (eval a env M) fun x M1 => bnd (eval b env M1) fun y M2 => (idxOp M2 x y).map fun z => (z, M2)
  | .slc a bl bh lo hi, env, M => bnd (eval a env M) fun x M1 => bnd (eval lo env M1) fun l M2 => bnd (eval hi env M2) fun h M3 => (slcOp M3 x bl bh l h).map fun z => (z, M3)
  | .rev a, env, M => bnd (eval a env M) fun x M1 => (revOp M1 x).map fun z => (z, M1)
  | .call f es, env, M => bnd (evals es env M) fun vs M1 => call f vs M1
  | .blt b m es, env, M => bnd (evals es env M) fun vs M1 => (bltOp M1 b vs).map fun z => asM m z M1
  | .isi a t, env, M => bnd (eval a env M) fun x M1 => some (.bl (isTy t x), M1)
  | .app a e, env, M => bnd (eval a env M) fun x M1 => match x with
    | .ref n => bnd (eval e env M1) fun v M2 => (match M2[n]? with
        | some (.lst xs) => iff_ (decide (xs.length < sizeLine)) (some (.non, M2.set n (.lst (xs ++ [v]))))
        | _ => none)
    | _ => none
  | .tab kvs e, env, M => bnd (eval e env M) fun x M1 => (tabV kvs x).map fun z => (z, M1)
  | .lc m w t it cs e, env, M => bnd (evalI it env M) fun xg M1 => bnd (lcL t xg.2 (conds cs) (eval e) (wipeE env w) xg.1 [] M1) fun vs M2 => iff_ (decide (vs.length ≤ sizeLine)) (some (newL m vs M2))
def evals : Es → Env → Mem → Option (List PV × Mem)
  | .nil, _, M => some ([], M)
  | .cons e es, env, M => bnd (eval e env M) fun v M1 => bnd (evals es env M1) fun vs M2 => some (v :: vs, M2)
def conds : Es → Env → Mem → Option (Bool × Mem)
  | .nil, _, M => some (true, M)
  | .cons e es, env, M => bnd (eval e env M) fun v M1 => bifb (truthy M1 v) (conds es env M1) (some (false, M1))
def evalI : I → Env → Mem → Option ((List PV × Gd) × Mem)
  | .seq e, env, M => bnd (eval e env M) fun x M1 => (seqG M1 x).map fun s => (s.2, M1)
  | .rng a b, env, M => bnd (eval a env M) fun x M1 => bnd (eval b env M1) fun y M2 => match x, y with
    | .int i, .int j => iff_ (decide (-(2 ^ 62) ≤ i) && decide (i < 2 ^ 62) && decide (-(2 ^ 62) ≤ j) && decide (j < 2 ^ 62)) (some ((rngI i (j - i).toNat, []), M2))
    | _, _ => none
  | .zip a b, env, M => bnd (eval a env M) fun x M1 => bnd (eval b env M1) fun y M2 => match seqG M2 x, seqG M2 y with
    | some (k, xs, g), some (k', ys, g') => iff_ (k == k') (some ((zipP xs ys, g ++ g'), M2))
    | _, _ => none
  | .enm e, env, M => bnd (eval e env M) fun x M1 => match seqG M1 x with
    | some (k, xs, g) => iff_ (!k) (some ((enmP 0 xs, g), M1))
    | _ => none
end

mutual
def exec : S → Env → Mem → Option R
  | .set i e, env, M => bnd (eval call e env M) fun v M1 => some (.nx (env.set i (some v)) M1)
  | .par i j a b, env, M => bnd (eval call a env M) fun x M1 => bnd (eval call b env M1) fun y M2 => some (.nx ((env.set i (some x)).set j (some y)) M2)
  | .par3 i j l a b c, env, M => bnd (eval call a env M) fun x M1 => bnd (eval call b env M1) fun y M2 => bnd (eval call c env M2) fun z M3 => some (.nx (((env.set i (some x)).set j (some y)).set l (some z)) M3)
  | .asg t e, env, M => bnd (eval call e env M) fun v M1 => (bindT t v env).map fun env1 => .nx env1 M1
  | .seti o i e, env, M => bnd (eval call e env M) fun v M1 => bnd (eval call o env M1) fun x M2 => match x with
    | .ref n => bnd (eval call i env M2) fun y M3 => (match y with
      | .int k => (match M3[n]? with
          | some (.lst xs) => (setAt xs k v).map fun ys => .nx env (M3.set n (.lst ys))
          | _ => none)
      | _ => none)
    | _ => none
  | .exp e, env, M => bnd (eval call e env M) fun _ M1 => some (.nx env M1)
  | .ite c a b, env, M => bnd (eval call c env M) fun x M1 => bifb (truthy M1 x) (execs a env M1) (execs b env M1)
  | .whl c b, env, M => whlL (fun env M => bnd (eval call c env M) fun x M1 => (truthy M1 x).map fun k => (k, M1)) (execs b) W env M
  | .for_ t it b, env, M => bnd (evalI call it env M) fun xg M1 => forL t xg.2 (execs b) xg.1 env M1
  | .ret e, env, M => bnd (eval call e env M) fun v M1 => some (.rt v M1)
  | .rais, _, _ => none
def execs : Ss → Env → Mem → Option R
  | .nil, env, M => some (.nx env M)
  | .cons s ss, env, M => nxt (exec s env M) fun env1 M1 => execs ss env1 M1
end
end

/-! ### calls: a def's new cells go when it is left, unless what it hands back is one (kept) -/
mutual
/-- no reference at or above n -/
def under (n : Nat) : PV → Bool
  | .tup xs | .lst xs | .rol xs => unders n xs
  | .ref k => decide (k < n)
  | _ => true
def unders (n : Nat) : List PV → Bool
  | [] => true
  | x :: xs => under n x && unders n xs
end
def cellUnder (n : Nat) : Cell → Bool
  | .lst xs => unders n xs
  | .dic kvs => unders n (kvs.map (·.1)) && unders n (kvs.map (·.2))
/-- behind a call from memory M0 -/
def leave (n : Nat) (v : PV) (M : Mem) : Option (PV × Mem) :=
  if M.length = n then some (v, M) else
  if (M.take n).all (cellUnder n) then
    (if under n v then some (v, M.take n) else match v with
      | .ref k => (match M[k]? with
        | some (.lst xs) => if unders n xs then some (.lst xs, M.take n) else none
        | _ => none)
      | _ => none)
  else none

structure Fn where
  slots : Nat        -- how many names
  params : Nat
  keep : Bool        -- the new cells stay (what is handed back is one)
  body : Ss

def runFn (call : Nat → List PV → Mem → Option (PV × Mem)) (W : Nat) (f : Fn) (vs : List PV) (M : Mem) : Option (PV × Mem) :=
  if vs.length = f.params then
    match execs call W f.body (vs.map some ++ List.replicate (f.slots - f.params) none) M with
    | some (.rt v M1) => if f.keep then some (v, M1) else leave M.length v M1
    | some (.nx _ M1) => if f.keep then some (.non, M1) else leave M.length .non M1
    | none => none
  else none

def callN (prog : List Fn) (W : Nat) : Nat → Nat → List PV → Mem → Option (PV × Mem)
  | 0, _, _, _ => none
  | k + 1, f, vs, M => match prog[f]? with
    | some fn => runFn (callN prog W k) W fn vs M
    | none => none
end Ev

/-! How the interpreter's values lie in the heap; what a step keeps. -/
namespace Ev
open PySem PySem.Spec PyProof.Rows L2

/-- the cells, by index; and lists that are being made -/
structure Ph where
  c : List Addr
  r : List Addr
def RolAt (K : PySem.W.Frag) (φ : Ph) (H : Hp) (a : Addr) (vs : List V) : Prop :=
  (∃ o, H a = some (.frz o (.lst vs))) ∨ (H a = some (.lst vs) ∧ a ∉ φ.c ∧ a ∉ φ.r) ∨
    ∃ (o : Obj) (its : Array Value) (n : Nat), K.lookup a = some o ∧ o.cls = .type "list" ∧ o.dict = none ∧ o.data = .seq its n ∧ its.size ≤ sizeLine ∧ Vals vs its.toList
theorem RolAt.sq {K : PySem.W.Frag} {φ : Ph} {H : Hp} {a : Addr} {vs : List V} (h : RolAt K φ H a vs) : SqL K H a vs := by
  rcases h with ⟨o, h⟩ | ⟨h, _⟩ | h
  · exact .inl (.inr ⟨o, h⟩)
  · exact .inl (.inl h)
  · exact .inr h
mutual
inductive Rp (K : PySem.W.Frag) (φ : Ph) (H : Hp) : PV → V → Prop
  | non : Rp K φ H .non .non
  | bl (b : Bool) : Rp K φ H (.bl b) (.bl b)
  | int (i : Int) : Rp K φ H (.int i) (.int i)
  | str (s : Str) : Rp K φ H (.str s) (.str s)
  | tup {a : Addr} {vs : List V} {xs : List PV} (h : SqT K H a vs) (r : Rps K φ H xs vs) : Rp K φ H (.tup xs) (.ref a)
  | lst {a : Addr} {vs : List V} {xs : List PV} (h : H a = some (.lst vs)) (n : a ∉ φ.c ∧ a ∉ φ.r) (r : Rps K φ H xs vs) : Rp K φ H (.lst xs) (.ref a)
  | rol {a : Addr} {vs : List V} {xs : List PV} (h : RolAt K φ H a vs) (r : Rps K φ H xs vs) : Rp K φ H (.rol xs) (.ref a)
  | ref {n : Nat} {a : Addr} (h : φ.c[n]? = some a) : Rp K φ H (.ref n) (.ref a)
inductive Rps (K : PySem.W.Frag) (φ : Ph) (H : Hp) : List PV → List V → Prop
  | nil : Rps K φ H [] []
  | cons {x : PV} {v : V} {xs : List PV} {vs : List V} (h : Rp K φ H x v) (r : Rps K φ H xs vs) : Rps K φ H (x :: xs) (v :: vs)
end

def isCell : HO → Bool
  | .lst _ | .dK _ | .dT _ => true
  | _ => false
structure Xt (φ : Ph) (H : Hp) (φ' : Ph) (H' : Hp) : Prop where
  pre : ∃ e, φ'.c = φ.c ++ e
  res : ∀ a, a ∈ φ.r → a ∈ φ'.r
  keep : ∀ a o, H a = some o → (a ∈ φ.c → isCell o = false) → H' a = some o
  fresh : ∀ a, a ∈ φ'.c → a ∉ φ.c → H a = none
  freshr : ∀ a, a ∈ φ'.r → a ∉ φ.r → H a = none
  there : ∀ a o, H a = some o → ∃ o', H' a = some o'
def CellOk (K : PySem.W.Frag) (φ : Ph) (H : Hp) (a : Addr) : Cell → Prop
  | .lst xs => ∃ vs, H a = some (.lst vs) ∧ Rps K φ H xs vs
  | .dic _ => False
structure RM (K : PySem.W.Frag) (φ : Ph) (H : Hp) (M : Mem) : Prop where
  len : φ.c.length = M.length
  nd : φ.c.Nodup
  res : ∀ a, a ∈ φ.r → ∃ o, H a = some o
  cells : ∀ (n : Nat) (a : Addr) (c : Cell), φ.c[n]? = some a → M[n]? = some c → CellOk K φ H a c
structure RE (K : PySem.W.Frag) (φ : Ph) (H : Hp) (env : Env) (σ : L2.St) : Prop where
  len : env.length ≤ σ.length
  at_ : ∀ (i : Nat) (v : PV), env[i]? = some (some v) → ∃ u, σ[i]? = some (some u) ∧ Rp K φ H v u

section
variable {K : PySem.W.Frag} {φ φ' φ2 : Ph} {H H' H2 : Hp} {M M' : Mem} {env : Env} {σ : L2.St}
theorem Xt.refl : Xt φ H φ H := ⟨⟨[], by simp⟩, fun _ h => h, fun _ _ h _ => h, fun _ h n => absurd h n, fun _ h n => absurd h n, fun _ o h => ⟨o, h⟩⟩
theorem Xt.back (x : Xt φ H φ' H') {a : Addr} (h : H' a = none) : H a = none := by
  cases e : H a with
  | none => rfl
  | some o =>
    obtain ⟨o', e'⟩ := x.there a o e
    rw [h] at e'; cases e'
theorem Xt.sub (x : Xt φ H φ' H') {a : Addr} (h : a ∈ φ.c) : a ∈ φ'.c := by
  obtain ⟨e, h2⟩ := x.pre
  rw [h2]
  exact List.mem_append_left _ h
theorem Xt.trans (x : Xt φ H φ' H') (y : Xt φ' H' φ2 H2) : Xt φ H φ2 H2 := by
  refine ⟨?_, fun a h => y.res a (x.res a h), fun a o h hc => ?_, fun a h n => ?_, fun a h n => ?_, fun a o h => ?_⟩
  · obtain ⟨e, h1⟩ := x.pre
    obtain ⟨e2, h2⟩ := y.pre
    exact ⟨e ++ e2, by rw [h2, h1, List.append_assoc]⟩
  · refine y.keep a o (x.keep a o h hc) fun h' => ?_
    by_cases k : a ∈ φ.c
    · exact hc k
    · have := x.fresh a h' k
      rw [h] at this; cases this
  · by_cases k : a ∈ φ'.c
    · exact x.fresh a k n
    · exact x.back (y.fresh a h k)
  · by_cases k : a ∈ φ'.r
    · exact x.freshr a k n
    · exact x.back (y.freshr a h k)
  · obtain ⟨o', h'⟩ := x.there a o h
    exact y.there a o' h'
theorem Xt.get (x : Xt φ H φ' H') {n : Nat} {a : Addr} (h : φ.c[n]? = some a) : φ'.c[n]? = some a := by
  obtain ⟨e, h2⟩ := x.pre
  have hl : n < φ.c.length := (List.getElem?_eq_some_iff.mp h).1
  rw [h2, List.getElem?_append_left hl]
  exact h
theorem Xt.tup (x : Xt φ H φ' H') {a : Addr} {vs : List V} (h : SqT K H a vs) : SqT K H' a vs := by
  rcases h with (h | ⟨o, h⟩) | h
  · exact .inl (.inl (x.keep _ _ h fun _ => rfl))
  · exact .inl (.inr ⟨o, x.keep _ _ h fun _ => rfl⟩)
  · exact .inr h
theorem Xt.notin (x : Xt φ H φ' H') {a : Addr} {o : HO} (h : H a = some o) (n : a ∉ φ.c) : a ∉ φ'.c := fun k => by
  have := x.fresh a k n
  rw [h] at this; cases this
theorem Xt.notin2 (x : Xt φ H φ' H') {a : Addr} {o : HO} (h : H a = some o) (n : a ∉ φ.c ∧ a ∉ φ.r) : a ∉ φ'.c ∧ a ∉ φ'.r := ⟨x.notin h n.1, fun k => by
  have := x.freshr a k n.2
  rw [h] at this; cases this⟩
theorem Xt.rol (x : Xt φ H φ' H') {a : Addr} {vs : List V} (h : RolAt K φ H a vs) : RolAt K φ' H' a vs := by
  rcases h with ⟨o, h⟩ | ⟨h, n⟩ | h
  · exact .inl ⟨o, x.keep _ _ h fun _ => rfl⟩
  · exact .inr (.inl ⟨x.keep _ _ h fun z => absurd z n.1, x.notin2 h n⟩)
  · exact .inr (.inr h)
mutual
theorem Rp.mono (x : Xt φ H φ' H') : ∀ {v : PV} {u : V}, Rp K φ H v u → Rp K φ' H' v u
  | _, _, .non => .non
  | _, _, .bl b => .bl b
  | _, _, .int i => .int i
  | _, _, .str s => .str s
  | _, _, .tup h r => .tup (x.tup h) (Rps.mono x r)
  | _, _, .lst h n r => .lst (x.keep _ _ h fun z => absurd z n.1) (x.notin2 h n) (Rps.mono x r)
  | _, _, .rol h r => .rol (x.rol h) (Rps.mono x r)
  | _, _, .ref h => .ref (x.get h)
theorem Rps.mono (x : Xt φ H φ' H') : ∀ {v : List PV} {u : List V}, Rps K φ H v u → Rps K φ' H' v u
  | _, _, .nil => .nil
  | _, _, .cons h r => .cons (Rp.mono x h) (Rps.mono x r)
end
theorem RE.mono (x : Xt φ H φ' H') (r : RE K φ H env σ) : RE K φ' H' env σ := ⟨r.len, fun i v h => by
  obtain ⟨u, h1, h2⟩ := r.at_ i v h
  exact ⟨u, h1, h2.mono x⟩⟩
theorem RE.set (r : RE K φ H env σ) {v : PV} {u : V} (h : Rp K φ H v u) (i : Nat) : RE K φ H (env.set i (some v)) (σ.set i (some u)) := by
  refine ⟨by simpa using r.len, fun j w e => ?_⟩
  by_cases k : i = j
  · subst k
    have hi : i < env.length := by
      have := (List.getElem?_eq_some_iff.mp e).1
      simpa using this
    rw [List.getElem?_set_self hi] at e
    cases e
    exact ⟨u, List.getElem?_set_self (Nat.lt_of_lt_of_le hi r.len), h⟩
  · rw [List.getElem?_set_ne k] at e
    obtain ⟨u', h1, h2⟩ := r.at_ j w e
    exact ⟨u', by rw [List.getElem?_set_ne k]; exact h1, h2⟩
theorem RM.at_ (r : RM K φ H M) {n : Nat} {c : Cell} (h : M[n]? = some c) : ∃ a, φ.c[n]? = some a ∧ CellOk K φ H a c := by
  have hn : n < φ.c.length := by rw [r.len]; exact (List.getElem?_eq_some_iff.mp h).1
  exact ⟨φ.c[n], List.getElem?_eq_getElem hn, r.cells n _ c (List.getElem?_eq_getElem hn) h⟩
theorem CellOk.some_ {a : Addr} {c : Cell} (h : CellOk K φ H a c) : ∃ o, H a = some o ∧ isCell o = true := by
  cases c with
  | lst xs => obtain ⟨vs, h, _⟩ := h; exact ⟨_, h, rfl⟩
  | dic k => exact h.elim
theorem RM.some_ (r : RM K φ H M) {a : Addr} (h : a ∈ φ.c) : ∃ o, H a = some o ∧ isCell o = true := by
  obtain ⟨n, hn, e⟩ := List.getElem_of_mem h
  have hm : n < M.length := by rw [← r.len]; exact hn
  exact (r.cells n a M[n] (by rw [List.getElem?_eq_getElem hn, e]) (List.getElem?_eq_getElem hm)).some_
theorem RM.notin (r : RM K φ H M) {p : Addr} (h : H p = none) : p ∉ φ.c := fun k => by
  obtain ⟨o, e, _⟩ := r.some_ k
  rw [h] at e; cases e
theorem RM.notin2 (r : RM K φ H M) {p : Addr} (h : H p = none) : p ∉ φ.c ∧ p ∉ φ.r := ⟨r.notin h, fun k => by
  obtain ⟨o, e⟩ := r.res p k
  rw [h] at e; cases e⟩
theorem xt_new {p : Addr} {o : HO} (h : H p = none) : Xt φ H φ (upd H p o) :=
  ⟨⟨[], by simp⟩, fun _ h => h, fun a u e _ => by rw [upd_ne (ne_of_none e h)]; exact e, fun _ a n => absurd a n, fun _ a n => absurd a n, fun a u e => ⟨u, by rw [upd_ne (ne_of_none e h)]; exact e⟩⟩
theorem CellOk.mono_same {a : Addr} {c : Cell} (x : Xt φ H φ' H') (k : ∀ o, H a = some o → H' a = some o) (h : CellOk K φ H a c) : CellOk K φ' H' a c := by
  cases c with
  | lst xs => obtain ⟨vs, h, r⟩ := h; exact ⟨vs, k _ h, r.mono x⟩
  | dic _ => exact h
theorem res_upd {p : Addr} {o : HO} (r : ∀ a, a ∈ φ.r → ∃ o, H a = some o) : ∀ a, a ∈ φ.r → ∃ o', upd H p o a = some o' := fun a h => by
  by_cases e : a = p
  · subst e; exact ⟨_, upd_same⟩
  · rw [upd_ne e]; exact r a h
theorem RM.new (r : RM K φ H M) {p : Addr} {o : HO} (h : H p = none) : RM K φ (upd H p o) M :=
  ⟨r.len, r.nd, res_upd r.res, fun n a c h1 h2 => (r.cells n a c h1 h2).mono_same (xt_new h) fun u e => by rw [upd_ne (ne_of_none e h)]; exact e⟩
/-- one cell more -/
def Ph.add (φ : Ph) (p : Addr) : Ph := ⟨φ.c ++ [p], φ.r⟩
theorem xt_cell {p : Addr} {o : HO} (h : H p = none) : Xt φ H (φ.add p) (upd H p o) :=
  ⟨⟨[p], rfl⟩, fun _ h => h, fun a u e _ => by rw [upd_ne (ne_of_none e h)]; exact e, fun a k n => by
    rcases List.mem_append.mp k with k | k
    · exact absurd k n
    · have : a = p := by simpa using k
      rw [this]; exact h, fun _ a n => absurd a n, fun a u e => ⟨u, by rw [upd_ne (ne_of_none e h)]; exact e⟩⟩
theorem RM.cell (r : RM K φ H M) {p : Addr} {xs : List PV} {vs : List V} (h : H p = none) (q : Rps K φ H xs vs) : RM K (φ.add p) (upd H p (.lst vs)) (M ++ [.lst xs]) := by
  refine ⟨by simp [r.len, Ph.add], ?_, res_upd r.res, fun n a c h1 h2 => ?_⟩
  · show (φ.c ++ [p]).Nodup
    rw [List.nodup_append]
    refine ⟨r.nd, by simp, fun a ha b hb e => ?_⟩
    have : b = p := by simpa using hb
    subst this
    exact r.notin h (e ▸ ha)
  · change (φ.c ++ [p])[n]? = some a at h1
    by_cases k : n < φ.c.length
    · rw [List.getElem?_append_left k] at h1
      rw [List.getElem?_append_left (by rw [← r.len]; exact k)] at h2
      exact (r.cells n a c h1 h2).mono_same (xt_cell h) fun u e => by rw [upd_ne (ne_of_none e h)]; exact e
    · have k2 : n = φ.c.length := by
        have := (List.getElem?_eq_some_iff.mp h1).1
        simp at this
        omega
      subst k2
      rw [List.getElem?_append_right (Nat.le_refl _)] at h1
      rw [r.len, List.getElem?_append_right (Nat.le_refl _)] at h2
      simp at h1 h2
      subst h1 h2
      exact ⟨vs, upd_same, q.mono (xt_cell h)⟩
theorem RM.eq_of (r : RM K φ H M) {m n : Nat} {a : Addr} (h : φ.c[m]? = some a) (h' : φ.c[n]? = some a) : m = n := by
  obtain ⟨h1, e1⟩ := List.getElem?_eq_some_iff.mp h
  obtain ⟨h2, e2⟩ := List.getElem?_eq_some_iff.mp h'
  exact (List.getElem_inj r.nd).mp (e1.trans e2.symm)
theorem xt_set (r : RM K φ H M) {n : Nat} {a : Addr} {o : HO} (h : φ.c[n]? = some a) : Xt φ H φ (upd H a o) := by
  refine ⟨⟨[], by simp⟩, fun _ h => h, fun b u e k => ?_, fun _ k n => absurd k n, fun _ k n => absurd k n, fun b u e => ?_⟩
  rotate_left
  · by_cases z : b = a
    · subst z; exact ⟨_, upd_same⟩
    · exact ⟨u, by rw [upd_ne z]; exact e⟩
  have hm : a ∈ φ.c := List.mem_of_getElem? h
  have ne : b ≠ a := fun z => by
    subst z
    obtain ⟨o', e', c⟩ := r.some_ hm
    rw [e] at e'; cases e'
    rw [k hm] at c; cases c
  rw [upd_ne ne]; exact e
theorem RM.set (r : RM K φ H M) {n : Nat} {a : Addr} {xs : List PV} {vs : List V} (h : φ.c[n]? = some a) (q : Rps K φ H xs vs) : RM K φ (upd H a (.lst vs)) (M.set n (.lst xs)) := by
  refine ⟨by simp [r.len], r.nd, res_upd r.res, fun m b c h1 h2 => ?_⟩
  by_cases k : n = m
  · subst k
    have hn : n < M.length := by rw [← r.len]; exact (List.getElem?_eq_some_iff.mp h).1
    rw [List.getElem?_set_self hn] at h2
    rw [h] at h1
    cases h1; cases h2
    exact ⟨vs, upd_same, q.mono (xt_set r h)⟩
  · rw [List.getElem?_set_ne k] at h2
    have ne : b ≠ a := fun z => by
      subst z
      exact k (r.eq_of h h1)
    exact (r.cells m b c h1 h2).mono_same (xt_set r h) fun u e => by rw [upd_ne ne]; exact e
/-! ### a list that is being made at D -/
theorem ne_mem {l : List Addr} {a D : Addr} (h : D ∈ l) (n : a ∉ l) : a ≠ D := fun z => n (by rw [z]; exact h)
def Ph.hide (φ : Ph) (D : Addr) : Ph := ⟨φ.c, D :: φ.r⟩
theorem xt_hide {D : Addr} {o : HO} (h : H D = none) : Xt φ H (φ.hide D) (upd H D o) :=
  ⟨⟨[], by simp [Ph.hide]⟩, fun _ k => List.mem_cons_of_mem _ k, fun a u e _ => by rw [upd_ne (ne_of_none e h)]; exact e, fun _ a n => absurd a n, fun a k n => by
    rcases List.mem_cons.mp k with k | k
    · rw [k]; exact h
    · exact absurd k n, fun a u e => ⟨u, by rw [upd_ne (ne_of_none e h)]; exact e⟩⟩
mutual
/-- what lies at a hidden place changes -/
theorem Rp.under {D : Addr} {ws : List V} {o : HO} (h : H D = some (.lst ws)) (hd : D ∈ φ.r) : ∀ {v : PV} {u : V}, Rp K φ H v u → Rp K φ (upd H D o) v u
  | _, _, .non => .non
  | _, _, .bl b => .bl b
  | _, _, .int i => .int i
  | _, _, .str s => .str s
  | _, _, .tup k r => .tup (by
      rcases k with (k | ⟨o, k⟩) | k
      · exact .inl (.inl (by rw [upd_ne (ne_of k h (by intro z; cases z))]; exact k))
      · exact .inl (.inr ⟨o, by rw [upd_ne (ne_of k h (by intro z; cases z))]; exact k⟩)
      · exact .inr k) (Rps.under h hd r)
  | _, _, .lst k n r => .lst (by rw [upd_ne (ne_mem hd n.2)]; exact k) n (Rps.under h hd r)
  | _, _, .rol k r => .rol (by
      rcases k with ⟨o, k⟩ | ⟨k, n⟩ | k
      · exact .inl ⟨o, by rw [upd_ne (ne_of k h (by intro z; cases z))]; exact k⟩
      · exact .inr (.inl ⟨by rw [upd_ne (ne_mem hd n.2)]; exact k, n⟩)
      · exact .inr (.inr k)) (Rps.under h hd r)
  | _, _, .ref k => .ref k
theorem Rps.under {D : Addr} {ws : List V} {o : HO} (h : H D = some (.lst ws)) (hd : D ∈ φ.r) : ∀ {v : List PV} {u : List V}, Rps K φ H v u → Rps K φ (upd H D o) v u
  | _, _, .nil => .nil
  | _, _, .cons k r => .cons (Rp.under h hd k) (Rps.under h hd r)
end
mutual
theorem Rp.less {l : List Addr} (s : ∀ a, a ∈ l → a ∈ φ.r) : ∀ {v : PV} {u : V}, Rp K φ H v u → Rp K ⟨φ.c, l⟩ H v u
  | _, _, .non => .non
  | _, _, .bl b => .bl b
  | _, _, .int i => .int i
  | _, _, .str s => .str s
  | _, _, .tup k r => .tup k (Rps.less s r)
  | _, _, .lst k n r => .lst k ⟨n.1, fun z => n.2 (s _ z)⟩ (Rps.less s r)
  | _, _, .rol k r => .rol (by
      rcases k with ⟨o, k⟩ | ⟨k, n⟩ | k
      · exact .inl ⟨o, k⟩
      · exact .inr (.inl ⟨k, n.1, fun z => n.2 (s _ z)⟩)
      · exact .inr (.inr k)) (Rps.less s r)
  | _, _, .ref k => .ref k
theorem Rps.less {l : List Addr} (s : ∀ a, a ∈ l → a ∈ φ.r) : ∀ {v : List PV} {u : List V}, Rps K φ H v u → Rps K ⟨φ.c, l⟩ H v u
  | _, _, .nil => .nil
  | _, _, .cons k r => .cons (Rp.less s k) (Rps.less s r)
end
mutual
/-- a hidden place becomes a cell -/
theorem Rp.shift {l : List Addr} {D : Addr} (s : ∀ a, a ∈ l → a ∈ φ.r) (hd : D ∈ φ.r) : ∀ {v : PV} {u : V}, Rp K φ H v u → Rp K (Ph.add ⟨φ.c, l⟩ D) H v u
  | _, _, .non => .non
  | _, _, .bl b => .bl b
  | _, _, .int i => .int i
  | _, _, .str s => .str s
  | _, _, .tup k r => .tup k (Rps.shift s hd r)
  | _, _, .lst k n r => .lst k ⟨fun z => (List.mem_append.mp z).elim n.1 fun z => n.2 (by rw [List.mem_singleton.mp z]; exact hd), fun z => n.2 (s _ z)⟩ (Rps.shift s hd r)
  | _, _, .rol k r => .rol (by
      rcases k with ⟨o, k⟩ | ⟨k, n⟩ | k
      · exact .inl ⟨o, k⟩
      · exact .inr (.inl ⟨k, fun z => (List.mem_append.mp z).elim n.1 fun z => n.2 (by rw [List.mem_singleton.mp z]; exact hd), fun z => n.2 (s _ z)⟩)
      · exact .inr (.inr k)) (Rps.shift s hd r)
  | _, _, .ref k => .ref (by
      have hl := (List.getElem?_eq_some_iff.mp k).1
      show (φ.c ++ [D])[_]? = _
      rw [List.getElem?_append_left hl]; exact k)
theorem Rps.shift {l : List Addr} {D : Addr} (s : ∀ a, a ∈ l → a ∈ φ.r) (hd : D ∈ φ.r) : ∀ {v : List PV} {u : List V}, Rps K φ H v u → Rps K (Ph.add ⟨φ.c, l⟩ D) H v u
  | _, _, .nil => .nil
  | _, _, .cons k r => .cons (Rp.shift s hd k) (Rps.shift s hd r)
end
theorem RM.enter (m : RM K φ H M) {D : Addr} {o : HO} (h : H D = none) : RM K (φ.hide D) (upd H D o) M :=
  ⟨m.len, m.nd, fun a k => by
    by_cases e : a = D
    · subst e; exact ⟨_, upd_same⟩
    · rw [upd_ne e]
      exact m.res a ((List.mem_cons.mp k).resolve_left e), fun n a c h1 h2 =>
    (m.cells n a c h1 h2).mono_same (xt_hide h) fun u e => by rw [upd_ne (ne_of_none e h)]; exact e⟩
theorem RM.under (m : RM K φ H M) {D : Addr} {ws : List V} {o : HO} (h : H D = some (.lst ws)) (hd : D ∈ φ.r) (hc : D ∉ φ.c) : RM K φ (upd H D o) M :=
  ⟨m.len, m.nd, res_upd m.res, fun n a c h1 h2 => by
    have k := m.cells n a c h1 h2
    have ne : a ≠ D := fun z => hc (z ▸ List.mem_of_getElem? h1)
    cases c with
    | lst xs =>
      obtain ⟨vs, h3, h4⟩ := k
      exact ⟨vs, by rw [upd_ne ne]; exact h3, h4.under h hd⟩
    | dic _ => exact k⟩
theorem RM.less (m : RM K φ H M) {l : List Addr} (s : ∀ a, a ∈ l → a ∈ φ.r) : RM K ⟨φ.c, l⟩ H M :=
  ⟨m.len, m.nd, fun a k => m.res a (s a k), fun n a c h1 h2 => by
    have k := m.cells n a c h1 h2
    cases c with
    | lst xs =>
      obtain ⟨vs, h3, h4⟩ := k
      exact ⟨vs, h3, h4.less s⟩
    | dic _ => exact k⟩

/-! ### lists of values -/
theorem Rps.length : ∀ {xs : List PV} {vs : List V}, Rps K φ H xs vs → xs.length = vs.length
  | _, _, .nil => rfl
  | _, _, .cons _ r => by simp [Rps.length r]
theorem Rps.append : ∀ {xs ys : List PV} {vs ws : List V}, Rps K φ H xs vs → Rps K φ H ys ws → Rps K φ H (xs ++ ys) (vs ++ ws)
  | _, _, _, _, .nil, q => q
  | _, _, _, _, .cons h r, q => .cons h (Rps.append r q)
theorem Rps.get : ∀ {xs : List PV} {vs : List V} {i : Nat} {x : PV}, Rps K φ H xs vs → xs[i]? = some x → ∃ v, vs[i]? = some v ∧ Rp K φ H x v
  | _, _, _, _, .nil, e => by simp at e
  | _, _, 0, _, .cons h _, e => by simp at e; subst e; exact ⟨_, rfl, h⟩
  | _, _, i + 1, _, .cons _ r, e => by
    obtain ⟨v, h1, h2⟩ := Rps.get (i := i) r (by simpa using e)
    exact ⟨v, by simpa using h1, h2⟩
theorem Rps.set : ∀ {xs : List PV} {vs : List V} (i : Nat) {x : PV} {v : V}, Rps K φ H xs vs → Rp K φ H x v → Rps K φ H (xs.set i x) (vs.set i v)
  | _, _, _, _, _, .nil, _ => .nil
  | _, _, 0, _, _, .cons _ r, q => .cons q r
  | _, _, i + 1, _, _, .cons h r, q => .cons h (Rps.set i r q)
theorem Rps.take : ∀ {xs : List PV} {vs : List V} (n : Nat), Rps K φ H xs vs → Rps K φ H (xs.take n) (vs.take n)
  | _, _, 0, _ => .nil
  | _, _, _ + 1, .nil => .nil
  | _, _, n + 1, .cons h r => .cons h (Rps.take n r)
theorem Rps.drop : ∀ {xs : List PV} {vs : List V} (n : Nat), Rps K φ H xs vs → Rps K φ H (xs.drop n) (vs.drop n)
  | _, _, 0, r => r
  | _, _, _ + 1, .nil => .nil
  | _, _, n + 1, .cons _ r => Rps.drop n r
theorem Rps.rev : ∀ {xs : List PV} {vs : List V}, Rps K φ H xs vs → Rps K φ H xs.reverse vs.reverse
  | _, _, .nil => .nil
  | _, _, .cons h r => by
    rw [List.reverse_cons, List.reverse_cons]
    exact (Rps.rev r).append (.cons h .nil)
theorem Rps.rep {xs : List PV} {vs : List V} (r : Rps K φ H xs vs) : ∀ n : Nat, Rps K φ H (List.replicate n xs).flatten (List.replicate n vs).flatten
  | 0 => .nil
  | n + 1 => by
    rw [List.replicate_succ, List.replicate_succ, List.flatten_cons, List.flatten_cons]
    exact r.append (Rps.rep r n)
theorem Rps.atI {xs : List PV} {vs : List V} {i : Int} {x : PV} (r : Rps K φ H xs vs) (h : atI xs i = some x) : ∃ v, L2.atI vs i = some v ∧ Rp K φ H x v := by
  unfold L2.atI at h ⊢
  rw [← r.length]
  cases e : ixN xs.length i with
  | none => rw [e] at h; cases h
  | some j =>
    rw [e] at h
    exact r.get (i := j) h
theorem Rps.isEmpty {xs : List PV} {vs : List V} (r : Rps K φ H xs vs) : xs.isEmpty = vs.isEmpty := by
  cases r <;> rfl
/-- the items of a list -/
theorem items_sq (m : RM K φ H M) {v : PV} {u : V} {xs : List PV} (r : Rp K φ H v u) (h : items M v = some xs) : ∃ a vs, u = .ref a ∧ SqL K H a vs ∧ Rps K φ H xs vs := by
  cases r with
  | lst h1 n r1 => cases h; exact ⟨_, _, rfl, .inl (.inl h1), r1⟩
  | rol h1 r1 => cases h; exact ⟨_, _, rfl, h1.sq, r1⟩
  | @ref n a h1 =>
    unfold items at h
    simp only at h
    split at h
    · rename_i ys e
      cases h
      obtain ⟨b, h2, vs, h3, h4⟩ := m.at_ e
      rw [h1] at h2; cases h2
      exact ⟨_, _, rfl, .inl (.inl h3), h4⟩
    · cases h
  | non | bl | int | str | tup => cases h
theorem itemsW_sq (m : RM K φ H M) {v : PV} {u : V} {xs : List PV} (r : Rp K φ H v u) (h : itemsW M v = some xs) : ∃ a vs, u = .ref a ∧ H a = some (.lst vs) ∧ Rps K φ H xs vs := by
  cases r with
  | lst h1 n r1 => cases h; exact ⟨_, _, rfl, h1, r1⟩
  | @ref n a h1 =>
    unfold itemsW at h
    simp only at h
    split at h
    · rename_i ys e
      cases h
      obtain ⟨b, h2, vs, h3, h4⟩ := m.at_ e
      rw [h1] at h2; cases h2
      exact ⟨_, _, rfl, h3, h4⟩
    · cases h
  | non | bl | int | str | tup | rol => cases h
theorem itemsT_sq (m : RM K φ H M) {v : PV} {u : V} {xs : List PV} (r : Rp K φ H v u) (h : itemsT M v = some xs) : ∃ a vs, u = .ref a ∧ (SqL K H a vs ∨ SqT K H a vs) ∧ Rps K φ H xs vs := by
  cases r with
  | tup h1 r1 => cases h; exact ⟨_, _, rfl, .inr h1, r1⟩
  | lst h1 n r1 =>
    obtain ⟨a, vs, e, h2, h3⟩ := items_sq m (.lst h1 n r1) h
    exact ⟨a, vs, e, .inl h2, h3⟩
  | rol h1 r1 =>
    obtain ⟨a, vs, e, h2, h3⟩ := items_sq m (.rol h1 r1) h
    exact ⟨a, vs, e, .inl h2, h3⟩
  | ref h1 =>
    obtain ⟨a, vs, e, h2, h3⟩ := items_sq m (.ref h1) h
    exact ⟨a, vs, e, .inl h2, h3⟩
  | non | bl | int | str => cases h
/-! ### data -/
mutual
theorem toD_dp : ∀ {v : PV} {u : V} {d : PyData}, Rp K φ H v u → toD v = some d → Dp K H u d
  | .non, _, _, .non, e => by cases e; exact .non
  | .bl b, _, _, .bl _, e => by cases e; exact .bl b
  | .int i, _, _, .int _, e => by cases e; exact .int i
  | .str s, _, _, .str _, e => by cases e; exact .str s
  | .tup xs, _, d, .tup h r, e => by
    unfold toD at e
    cases k : toDs xs with
    | none => rw [k] at e; cases e
    | some ds => rw [k] at e; cases e; exact .tup h (toDs_dp r k)
  | .lst xs, _, d, .lst h n r, e => by
    unfold toD at e
    cases k : toDs xs with
    | none => rw [k] at e; cases e
    | some ds => rw [k] at e; cases e; exact .lst (.inl (.inl h)) (toDs_dp r k)
  | .rol xs, _, d, .rol h r, e => by
    unfold toD at e
    cases k : toDs xs with
    | none => rw [k] at e; cases e
    | some ds => rw [k] at e; cases e; exact .lst h.sq (toDs_dp r k)
  | .ref n, _, _, .ref h, e => by cases e
theorem toDs_dp : ∀ {v : List PV} {u : List V} {d : List PyData}, Rps K φ H v u → toDs v = some d → DpAll K H u d
  | [], _, _, .nil, e => by cases e; exact .nil
  | x :: xs, _, d, .cons h r, e => by
    unfold toDs at e
    cases k1 : toD x with
    | none => rw [k1] at e; cases e
    | some d1 =>
      cases k2 : toDs xs with
      | none => rw [k1, k2] at e; cases e
      | some ds => rw [k1, k2] at e; cases e; exact .cons (toD_dp h k1) (toDs_dp r k2)
end
theorem toDM_dp (m : RM K φ H M) {v : PV} {u : V} {d : PyData} (r : Rp K φ H v u) (e : toDM M v = some d) : Dp K H u d := by
  cases r with
  | ref h1 =>
    unfold toDM at e
    simp only at e
    split at e
    · rename_i xs e1
      obtain ⟨b, h2, vs, h3, h4⟩ := m.at_ e1
      rw [h1] at h2; cases h2
      cases k : toDs xs with
      | none => rw [k] at e; cases e
      | some ds => rw [k] at e; cases e; exact .lst (.inl (.inl h3)) (toDs_dp h4 k)
    · cases e
  | non => exact toD_dp (φ := φ) .non e
  | bl b => exact toD_dp (φ := φ) (.bl b) e
  | int i => exact toD_dp (φ := φ) (.int i) e
  | str i => exact toD_dp (φ := φ) (.str i) e
  | tup h r => exact toD_dp (.tup h r) e
  | lst h n r => exact toD_dp (.lst h n r) e
  | rol h r => exact toD_dp (.rol h r) e
theorem truthy_tru (m : RM K φ H M) {v : PV} {u : V} {b : Bool} (r : Rp K φ H v u) (e : truthy M v = some b) : TruV K u H b := by
  cases r with
  | non => cases e; rfl
  | bl b => cases e; rfl
  | int i => cases e; rfl
  | str s =>
    unfold truthy at e
    simp only at e
    split at e
    · rename_i h; cases e; exact ⟨h, rfl⟩
    · cases e
  | tup h r => cases e; exact .inr (.inl ⟨_, h, by rw [r.isEmpty]⟩)
  | lst h n r => cases e; exact .inl ⟨_, .inl (.inl h), by rw [r.isEmpty]⟩
  | rol h r => cases e; exact .inl ⟨_, h.sq, by rw [r.isEmpty]⟩
  | ref h1 =>
    unfold truthy at e
    simp only at e
    split at e
    · rename_i xs e1
      cases e
      obtain ⟨b, h2, vs, h3, h4⟩ := m.at_ e1
      rw [h1] at h2; cases h2
      exact .inl ⟨_, .inl (.inl h3), by rw [h4.isEmpty]⟩
    · cases e
end
end Ev

/-! The operations on values, over the interpreter's. -/
namespace Ev
section
open PySem PySem.Spec PyProof.Rows L2
theorem tuple_mulE (l : Addr) (n : Nat) (dd : Option Addr) (sl : Array (Option Value)) (x : Int) (u : Tok) (c0 : (decide (x < -(2 ^ 63)) || decide (x ≥ 2 ^ 63)) = false) :
    Meets (Builtin.«tuple.__mul__» ⟨[.ref l, .int x u], []⟩) (fun _ R s => s.heap.get? l = some { cls := .type "tuple", dict := dd, data := .seq #[] n, slots := sl } ∧ R (.ok (.ret (.ref l))) s) :=
  .of_wp fun prog w A R s h => by
    obtain ⟨hp, g, d, tk, os⟩ := s
    obtain ⟨hl, h⟩ := h
    have f1 := AutoSeq1.idx_int
    have hT : Shared.TypeIs ⟨hp, g, d, tk, os⟩ (.ref l) "tuple" := ⟨_, hl, rfl⟩
    have c1 : ((#[] : Array Value).isEmpty || x == 1) = true := by simp
    wp_walk using wpAny_loadPart' hl, wpAny_typeOf hT
    repeat (first
      | (refine wpAny_ite_false (decide_eq_false (by rw [c0]; exact Bool.false_ne_true)) ?_; wp_walk using wpAny_loadPart' hl, wpAny_typeOf hT)
      | (refine wpAny_ite_true (decide_eq_true (by first | exact c1 | rfl)) ?_; wp_walk using wpAny_loadPart' hl, wpAny_typeOf hT))
    exact ⟨_, rfl, h⟩
def rRepT0 (K : PySem.W.Frag) : R2 := fun x y H Q => ∃ l k, x = .ref l ∧ y = .int k ∧ SqT K H l [] ∧ -(2 ^ 63) ≤ k ∧ k < 2 ^ 63 ∧ Q (.ref l) H
theorem op_repT0 {X : Cx} : OpR X (binaryOp .Mult) (rRepT0 X.K) := by
  intro pins s σ H x y v u Q I rx ry h
  obtain ⟨l, k, rfl, rfl, hT, h1, h2, q⟩ := h
  cases rx
  obtain ⟨t, rfl⟩ := ry
  obtain ⟨its, r, ⟨⟨cls, dd, data, sl⟩, ho, hc, n, hd⟩, hs⟩ := I.tuple hT
  simp only at hc hd
  subst hc hd
  cases r
  have c0 : (decide (k < -(2 ^ 63)) || decide (k ≥ 2 ^ 63)) = false := by
    rw [decide_eq_false (by omega), decide_eq_false (by omega)] <;> rfl
  exact wpAny_binaryOp_repeat_ref (T := "tuple") (U := "int") (by decide) ⟨_, ho, rfl⟩ (fun s' => typeIs_int s' k t) noFill_tuple_mul F.fills_int_mul F.slot_int_rmul repeat_tuple F.slot_int_index.lookup
    (call_meets F.slot_int_rmul (typeIs_int s k t) F.entry_int_rmul (F.args_int_rmul_2 _ _) (int_rmul_tuple k t l #[] n dd sl)
      ⟨ho, rfl, ⟨_, ho, rfl⟩, call_meets F.slot_tuple_mul ⟨_, ho, rfl⟩ F.entry_tuple_mul (F.args_tuple_mul_2 _ _) (tuple_mulE l n dd sl k t c0) ⟨ho, ⟨.ref l, H, I, rfl, q⟩⟩⟩)
end
open PySem PySem.Spec PyProof.Rows L2
section
variable {K : PySem.W.Frag} {φ φ' φ2 : Ph} {H H' H2 : Hp} {M M' : Mem}
/-- what is wanted behind a step -/
def Pst (K : PySem.W.Frag) (φ : Ph) (H : Hp) (M : Mem) (z : PV) (Q : VK) : Prop := ∀ φ' H' u, Xt φ H φ' H' → RM K φ' H' M → Rp K φ' H' z u → Q u H'
theorem Pst.here {z : PV} {u : V} {Q : VK} (k : Pst K φ H M z Q) (m : RM K φ H M) (r : Rp K φ H z u) : Q u H := k φ H u .refl m r
theorem Pst.tup {xs : List PV} {vs : List V} {Q : VK} (k : Pst K φ H M (.tup xs) Q) (m : RM K φ H M) (r : Rps K φ H xs vs) {p : Addr} (h : H p = none) : Q (.ref p) (upd H p (.tup vs)) :=
  k φ _ _ (xt_new h) (m.new h) (.tup (.inl (.inl upd_same)) (r.mono (xt_new h)))
theorem Pst.lst {xs : List PV} {vs : List V} {Q : VK} (k : Pst K φ H M (.lst xs) Q) (m : RM K φ H M) (r : Rps K φ H xs vs) {p : Addr} (h : H p = none) : Q (.ref p) (upd H p (.lst vs)) :=
  k φ _ _ (xt_new h) (m.new h) (.lst upd_same (m.notin2 h) (r.mono (xt_new h)))
theorem Pst.cell {xs : List PV} {vs : List V} {Q : VK} (k : Pst K φ H (M ++ [.lst xs]) (.ref M.length) Q) (m : RM K φ H M) (r : Rps K φ H xs vs) {p : Addr} (h : H p = none) : Q (.ref p) (upd H p (.lst vs)) :=
  k (φ.add p) _ _ (xt_cell h) (m.cell h r) (.ref (by show (φ.c ++ [p])[M.length]? = some p; rw [← m.len, List.getElem?_append_right (Nat.le_refl _)]; simp))
theorem Pst.newL {b : Bool} {xs : List PV} {vs : List V} {Q : VK} (k : Pst K φ H (newL b xs M).2 (newL b xs M).1 Q) (m : RM K φ H M) (r : Rps K φ H xs vs) {p : Addr} (h : H p = none) : Q (.ref p) (upd H p (.lst vs)) := by
  cases b with
  | true => exact Pst.cell k m r h
  | false => exact Pst.lst k m r h
theorem Pst.asM {z : PV} {u : V} {Q : VK} {f : Bool} (k : Pst K φ H (Ev.asM f z M).2 (Ev.asM f z M).1 Q) (m : RM K φ H M) (r : Rp K φ H z u) (h : ∀ xs, z ≠ .lst xs := by intro _ h; cases h) : Q u H := by
  cases f with
  | false => exact k.here m r
  | true => cases z <;> first | exact k.here m r | exact absurd rfl (h _)
theorem Pst.asT {xs : List PV} {vs : List V} {Q : VK} {f : Bool} (k : Pst K φ H (Ev.asM f (.tup xs) M).2 (Ev.asM f (.tup xs) M).1 Q) (m : RM K φ H M) (r : Rps K φ H xs vs) {p : Addr} (h : H p = none) : Q (.ref p) (upd H p (.tup vs)) := by
  have k1 : Pst K φ H M (.tup xs) Q := by cases f <;> exact k
  exact k1.tup m r h
theorem Pst.asL {xs : List PV} {vs : List V} {Q : VK} {f : Bool} (k : Pst K φ H (Ev.asM f (.lst xs) M).2 (Ev.asM f (.lst xs) M).1 Q) (m : RM K φ H M) (r : Rps K φ H xs vs) {p : Addr} (h : H p = none) : Q (.ref p) (upd H p (.lst vs)) := by
  cases f with
  | false => exact Pst.lst k m r h
  | true => exact Pst.cell k m r h
def rB (K : PySem.W.Frag) (g : Bool) (f : Mem → PV → PV → Option PV) : R2 := fun x y H Q => ∃ φ M v w z, RM K φ H M ∧ Rp K φ H v x ∧ Rp K φ H w y ∧ f M v w = some z ∧ Pst K φ H (asM g z M).2 (asM g z M).1 Q
end
section
variable {X : Cx}
theorem op_fdivG : OpR X (binaryOp .FloorDiv) (L2.rI (fun i j => j ≠ 0 ∧ j.natAbs.log2 < 9000) fun i j => .int (i.fdiv j)) := opI fun i j _ _ _ _ _ hc q =>
  floordiv_int hc.1 q (.inl (PyProof.noPylong_of_log2 hc.2))
/-- () + t -/
theorem op_catT0 : OpR X (binaryOp .Add) (fun x y H Q => ∃ a b ys, x = .ref a ∧ y = .ref b ∧ SqT X.K H a [] ∧ SqT X.K H b ys ∧ Q (.ref b) H) := by
  intro pins s σ H x y v u Q I rx ry h
  obtain ⟨a, b, ys, rfl, rfl, ha, hb, q⟩ := h
  cases rx
  cases ry
  obtain ⟨its, r1, p1, _⟩ := I.tuple ha
  obtain ⟨its2, r2, p2, _⟩ := I.tuple hb
  cases r1
  obtain ⟨⟨cls, dd, data, sl⟩, ho, hc, n, hd⟩ := _root_.id p1
  obtain ⟨⟨cls2, dd2, data2, sl2⟩, ho2, hc2, n2, hd2⟩ := _root_.id p2
  simp only at hc hd hc2 hd2
  subst hc hd hc2 hd2
  exact concat_meets ⟨_, ho, rfl⟩ ⟨_, ho2, rfl⟩ noFill_tuple_add seq_tuple_add PySem.F.slot_tuple_add PySem.F.entry_tuple_add (PySem.F.args_tuple_add_2 _ _)
      (tuple_addW0 a b _ _ n n2 dd dd2 sl sl2 (by simp)) ⟨ho, ho2, ⟨.ref b, H, I, rfl, q⟩⟩
theorem orR {f : Value → Value → Sem Value} {r r' : R2} (h : OpR X f r) (h' : OpR X f r') : OpR X f (fun x y H Q => r x y H Q ∨ r' x y H Q) := OpR.or h h'
/-- a rule by another -/
theorem OpR.imp {f : Value → Value → Sem Value} {r r' : R2} (h : OpR X f r) (k : ∀ x y H Q, r' x y H Q → r x y H Q) : OpR X f r' :=
  fun pins s σ H x y v u Q I rx ry q => h pins s σ H x y v u Q I rx ry (k _ _ _ _ q)

theorem o_add {g : Bool} : OpR X (binaryOp .Add) (rB X.K g fun M => binop M .add) := by
  refine OpR.imp (orR op_add (orR op_catT (orR op_catT0 (orR op_add_str op_cat)))) fun x y H Q h => ?_
  obtain ⟨φ, M, v, w, z, m, r1, r2, e, k⟩ := h
  change addOp M v w = some z at e
  unfold addOp at e
  split at e
  · cases e; cases r1; cases r2
    exact .inl ⟨_, _, rfl, rfl, k.asM m (.int _)⟩
  · split at e
    · rename_i hz
      have hz := of_decide_eq_true hz
      cases e
      cases r1 with
      | tup h1 q1 =>
      cases r2 with
      | tup h2 q2 =>
      rename_i xs ys a vs b ws
      by_cases e0 : vs = []
      · subst e0
        cases q1
        exact .inr (.inr (.inl ⟨_, _, _, rfl, rfl, h1, h2, k.asM m (.tup h2 q2)⟩))
      · refine .inr (.inl ⟨_, _, _, _, rfl, rfl, h1, h2, e0, by rw [← q1.length, ← q2.length]; exact hz, fun e1 => ?_, fun _ p hp => k.asT m (q1.append q2) hp⟩)
        subst e1
        cases q2
        refine k.asM m (.tup h1 ?_)
        rw [List.append_nil]; exact q1
    · cases e
  · split at e
    · rename_i hz
      have hz := of_decide_eq_true hz
      cases e; cases r1; cases r2
      exact .inr (.inr (.inr (.inl ⟨_, _, rfl, rfl, hz, k.asM m (.str _)⟩)))
    · cases e
  · split at e
    · rename_i xs ys h1 h2
      split at e
      · rename_i hz
        have hz := of_decide_eq_true hz
        cases e
        obtain ⟨a, vs, rfl, ha, q1⟩ := itemsW_sq m r1 h1
        obtain ⟨b, ws, rfl, hb, q2⟩ := itemsW_sq m r2 h2
        exact .inr (.inr (.inr (.inr ⟨_, _, _, _, rfl, rfl, ha, hb, by rw [← q1.length, ← q2.length]; exact hz, fun p hp => k.asL m (q1.append q2) hp⟩)))
      · cases e
    · cases e
theorem op_subB : OpR X (binaryOp .Sub) (fun x y H Q => ∃ i k, x = .bl i ∧ y = .bl k ∧ Q (.int ((if i then 1 else 0) - (if k then 1 else 0))) H) := by
  intro pins s σ H x y v u Q I rx ry h
  obtain ⟨i, k, rfl, rfl, q⟩ := h
  cases rx
  cases ry
  exact PyProof.Rows.sub_bool ⟨.int ((if i then 1 else 0) - (if k then 1 else 0)), H, I.tok _, ⟨_, rfl⟩, q⟩
theorem o_sub {g : Bool} : OpR X (binaryOp .Sub) (rB X.K g fun M => binop M .sub) := by
  refine OpR.imp (orR op_sub op_subB) fun x y H Q h => ?_
  obtain ⟨φ, M, v, w, z, m, r1, r2, e, k⟩ := h
  change subOp v w = some z at e
  unfold subOp at e
  split at e
  · cases e; cases r1; cases r2
    exact .inl ⟨_, _, rfl, rfl, k.asM m (.int _)⟩
  · cases e; cases r1; cases r2
    exact .inr ⟨_, _, rfl, rfl, k.asM m (.int _)⟩
  · cases e
theorem o_fdiv {g : Bool} : OpR X (binaryOp .FloorDiv) (rB X.K g fun M => binop M .fdiv) := by
  refine OpR.imp op_fdivG fun x y H Q h => ?_
  obtain ⟨φ, M, v, w, z, m, r1, r2, e, k⟩ := h
  change fdivOp v w = some z at e
  unfold fdivOp at e
  split at e
  · split at e
    · rename_i hz
      unfold divOk at hz
      rw [Bool.and_eq_true] at hz
      cases e; cases r1; cases r2
      exact ⟨_, _, rfl, rfl, ⟨of_decide_eq_true hz.1, of_decide_eq_true hz.2⟩, k.asM m (.int _)⟩
    · cases e
  · cases e
theorem o_mod {g : Bool} : OpR X (binaryOp .Mod) (rB X.K g fun M => binop M .mod) := by
  refine OpR.imp op_modN fun x y H Q h => ?_
  obtain ⟨φ, M, v, w, z, m, r1, r2, e, k⟩ := h
  change modOp v w = some z at e
  unfold modOp at e
  split at e
  · split at e
    · rename_i hz
      cases e; cases r1; cases r2
      exact ⟨_, _, rfl, rfl, of_decide_eq_true hz, k.asM m (.int _)⟩
    · cases e
  · cases e
theorem o_pow {g : Bool} : OpR X (binaryOp .Pow) (rB X.K g fun M => binop M .pow) := by
  refine OpR.imp op_pow fun x y H Q h => ?_
  obtain ⟨φ, M, v, w, z, m, r1, r2, e, k⟩ := h
  change powOp v w = some z at e
  unfold powOp at e
  split at e
  · split at e
    · rename_i hz
      rw [Bool.and_eq_true, Bool.and_eq_true] at hz
      cases e; cases r1; cases r2
      exact ⟨_, _, rfl, rfl, ⟨of_decide_eq_true hz.1.1, of_decide_eq_true hz.1.2, of_decide_eq_true hz.2⟩, k.asM m (.int _)⟩
    · cases e
  · cases e
theorem o_mul {g : Bool} : OpR X (binaryOp .Mult) (rB X.K g fun M => binop M .mul) := by
  refine OpR.imp (orR op_mul (orR op_mulW (orR op_repT0 (orR op_repT op_rep)))) fun x y H Q h => ?_
  obtain ⟨φ, M, v, w, z, m, r1, r2, e, k⟩ := h
  change mulOp M v w = some z at e
  unfold mulOp at e
  split at e
  · split at e
    · rename_i hz
      unfold mulOk at hz
      rw [Bool.or_eq_true] at hz
      cases e; cases r1; cases r2
      rcases hz with hz | hz
      · have hz' := of_decide_eq_true hz
        exact .inl ⟨_, _, rfl, rfl, hz', k.asM m (.int _)⟩
      · have hz' := of_decide_eq_true hz
        exact .inr (.inl ⟨_, _, rfl, rfl, hz', k.asM m (.int _)⟩)
    · cases e
  · split at e
    · rename_i hz
      rw [Bool.and_eq_true] at hz
      cases e
      cases r2
      cases r1 with
      | tup ha q1 =>
      cases q1
      exact .inr (.inr (.inl ⟨_, _, rfl, rfl, ha, of_decide_eq_true hz.1, of_decide_eq_true hz.2, k.asM m (.tup ha .nil)⟩))
    · cases e
  · split at e
    · rename_i hz
      rw [Bool.and_eq_true, Bool.and_eq_true] at hz
      obtain ⟨⟨h2, h3⟩, h4⟩ := hz
      cases e
      cases r2
      cases r1 with
      | tup ha q1 =>
      refine .inr (.inr (.inr (.inl ⟨_, _, _, rfl, rfl, ha, fun z => ?_, of_decide_eq_true h2, of_decide_eq_true h3, by rw [← q1.length]; exact of_decide_eq_true h4, fun p hp => k.asT m (q1.rep _) hp⟩)))
      subst z
      cases q1
    · cases e
  · split at e
    · rename_i xs h1
      split at e
      · rename_i hz
        rw [Bool.and_eq_true, Bool.and_eq_true] at hz
        cases e
        cases r2
        obtain ⟨a, vs, rfl, ha, q1⟩ := itemsW_sq m r1 h1
        exact .inr (.inr (.inr (.inr ⟨_, _, _, rfl, rfl, ha, of_decide_eq_true hz.1.1, of_decide_eq_true hz.1.2, by rw [← q1.length]; exact of_decide_eq_true hz.2, fun p hp => k.asL m (q1.rep _) hp⟩)))
      · cases e
    · cases e
  · cases e
/-! ### comparisons -/
def rC (K : PySem.W.Frag) (f : Mem → PV → PV → Option Bool) : R2 := rB K false fun M v w => (f M v w).map .bl
theorem rC_get {f : Mem → PV → PV → Option Bool} {K : PySem.W.Frag} {x y : V} {H : Hp} {Q : VK} (h : rC K f x y H Q) : ∃ φ M v w b, RM K φ H M ∧ Rp K φ H v x ∧ Rp K φ H w y ∧ f M v w = some b ∧ Q (.bl b) H := by
  obtain ⟨φ, M, v, w, z, m, r1, r2, e, k⟩ := h
  cases e1 : f M v w with
  | none => simp only [e1] at e; cases e
  | some b =>
    simp only [e1] at e
    cases e
    exact ⟨φ, M, v, w, b, m, r1, r2, e1, k.here m (.bl b)⟩
theorem o_cmpI {op : CmpOp} {p : Int → Int → Bool} (h : OpR X (compareOp op) (rI0 fun i j => .bl (p i j))) : OpR X (compareOp op) (rC X.K fun _ => cmpI p) := by
  refine OpR.imp h fun x y H Q h => ?_
  obtain ⟨φ, M, v, w, b, m, r1, r2, e, k⟩ := rC_get h
  unfold cmpI at e
  split at e
  · cases e; cases r1; cases r2
    exact ⟨_, _, rfl, rfl, k⟩
  · cases e
theorem o_lt : OpR X (compareOp .Lt) (rC X.K fun M => cmpop M .lt) := o_cmpI op_lt
theorem o_le : OpR X (compareOp .LtE) (rC X.K fun M => cmpop M .le) := o_cmpI op_le
theorem o_gt : OpR X (compareOp .Gt) (rC X.K fun M => cmpop M .gt) := o_cmpI op_gt
theorem o_ge : OpR X (compareOp .GtE) (rC X.K fun M => cmpop M .ge) := o_cmpI op_ge
theorem eqD_get {K : PySem.W.Frag} {φ : Ph} {H : Hp} {M : Mem} {v w : PV} {x y : V} {b : Bool} (m : RM K φ H M) (r1 : Rp K φ H v x) (r2 : Rp K φ H w y) (e : eqD M v w = some b) :
    ∃ d f, Dp K H x d ∧ Dp K H y f ∧ SeqAt.shaped d = true ∧ SeqAt.shaped f = true ∧ PyData.eqv d f = b := by
  unfold eqD at e
  split at e
  · rename_i d f h1 h2
    split at e
    · rename_i hz
      rw [Bool.and_eq_true] at hz
      cases e
      exact ⟨d, f, toDM_dp m r1 h1, toDM_dp m r2 h2, hz.1, hz.2, rfl⟩
    · cases e
  · cases e
theorem o_eq (hu : X.A.units + 64 < cLine) : OpR X (compareOp .Eq) (rC X.K fun M => cmpop M .eq) := by
  refine OpR.imp (op_eqD hu) fun x y H Q h => ?_
  obtain ⟨φ, M, v, w, b, m, r1, r2, e, k⟩ := rC_get h
  obtain ⟨d, f, h1, h2, h3, h4, e⟩ := eqD_get m r1 r2 e
  subst e
  exact ⟨d, f, h1, h2, h3, h4, k⟩
theorem o_ne (hu : X.A.units + 64 < cLine) : OpR X (compareOp .NotEq) (rC X.K fun M => cmpop M .ne) := by
  refine OpR.imp (op_neD hu) fun x y H Q h => ?_
  obtain ⟨φ, M, v, w, b, m, r1, r2, e, k⟩ := rC_get h
  change (eqD M v w).map (!·) = some b at e
  cases e1 : eqD M v w with
  | none => rw [e1] at e; cases e
  | some b1 =>
    rw [e1] at e
    cases e
    obtain ⟨d, f, h1, h2, h3, h4, e⟩ := eqD_get m r1 r2 e1
    subst e
    exact ⟨d, f, h1, h2, h3, h4, k⟩
theorem isNon_eq {K : PySem.W.Frag} {φ : Ph} {H : Hp} {v : PV} {x : V} (r : Rp K φ H v x) : isNon v = decide (x = .non) := by
  cases r <;> rfl
theorem isOp_get {K : PySem.W.Frag} {φ : Ph} {H : Hp} {v w : PV} {x y : V} {b : Bool} (r1 : Rp K φ H v x) (r2 : Rp K φ H w y) (e : isOp v w = some b) :
    (y = .non ∧ b = decide (x = .non)) ∨ ∃ p q : Bool, x = .bl p ∧ y = .bl q ∧ b = decide (p = q) := by
  unfold isOp at e
  split at e
  · cases e; cases r2; exact .inl ⟨rfl, isNon_eq r1⟩
  · cases e; cases r1; cases r2; exact .inr ⟨_, _, rfl, rfl, rfl⟩
  · cases e
theorem o_is : OpR X (compareOp .Is) (rC X.K fun M => cmpop M .is) := by
  refine OpR.imp (orR op_isN op_isBl) fun x y H Q h => ?_
  obtain ⟨φ, M, v, w, b, m, r1, r2, e, k⟩ := rC_get h
  rcases isOp_get r1 r2 e with ⟨h1, rfl⟩ | ⟨p, q, h1, h2, rfl⟩
  · exact .inl ⟨h1, k⟩
  · exact .inr ⟨p, q, h1, h2, k⟩
theorem o_isn : OpR X (compareOp .IsNot) (rC X.K fun M => cmpop M .isn) := by
  refine OpR.imp (orR op_notN op_notBl) fun x y H Q h => ?_
  obtain ⟨φ, M, v, w, b, m, r1, r2, e, k⟩ := rC_get h
  change (isOp v w).map (!·) = some b at e
  cases e1 : isOp v w with
  | none => rw [e1] at e; cases e
  | some b1 =>
    rw [e1] at e
    cases e
    rcases isOp_get r1 r2 e1 with ⟨h1, rfl⟩ | ⟨p, q, h1, h2, rfl⟩
    · exact .inl ⟨h1, k⟩
    · exact .inr ⟨p, q, h1, h2, k⟩
theorem flat_pv {K : PySem.W.Frag} {φ : Ph} {H : Hp} {v : PV} {x : V} (r : Rp K φ H v x) (h : flatP v = true) : x = pvToV v := by
  cases r <;> first | rfl | cases h
theorem flat_pvs {K : PySem.W.Frag} {φ : Ph} {H : Hp} : ∀ {v : List PV} {x : List V}, Rps K φ H v x → v.all flatP = true → x = v.map pvToV
  | _, _, .nil, _ => rfl
  | _, _, .cons h r, e => by
    rw [List.all_cons, Bool.and_eq_true] at e
    rw [List.map_cons, flat_pv h e.1, flat_pvs r e.2]
theorem inOp_get {K : PySem.W.Frag} {φ : Ph} {H : Hp} {M : Mem} {v w : PV} {x y : V} {b : Bool} (m : RM K φ H M) (r1 : Rp K φ H v x) (r2 : Rp K φ H w y) (e : inOp M v w = some b) :
    ∃ p xs, y = .ref p ∧ (SqL K H p xs ∨ SqT K H p xs) ∧ flatV x = true ∧ xs.all flatV = true ∧ b = inV x xs := by
  unfold inOp at e
  split at e
  · rename_i xs h1
    split at e
    · rename_i hz
      cases e
      rw [Bool.and_eq_true, Bool.and_eq_true, Bool.and_eq_true] at hz
      obtain ⟨⟨h3, h4⟩, h5, h6⟩ := hz
      obtain ⟨a, vs, rfl, h7, h8⟩ := itemsT_sq m r2 h1
      have e1 := flat_pv r1 h3
      have e2 := flat_pvs h8 h4
      subst e1 e2
      exact ⟨a, _, rfl, h7, h5, h6, rfl⟩
    · cases e
  · cases e
theorem o_in : OpR X (compareOp .In) (rC X.K fun M => cmpop M .isin) := by
  refine OpR.imp op_in_seq fun x y H Q h => ?_
  obtain ⟨φ, M, v, w, b, m, r1, r2, e, k⟩ := rC_get h
  obtain ⟨p, xs, h1, h2, h3, h4, rfl⟩ := inOp_get m r1 r2 e
  exact ⟨p, xs, h1, h2, h3, h4, k⟩
theorem o_nin : OpR X (compareOp .NotIn) (rC X.K fun M => cmpop M .notin) := by
  refine OpR.imp op_notIn_seq fun x y H Q h => ?_
  obtain ⟨φ, M, v, w, b, m, r1, r2, e, k⟩ := rC_get h
  change (inOp M v w).map (!·) = some b at e
  cases e1 : inOp M v w with
  | none => rw [e1] at e; cases e
  | some b1 =>
    rw [e1] at e
    cases e
    obtain ⟨p, xs, h1, h2, h3, h4, rfl⟩ := inOp_get m r1 r2 e1
    exact ⟨p, xs, h1, h2, h3, h4, k⟩
end
end Ev

/-! Expressions: each construct's reading is the interpreter's. -/
namespace Ev
open PySem PySem.Spec PyProof.Rows L2
abbrev Cl := Nat → List PV → Mem → Option (PV × Mem)
section
variable (K : PySem.W.Frag) (call : Cl)
def tI (m : E) : TE := fun σ H Q => ∃ φ M env v M', RM K φ H M ∧ RE K φ H env σ ∧ Ev.eval call m env M = some (v, M') ∧ Pst K φ H M' v Q
def tIs (m : Es) : TA := fun σ H Q => ∃ φ M env vs M', RM K φ H M ∧ RE K φ H env σ ∧ Ev.evals call m env M = some (vs, M') ∧ ∀ φ' H' us, Xt φ H φ' H' → RM K φ' H' M' → Rps K φ' H' vs us → Q us H'
/-- as a test -/
def tT (m : E) : TT := fun σ H Q => ∃ φ M env v M' b, RM K φ H M ∧ RE K φ H env σ ∧ Ev.eval call m env M = some (v, M') ∧ truthy M' v = some b ∧ ∀ φ' H', Xt φ H φ' H' → RM K φ' H' M' → Q b H'
end
theorem _root_.L2.PE.imp {X : Cx} {e : Expr} {t t' : TE} (h : PE X e t) (k : ∀ σ H Q, t' σ H Q → t σ H Q) : PE X e t' := ⟨fun pins s σ H Q I q => h.run pins s σ H Q I (k _ _ _ q)⟩
theorem _root_.L2.PT.imp {X : Cx} {e : Expr} {t t' : TT} (h : PT X e t) (k : ∀ σ H Q, t' σ H Q → t σ H Q) : PT X e t' := ⟨fun pins s σ H Q I q => h.run pins s σ H Q I (k _ _ _ q)⟩
theorem _root_.L2.PW.imp {X : Cx} {e : Expr} {t t' : TT} (h : PW X e t) (k : ∀ σ H Q, t' σ H Q → t σ H Q) : PW X e t' := ⟨fun wh pins s σ H Q I q => h.run wh pins s σ H Q I (k _ _ _ q)⟩
theorem _root_.L2.PA.imp {X : Cx} {e : List Expr} {t t' : TA} (h : PA X e t) (k : ∀ σ H Q, t' σ H Q → t σ H Q) : PA X e t' := ⟨fun pos pins s σ H Q I q => h.run pos pins s σ H Q I (k _ _ _ q)⟩
section
variable {K : PySem.W.Frag} {call : Cl} {φ φ' φ1 : Ph} {H H' H1 : Hp} {M M' M1 : Mem} {env : Env} {σ : L2.St}
theorem Pst.mono {z : PV} {Q : VK} (x : Xt φ H φ1 H1) (k : Pst K φ H M z Q) : Pst K φ1 H1 M z Q := fun φ' H' u y => k φ' H' u (x.trans y)
/-- one part is run, then the rest -/
theorem tI.then_ {a : E} {v : PV} {Q : VK} (m : RM K φ H M) (r : RE K φ H env σ) (e : Ev.eval call a env M = some (v, M1))
    (k : ∀ φ1 H1 u, Xt φ H φ1 H1 → RM K φ1 H1 M1 → RE K φ1 H1 env σ → Rp K φ1 H1 v u → Q u H1) : tI K call a σ H Q :=
  ⟨φ, M, env, v, M1, m, r, e, fun φ' H' u x m' q => k φ' H' u x m' (r.mono x) q⟩
theorem tIs.then_ {a : Es} {v : List PV} {Q : List V → Hp → Prop} (m : RM K φ H M) (r : RE K φ H env σ) (e : Ev.evals call a env M = some (v, M1))
    (k : ∀ φ1 H1 u, Xt φ H φ1 H1 → RM K φ1 H1 M1 → RE K φ1 H1 env σ → Rps K φ1 H1 v u → Q u H1) : tIs K call a σ H Q :=
  ⟨φ, M, env, v, M1, m, r, e, fun φ' H' u x m' q => k φ' H' u x m' (r.mono x) q⟩
theorem tT.then_ {a : E} {v : PV} {b : Bool} {Q : Bool → Hp → Prop} (m : RM K φ H M) (r : RE K φ H env σ) (e : Ev.eval call a env M = some (v, M1)) (t : truthy M1 v = some b)
    (k : ∀ φ1 H1, Xt φ H φ1 H1 → RM K φ1 H1 M1 → RE K φ1 H1 env σ → Q b H1) : tT K call a σ H Q :=
  ⟨φ, M, env, v, M1, b, m, r, e, t, fun φ' H' x m' => k φ' H' x m' (r.mono x)⟩
/-- how an evaluation in two steps comes apart -/
theorem bindE {α β : Type} {x : Option (α × Mem)} {f : α → Mem → Option β} {y : β} (h : bnd x f = some y) : ∃ a, x = some a ∧ f a.1 a.2 = some y := by
  cases x with
  | none => cases h
  | some a => exact ⟨a, rfl, h⟩
theorem ifE {β : Type} {b : Bool} {x : Option β} {y : β} (h : iff_ b x = some y) : b = true ∧ x = some y := by
  cases b with
  | true => exact ⟨rfl, h⟩
  | false => cases h
theorem bifE {β : Type} {b : Option Bool} {x z : Option β} {y : β} (h : bifb b x z = some y) : (b = some true ∧ x = some y) ∨ (b = some false ∧ z = some y) := by
  cases b with
  | none => cases h
  | some b =>
    cases b with
    | true => exact .inl ⟨rfl, h⟩
    | false => exact .inr ⟨rfl, h⟩
theorem mapE {α β : Type} {x : Option α} {f : α → β} {y : β} (h : x.map f = some y) : ∃ a, x = some a ∧ f a = y := by
  cases x with
  | none => cases h
  | some a => exact ⟨a, rfl, Option.some.inj h⟩
end
section
variable {X : Cx} {call : Cl} {a b c : Expr} {ma mb mc : E} {pos : Pos}
theorem i_var {x : Str} (i : Nat) (hN : X.N[i]? = some x := by rfl) (hv : Vis X.env.scope x := by first | exact Or.inl rfl | exact Or.inr (Or.inl rfl) | exact Or.inr (Or.inr rfl)) (hd : (x == ("__debug__" : Str)) = false := by decide)
    (hcd : (x == ("__classdict__" : Str)) = false := by decide) : PE X (.Name x pos) (tI X.K call (.var i)) :=
  (pe_var hN hv hd hcd).imp fun σ H Q ⟨φ, M, env, v, M', m, r, e, k⟩ => by
    unfold Ev.eval at e
    split at e
    · rename_i w h
      cases e
      obtain ⟨u, h1, h2⟩ := r.at_ i _ h
      exact ⟨u, h1, k.here m h2⟩
    · cases e
theorem cst_of {v : PV} {t : TE} {e : Expr} (h : PE X e t) (k : ∀ σ H Q φ M, RM X.K φ H M → Pst X.K φ H M v Q → t σ H Q) : PE X e (tI X.K call (.cst v)) :=
  h.imp fun σ H Q ⟨φ, M, env, w, M', m, r, e, q⟩ => by
    unfold Ev.eval at e
    cases e
    exact k σ H Q φ M m q
theorem i_int {i : Int} {j} : PE X (.Constant (.int i) j pos) (tI X.K call (.cst (.int i))) := cst_of pe_int fun _ _ _ _ _ m k => k.here m (.int i)
theorem i_bl {b : Bool} {j} : PE X (.Constant (.bool b) j pos) (tI X.K call (.cst (.bl b))) := cst_of pe_bl fun _ _ _ _ _ m k => k.here m (.bl b)
theorem i_non {j} : PE X (.Constant .none j pos) (tI X.K call (.cst .non)) := cst_of pe_non fun _ _ _ _ _ m k => k.here m .non
theorem i_str {x : Str} {j} : PE X (.Constant (.str x) j pos) (tI X.K call (.cst (.str x))) := cst_of pe_str fun _ _ _ _ _ m k => k.here m (.str x)
/-- a module's constant -/
def Con (K : PySem.W.Frag) (v : PV) (u : V) : Prop := ∀ φ H, Rp K φ H v u
theorem i_glob {x : Str} {v : PV} {z : V} {u : Value} (hg : Gl X x) (hm : X.mg x = some u) (r : RelV z u) (c : Con X.K v z) (hd : (x == ("__debug__" : Str)) = false := by decide) : PE X (.Name x pos) (tI X.K call (.cst v)) :=
  cst_of (pe_glob hg hm r hd) fun _ _ _ _ _ m k => k.here m (c _ _)
theorem i_bin {op : Operator} {o : Bop} (g : Bool) (ho : OpR X (binaryOp op) (rB X.K g fun M => binop M o)) (ha : PE X a (tI X.K call ma)) (hb : PE X b (tI X.K call mb)) : PE X (.BinOp a op b pos) (tI X.K call (.bin o g ma mb)) :=
  (pe_op ho ha hb).imp fun σ H Q ⟨φ, M, env, v, M', m, r, e, k⟩ => by
    unfold Ev.eval at e
    obtain ⟨⟨x, M1⟩, e1, e⟩ := bindE e
    obtain ⟨⟨y, M2⟩, e2, e⟩ := bindE e
    obtain ⟨z, e3, e⟩ := mapE e
    refine tI.then_ m r e1 fun φ1 H1 u x1 m1 r1 q1 => tI.then_ m1 r1 e2 fun φ2 H2 w x2 m2 r2 q2 => ?_
    refine ⟨φ2, M2, x, y, z, m2, q1.mono x2, q2, e3, ?_⟩
    simp only at e
    rw [e]
    exact k.mono (x1.trans x2)
theorem i_neg (ha : PE X a (tI X.K call ma)) : PE X (.UnaryOp .USub a pos) (tI X.K call (.neg ma)) :=
  (pe_un un_neg ha).imp fun σ H Q ⟨φ, M, env, v, M', m, r, e, k⟩ => by
    unfold Ev.eval at e
    obtain ⟨⟨x, M1⟩, e1, e⟩ := bindE e
    simp only at e
    split at e
    · rename_i i
      cases e
      refine tI.then_ m r e1 fun φ1 H1 u x1 m1 r1 q1 => ?_
      cases q1
      exact ⟨i, rfl, k _ _ _ x1 m1 (.int _)⟩
    · cases e
/-! ### tests -/
theorem t_of (ha : PE X a (tI X.K call ma)) (he : ∀ whole, isTrue a X.env whole = (do let v ← whole; standAt a.pos; holding [v] (PySem.truthy v)) := by intro _; rfl) : PT X a (tT X.K call ma) :=
  (pt_truth ha he).imp fun σ H Q ⟨φ, M, env, v, M', b, m, r, e, t, k⟩ =>
    tI.then_ m r e fun φ1 H1 u x1 m1 r1 q1 => ⟨b, truthy_tru m1 q1 t, k _ _ x1 m1⟩
theorem t_not (ha : PT X a (tT X.K call ma)) : PT X (.UnaryOp .Not a pos) (tT X.K call (.not ma)) :=
  (pt_not ha).imp fun σ H Q ⟨φ, M, env, v, M', b, m, r, e, t, k⟩ => by
    unfold Ev.eval at e
    obtain ⟨⟨x, M1⟩, e1, e⟩ := bindE e
    obtain ⟨c, e2, e⟩ := mapE e
    cases e
    cases t
    exact tT.then_ m r e1 e2 fun φ1 H1 x1 m1 r1 => k _ _ x1 m1
theorem i_not (ha : PE X a (tI X.K call ma)) : PE X (.UnaryOp .Not a pos) (tI X.K call (.not ma)) :=
  (pe_notT ha).imp fun σ H Q ⟨φ, M, env, v, M', m, r, e, k⟩ => by
    unfold Ev.eval at e
    obtain ⟨⟨x, M1⟩, e1, e⟩ := bindE e
    obtain ⟨c, e2, e⟩ := mapE e
    cases e
    exact tI.then_ m r e1 fun φ1 H1 u x1 m1 r1 q1 => ⟨c, truthy_tru m1 q1 e2, k _ _ _ x1 m1 (.bl _)⟩
theorem i_and {rest : List Expr} (ha : PE X a (tI X.K call ma)) (hb : PE X (.BoolOp .And (b :: rest) pos) (tI X.K call mb)) : PE X (.BoolOp .And (a :: b :: rest) pos) (tI X.K call (.and ma mb)) :=
  (pe_andT ha hb).imp fun σ H Q ⟨φ, M, env, v, M', m, r, e, k⟩ => by
    unfold Ev.eval at e
    obtain ⟨⟨x, M1⟩, e1, e⟩ := bindE e
    refine tI.then_ m r e1 fun φ1 H1 u x1 m1 r1 q1 => ?_
    rcases bifE e with ⟨t, e⟩ | ⟨t, e⟩
    · exact ⟨true, truthy_tru m1 q1 t, by rw [if_pos rfl]; exact tI.then_ m1 r1 e fun φ2 H2 w x2 m2 r2 q2 => k _ _ _ (x1.trans x2) m2 q2⟩
    · cases e
      exact ⟨false, truthy_tru m1 q1 t, by rw [if_neg Bool.false_ne_true]; exact k _ _ _ x1 m1 q1⟩
theorem i_or {rest : List Expr} (ha : PE X a (tI X.K call ma)) (hb : PE X (.BoolOp .Or (b :: rest) pos) (tI X.K call mb)) : PE X (.BoolOp .Or (a :: b :: rest) pos) (tI X.K call (.or ma mb)) :=
  (pe_orT ha hb).imp fun σ H Q ⟨φ, M, env, v, M', m, r, e, k⟩ => by
    unfold Ev.eval at e
    obtain ⟨⟨x, M1⟩, e1, e⟩ := bindE e
    refine tI.then_ m r e1 fun φ1 H1 u x1 m1 r1 q1 => ?_
    rcases bifE e with ⟨t, e⟩ | ⟨t, e⟩
    · cases e
      exact ⟨true, truthy_tru m1 q1 t, by rw [if_pos rfl]; exact k _ _ _ x1 m1 q1⟩
    · exact ⟨false, truthy_tru m1 q1 t, by rw [if_neg Bool.false_ne_true]; exact tI.then_ m1 r1 e fun φ2 H2 w x2 m2 r2 q2 => k _ _ _ (x1.trans x2) m2 q2⟩
theorem i_one {op} (ha : PE X a (tI X.K call ma)) : PE X (.BoolOp op [a] pos) (tI X.K call ma) := pe_one ha
theorem w_and1 (ha : PT X a (tT X.K call ma)) : PW X (.BoolOp .And [a] pos) (tT X.K call ma) := pw_and1 ha
theorem w_or1 (ha : PT X a (tT X.K call ma)) : PW X (.BoolOp .Or [a] pos) (tT X.K call ma) := pw_or1 ha
theorem w_and {rest : List Expr} (ha : PT X a (tT X.K call ma)) (hb : PW X (.BoolOp .And (b :: rest) pos) (tT X.K call mb)) : PW X (.BoolOp .And (a :: b :: rest) pos) (tT X.K call (.and ma mb)) :=
  (pw_and ha hb).imp fun σ H Q ⟨φ, M, env, v, M', d, m, r, e, t, k⟩ => by
    unfold Ev.eval at e
    obtain ⟨⟨x, M1⟩, e1, e⟩ := bindE e
    rcases bifE e with ⟨t1, e⟩ | ⟨t1, e⟩
    · exact tT.then_ m r e1 t1 fun φ1 H1 x1 m1 r1 => by rw [if_pos rfl]; exact tT.then_ m1 r1 e t fun φ2 H2 x2 m2 r2 => k _ _ (x1.trans x2) m2
    · cases e
      rw [t1] at t
      cases t
      exact tT.then_ m r e1 t1 fun φ1 H1 x1 m1 r1 => by rw [if_neg Bool.false_ne_true]; exact k _ _ x1 m1
theorem w_or {rest : List Expr} (ha : PT X a (tT X.K call ma)) (hb : PW X (.BoolOp .Or (b :: rest) pos) (tT X.K call mb)) : PW X (.BoolOp .Or (a :: b :: rest) pos) (tT X.K call (.or ma mb)) :=
  (pw_or ha hb).imp fun σ H Q ⟨φ, M, env, v, M', d, m, r, e, t, k⟩ => by
    unfold Ev.eval at e
    obtain ⟨⟨x, M1⟩, e1, e⟩ := bindE e
    rcases bifE e with ⟨t1, e⟩ | ⟨t1, e⟩
    · cases e
      rw [t1] at t
      cases t
      exact tT.then_ m r e1 t1 fun φ1 H1 x1 m1 r1 => by rw [if_pos rfl]; exact k _ _ x1 m1
    · exact tT.then_ m r e1 t1 fun φ1 H1 x1 m1 r1 => by rw [if_neg Bool.false_ne_true]; exact tT.then_ m1 r1 e t fun φ2 H2 x2 m2 r2 => k _ _ (x1.trans x2) m2
theorem t_w (h : PW X a (tT X.K call ma)) : PT X a (tT X.K call ma) := h.pt
theorem cmp_rd {o : Cm} {σ : L2.St} {H : Hp} {Q : VK} (h : tI X.K call (.cmp o ma mb) σ H Q) : tOp (rC X.K fun M => cmpop M o) (tI X.K call ma) (tI X.K call mb) σ H Q := by
  obtain ⟨φ, M, env, v, M', m, r, e, k⟩ := h
  unfold Ev.eval at e
  obtain ⟨⟨x, M1⟩, e1, e⟩ := bindE e
  obtain ⟨⟨y, M2⟩, e2, e⟩ := bindE e
  obtain ⟨z, e3, e⟩ := mapE e
  cases e
  refine tI.then_ m r e1 fun φ1 H1 u x1 m1 r1 q1 => tI.then_ m1 r1 e2 fun φ2 H2 w x2 m2 r2 q2 => ?_
  exact ⟨φ2, M2, x, y, .bl z, m2, q1.mono x2, q2, by simp only [e3]; rfl, k.mono (x1.trans x2)⟩
theorem i_cmp {op : CmpOp} {o : Cm} (ho : OpR X (compareOp op) (rC X.K fun M => cmpop M o)) (ha : PE X a (tI X.K call ma)) (hb : PE X b (tI X.K call mb)) (hm : behindInMarks op b = false) :
    PE X (.Compare a [op] [b] pos) (tI X.K call (.cmp o ma mb)) :=
  (pe_cmpR ho ha hb hm).imp fun σ H Q h => cmp_rd h
theorem cmp_bl {o : Cm} {env : Env} {M M' : Mem} {v : PV} (e : Ev.eval call (.cmp o ma mb) env M = some (v, M')) : ∃ z, v = .bl z := by
  unfold Ev.eval at e
  obtain ⟨⟨x, M1⟩, e1, e⟩ := bindE e
  obtain ⟨⟨y, M2⟩, e2, e⟩ := bindE e
  obtain ⟨z, e3, e⟩ := mapE e
  cases e
  exact ⟨z, rfl⟩
theorem t_cmp {op : CmpOp} {o : Cm} (ho : OpR X (compareOp op) (rC X.K fun M => cmpop M o)) (ha : PE X a (tI X.K call ma)) (hb : PE X b (tI X.K call mb)) (hm : behindInMarks op b = false) :
    PT X (.Compare a [op] [b] pos) (tT X.K call (.cmp o ma mb)) :=
  (pt_cmpR ho ha hb hm).imp fun σ H Q ⟨φ, M, env, v, M', d, m, r, e, t, k⟩ => by
    obtain ⟨z, rfl⟩ := cmp_bl e
    obtain rfl : z = d := Option.some.inj t
    refine cmp_rd ⟨φ, M, env, .bl z, M', m, r, e, fun φ' H' u x m' q => ?_⟩
    cases q
    exact ⟨z, rfl, k _ _ x m'⟩
theorem chn_rd {o o' : Cm} {σ : L2.St} {H : Hp} {Q : VK} (h : tI X.K call (.chn o o' ma mb mc) σ H Q) :
    tChain (rC X.K fun M => cmpop M o) (rC X.K fun M => cmpop M o') (tI X.K call ma) (tI X.K call mb) (tI X.K call mc) σ H Q := by
  obtain ⟨φ, M, env, v, M', m, r, e, k⟩ := h
  unfold Ev.eval at e
  obtain ⟨⟨x, M1⟩, e1, e⟩ := bindE e
  obtain ⟨⟨y, M2⟩, e2, e⟩ := bindE e
  refine tI.then_ m r e1 fun φ1 H1 u x1 m1 r1 q1 => tI.then_ m1 r1 e2 fun φ2 H2 w x2 m2 r2 q2 => ?_
  rcases bifE e with ⟨e3, e⟩ | ⟨e3, e⟩
  · obtain ⟨⟨z, M3⟩, e4, e⟩ := bindE e
    obtain ⟨t, e5, e⟩ := mapE e
    cases e
    refine ⟨φ2, M2, x, y, .bl true, m2, q1.mono x2, q2, by simp only [e3]; rfl, fun φ3 H3 u3 x3 m3 q3 => ?_⟩
    cases q3
    refine ⟨true, rfl, ?_⟩
    rw [if_pos rfl]
    refine tI.then_ m3 (r2.mono x3) e4 fun φ4 H4 w4 x4 m4 r4 q4 => ?_
    exact ⟨φ4, M3, y, z, .bl t, m4, q2.mono (x3.trans x4), q4, by simp only [e5]; rfl, k.mono (x1.trans (x2.trans (x3.trans x4)))⟩
  · cases e
    refine ⟨φ2, M2, x, y, .bl false, m2, q1.mono x2, q2, by simp only [e3]; rfl, fun φ3 H3 u3 x3 m3 q3 => ?_⟩
    cases q3
    refine ⟨false, rfl, ?_⟩
    rw [if_neg Bool.false_ne_true]
    exact k _ _ _ (x1.trans (x2.trans x3)) m3 (.bl false)
theorem i_chn {op op' : CmpOp} {o o' : Cm} (ho : OpR X (compareOp op) (rC X.K fun M => cmpop M o)) (ho' : OpR X (compareOp op') (rC X.K fun M => cmpop M o')) (ha : PE X a (tI X.K call ma)) (hb : PE X b (tI X.K call mb)) (hc : PE X c (tI X.K call mc))
    (hm : lastMarks [op, op'] [b, c] = false := by with_unfolding_all rfl) : PE X (.Compare a [op, op'] [b, c] pos) (tI X.K call (.chn o o' ma mb mc)) :=
  (pe_chain ho ho' ha hb hc hm).imp fun σ H Q h => chn_rd h
theorem chn_bl {o o' : Cm} {env : Env} {M M' : Mem} {v : PV} (e : Ev.eval call (.chn o o' ma mb mc) env M = some (v, M')) : ∃ z, v = .bl z := by
  unfold Ev.eval at e
  obtain ⟨⟨x, M1⟩, e1, e⟩ := bindE e
  obtain ⟨⟨y, M2⟩, e2, e⟩ := bindE e
  rcases bifE e with ⟨e3, e⟩ | ⟨e3, e⟩
  · obtain ⟨⟨z, M3⟩, e4, e⟩ := bindE e
    obtain ⟨t, e5, e⟩ := mapE e
    cases e
    exact ⟨t, rfl⟩
  · cases e; exact ⟨false, rfl⟩
theorem t_chn {op op' : CmpOp} {o o' : Cm} (ho : OpR X (compareOp op) (rC X.K fun M => cmpop M o)) (ho' : OpR X (compareOp op') (rC X.K fun M => cmpop M o')) (ha : PE X a (tI X.K call ma)) (hb : PE X b (tI X.K call mb)) (hc : PE X c (tI X.K call mc))
    (hm : lastMarks [op, op'] [b, c] = false := by with_unfolding_all rfl) : PT X (.Compare a [op, op'] [b, c] pos) (tT X.K call (.chn o o' ma mb mc)) :=
  (pt_chain ho ho' ha hb hc hm).imp fun σ H Q ⟨φ, M, env, v, M', d, m, r, e, t, k⟩ => by
    obtain ⟨z, rfl⟩ := chn_bl e
    obtain rfl : z = d := Option.some.inj t
    refine chn_rd ⟨φ, M, env, .bl z, M', m, r, e, fun φ' H' u x m' q => ?_⟩
    cases q
    exact ⟨z, rfl, k _ _ x m'⟩
theorem i_ite (hc : PT X c (tT X.K call mc)) (ha : PE X a (tI X.K call ma)) (hb : PE X b (tI X.K call mb)) : PE X (.IfExp c a b pos) (tI X.K call (.ite mc ma mb)) :=
  (pe_ifExp hc ha hb).imp fun σ H Q ⟨φ, M, env, v, M', m, r, e, k⟩ => by
    unfold Ev.eval at e
    obtain ⟨⟨x, M1⟩, e1, e⟩ := bindE e
    rcases bifE e with ⟨t1, e⟩ | ⟨t1, e⟩
    · exact tT.then_ m r e1 t1 fun φ1 H1 x1 m1 r1 => by rw [if_pos rfl]; exact tI.then_ m1 r1 e fun φ2 H2 w x2 m2 r2 q2 => k _ _ _ (x1.trans x2) m2 q2
    · exact tT.then_ m r e1 t1 fun φ1 H1 x1 m1 r1 => by rw [if_neg Bool.false_ne_true]; exact tI.then_ m1 r1 e fun φ2 H2 w x2 m2 r2 q2 => k _ _ _ (x1.trans x2) m2 q2
/-! ### lists of expressions, displays -/
theorem is_nil : PA X [] (tIs X.K call .nil) := pa_nil.imp fun σ H Q ⟨φ, M, env, vs, M', m, r, e, k⟩ => by
  unfold Ev.evals at e
  cases e
  exact k _ _ _ .refl m .nil
theorem is_cons {es : List Expr} {ms : Es} (ha : PE X a (tI X.K call ma)) (hr : PA X es (tIs X.K call ms)) (hs : starEach (a :: es) X.env = (false, PySem.eval a X.env) :: starEach es X.env := by rfl) : PA X (a :: es) (tIs X.K call (.cons ma ms)) :=
  (pa_cons ha hr hs).imp fun σ H Q ⟨φ, M, env, vs, M', m, r, e, k⟩ => by
    unfold Ev.evals at e
    obtain ⟨⟨x, M1⟩, e1, e⟩ := bindE e
    obtain ⟨⟨y, M2⟩, e2, e⟩ := bindE e
    cases e
    refine tI.then_ m r e1 fun φ1 H1 u x1 m1 r1 q1 => tIs.then_ m1 r1 e2 fun φ2 H2 w x2 m2 r2 q2 => ?_
    exact k _ _ _ (x1.trans x2) m2 (.cons (q1.mono x2) q2)
theorem i_tup {es : List Expr} {ms : Es} {x1} (h : PA X es (tIs X.K call ms)) : PE X (.Tuple es x1 pos) (tI X.K call (.tup ms)) :=
  (pe_tup h).imp fun σ H Q ⟨φ, M, env, v, M', m, r, e, k⟩ => by
    unfold Ev.eval at e
    obtain ⟨⟨vs, M1⟩, e1, e⟩ := bindE e
    obtain ⟨hz, e⟩ := ifE e
    have hz := of_decide_eq_true hz
    cases e
    refine tIs.then_ m r e1 fun φ1 H1 u x1 m1 r1 q1 => ⟨by rw [← q1.length]; exact hz, fun p hp => ?_⟩
    exact (k.mono x1).tup m1 q1 hp
theorem i_lst {es : List Expr} {ms : Es} (b : Bool) (h : PA X es (tIs X.K call ms)) : PE X (.List es pos) (tI X.K call (.lst b ms)) :=
  (pe_lst h).imp fun σ H Q ⟨φ, M, env, v, M', m, r, e, k⟩ => by
    unfold Ev.eval at e
    obtain ⟨⟨vs, M1⟩, e1, e⟩ := bindE e
    obtain ⟨hz, e⟩ := ifE e
    have hz := of_decide_eq_true hz
    have e := Option.some.inj e
    refine tIs.then_ m r e1 fun φ1 H1 u x1 m1 r1 q1 => ⟨by rw [← q1.length]; exact hz, fun p hp => ?_⟩
    have k1 : Pst X.K φ1 H1 (newL b vs M1).2 (newL b vs M1).1 Q := by rw [e]; exact k.mono x1
    exact k1.newL m1 q1 hp
end
end Ev

/-! Subscripts, slices, calls, built-ins, targets, what a for walks. -/
namespace Ev
open PySem PySem.Spec PyProof.Rows L2
section
variable {prog : Program} {w : World} {A : Around} {E : Value → Shared → Prop} {s : Shared}
theorem places_back (n : Nat) : Builtin.Slice.sliceAdjust none none (-1) (n : Int) = ((n : Int) - 1, -1) := by
  unfold Builtin.Slice.sliceAdjust
  simp
theorem count_back (n : Nat) : Builtin.Slice.slicePlaces ((n : Int) - 1) (-1) (-1) = n := by
  unfold Builtin.Slice.slicePlaces
  have h1 : ¬ ((-1 : Int) > 0) := by omega
  have e : (- -1 : Int) = 1 := by decide
  simp only [h1, if_false, e, Int.ediv_one]
  split <;> omega
theorem fm_congr {α : Type} {f g : Nat → Option α} : ∀ (l : List Nat), (∀ m ∈ l, f m = g m) → l.filterMap f = l.filterMap g
  | [], _ => rfl
  | x :: xs, h => by
    rw [List.filterMap_cons, List.filterMap_cons, h x List.mem_cons_self, fm_congr xs fun m hm => h m (List.mem_cons_of_mem _ hm)]
theorem pick_back (items : Array Value) : ((List.range items.size).filterMap fun (m : Nat) => items[(((items.size : Int) - 1) + (m : Int) * (-1)).toNat]?).toArray = items.toList.reverse.toArray := by
  rw [← PySem.W.krv_pick]
  unfold PySem.slicePick
  rw [PySem.W.krv_bounds]
  show _ = ((PySem.sliceRange ((items.size : Int) - 1) (-1) (-1)).filterMap (items[·]?)).toArray
  rw [PySem.W.krv_sliceRange, List.filterMap_map]
  congr 1
  refine fm_congr _ fun m hm => ?_
  have := List.mem_range.mp hm
  have e : (((items.size : Int) - 1) + (m : Int) * (-1)).toNat = items.size - 1 - m := by omega
  rw [e]
  rfl
theorem getItem_tuple_rev {t sl : Addr} {items : Array Value} {k : Tok} {Q : Value → Shared → Prop} (ht : IsTup s.heap t items) (hs : s.heap.IsSliceOf sl .none .none (.int (-1) k))
    (h : Q (.ref s.heap.objs.size) { s with heap := s.heap.push { cls := .type "tuple", data := .seq items.toList.reverse.toArray } })
    (hsz : items.size ≤ sizeLine) : wpAny (model prog w) A (getItem (.ref t) (.ref sl)) Q E s := by
  have htake : sizeOk (.seq items.toList.reverse.toArray) := by
    show items.toList.reverse.toArray.size ≤ sizeLine
    rw [List.size_toArray, List.length_reverse, Array.length_toList]
    exact hsz
  obtain ⟨os, hos, hcs, hds⟩ := _root_.id hs
  have hTs : s.TypeIs (.ref sl) "slice" := ⟨os, hos, hcs⟩
  unfold getItem
  try with_reducible refine wpAny_holding ?_
  first | refine wpAny_bind (wpAny_pure ?_) | skip
  refine wpAny_bind (wpAny_sequenceKey ht.typeIs (by decide) ?_)
  refine wpAny_bind (wpAny_callSpecial?_slot (name := Str.ofString "__getitem__") ht.typeIs PyProof.Rows.slot_tuple_getitem
    (wpAny_call_entry PyProof.Rows.slot_tuple_getitem ht.typeIs entry_tuple_getitem ?_ (args_tuple_getitem _ _)))
  show wpAny _ _ (Builtin.Tuple.tupleItemsOf (.ref t) >>= _) _ _ s
  refine wpAny_bind (tupleItemsOf_ ht ?_)
  refine wpAny_bind (wpAny_typeOf hTs ?_)
  rw [if_pos (by decide)]
  refine wpAny_bind (m := Builtin.Slice.sliceApplied (.ref sl) (pure (items.size : Int))) ?_
  unfold Builtin.Slice.sliceApplied Builtin.Slice.sliceFields
  refine wpAny_bind (wpAny_bind (wpAny_field hos hds (x := .none) rfl (wpAny_bind (wpAny_field hos hds (x := .none) rfl (wpAny_bind (wpAny_field hos hds (x := .int (-1) k) rfl (wpAny_pure ?_)))))))
  refine wpAny_bind (slicePart_int ?_)
  show wpAny _ _ (if ((-1 : Int) == 0) = true then _ else _) _ _ s
  rw [if_neg (by decide)]
  refine wpAny_bind (HT.slicePart_ .none (wpAny_bind (HT.slicePart_ .none (wpAny_bind (wpAny_pure ?_)))))
  show wpAny _ _ (match Builtin.Slice.sliceAdjust none none (-1) (items.size : Int) with | (lo, hi) => pure (lo, (-1 : Int), Builtin.Slice.slicePlaces lo hi (-1))) _ _ s
  rw [places_back]
  show wpAny _ _ (pure (((items.size : Int) - 1), (-1 : Int), Builtin.Slice.slicePlaces ((items.size : Int) - 1) (-1) (-1))) _ _ s
  rw [count_back]
  refine wpAny_pure ?_
  show wpAny _ _ (if (((items.size : Int) - 1) == 0 && (-1 : Int) == 1 && items.size == items.size) = true then _ else _) _ _ s
  rw [if_neg (by rw [show ((-1 : Int) == 1) = false from rfl, Bool.and_false, Bool.false_and]; exact Bool.false_ne_true), pick_back]
  first
    | exact wpAny_bind (m := Builtin.Tuple.tupleExact _) (wpAny_newObj_type (wpAny_pure ⟨_, rfl, wpAny_pure h⟩) htake)
    | exact wpAny_bind (m := Builtin.Tuple.tupleExact _) (wpAny_newObj_type (wpAny_bind (wpAny_pure (wpAny_pure ⟨_, rfl, wpAny_pure h⟩))) htake)
    | exact wpAny_bind (wpAny_bind (m := Builtin.Tuple.tupleExact _) (wpAny_newObj_type (wpAny_pure (wpAny_pure ⟨_, rfl, wpAny_pure h⟩)) htake))
    | exact wpAny_bind (wpAny_bind (m := Builtin.Tuple.tupleExact _) (wpAny_newObj_type (wpAny_pure ⟨_, rfl, wpAny_pure h⟩) htake))
end
section
variable {X : Cx}
def tRevT (K : PySem.W.Frag) (te : TE) : TE := fun σ H Q => te σ H fun x H1 => ∃ a xs, x = .ref a ∧ SqT K H1 a xs ∧ ∀ p, H1 p = none → Q (.ref p) (upd H1 p (.tup xs.reverse))
theorem pe_revT {e : Expr} {te : TE} {k : Nat} {p1 p2 p3 pos : Pos} (he : PE X e te) : PE X (.Subscript e (.Slice none none (some (.UnaryOp .USub (.Constant (.int 1) k p1) p2)) p3) pos) (tRevT X.K te) := by
  refine ⟨fun pins s σ H Q I h => ?_⟩
  refine Subscript_ (thn (he.run pins s σ H _ I h) fun v s1 ⟨x, H1, I1, r1, q1⟩ => ?_)
  obtain ⟨a, xs, ex, hx, q⟩ := q1
  subst ex
  cases r1
  have hst : PO X (some (.UnaryOp .USub (.Constant (.int 1) k p1) p2)) (tPart (tUn (rU fun i => .int (-i)) (tC (.int 1)))) := po_some (pe_un un_neg pe_int)
  refine wpAny_Slice (thn (po_none.run pins s1 σ H1 (fun o H2 => o = none ∧ H2 = H1) I1 ⟨rfl, rfl⟩) fun vl s2 ⟨l, H2, I2, pl, el, e2⟩ => ?_)
  subst el e2
  refine thn (po_none.run pins s2 σ H2 (fun o H3 => o = none ∧ H3 = H2) I2 ⟨rfl, rfl⟩) fun vu s3 ⟨u, H3, I3, pu, eu, e3⟩ => ?_
  subst eu e3
  refine thn (hst.run pins s3 σ H3 (fun o H4 => o = some (-1) ∧ H4 = H3) I3 ⟨1, rfl, -1, rfl, rfl, rfl⟩) fun vs s4 ⟨o, H4, I4, ps, eo, e4⟩ => ?_
  subst eo e4
  cases pl
  cases pu
  cases ps with
  | int i tk =>
  have I5 : Inv X pins σ H4 { s4 with heap := s4.heap.push { cls := .type "slice", data := .fields #[.none, .none, .int (-1) tk] } } := I4.kept (t' := s4.toks) fun b ob q => Heap.get?_push_of_some _ q
  obtain ⟨its, r, ht, hz⟩ := I5.tuple hx
  have hlen := r.length
  show wpAny (model X.prog X.w) X.A (subscriptTail e (.Slice none none (some (.UnaryOp .USub (.Constant (.int 1) k p1) p2)) p3) (.ref a) (.ref s4.heap.objs.size)) (EP X pins σ Q) X.xe { s4 with heap := s4.heap.push { cls := .type "slice", data := .fields #[.none, .none, .int (-1) tk] } }
  refine tail_any (ops := [.ref a, .ref s4.heap.objs.size]) ht.typeIs (PyProof.Rows.slot_tuple_getitem.lookup) ?_ (by with_unfolding_all rfl)
  refine getItem_tuple_rev ht (Heap.IsSliceOf.new _ .none .none (.int (-1) tk)) ?_ (by rw [List.size_toArray]; omega)
  refine ⟨.ref _, _, I5.laid (t' := s4.toks) (o := .tup xs.reverse) (fun b ob q => Heap.get?_push_of_some _ q) (Nat.le_refl _) ?_, rfl, q _ (I5.hok.fresh (Nat.le_refl _))⟩
  exact ⟨by rw [List.length_reverse]; exact hz, _, r.reverse, IsTup.new _ _⟩
end
section
variable {X : Cx} {call : Cl} {a b c : Expr} {ma mb mc : E} {pos : Pos}
theorem revOp_get {M : Mem} {a z : PV} (e : revOp M a = some z) : (∃ xs, a = .tup xs ∧ z = .tup xs.reverse) ∨ ∃ xs, items M a = some xs ∧ z = .lst xs.reverse := by
  unfold revOp at e
  split at e
  · cases e; exact .inl ⟨_, rfl, rfl⟩
  · obtain ⟨xs, e5, e6⟩ := mapE e
    exact .inr ⟨xs, e5, e6.symm⟩
theorem i_rev {k : Nat} {p1 p2 p3 : Pos} (ha : PE X a (tI X.K call ma)) : PE X (.Subscript a (.Slice none none (some (.UnaryOp .USub (.Constant (.int 1) k p1) p2)) p3) pos) (tI X.K call (.rev ma)) := by
  refine ⟨fun pins s σ H Q I ⟨φ, M, env, v, M', m, r, e, k⟩ => ?_⟩
  unfold Ev.eval at e
  obtain ⟨⟨x, M1⟩, e1, e⟩ := bindE e
  obtain ⟨z, e2, e⟩ := mapE e
  cases e
  rcases revOp_get e2 with ⟨xs, rfl, rfl⟩ | ⟨xs, e3, rfl⟩
  · refine (pe_revT ha).run pins s σ H Q I (tI.then_ m r e1 fun φ1 H1 u x1 m1 r1 q1 => ?_)
    cases q1 with
    | tup h q =>
    exact ⟨_, _, rfl, h, fun p hp => (k.mono x1).tup m1 q.rev hp⟩
  · refine (pe_revL ha).run pins s σ H Q I (tI.then_ m r e1 fun φ1 H1 u x1 m1 r1 q1 => ?_)
    obtain ⟨a, vs, rfl, h, q⟩ := items_sq m1 q1 e3
    exact ⟨_, _, rfl, h, fun p hp => (k.mono x1).lst m1 q.rev hp⟩
theorem idxOp_get {M : Mem} {x y z : PV} (e : idxOp M x y = some z) : ∃ i xs, y = .int i ∧ itemsT M x = some xs ∧ L2.atI xs i = some z := by
  unfold idxOp at e
  split at e
  · rename_i i xs h
    exact ⟨_, _, rfl, h, e⟩
  · cases e
theorem i_idx (ha : PE X a (tI X.K call ma)) (hb : PE X b (tI X.K call mb)) (hs : PlainIx b := by intro _ _; rfl) : PE X (.Subscript a b pos) (tI X.K call (.idx ma mb)) :=
  (pe_ix (IxR.or ix_list ix_tup) ha hb hs).imp fun σ H Q ⟨φ, M, env, v, M', m, r, e, k⟩ => by
    unfold Ev.eval at e
    obtain ⟨⟨x, M1⟩, e1, e⟩ := bindE e
    obtain ⟨⟨y, M2⟩, e2, e⟩ := bindE e
    obtain ⟨z, e3, e⟩ := mapE e
    cases e
    refine tI.then_ m r e1 fun φ1 H1 u x1 m1 r1 q1 => tI.then_ m1 r1 e2 fun φ2 H2 w x2 m2 r2 q2 => ?_
    obtain ⟨i, xs, rfl, e4, e5⟩ := idxOp_get e3
    cases q2
    obtain ⟨p, vs, rfl, h, q⟩ := itemsT_sq m2 (q1.mono x2) e4
    obtain ⟨t, h1, h2⟩ := q.atI e5
    rcases h with h | h
    · exact .inl ⟨p, vs, _, t, rfl, rfl, h, h1, k _ _ _ (x1.trans x2) m2 h2⟩
    · exact .inr ⟨p, vs, _, t, rfl, rfl, h, h1, k _ _ _ (x1.trans x2) m2 h2⟩
/-- a slice's part -/
def tO (K : PySem.W.Frag) (call : Cl) (f : Bool) (m : E) : TO := fun σ H Q => ∃ φ M env v M' o, RM K φ H M ∧ RE K φ H env σ ∧ Ev.eval call m env M = some (v, M') ∧ part f v = some o ∧ ∀ φ' H', Xt φ H φ' H' → RM K φ' H' M' → Q o H'
theorem _root_.L2.PO.imp {X : Cx} {e : Option Expr} {t t' : TO} (h : PO X e t) (k : ∀ σ H Q, t' σ H Q → t σ H Q) : PO X e t' := ⟨fun pins s σ H Q I q => h.run pins s σ H Q I (k _ _ _ q)⟩
theorem o_none : PO X none (tO X.K call false (.cst .non)) := po_none.imp fun σ H Q ⟨φ, M, env, v, M', o, m, r, e, p, k⟩ => by
  unfold Ev.eval at e
  cases e; cases p
  exact k _ _ .refl m
theorem o_some (h : PE X a (tI X.K call ma)) : PO X (some a) (tO X.K call true ma) := (po_some h).imp fun σ H Q ⟨φ, M, env, v, M', o, m, r, e, p, k⟩ => by
  refine tI.then_ m r e fun φ1 H1 u x1 m1 r1 q1 => ?_
  cases q1 <;> try (cases p; done)
  cases p
  exact ⟨_, rfl, k _ _ x1 m1⟩
theorem cut_rps {K : PySem.W.Frag} {φ : Ph} {H : Hp} {xs : List PV} {vs : List V} (r : Rps K φ H xs vs) (l h : Option Int) : Rps K φ H (cut xs l h) (cutV vs l h) := by
  unfold cut cutV
  rw [r.length]
  exact (r.drop _).take _
theorem slcV_get {M : Mem} {a z : PV} {l h : Option Int} (e : slcV M a l h = some z) : (∃ xs, a = .tup xs ∧ z = .tup (cut xs l h)) ∨ ∃ xs, items M a = some xs ∧ z = .lst (cut xs l h) := by
  unfold slcV at e
  split at e
  · cases e; exact .inl ⟨_, rfl, rfl⟩
  · obtain ⟨xs, e5, e6⟩ := mapE e
    exact .inr ⟨xs, e5, e6.symm⟩
theorem i_slc {lo hi : Option Expr} {bl bh : Bool} {p2 : Pos} (ha : PE X a (tI X.K call ma)) (hl : PO X lo (tO X.K call bl mb)) (hh : PO X hi (tO X.K call bh mc)) : PE X (.Subscript a (.Slice lo hi none p2) pos) (tI X.K call (.slc ma bl bh mb mc)) :=
  (pe_slice (SlR.or sl_list sl_tupA) ha hl hh).imp fun σ H Q ⟨φ, M, env, v, M', m, r, e, k⟩ => by
    unfold Ev.eval at e
    obtain ⟨⟨x, M1⟩, e1, e⟩ := bindE e
    obtain ⟨⟨y, M2⟩, e2, e⟩ := bindE e
    obtain ⟨⟨y3, M3⟩, e3, e⟩ := bindE e
    obtain ⟨z, e4, e⟩ := mapE e
    cases e
    unfold slcOp at e4
    simp only at e4
    cases p1 : part bl y with
    | none => rw [p1] at e4; cases e4
    | some l =>
    cases p2 : part bh y3 with
    | none => rw [p1, p2] at e4; cases e4
    | some h =>
    rw [p1, p2] at e4
    change slcV M3 x l h = some _ at e4
    refine tI.then_ m r e1 fun φ1 H1 u x1 m1 r1 q1 => ⟨φ1, M1, env, y, M2, l, m1, r1, e2, p1, fun φ2 H2 x2 m2 => ⟨φ2, M2, env, y3, M3, h, m2, r1.mono x2, e3, p2, fun φ3 H3 x3 m3 => ?_⟩⟩
    have q3 := q1.mono (x2.trans x3)
    have k3 := k.mono (x1.trans (x2.trans x3))
    rcases slcV_get e4 with ⟨xs, rfl, rfl⟩ | ⟨xs, e5, rfl⟩
    · cases q3 with
      | tup h1 q =>
      refine .inr ⟨_, _, rfl, h1, fun ⟨w1, w2⟩ => ?_, fun _ p hp => k3.tup m3 (cut_rps q l h) hp⟩
      refine k3.here m3 (.tup h1 ?_)
      have := cut_rps q l h
      unfold cutV at this
      rw [w1, w2] at this
      simpa using this
    · obtain ⟨a, vs, rfl, h1, q⟩ := items_sq m3 q3 e5
      exact .inl ⟨_, _, rfl, h1, fun p hp => k3.lst m3 (cut_rps q l h) hp⟩
/-! ### calls -/
/-- a def that may be called by its name -/
structure Cal (P : Program) (w : World) (K : PySem.W.Frag) (mg : Str → Option Value) (base : Heap) (k : Nat) (x : Str) (sp : Sp) : Prop where
  ex : ∃ (f : Addr) (fd : FuncData) (ps : List Str), FnOk P w K mg base CX0 k f fd ps sp ∧ mg x = some (.ref f) ∧ PySem.W.keepIn K (.ref f) = true ∧ Binds K fd ps []
def spC (K : PySem.W.Frag) (call : Cl) (f : Nat) : Sp := fun vs H Q _ => ∃ φ M args v M', RM K φ H M ∧ Rps K φ H args vs ∧ call f args M = some (v, M') ∧ Pst K φ H M' v Q
theorem i_call {x : Str} {p : Pos} {k f : Nat} {es : List Expr} {ms : Es} (c : Cal X.prog X.w X.K X.mg X.base k x (spC X.K call f)) (hr : Room k X.A) (hg : Gl X x) (ha : PA X (a :: es) (tIs X.K call ms))
    (hdb : (x == ("__debug__" : Str)) = false := by decide) (he : starEach (a :: es) X.env = (false, PySem.eval a X.env) :: starEach es X.env := by rfl) (hpl : (backTo pos (starEach es X.env)).any (·.1) = false := by rfl) :
    PE X (.Call (.Name x p) (a :: es) [] pos) (tI X.K call (.call f ms)) := by
  obtain ⟨fa, fd, ps, F, hm, kp, b⟩ := c.ex
  refine (pe_call F hr hg hm kp b .nil (E := fun _ _ _ => False) pass0 ha hdb he hpl).imp fun σ H Q ⟨φ, M, env, v, M', m, r, e, k⟩ => ?_
  unfold Ev.eval at e
  obtain ⟨⟨vs, M1⟩, e1, e⟩ := bindE e
  refine tIs.then_ m r e1 fun φ1 H1 u x1 m1 r1 q1 => ?_
  rw [List.append_nil]
  exact ⟨φ1, M1, vs, v, M', m1, q1, e, k.mono x1⟩
theorem i_call0 {x : Str} {p : Pos} {k f : Nat} (c : Cal X.prog X.w X.K X.mg X.base k x (spC X.K call f)) (hr : Room k X.A) (hg : Gl X x)
    (hdb : (x == ("__debug__" : Str)) = false := by decide) : PE X (.Call (.Name x p) [] [] pos) (tI X.K call (.call f .nil)) := by
  obtain ⟨fa, fd, ps, F, hm, kp, b⟩ := c.ex
  refine (pe_call0 F hr hg hm kp b .nil (E := fun _ _ _ => False) pass0 hdb).imp fun σ H Q ⟨φ, M, env, v, M', m, r, e, k⟩ => ?_
  unfold Ev.eval at e
  obtain ⟨⟨vs, M1⟩, e1, e⟩ := bindE e
  unfold Ev.evals at e1
  cases e1
  exact ⟨φ, M, [], v, M', m, .nil, e, k⟩
/-! ### built-ins -/
def rBl (K : PySem.W.Frag) (b : Bl) (f : Bool) : List V → Hp → VK → Prop := fun xs H Q => ∃ φ M vs z, RM K φ H M ∧ Rps K φ H vs xs ∧ bltOp M b vs = some z ∧ Pst K φ H (asM f z M).2 (asM f z M).1 Q
theorem _root_.L2.CallR.imp {X : Cx} {f : Value} {r r' : List V → Hp → VK → Prop} (h : CallR X f r) (k : ∀ xs H Q, r' xs H Q → r xs H Q) : CallR X f r' := fun pins s σ H xs us Q I v q => h pins s σ H xs us Q I v (k _ _ _ q)
theorem blt_rd {bl : Bl} {f : Bool} {ms : Es} {σ : L2.St} {H : Hp} {Q : VK} (h : tI X.K call (.blt bl f ms) σ H Q) : tCB (rBl X.K bl f) (tIs X.K call ms) σ H Q := by
  obtain ⟨φ, M, env, v, M', m, r, e, k⟩ := h
  unfold Ev.eval at e
  obtain ⟨⟨vs, M1⟩, e1, e⟩ := bindE e
  obtain ⟨z, e2, e⟩ := mapE e
  refine tIs.then_ m r e1 fun φ1 H1 u x1 m1 r1 q1 => ⟨φ1, M1, vs, z, m1, q1, e2, ?_⟩
  simp only at e
  rw [e]
  exact k.mono x1
theorem i_bltB {x : Str} {p : Pos} {id : String} {bl : Bl} {f : Bool} {es : List Expr} {ms : Es} (hc : CallR X (.builtin id) (rBl X.K bl f)) (hg : Gl X x) (hm : X.mg x = none) (hv : bootBuiltins x = some (.builtin id)) (ha : PA X (a :: es) (tIs X.K call ms))
    (hn : x ≠ "__name__" := by decide) (hdb : (x == ("__debug__" : Str)) = false := by decide) (he : starEach (a :: es) X.env = (false, PySem.eval a X.env) :: starEach es X.env := by rfl) (hpl : (backTo pos (starEach es X.env)).any (·.1) = false := by rfl) :
    PE X (.Call (.Name x p) (a :: es) [] pos) (tI X.K call (.blt bl f ms)) := (pe_callB hc hg hm hv ha hn hdb he hpl).imp fun _ _ _ h => blt_rd h
theorem i_bltT {x : Str} {p : Pos} {T : String} {bl : Bl} {f : Bool} {es : List Expr} {ms : Es} (hc : CallR X (.type T) (rBl X.K bl f)) (hg : Gl X x) (hm : X.mg x = none) (hv : bootBuiltins x = some (.type T)) (ha : PA X (a :: es) (tIs X.K call ms))
    (hn : x ≠ "__name__" := by decide) (hdb : (x == ("__debug__" : Str)) = false := by decide) (he : starEach (a :: es) X.env = (false, PySem.eval a X.env) :: starEach es X.env := by rfl) (hpl : (backTo pos (starEach es X.env)).any (·.1) = false := by rfl) :
    PE X (.Call (.Name x p) (a :: es) [] pos) (tI X.K call (.blt bl f ms)) := (pe_callTy hc hg hm hv ha hn hdb he hpl).imp fun _ _ _ h => blt_rd h
theorem one_of {K : PySem.W.Frag} {φ : Ph} {H : Hp} {v : PV} {xs : List V} (r : Rps K φ H [v] xs) : ∃ u, xs = [u] ∧ Rp K φ H v u := by
  cases r with
  | cons h r => cases r; exact ⟨_, rfl, h⟩
theorem two_of {K : PySem.W.Frag} {φ : Ph} {H : Hp} {v w : PV} {xs : List V} (r : Rps K φ H [v, w] xs) : ∃ u t, xs = [u, t] ∧ Rp K φ H v u ∧ Rp K φ H w t := by
  cases r with
  | cons h r =>
    obtain ⟨t, rfl, h2⟩ := one_of r
    exact ⟨_, _, rfl, h, h2⟩
theorem c_abs {f : Bool} : CallR X (.builtin "abs") (rBl X.K .abs f) := call_abs.imp fun xs H Q ⟨φ, M, vs, z, m, r, e, k⟩ => by
  change absB vs = some z at e
  unfold absB at e
  split at e
  · cases e
    obtain ⟨u, rfl, h⟩ := one_of r
    cases h
    exact ⟨_, rfl, k.asM m (.int _) fun _ h => nomatch h⟩
  · cases e
theorem c_int {f : Bool} : CallR X (.type "int") (rBl X.K .int f) := call_int1.imp fun xs H Q ⟨φ, M, vs, z, m, r, e, k⟩ => by
  change intB vs = some z at e
  unfold intB at e
  split at e
  · cases e
    obtain ⟨u, rfl, h⟩ := one_of r
    cases h
    exact .inl ⟨_, rfl, k.asM m (.int _) fun _ h => nomatch h⟩
  · cases e
    obtain ⟨u, rfl, h⟩ := one_of r
    cases h
    exact .inr ⟨_, rfl, k.asM m (.int _) fun _ h => nomatch h⟩
  · cases e
theorem c_list {f : Bool} : CallR X (.type "list") (rBl X.K .list f) := call_list_of.imp fun xs H Q ⟨φ, M, vs, z, m, r, e, k⟩ => by
  change listB M vs = some z at e
  unfold listB at e
  split at e
  · obtain ⟨ys, e1, rfl⟩ := mapE e
    obtain ⟨u, rfl, h⟩ := one_of r
    obtain ⟨a, ws, rfl, h1, h2⟩ := itemsT_sq m h e1
    exact ⟨a, ws, rfl, h1, fun l hl => k.asL m h2 hl⟩
  · cases e
theorem c_tuple {f : Bool} : CallR X (.type "tuple") (rBl X.K .tuple f) := call_tuple_of.imp fun xs H Q ⟨φ, M, vs, z, m, r, e, k⟩ => by
  change tupleB M vs = some z at e
  unfold tupleB at e
  split at e
  · cases e
    obtain ⟨u, rfl, h⟩ := one_of r
    cases h with
    | tup h q => exact ⟨_, _, rfl, .inr ⟨h, k.asM m (.tup h q) fun _ h => nomatch h⟩⟩
  · obtain ⟨ys, e1, rfl⟩ := mapE e
    obtain ⟨u, rfl, h⟩ := one_of r
    obtain ⟨a, ws, rfl, h1, h2⟩ := items_sq m h e1
    refine ⟨a, ws, rfl, .inl ⟨h1, fun l hl => ?_⟩⟩
    have k1 : Pst X.K φ H M (.tup ys) Q := by cases f <;> exact k
    exact k1.tup m h2 hl
  · cases e
theorem c_len {f : Bool} : CallR X (.builtin "len") (rBl X.K .len f) := (CallR.or call_len_seq call_len_str).imp fun xs H Q ⟨φ, M, vs, z, m, r, e, k⟩ => by
  change lenB M vs = some z at e
  unfold lenB at e
  split at e
  · obtain ⟨u, rfl, h⟩ := one_of r
    cases h
    unfold iff' at e
    split at e
    · rename_i hz
      cases e
      exact .inr ⟨_, rfl, of_decide_eq_true hz, k.asM m (.int _) fun _ h => nomatch h⟩
    · cases e
  · obtain ⟨ys, e1, rfl⟩ := mapE e
    obtain ⟨u, rfl, h⟩ := one_of r
    obtain ⟨a, ws, rfl, h1, h2⟩ := itemsT_sq m h e1
    exact .inl ⟨a, ws, rfl, h1, by rw [← h2.length]; exact k.asM m (.int _) fun _ h => nomatch h⟩
  · cases e
theorem ints_rps {K : PySem.W.Frag} {φ : Ph} {H : Hp} : ∀ {xs : List PV} {vs : List V} {ns : List Int}, Rps K φ H xs vs → intsOf xs = some ns → vs = ns.map V.int
  | [], _, _, .nil, e => by cases e; rfl
  | x :: xs, _, ns, .cons h r, e => by
    cases h <;> first | (cases e; done) | skip
    obtain ⟨ms, e1, e2⟩ := mapE e
    subst e2
    rw [List.map_cons, ints_rps r e1]
theorem bools_rps {K : PySem.W.Frag} {φ : Ph} {H : Hp} : ∀ {xs : List PV} {vs : List V} {ns : List Bool}, Rps K φ H xs vs → boolsOf xs = some ns → vs = ns.map V.bl
  | [], _, _, .nil, e => by cases e; rfl
  | x :: xs, _, ns, .cons h r, e => by
    cases h <;> first | (cases e; done) | skip
    obtain ⟨ms, e1, e2⟩ := mapE e
    subst e2
    rw [List.map_cons, bools_rps r e1]
theorem obind {α β : Type} {x : Option α} {f : α → Option β} {y : β} (h : x.bind f = some y) : ∃ a, x = some a ∧ f a = some y := by
  cases x with
  | none => cases h
  | some a => exact ⟨a, rfl, h⟩
theorem c_sum (hc : X.calm = true) {f : Bool} : CallR X (.builtin "sum") (rBl X.K .sum f) := (cr_sum hc).imp fun xs H Q ⟨φ, M, vs, z, m, r, e, k⟩ => by
  change sumB M vs = some z at e
  unfold sumB at e
  split at e
  · obtain ⟨ys, e1, e⟩ := obind e
    obtain ⟨ns, e2, rfl⟩ := mapE e
    obtain ⟨u, rfl, h⟩ := one_of r
    obtain ⟨a, ws, rfl, h1, h2⟩ := items_sq m h e1
    exact ⟨a, ns, rfl, by rw [← ints_rps h2 e2]; exact h1, k.asM m (.int _) fun _ h => nomatch h⟩
  · cases e
theorem c_all (hc : X.calm = true) {f : Bool} : CallR X (.builtin "all") (rBl X.K .all f) := (cr_all hc).imp fun xs H Q ⟨φ, M, vs, z, m, r, e, k⟩ => by
  change allB M vs = some z at e
  unfold allB at e
  split at e
  · obtain ⟨ys, e1, e⟩ := obind e
    obtain ⟨ns, e2, rfl⟩ := mapE e
    obtain ⟨u, rfl, h⟩ := one_of r
    obtain ⟨a, ws, rfl, h1, h2⟩ := items_sq m h e1
    exact ⟨a, ns, rfl, by rw [← bools_rps h2 e2]; exact h1, k.asM m (.bl _) fun _ h => nomatch h⟩
  · cases e
theorem c_any (hc : X.calm = true) {f : Bool} : CallR X (.builtin "any") (rBl X.K .any f) := (cr_any hc).imp fun xs H Q ⟨φ, M, vs, z, m, r, e, k⟩ => by
  change anyB M vs = some z at e
  unfold anyB at e
  split at e
  · obtain ⟨ys, e1, e⟩ := obind e
    obtain ⟨ns, e2, rfl⟩ := mapE e
    obtain ⟨u, rfl, h⟩ := one_of r
    obtain ⟨a, ws, rfl, h1, h2⟩ := items_sq m h e1
    exact ⟨a, ns, rfl, by rw [← bools_rps h2 e2]; exact h1, k.asM m (.bl _) fun _ h => nomatch h⟩
  · cases e
theorem maxI_ok : ∀ {ns : List Int} {m n : Int}, maxI ns = some n → m ∈ ns → (∀ y, y ∈ ns → y ≤ m) → m = n := fun {ns m n} h hm hy => by
  cases ns with
  | nil => cases h
  | cons x xs =>
    have h' := Option.some.inj h
    have e : ∀ (l : List Int) (a : Int), (l.foldl max a = a ∨ l.foldl max a ∈ l) ∧ (a ≤ l.foldl max a) ∧ ∀ y ∈ l, y ≤ l.foldl max a := by
      intro l
      induction l with
      | nil => intro a; exact ⟨.inl rfl, Int.le_refl _, fun _ h => nomatch h⟩
      | cons b l ih =>
        intro a
        obtain ⟨h1, h2, h3⟩ := ih (max a b)
        rw [List.foldl_cons]
        refine ⟨?_, by omega, fun y hy => ?_⟩
        · rcases h1 with h1 | h1
          · rw [h1]
            rcases Int.le_total a b with k | k
            · first | (right; rw [Int.max_eq_right k]; exact List.mem_cons_self) | (left; exact Int.min_eq_left k)
            · first | (left; exact Int.max_eq_left k) | (right; rw [Int.min_eq_right k]; exact List.mem_cons_self)
          · exact .inr (List.mem_cons_of_mem _ h1)
        · rcases List.mem_cons.mp hy with rfl | hy
          · omega
          · exact h3 y hy
    obtain ⟨h1, h2, h3⟩ := e xs x
    rw [h'] at h1 h2 h3
    have a1 := hy n (by rcases h1 with h1 | h1; (rw [h1]; exact List.mem_cons_self); exact List.mem_cons_of_mem _ h1)
    rcases List.mem_cons.mp hm with q | q
    · subst q; omega
    · have := h3 m q; omega
theorem c_max (hc : X.calm = true) {f : Bool} : CallR X (.builtin "max") (rBl X.K .max f) := (CallR.or (call_max2 hc) (CallR.or (cr_max hc) (call_max4 hc))).imp fun xs H Q ⟨φ, M, vs, z, m, r, e, k⟩ => by
  change maxB M vs = some z at e
  unfold maxB at e
  split at e
  · cases e
    obtain ⟨u, t, rfl, h, h'⟩ := two_of r
    cases h; cases h'
    exact .inl ⟨_, _, rfl, k.asM m (.int _) fun _ h => nomatch h⟩
  · rename_i i1 i2 i3 i4
    cases e
    cases r with
    | cons h1 r =>
    cases r with
    | cons h2 r =>
    cases r with
    | cons h3 r =>
    cases r with
    | cons h4 r =>
    cases r
    cases h1; cases h2; cases h3; cases h4
    refine .inr (.inr ⟨_, _, _, _, rfl, fun m' hm hz => ?_⟩)
    have e : m' = max (max (max i1 i2) i3) i4 := by
      simp only [List.mem_cons, List.not_mem_nil, or_false] at hm
      have z1 := hz i1 (by simp)
      have z2 := hz i2 (by simp)
      have z3 := hz i3 (by simp)
      have z4 := hz i4 (by simp)
      omega
    rw [e]
    exact k.asM m (.int _) fun _ h => nomatch h
  · rename_i a
    cases h1 : items M a with
    | none => rw [h1] at e; cases e
    | some xs1 =>
    rw [h1] at e
    cases h2 : intsOf xs1 with
    | none => change (intsOf xs1).bind _ = _ at e; rw [h2] at e; cases e
    | some ns =>
    change (intsOf xs1).bind _ = _ at e
    rw [h2] at e
    obtain ⟨n, h3, rfl⟩ := mapE e
    obtain ⟨u, rfl, h⟩ := one_of r
    obtain ⟨p, ws, rfl, h4, h5⟩ := items_sq m h h1
    have e4 := ints_rps h5 h2
    subst e4
    refine .inr (.inl ⟨p, ns, rfl, h4, ?_, fun m' hm hy => ?_⟩)
    · cases ns with
      | nil => cases h3
      | cons _ _ => exact Nat.succ_pos _
    · rw [maxI_ok h3 hm hy]
      exact k.asM m (.int _) fun _ h => nomatch h
  · cases e
theorem minI_ok : ∀ {ns : List Int} {m n : Int}, minI ns = some n → m ∈ ns → (∀ y, y ∈ ns → m ≤ y) → m = n := fun {ns m n} h hm hy => by
  cases ns with
  | nil => cases h
  | cons x xs =>
    have h' := Option.some.inj h
    have e : ∀ (l : List Int) (a : Int), (l.foldl min a = a ∨ l.foldl min a ∈ l) ∧ (l.foldl min a ≤ a) ∧ ∀ y ∈ l, l.foldl min a ≤ y := by
      intro l
      induction l with
      | nil => intro a; exact ⟨.inl rfl, Int.le_refl _, fun _ h => nomatch h⟩
      | cons b l ih =>
        intro a
        obtain ⟨h1, h2, h3⟩ := ih (min a b)
        rw [List.foldl_cons]
        refine ⟨?_, by omega, fun y hy => ?_⟩
        · rcases h1 with h1 | h1
          · rw [h1]
            rcases Int.le_total a b with k | k
            · first | (right; rw [Int.max_eq_right k]; exact List.mem_cons_self) | (left; exact Int.min_eq_left k)
            · first | (left; exact Int.max_eq_left k) | (right; rw [Int.min_eq_right k]; exact List.mem_cons_self)
          · exact .inr (List.mem_cons_of_mem _ h1)
        · rcases List.mem_cons.mp hy with rfl | hy
          · omega
          · exact h3 y hy
    obtain ⟨h1, h2, h3⟩ := e xs x
    rw [h'] at h1 h2 h3
    have a1 := hy n (by rcases h1 with h1 | h1; (rw [h1]; exact List.mem_cons_self); exact List.mem_cons_of_mem _ h1)
    rcases List.mem_cons.mp hm with q | q
    · subst q; omega
    · have := h3 m q; omega
theorem c_min (hc : X.calm = true) {f : Bool} : CallR X (.builtin "min") (rBl X.K .min f) := (CallR.or (call_min2 hc) (cr_min hc)).imp fun xs H Q ⟨φ, M, vs, z, m, r, e, k⟩ => by
  change minB M vs = some z at e
  unfold minB at e
  split at e
  · cases e
    obtain ⟨u, t, rfl, h, h'⟩ := two_of r
    cases h; cases h'
    exact .inl ⟨_, _, rfl, k.asM m (.int _) fun _ h => nomatch h⟩
  · rename_i a
    cases h1 : items M a with
    | none => rw [h1] at e; cases e
    | some xs1 =>
    rw [h1] at e
    cases h2 : intsOf xs1 with
    | none => change (intsOf xs1).bind _ = _ at e; rw [h2] at e; cases e
    | some ns =>
    change (intsOf xs1).bind _ = _ at e
    rw [h2] at e
    obtain ⟨n, h3, rfl⟩ := mapE e
    obtain ⟨u, rfl, h⟩ := one_of r
    obtain ⟨p, ws, rfl, h4, h5⟩ := items_sq m h h1
    have e4 := ints_rps h5 h2
    subst e4
    refine .inr ⟨p, ns, rfl, h4, ?_, fun m' hm hy => ?_⟩
    · cases ns with
      | nil => cases h3
      | cons _ _ => exact Nat.succ_pos _
    · rw [minI_ok h3 hm hy]
      exact k.asM m (.int _) fun _ h => nomatch h
  · cases e
/-! ### isinstance -/
def tyS : Ty → String
  | .int => "int" | .bool => "bool" | .str => "str" | .tuple => "tuple" | .list => "list"
theorem kt_non (t : Ty) : kitB "NoneType" (tyS t) = some false := by cases t <;> decide +kernel
theorem kt_bl (t : Ty) : kitB "bool" (tyS t) = some (match t with | .int => true | .bool => true | _ => false) := by cases t <;> decide +kernel
theorem kt_int (t : Ty) : kitB "int" (tyS t) = some (match t with | .int => true | _ => false) := by cases t <;> decide +kernel
theorem kt_str (t : Ty) : kitB "str" (tyS t) = some (match t with | .str => true | _ => false) := by cases t <;> decide +kernel
theorem kt_tup (t : Ty) : kitB "tuple" (tyS t) = some (match t with | .tuple => true | _ => false) := by cases t <;> decide +kernel
theorem kt_lst (t : Ty) : kitB "list" (tyS t) = some (match t with | .list => true | _ => false) := by cases t <;> decide +kernel
theorem ty_of {K : PySem.W.Frag} {φ : Ph} {H : Hp} {M : Mem} {v : PV} {u : V} (m : RM K φ H M) (r : Rp K φ H v u) (t : Ty) : ∃ s : String, TyX K H u (.type s) ∧ kitB s (tyS t) = some (isTy t v) := by
  cases r with
  | non => exact ⟨_, .base .non, (kt_non t).trans (by cases t <;> rfl)⟩
  | bl b => exact ⟨_, .base (.bl b), (kt_bl t).trans (by cases t <;> rfl)⟩
  | int i => exact ⟨_, .base (.int i), (kt_int t).trans (by cases t <;> rfl)⟩
  | str i => exact ⟨_, .base (.str i), (kt_str t).trans (by cases t <;> rfl)⟩
  | @tup a _ _ h q =>
    have : TyX K H (.ref a) (.type "tuple") := by
      rcases h with (h | ⟨o, h⟩) | ⟨o, its, n, h1, h2, h3⟩
      · exact .base (.tup h)
      · exact .fTuple h
      · exact .kTuple h1 h2
    exact ⟨_, this, (kt_tup t).trans (by cases t <;> rfl)⟩
  | lst h n q => exact ⟨_, .base (.lst h), (kt_lst t).trans (by cases t <;> rfl)⟩
  | @rol a _ _ h q =>
    have : TyX K H (.ref a) (.type "list") := by
      rcases h with ⟨o, h⟩ | ⟨h, _⟩ | ⟨o, its, n, h1, h2, h3⟩
      · exact .base (.frz h)
      · exact .base (.lst h)
      · exact .kList h1 h2
    exact ⟨_, this, (kt_lst t).trans (by cases t <;> rfl)⟩
  | @ref n a h1 =>
    have hn : n < M.length := by rw [← m.len]; exact (List.getElem?_eq_some_iff.mp h1).1
    have h3 := m.cells n a M[n] h1 (List.getElem?_eq_getElem hn)
    cases hc : M[n] with
    | lst xs =>
      rw [hc] at h3
      obtain ⟨vs, h4, _⟩ := h3
      exact ⟨_, .base (.lst h4), (kt_lst t).trans (by cases t <;> rfl)⟩
    | dic xs => rw [hc] at h3; exact h3.elim
theorem i_isi {p p2 : Pos} {x : Str} {T : Ty} (hg : Gl X "isinstance") (hm : X.mg "isinstance" = none) (hgT : Gl X x) (hmT : X.mg x = none) (hv : bootBuiltins x = some (.type (tyS T))) (ha : PE X a (tI X.K call ma))
    (hn : x ≠ "__name__" := by decide) (hd : (x == ("__debug__" : Str)) = false := by decide) (he : starEach [a, .Name x p2] X.env = (false, PySem.eval a X.env) :: starEach [.Name x p2] X.env := by rfl) (hpl : (backTo pos (starEach [.Name x p2] X.env)).any (·.1) = false := by rfl) :
    PE X (.Call (.Name "isinstance" p) [a, .Name x p2] [] pos) (tI X.K call (.isi ma T)) :=
  (pe_callB call_isi hg hm (by decide +kernel) (pa_cons ha (pa_cons (pe_bltn hgT hmT hv (v := .ty (tyS T)) rfl hn hd) pa_nil) he) (by decide) (by decide) he hpl).imp fun σ H Q ⟨φ, M, env, v, M', m, r, e, k⟩ => by
    unfold Ev.eval at e
    obtain ⟨⟨y, M1⟩, e1, e⟩ := bindE e
    cases e
    refine tI.then_ m r e1 fun φ1 H1 u x1 m1 r1 q1 => ?_
    obtain ⟨s, h1, h2⟩ := ty_of m1 q1 T
    exact ⟨u, .ty (tyS T), .type s, .type (tyS T), _, rfl, .ty _, h1, kit_ty h2, k _ _ _ x1 m1 (.bl _)⟩
/-! ### l.append(e) -/
theorem i_app {apos cpos : Pos} (ha : PE X a (tI X.K call ma)) (hb : PA X [b] (tIs X.K call (.cons mb .nil)))
    (hbase : attributeBase a "append" X.env (PySem.eval a X.env) = PySem.eval a X.env := by rfl)
    (hfew : ((backTo cpos (starEach [b] X.env)).all (fun x => !x.1) && (backToKw cpos (keywordEach [] X.env)).all (fun x => x.1.isSome)
      && decide (([b] : List Expr).length + ([] : List Keyword).length + (if ([] : List Keyword).isEmpty then 0 else 1) < 30)) = true := by rfl)
    (hline : (apos.endLine == cpos.line) = true := by rfl) (hs : starEach [b] X.env = (false, PySem.eval b X.env) :: starEach [] X.env := by rfl) (hplain : (backTo cpos (starEach [] X.env)).any (·.1) = false := by rfl) :
    PE X (.Call (.Attribute a "append" apos) [b] [] cpos) (tI X.K call (.app ma mb)) :=
  (pe_bm PySem.F.plainAttrs_list PySem.F.slot_list_append PySem.F.type_list_append mt_append ha hb hbase hfew hline hs hplain).imp fun σ H Q ⟨φ, M, env, v, M', m, r, e, k⟩ => by
    unfold Ev.eval at e
    obtain ⟨⟨y, M1⟩, e1, e⟩ := bindE e
    simp only at e
    split at e
    · rename_i n
      obtain ⟨⟨t, M2⟩, e2, e⟩ := bindE e
      simp only at e
      split at e
      · rename_i xs e3
        obtain ⟨hz, e⟩ := ifE e
        cases e
        refine tI.then_ m r e1 fun φ1 H1 u x1 m1 r1 q1 => ?_
        cases q1 with
        | @ref _ ad h1 =>
        have hn : n < M1.length := by rw [← m1.len]; exact (List.getElem?_eq_some_iff.mp h1).1
        have h3 := m1.cells n _ M1[n] h1 (List.getElem?_eq_getElem hn)
        have h4 : ∃ ys, H1 ad = some (.lst ys) := by
          cases hc : M1[n] with
          | lst xs => rw [hc] at h3; obtain ⟨vs, h4, _⟩ := h3; exact ⟨vs, h4⟩
          | dic xs => rw [hc] at h3; exact h3.elim
        obtain ⟨ys, h4⟩ := h4
        have ev : Ev.evals call (.cons mb .nil) env M1 = some ([t], M2) := by
          unfold Ev.evals
          rw [e2]
          unfold Ev.evals
          rfl
        refine ⟨.inl ⟨rfl, ys, .inl (.inl h4)⟩, tIs.then_ m1 r1 ev fun φ2 H2 w x2 m2 r2 q2 => ?_⟩
        obtain ⟨z, rfl, q3⟩ := one_of q2
        have h5 := x2.get h1
        obtain ⟨b, h6, vs, h7, h8⟩ := m2.at_ e3
        rw [h5] at h6
        cases h6
        refine ⟨_, vs, z, rfl, rfl, h7, by rw [← h8.length]; exact of_decide_eq_true hz, ?_⟩
        exact k _ _ _ (x1.trans (x2.trans (xt_set m2 h5))) (m2.set h5 (h8.append (.cons q3 .nil))) .non
      · cases e
    · cases e
end
end Ev

/-! Targets, what a for walks, comprehensions. -/
namespace Ev
open PySem PySem.Spec PyProof.Rows L2
section
variable {K : PySem.W.Frag} {φ φ' φ1 : Ph} {H H' H1 : Hp} {M M' M1 : Mem} {env : Env} {σ : L2.St}
def gNames : List Nat → TGs
  | [] => gNil
  | i :: is => gCons (gName i) (gNames is)
def gP (K : PySem.W.Frag) : Tp1 → TG
  | .n i => gName i
  | .t is => gTup K is.length (gNames is)
def gPs (K : PySem.W.Frag) : List Tp1 → TGs
  | [] => gNil
  | p :: ps => gCons (gP K p) (gPs K ps)
def Tp1.ids : Tp1 → List Nat
  | .n i => [i]
  | .t is => is
def gT (K : PySem.W.Frag) : T → TG
  | .nm i => gName i
  | .tp is => gTup K is.length (gNames is)
  | .ls is => gUnl K is.length (gNames is)
  | .t2 ps => gTup K ps.length (gPs K ps)
def T.ids : T → List Nat
  | .nm i => [i]
  | .tp is => is
  | .ls is => is
  | .t2 ps => ps.flatMap Tp1.ids
theorem wipe_get (σ : L2.St) (j : Nat) : ∀ vs : List Nat, (wipe σ vs)[j]? = if j ∈ vs then (if j < σ.length then some none else none) else σ[j]?
  | [] => by simp [wipe]
  | v :: vs => by
    unfold wipe
    by_cases e : v = j
    · subst e
      rw [if_pos (by simp), List.getElem?_set]
      simp [wipe_length]
    · rw [List.getElem?_set_ne e, wipe_get σ j vs]
      have : (j ∈ v :: vs) ↔ j ∈ vs := by
        constructor
        · intro h
          rcases List.mem_cons.mp h with h | h
          · exact absurd h.symm e
          · exact h
        · exact List.mem_cons_of_mem _
      by_cases k : j ∈ vs
      · rw [if_pos k, if_pos (this.mpr k)]
      · rw [if_neg k, if_neg fun z => k (this.mp z)]
theorem wipe_set {σ : L2.St} {i : Nat} {x : Option V} {vs : List Nat} (h : i ∈ vs) : wipe (σ.set i x) vs = wipe σ vs := by
  apply List.ext_getElem?
  intro j
  rw [wipe_get, wipe_get, List.length_set]
  by_cases k : j ∈ vs
  · rw [if_pos k, if_pos k]
  · rw [if_neg k, if_neg k, List.getElem?_set_ne (fun e => k (by rw [← e]; exact h))]
theorem wipeE_get (env : Env) (j : Nat) : ∀ vs : List Nat, ∀ v, (wipeE env vs)[j]? = some (some v) → j ∉ vs ∧ env[j]? = some (some v)
  | [], v, h => ⟨by simp, h⟩
  | w :: vs, v, h => by
    unfold wipeE at h
    by_cases e : w = j
    · subst e
      rw [List.getElem?_set] at h
      simp at h
    · rw [List.getElem?_set_ne e] at h
      obtain ⟨h1, h2⟩ := wipeE_get env j vs v h
      refine ⟨fun z => ?_, h2⟩
      rcases List.mem_cons.mp z with z | z
      · exact e z.symm
      · exact h1 z
theorem wipeE_len (env : Env) : ∀ vs : List Nat, (wipeE env vs).length = env.length
  | [] => rfl
  | _ :: vs => by unfold wipeE; rw [List.length_set, wipeE_len env vs]
theorem RE.wipe (r : RE K φ H env σ) (vs : List Nat) : RE K φ H (wipeE env vs) (L2.wipe σ vs) := by
  refine ⟨by rw [wipeE_len, wipe_length]; exact r.len, fun i v h => ?_⟩
  obtain ⟨h1, h2⟩ := wipeE_get env i vs v h
  obtain ⟨u, h3, h4⟩ := r.at_ i v h2
  exact ⟨u, by rw [wipe_get, if_neg h1]; exact h3, h4⟩
/-- the target's reading, from the interpreter's binding -/
theorem names_rd {Q : L2.St → Hp → Prop} (sub : List Nat) : ∀ (is : List Nat) (xs : List PV) (vs : List V) (env : Env) (σ : L2.St), Rps K φ H xs vs → xs.length = is.length → RE K φ H env σ → (∀ i ∈ is, i ∈ sub) →
    (∀ σ', RE K φ H (setAll env is xs) σ' → L2.wipe σ' sub = L2.wipe σ sub → Q σ' H) → gNames is vs σ H Q
  | [], xs, vs, env, σ, r, hl, re, hs, k => by
    cases r with
    | nil => exact ⟨rfl, k σ re rfl⟩
    | cons _ _ => cases hl
  | i :: is, xs, vs, env, σ, r, hl, re, hs, k => by
    cases r with
    | nil => cases hl
    | @cons x v xs vs h r =>
    refine ⟨v, vs, rfl, ?_⟩
    refine names_rd sub is xs vs (env.set i (some x)) (σ.set i (some v)) r (by simpa using hl) (re.set h i) (fun j hj => hs j (List.mem_cons_of_mem _ hj)) fun σ' r' e => k σ' r' ?_
    rw [e, wipe_set (hs i List.mem_cons_self)]
theorem parts_rd {Q : L2.St → Hp → Prop} (sub : List Nat) : ∀ (ps : List Tp1) (xs : List PV) (vs : List V) (env env1 : Env) (σ : L2.St), Rps K φ H xs vs → bindPs ps xs env = some env1 → RE K φ H env σ → (∀ p ∈ ps, ∀ i ∈ p.ids, i ∈ sub) →
    (∀ σ', RE K φ H env1 σ' → L2.wipe σ' sub = L2.wipe σ sub → Q σ' H) → gPs K ps vs σ H Q
  | [], xs, vs, env, env1, σ, r, e, re, hs, k => by
    cases r with
    | nil => cases e; exact ⟨rfl, k σ re rfl⟩
    | cons _ _ => cases e
  | p :: ps, xs, vs, env, env1, σ, r, e, re, hs, k => by
    cases r with
    | nil => cases e
    | @cons x v xs vs h r =>
    have e' : (bindP p x env).bind (fun env1 => bindPs ps xs env1) = some env1 := e
    obtain ⟨env2, e1, e2⟩ := Option.bind_eq_some_iff.mp e'
    refine ⟨v, vs, rfl, ?_⟩
    have hs1 := hs p List.mem_cons_self
    have next : ∀ σ2, RE K φ H env2 σ2 → L2.wipe σ2 sub = L2.wipe σ sub → gPs K ps vs σ2 H Q := fun σ2 r2 w2 =>
      parts_rd sub ps xs vs env2 env1 σ2 r e2 r2 (fun q hq => hs q (List.mem_cons_of_mem _ hq)) fun σ' r' w' => k σ' r' (w'.trans w2)
    cases p with
    | n i =>
      cases e1
      exact next _ (re.set h i) (wipe_set (hs1 i (by simp [Tp1.ids])))
    | t is =>
      unfold bindP at e1
      simp only at e1
      split at e1
      · split at e1
        · rename_i hz
          have hz := of_decide_eq_true hz
          cases e1
          cases h with
          | tup h q =>
          exact ⟨_, _, rfl, h, by rw [← q.length]; exact hz, names_rd sub is _ _ _ _ q hz re hs1 next⟩
        · cases e1
      · cases e1
theorem bindPs_len : ∀ {ps : List Tp1} {xs : List PV} {env env1 : Env}, bindPs ps xs env = some env1 → xs.length = ps.length
  | [], [], _, _, _ => rfl
  | [], _ :: _, _, _, e => by cases e
  | _ :: _, [], _, _, e => by cases e
  | p :: ps, x :: xs, env, env1, e => by
    have e' : (bindP p x env).bind (fun env1 => bindPs ps xs env1) = some env1 := e
    obtain ⟨env2, _, e2⟩ := Option.bind_eq_some_iff.mp e'
    rw [List.length_cons, List.length_cons, bindPs_len e2]
theorem gT_rd {t : T} {v : PV} {u : V} {env1 : Env} {Q : L2.St → Hp → Prop} (r : Rp K φ H v u) (re : RE K φ H env σ) (e : bindT t v env = some env1)
    (k : ∀ σ', RE K φ H env1 σ' → L2.wipe σ' t.ids = L2.wipe σ t.ids → Q σ' H) : gT K t u σ H Q := by
  cases t with
  | nm i =>
    cases e
    exact k _ (re.set r i) (wipe_set (by simp [T.ids]))
  | tp is =>
    unfold bindT at e
    simp only at e
    split at e
    · rename_i xs
      split at e
      · rename_i hz
        have hz := of_decide_eq_true hz
        cases e
        cases r with
        | tup h q =>
        exact ⟨_, _, rfl, h, by rw [← q.length]; exact hz, names_rd is is _ _ _ _ q hz re (fun _ h => h) k⟩
      · cases e
    · cases e
  | ls is =>
    unfold bindT at e
    simp only at e
    split at e
    · rename_i xs
      split at e
      · rename_i hz
        have hz := of_decide_eq_true hz
        cases e
        cases r with
        | lst h n q =>
        exact ⟨_, _, rfl, .inl (.inl h), by rw [← q.length]; exact hz, names_rd is is _ _ _ _ q hz re (fun _ h => h) k⟩
      · cases e
    · cases e
  | t2 ps =>
    unfold bindT at e
    simp only at e
    split at e
    · rename_i xs
      cases r with
      | tup h q =>
      exact ⟨_, _, rfl, h, by rw [← q.length]; exact bindPs_len e, parts_rd _ ps _ _ _ _ _ q e re (fun p hp i hi => List.mem_flatMap.mpr ⟨p, hp, hi⟩) k⟩
    · cases e
theorem wipe_more {σ σ' : L2.St} {a b : List Nat} (h : L2.wipe σ' a = L2.wipe σ a) (hs : ∀ i ∈ a, i ∈ b) (hl : σ'.length = σ.length) : L2.wipe σ' b = L2.wipe σ b := by
  apply List.ext_getElem?
  intro j
  rw [wipe_get, wipe_get, hl]
  by_cases k : j ∈ b
  · rw [if_pos k, if_pos k]
  · rw [if_neg k, if_neg k]
    have := congrArg (·[j]?) h
    simp only [wipe_get] at this
    rw [if_neg fun z => k (hs j z), if_neg fun z => k (hs j z)] at this
    exact this
theorem wipe_len_eq {σ σ' : L2.St} {a : List Nat} (h : L2.wipe σ' a = L2.wipe σ a) : σ'.length = σ.length := by
  have := congrArg List.length h
  rw [wipe_length, wipe_length] at this
  exact this

/-! ### what a for walks -/
/-- an iterator that gives the items xs, from any later heap -/
def ItOk (K : PySem.W.Frag) (φ : Ph) (H : Hp) (J : It) (g : Gd) (xs : List PV) : Prop := ∀ φ2 H2 M2, Xt φ H φ2 H2 → RM K φ2 H2 M2 → gOk g M2 = true →
  (∀ i, i < xs.length → J.go i H2) ∧ (∀ i, xs.length ≤ i → J.stop i H2) ∧
  ∀ i x H3, i < xs.length → J.yld i H2 x H3 → ∃ v, xs[i]? = some v ∧ Rp K φ2 H3 v x ∧ Xt φ2 H2 φ2 H3 ∧ ∀ M, RM K φ2 H2 M → RM K φ2 H3 M
def tIt (K : PySem.W.Frag) (call : Cl) (it : I) : TI := fun σ H R => ∃ φ M env xs M', RM K φ H M ∧ RE K φ H env σ ∧ Ev.evalI call it env M = some (xs, M') ∧
  ∀ φ' H' J, Xt φ H φ' H' → RM K φ' H' M' → ItOk K φ' H' J xs.2 xs.1 → R J H'
/-- the items of a tuple or of a list, as they lie -/
def SqK (K : PySem.W.Frag) (k : Bool) (H : Hp) (a : Addr) (vs : List V) : Prop := match k with
  | true => SqT K H a vs
  | false => SqL K H a vs
/-- they stay, while what must stay stays -/
def SAt (K : PySem.W.Frag) (k : Bool) (φ : Ph) (H : Hp) (g : Gd) (a : Addr) (xs : List PV) : Prop := ∀ φ2 H2 M2, Xt φ H φ2 H2 → RM K φ2 H2 M2 → gOk g M2 = true → ∃ vs, SqK K k H2 a vs ∧ Rps K φ2 H2 xs vs
theorem seq_at {v : PV} {u : V} {k : Bool} {xs : List PV} {g : Gd} (m : RM K φ H M) (r : Rp K φ H v u) (e : seqG M v = some (k, xs, g)) : ∃ a vs, u = .ref a ∧ SqK K k H a vs ∧ SAt K k φ H g a xs := by
  cases r with
  | tup h q => cases e; exact ⟨_, _, rfl, h, fun φ2 H2 M2 x _ _ => ⟨_, x.tup h, q.mono x⟩⟩
  | lst h n q => cases e; exact ⟨_, _, rfl, .inl (.inl h), fun φ2 H2 M2 x _ _ => ⟨_, .inl (.inl (x.keep _ _ h fun z => absurd z n.1)), q.mono x⟩⟩
  | rol h q => cases e; exact ⟨_, _, rfl, h.sq, fun φ2 H2 M2 x _ _ => ⟨_, (x.rol h).sq, q.mono x⟩⟩
  | @ref n a h =>
    unfold seqG at e
    simp only at e
    split at e
    · rename_i ys e1
      cases e
      obtain ⟨b, h2, vs, h3, h4⟩ := m.at_ e1
      rw [h] at h2
      cases h2
      refine ⟨_, vs, rfl, .inl (.inl h3), fun φ2 H2 M2 x m2 hg => ?_⟩
      unfold gOk at hg
      rw [Bool.and_eq_true] at hg
      have hg1 := hg.1
      split at hg1
      · rename_i zs e2
        have := pbeqs_eq hg1
        subst this
        obtain ⟨b, h5, ws, h6, h7⟩ := m2.at_ e2
        rw [x.get h] at h5
        cases h5
        exact ⟨ws, .inl (.inl h6), h7⟩
      · cases hg1
    · cases e
  | non | bl | int | str => cases e
theorem it_tup {a : Addr} {g : Gd} {xs : List PV} (h : SAt K true φ H g a xs) : ItOk K φ H (Itt K a) g xs := fun φ2 H2 M2 x m2 hg => by
  obtain ⟨vs, h2, q2⟩ := h φ2 H2 M2 x m2 hg
  change SqT K H2 a vs at h2
  refine ⟨fun i hi => ?_, fun i hi => ⟨vs, h2, by rw [← q2.length]; exact hi⟩, fun i y H3 hi ⟨e, f⟩ => ?_⟩
  · obtain ⟨v, e, _⟩ := q2.get (List.getElem?_eq_getElem hi)
    exact ⟨vs, v, h2, e⟩
  · subst e
    obtain ⟨v, e, r⟩ := q2.get (List.getElem?_eq_getElem hi)
    have e2 := (f vs h2).symm.trans e
    cases e2
    exact ⟨_, List.getElem?_eq_getElem hi, r, .refl, fun _ m => m⟩
theorem it_lst {a : Addr} {g : Gd} {xs : List PV} (h : SAt K false φ H g a xs) : ItOk K φ H (Itl K a) g xs := fun φ2 H2 M2 x m2 hg => by
  obtain ⟨vs, h2, q2⟩ := h φ2 H2 M2 x m2 hg
  change SqL K H2 a vs at h2
  refine ⟨fun i hi => ?_, fun i hi => ⟨vs, h2, by rw [← q2.length]; exact hi⟩, fun i y H3 hi ⟨e, f⟩ => ?_⟩
  · obtain ⟨v, e, _⟩ := q2.get (List.getElem?_eq_getElem hi)
    exact ⟨vs, v, h2, e⟩
  · subst e
    obtain ⟨v, e, r⟩ := q2.get (List.getElem?_eq_getElem hi)
    have e2 := (f vs h2).symm.trans e
    cases e2
    exact ⟨_, List.getElem?_eq_getElem hi, r, .refl, fun _ m => m⟩
theorem rng_len : ∀ (n : Nat) (a : Int), (rngI a n).length = n
  | 0, _ => rfl
  | n + 1, a => by unfold rngI; rw [List.length_cons, rng_len n]
theorem rng_get : ∀ (n : Nat) (a : Int) (i : Nat), i < n → (rngI a n)[i]? = some (.int (a + i))
  | 0, _, _, h => absurd h (by omega)
  | n + 1, a, 0, _ => by unfold rngI; simp
  | n + 1, a, i + 1, h => by
    unfold rngI
    rw [List.getElem?_cons_succ, rng_get n (a + 1) i (by omega)]
    congr 2
    omega
theorem it_rng (lo : Int) (n : Nat) : ItOk K φ H (Itr lo n) [] (rngI lo n) := fun φ2 H2 M2 x m2 hg => by
  refine ⟨fun i hi => by rw [rng_len] at hi; exact hi, fun i hi => by rw [rng_len] at hi; exact hi, fun i y H3 hi ⟨e, f⟩ => ?_⟩
  subst e f
  rw [rng_len] at hi
  exact ⟨_, rng_get n lo i hi, .int _, .refl, fun _ m => m⟩
theorem zip_get : ∀ (xs ys : List PV) (i : Nat) (x y : PV), xs[i]? = some x → ys[i]? = some y → (zipP xs ys)[i]? = some (.tup [x, y])
  | [], _, _, _, _, h, _ => by simp at h
  | _ :: _, [], _, _, _, _, h => by simp at h
  | a :: xs, b :: ys, 0, x, y, h1, h2 => by simp at h1 h2; subst h1 h2; rfl
  | a :: xs, b :: ys, i + 1, x, y, h1, h2 => by
    unfold zipP
    rw [List.getElem?_cons_succ]
    exact zip_get xs ys i x y (by simpa using h1) (by simpa using h2)
theorem zip_len : ∀ (xs ys : List PV), (zipP xs ys).length = min xs.length ys.length
  | [], _ => by simp [zipP]
  | _ :: _, [] => by simp [zipP]
  | a :: xs, b :: ys => by
    unfold zipP
    rw [List.length_cons, zip_len xs ys, List.length_cons, List.length_cons]
    omega
theorem gOk_app : ∀ {g g' : Gd} {M : Mem}, gOk (g ++ g') M = true → gOk g M = true ∧ gOk g' M = true
  | [], _, _, h => ⟨rfl, h⟩
  | (n, xs) :: g, g', M, h => by
    have h' : ((match M[n]? with | some (.lst ys) => pbeqs ys xs | _ => false) && gOk (g ++ g') M) = true := h
    rw [Bool.and_eq_true] at h'
    obtain ⟨h1, h2⟩ := gOk_app h'.2
    refine ⟨?_, h2⟩
    show ((match M[n]? with | some (.lst ys) => pbeqs ys xs | _ => false) && gOk g M) = true
    rw [Bool.and_eq_true]
    exact ⟨h'.1, h1⟩
theorem it_zipT {a b : Addr} {g g' : Gd} {xs ys : List PV} (h : SAt K true φ H g a xs) (h' : SAt K true φ H g' b ys) : ItOk K φ H (RZ.ItzT K a b) (g ++ g') (zipP xs ys) := fun φ2 H2 M2 x m2 hg => by
  obtain ⟨vs, h2, q2⟩ := h φ2 H2 M2 x m2 (gOk_app hg).1
  obtain ⟨ws, h2', q2'⟩ := h' φ2 H2 M2 x m2 (gOk_app hg).2
  change SqT K H2 a vs at h2
  change SqT K H2 b ws at h2'
  refine ⟨fun i hi => ?_, fun i hi => ⟨vs, ws, h2, h2', ?_⟩, fun i y H3 hi ⟨T, v1, v2, e, nT, eH, f1, f2⟩ => ?_⟩
  · rw [zip_len] at hi
    obtain ⟨v, e, _⟩ := q2.get (List.getElem?_eq_getElem (show i < xs.length by omega))
    obtain ⟨v', e', _⟩ := q2'.get (List.getElem?_eq_getElem (show i < ys.length by omega))
    exact ⟨vs, ws, v, v', h2, h2', e, e'⟩
  · rw [zip_len] at hi
    rw [← q2.length, ← q2'.length]
    omega
  · subst e eH
    rw [zip_len] at hi
    have k1 := List.getElem?_eq_getElem (show i < xs.length by omega)
    have k2 := List.getElem?_eq_getElem (show i < ys.length by omega)
    obtain ⟨v, e, r⟩ := q2.get k1
    obtain ⟨v', e', r'⟩ := q2'.get k2
    have z1 := (f1 vs h2).symm.trans e
    have z2 := (f2 ws h2').symm.trans e'
    cases z1; cases z2
    exact ⟨_, zip_get xs ys i _ _ k1 k2, .tup (.inl (.inl upd_same)) (.cons (r.mono (xt_new nT)) (.cons (r'.mono (xt_new nT)) .nil)), xt_new nT, fun _ m => m.new nT⟩
theorem it_zipL {a b : Addr} {g g' : Gd} {xs ys : List PV} (h : SAt K false φ H g a xs) (h' : SAt K false φ H g' b ys) : ItOk K φ H (Itz K a b) (g ++ g') (zipP xs ys) := fun φ2 H2 M2 x m2 hg => by
  obtain ⟨vs, h2, q2⟩ := h φ2 H2 M2 x m2 (gOk_app hg).1
  obtain ⟨ws, h2', q2'⟩ := h' φ2 H2 M2 x m2 (gOk_app hg).2
  change SqL K H2 a vs at h2
  change SqL K H2 b ws at h2'
  refine ⟨fun i hi => ?_, fun i hi => ⟨vs, ws, h2, h2', ?_⟩, fun i y H3 hi ⟨T, v1, v2, e, nT, eH, f1, f2⟩ => ?_⟩
  · rw [zip_len] at hi
    obtain ⟨v, e, _⟩ := q2.get (List.getElem?_eq_getElem (show i < xs.length by omega))
    obtain ⟨v', e', _⟩ := q2'.get (List.getElem?_eq_getElem (show i < ys.length by omega))
    exact ⟨vs, ws, v, v', h2, h2', e, e'⟩
  · rw [zip_len] at hi
    rw [← q2.length, ← q2'.length]
    omega
  · subst e eH
    rw [zip_len] at hi
    have k1 := List.getElem?_eq_getElem (show i < xs.length by omega)
    have k2 := List.getElem?_eq_getElem (show i < ys.length by omega)
    obtain ⟨v, e, r⟩ := q2.get k1
    obtain ⟨v', e', r'⟩ := q2'.get k2
    have z1 := (f1 vs h2).symm.trans e
    have z2 := (f2 ws h2').symm.trans e'
    cases z1; cases z2
    exact ⟨_, zip_get xs ys i _ _ k1 k2, .tup (.inl (.inl upd_same)) (.cons (r.mono (xt_new nT)) (.cons (r'.mono (xt_new nT)) .nil)), xt_new nT, fun _ m => m.new nT⟩
end
section
variable {X : Cx} {call : Cl} {a b c : Expr} {ma mb mc : E} {pos : Pos}
theorem it_seq {tg : Expr} (ha : PE X a (tI X.K call ma)) : PI X tg a (tIt X.K call (.seq ma)) := by
  refine ⟨fun pins s σ H R I ⟨φ, M, env, xs, M', m, r, e, k⟩ => ?_⟩
  unfold Ev.evalI at e
  obtain ⟨⟨y, M1⟩, e1, e⟩ := bindE e
  obtain ⟨⟨kd, ys, g⟩, e2, e⟩ := mapE e
  cases e
  cases kd with
  | true =>
    refine (pi_tup ha).run pins s σ H R I (tI.then_ m r e1 fun φ1 H1 u x1 m1 r1 q1 => ?_)
    obtain ⟨ad, vs, rfl, h, st⟩ := seq_at m1 q1 e2
    exact ⟨ad, rfl, ⟨vs, h⟩, k _ _ _ x1 m1 (it_tup st)⟩
  | false =>
    refine (pi_list ha).run pins s σ H R I (tI.then_ m r e1 fun φ1 H1 u x1 m1 r1 q1 => ?_)
    obtain ⟨ad, vs, rfl, h, st⟩ := seq_at m1 q1 e2
    exact ⟨ad, rfl, ⟨vs, h⟩, k _ _ _ x1 m1 (it_lst st)⟩
theorem rng_get2 {x y : PV} {M : Mem} {xs : List PV × Gd} {M' : Mem} (e : (match x, y with
    | .int i, .int j => iff_ (decide (-(2 ^ 62) ≤ i) && decide (i < 2 ^ 62) && decide (-(2 ^ 62) ≤ j) && decide (j < 2 ^ 62)) (some ((rngI i (j - i).toNat, []), M))
    | _, _ => none) = some (xs, M')) : ∃ i j : Int, x = .int i ∧ y = .int j ∧ -(2 ^ 62) ≤ i ∧ i < 2 ^ 62 ∧ -(2 ^ 62) ≤ j ∧ j < 2 ^ 62 ∧ xs = (rngI i (j - i).toNat, []) ∧ M' = M := by
  cases x <;> first | (cases e; done) | skip
  cases y <;> first | (cases e; done) | skip
  obtain ⟨hz, e⟩ := ifE e
  rw [Bool.and_eq_true, Bool.and_eq_true, Bool.and_eq_true] at hz
  cases e
  exact ⟨_, _, rfl, rfl, of_decide_eq_true hz.1.1.1, of_decide_eq_true hz.1.1.2, of_decide_eq_true hz.1.2, of_decide_eq_true hz.2, rfl, rfl⟩
theorem evs1 {env : Env} {M M1 : Mem} {v : PV} (e : Ev.eval call ma env M = some (v, M1)) : Ev.evals call (.cons ma .nil) env M = some (([v] : List PV), M1) := by
  unfold Ev.evals
  rw [e]
  unfold Ev.evals
  rfl
theorem evs2 {env : Env} {M M1 M2 : Mem} {v w : PV} (e : Ev.eval call ma env M = some (v, M1)) (e2 : Ev.eval call mb env M1 = some (w, M2)) : Ev.evals call (.cons ma (.cons mb .nil)) env M = some (([v, w] : List PV), M2) := by
  unfold Ev.evals
  rw [e]
  show bnd (Ev.evals call (.cons mb .nil) env M1) _ = _
  rw [evs1 e2]
  rfl
theorem it_rng1 {tg : Expr} {p : Pos} (hg : Gl X "range") (hm : X.mg "range" = none) (ha : PA X [a] (tIs X.K call (.cons ma .nil)))
    (hs : starEach [a] X.env = (false, PySem.eval a X.env) :: starEach [] X.env := by rfl) (hpl : (backTo pos (starEach [] X.env)).any (·.1) = false := by rfl) :
    PI X tg (.Call (.Name "range" p) [a] [] pos) (tIt X.K call (.rng (.cst (.int 0)) ma)) := by
  refine ⟨fun pins s σ H R I ⟨φ, M, env, xs, M', m, r, e, k⟩ => ?_⟩
  unfold Ev.evalI at e
  obtain ⟨⟨y, M1⟩, e1, e⟩ := bindE e
  unfold Ev.eval at e1
  cases e1
  obtain ⟨⟨y2, M2⟩, e2, e⟩ := bindE e
  obtain ⟨i, j, h1, h2, a1, a2, a3, a4, rfl, rfl⟩ := rng_get2 e
  cases h1
  cases h2
  refine (pi_range1 hg hm ha hs).run pins s σ H R I (tIs.then_ m r (evs1 e2) fun φ1 H1 u x1 m1 r1 q1 => ?_)
  obtain ⟨z, rfl, q⟩ := one_of q1
  cases q
  refine ⟨j, rfl, a3, a4, k _ _ _ x1 m1 ?_⟩
  show ItOk _ _ _ _ [] (rngI 0 (j - 0).toNat)
  rw [show j - 0 = j by omega]
  exact it_rng 0 _
theorem it_rng2 {tg : Expr} {p : Pos} (hg : Gl X "range") (hm : X.mg "range" = none) (ha : PA X [a, b] (tIs X.K call (.cons ma (.cons mb .nil))))
    (hs : starEach [a, b] X.env = (false, PySem.eval a X.env) :: starEach [b] X.env := by rfl) (hs2 : starEach [b] X.env = (false, PySem.eval b X.env) :: starEach [] X.env := by rfl) :
    PI X tg (.Call (.Name "range" p) [a, b] [] pos) (tIt X.K call (.rng ma mb)) := by
  refine ⟨fun pins s σ H R I ⟨φ, M, env, xs, M', m, r, e, k⟩ => ?_⟩
  unfold Ev.evalI at e
  obtain ⟨⟨y, M1⟩, e1, e⟩ := bindE e
  obtain ⟨⟨y2, M2⟩, e2, e⟩ := bindE e
  obtain ⟨i, j, h1, h2, a1, a2, a3, a4, rfl, rfl⟩ := rng_get2 e
  cases h1
  cases h2
  refine (pi_range2 hg hm ha (by rw [hs, hs2]; rfl) hs2).run pins s σ H R I (tIs.then_ m r (evs2 e1 e2) fun φ1 H1 u x1 m1 r1 q1 => ?_)
  obtain ⟨z, t, rfl, q, q'⟩ := two_of q1
  cases q; cases q'
  exact ⟨i, j, rfl, ⟨a1, a2, a3, a4⟩, k _ _ _ x1 m1 (it_rng _ _)⟩
theorem it_zip {elts : List Expr} {kk : Nat} {tpos p : Pos} (hg : Gl X "zip") (hm : X.mg "zip" = none) (ha : PA X [a, b] (tIs X.K call (.cons ma (.cons mb .nil))))
    (hs : starEach [a, b] X.env = (false, PySem.eval a X.env) :: starEach [b] X.env := by rfl) (hpl : (backTo pos (starEach [b] X.env)).any (·.1) = false := by rfl) :
    PI X (.Tuple elts kk tpos) (.Call (.Name "zip" p) [a, b] [] pos) (tIt X.K call (.zip ma mb)) := by
  refine ⟨fun pins s σ H R I ⟨φ, M, env, xs, M', m, r, e, k⟩ => ?_⟩
  unfold Ev.evalI at e
  obtain ⟨⟨y, M1⟩, e1, e⟩ := bindE e
  obtain ⟨⟨y2, M2⟩, e2, e⟩ := bindE e
  simp only at e
  cases s1 : seqG M2 y with
  | none => rw [s1] at e; cases e
  | some t1 =>
  cases s2 : seqG M2 y2 with
  | none => rw [s1, s2] at e; cases e
  | some t2 =>
  obtain ⟨k1, xs1, g1⟩ := t1
  obtain ⟨k2, xs2, g2⟩ := t2
  rw [s1, s2] at e
  obtain ⟨hk, e'⟩ := ifE e
  clear e
  have hk := eq_of_beq hk
  subst hk
  cases e'
  refine (RZ.pi_zipA hg hm ha hs hpl).run pins s σ H R I (tIs.then_ m r (evs2 e1 e2) fun φ1 H1 u x1 m1 r1 q1 => ?_)
  obtain ⟨z, t, rfl, q, q'⟩ := two_of q1
  obtain ⟨a1, v1, rfl, h1, t1⟩ := seq_at m1 q s1
  obtain ⟨a2, v2, rfl, h2, t2⟩ := seq_at m1 q' s2
  cases k1 with
  | true => exact ⟨_, _, _, _, rfl, .inr ⟨h1, h2, k _ _ _ x1 m1 (it_zipT t1 t2)⟩⟩
  | false => exact ⟨_, _, _, _, rfl, .inl ⟨h1, h2, k _ _ _ x1 m1 (it_zipL t1 t2)⟩⟩
/-! ### targets -/
theorem g_nm {x : Str} (i : Nat) (hN : X.N.Nodup) (hi : X.N[i]? = some x := by rfl) (hx : Loc X.env.scope x := by first | exact .inl rfl | exact .inr rfl) (hf : X.fn x = true ∨ X.env.scope.names.lookup x = some .local := by first | exact .inl rfl | exact .inr rfl | assumption) :
    PG X (.Name x pos) (gT X.K (.nm i)) := pg_name hN hi hx hf
theorem gs_nil : PGs X [] (gNames []) := pgs_nil
theorem gs_cons {x : Str} {es : List Expr} {is : List Nat} (i : Nat) (hN : X.N.Nodup) (h : PGs X es (gNames is)) (hi : X.N[i]? = some x := by rfl) (hx : Loc X.env.scope x := by first | exact .inl rfl | exact .inr rfl) (hf : X.fn x = true ∨ X.env.scope.names.lookup x = some .local := by first | exact .inl rfl | exact .inr rfl | assumption) :
    PGs X (.Name x pos :: es) (gNames (i :: is)) := pgs_cons (pg_name hN hi hx hf) h
theorem g_tp {es : List Expr} {is : List Nat} {kk : Nat} (hc : X.calm = true) (h : PGs X es (gNames is)) (hn : (assignEach es X.env).length = is.length := by rfl) (hst : (assignEach es X.env).findIdx? (·.1) = none := by rfl) :
    PG X (.Tuple es kk pos) (gT X.K (.tp is)) := pg_tup hc h hn hst
theorem gp_nil : PGs X [] (gPs X.K []) := pgs_nil
theorem gp_n {x : Str} {es : List Expr} {ps : List Tp1} (i : Nat) (hN : X.N.Nodup) (h : PGs X es (gPs X.K ps)) (hi : X.N[i]? = some x := by rfl) (hx : Loc X.env.scope x := by first | exact .inl rfl | exact .inr rfl) (hf : X.fn x = true ∨ X.env.scope.names.lookup x = some .local := by first | exact .inl rfl | exact .inr rfl | assumption) :
    PGs X (.Name x pos :: es) (gPs X.K (.n i :: ps)) := pgs_cons (pg_name hN hi hx hf) h
theorem gp_t {fs es : List Expr} {is : List Nat} {ps : List Tp1} {kk : Nat} (hc : X.calm = true) (h1 : PGs X fs (gNames is)) (h : PGs X es (gPs X.K ps)) (hn : (assignEach fs X.env).length = is.length := by rfl) (hst : (assignEach fs X.env).findIdx? (·.1) = none := by rfl) :
    PGs X (.Tuple fs kk pos :: es) (gPs X.K (.t is :: ps)) := pgs_cons (pg_tup hc h1 hn hst) h
theorem g_t2 {es : List Expr} {ps : List Tp1} {kk : Nat} (hc : X.calm = true) (h : PGs X es (gPs X.K ps)) (hn : (assignEach es X.env).length = ps.length := by rfl) (hst : (assignEach es X.env).findIdx? (·.1) = none := by rfl) :
    PG X (.Tuple es kk pos) (gT X.K (.t2 ps)) := pg_tup hc h hn hst
theorem g_ls {es : List Expr} {is : List Nat} {kk : Nat} (hc : X.calm = true) (h : PGs X es (gNames is)) (hn : (assignEach es X.env).length = is.length := by rfl) (hst : (assignEach es X.env).findIdx? (·.1) = none := by rfl) :
    PG X (.Tuple es kk pos) (gT X.K (.ls is)) := pg_unl hc h hn hst
/-! ### comprehensions -/
def tCs (K : PySem.W.Frag) (call : Cl) (cs : Es) : TT := fun σ H Q => ∃ φ M env b M', RM K φ H M ∧ RE K φ H env σ ∧ Ev.conds call cs env M = some (b, M') ∧ ∀ φ' H', Xt φ H φ' H' → RM K φ' H' M' → Q b H'
theorem cs_nil : PTs X [] (tCs X.K call .nil) := ⟨fun pins s σ H Q I ⟨φ, M, env, b, M', m, r, e, k⟩ => pts_nil.run pins s σ H Q I (by
  unfold Ev.conds at e
  cases e
  exact k _ _ .refl m)⟩
theorem cs_one (h : PT X a (tT X.K call ma)) : PTs X [a] (tCs X.K call (.cons ma .nil)) := ⟨fun pins s σ H Q I ⟨φ, M, env, b, M', m, r, e, k⟩ => (pts_one h).run pins s σ H Q I (by
  unfold Ev.conds at e
  obtain ⟨⟨y, M1⟩, e1, e⟩ := bindE e
  rcases bifE e with ⟨t, e⟩ | ⟨t, e⟩
  · unfold Ev.conds at e
    cases e
    exact tT.then_ m r e1 t fun φ1 H1 x1 m1 r1 => k _ _ x1 m1
  · cases e
    exact tT.then_ m r e1 t fun φ1 H1 x1 m1 r1 => k _ _ x1 m1)⟩
theorem lcL_len {t : T} {g : Gd} {cond : Env → Mem → Option (Bool × Mem)} {elt : Env → Mem → Option (PV × Mem)} {env : Env} : ∀ {xs acc : List PV} {M M' : Mem} {vs : List PV}, lcL t g cond elt env xs acc M = some (vs, M') → acc.length ≤ vs.length
  | [], acc, M, M', vs, h => by
    unfold lcL at h
    split at h
    · cases h; exact Nat.le_refl _
    · cases h
  | x :: xs, acc, M, M', vs, h => by
    unfold lcL at h
    split at h
    · split at h
      · split at h
        · split at h
          · have := lcL_len h
            rw [List.length_append] at this
            omega
          · cases h
        · exact lcL_len h
        · cases h
      · cases h
    · cases h
theorem lc_rd {it : I} {t : T} {cs : Es} {w : List Nat} {f : Bool} {σ : L2.St} {H : Hp} {Q : VK} (hw : ∀ i ∈ t.ids, i ∈ w) (h : tI X.K call (.lc f w t it cs ma) σ H Q) :
    tLc (tIt X.K call it) (gT X.K t) (tCs X.K call cs) (tI X.K call ma) w σ H Q := by
  obtain ⟨φ, M, env, v, M', m, r, e, k⟩ := h
  unfold Ev.eval at e
  obtain ⟨⟨⟨xs, g⟩, M1⟩, e1, e⟩ := bindE e
  obtain ⟨⟨vs, M2⟩, e2, e⟩ := bindE e
  obtain ⟨hz, e⟩ := ifE e
  have hz := of_decide_eq_true hz
  have e := Option.some.inj e
  simp only at e2 hz
  refine ⟨φ, M, env, (xs, g), M1, m, r, e1, fun φ1 H1 J x1 m1 ok => fun D hD => ?_⟩
  simp only at ok
  -- ahead of turn i: what is left makes the rest
  refine ⟨fun i n H3 => ∃ (φ3 : Ph) (M3 : Mem) (acc : List PV) (us : List V), i + n = xs.length ∧ Xt φ1 H1 φ3 H3 ∧ RM X.K φ3 H3 M3 ∧ D ∈ φ3.r ∧ D ∉ φ3.c ∧ H3 D = some (.lst us) ∧ Rps X.K φ3 H3 acc us ∧
    lcL t g (Ev.conds call cs) (Ev.eval call ma) (wipeE env w) (xs.drop i) acc M3 = some (vs, M2), ⟨xs.length, φ1.hide D, M1, [], [], by omega, xt_hide hD, m1.enter hD, List.mem_cons_self, m1.notin hD, upd_same, .nil, e2⟩, ?_⟩
  rintro i n H3 ⟨φ3, M3, acc, us, hn, x3, m3, hd, nD, eD, ra, e3⟩
  have hgd : gOk g M3 = true := by
    cases hg : gOk g M3 with
    | true => rfl
    | false =>
      cases hd : xs.drop i with
      | nil => rw [hd] at e3; unfold lcL at e3; rw [hg] at e3; cases e3
      | cons a l => rw [hd] at e3; unfold lcL at e3; rw [hg] at e3; cases e3
  obtain ⟨go, stop, yld⟩ := ok φ3 H3 M3 x3 m3 hgd
  by_cases hi : i < xs.length
  · refine .inr ⟨go i hi, ?_⟩
    rw [List.drop_eq_getElem_cons hi] at e3
    unfold lcL at e3
    rw [hgd] at e3
    simp only at e3
    split at e3
    · rename_i env1 eb
      refine ⟨fun H' => ∃ n', n' < n ∧ ∃ (φ4 : Ph) (M4 : Mem) (acc4 : List PV) (us4 : List V), i + 1 + n' = xs.length ∧ Xt φ1 H1 φ4 H' ∧ RM X.K φ4 H' M4 ∧ D ∈ φ4.r ∧ D ∉ φ4.c ∧ H' D = some (.lst us4) ∧ Rps X.K φ4 H' acc4 us4 ∧
        lcL t g (Ev.conds call cs) (Ev.eval call ma) (wipeE env w) (xs.drop (i + 1)) acc4 M4 = some (vs, M2), fun H' h => ?_, fun x H4 hy => ?_⟩
      · obtain ⟨n', h1, φ4, M4, acc4, us4, h2⟩ := h
        exact ⟨n', h1, φ4, M4, acc4, us4, h2⟩
      · obtain ⟨v0, ev0, rv0, x4, mm⟩ := yld i x H4 hi hy
        rw [List.getElem?_eq_getElem hi] at ev0
        cases ev0
        have m4 := mm M3 m3
        have eD4 : H4 D = some (.lst us) := x4.keep _ _ eD fun z => absurd z nD
        have re4 : RE X.K φ3 H4 (wipeE env w) (L2.wipe σ w) := (r.mono (x1.trans (x3.trans x4))).wipe w
        refine gT_rd rv0 re4 eb fun σ' re' ew => ?_
        have hl := wipe_len_eq ew
        refine ⟨?_, ?_⟩
        · have := wipe_more ew hw hl
          rw [this]
          apply List.ext_getElem?
          intro j
          rw [wipe_get, wipe_get, wipe_length]
          by_cases kj : j ∈ w
          · rw [if_pos kj, if_pos kj]
          · rw [if_neg kj]
        · split at e3
          · rename_i M5 ec
            refine ⟨φ3, M3, env1, true, M5, m4, re', ec, fun φ5 H5 x5 m5 => ?_⟩
            show (if true = true then _ else _)
            rw [if_pos rfl]
            split at e3
            · rename_i v6 M6 ee
              refine tI.then_ m5 (re'.mono x5) ee fun φ6 H6 u6 x6 m6 r6 q6 => ?_
              have x46 : Xt φ3 H4 φ6 H6 := x5.trans x6
              have x36 : Xt φ3 H3 φ6 H6 := x4.trans x46
              have eD6 : H6 D = some (.lst us) := x36.keep _ _ eD fun z => absurd z nD
              have nD6 : D ∉ φ6.c := x36.notin eD nD
              have hd6 : D ∈ φ6.r := x36.res _ hd
              have hlen := lcL_len e3
              rw [List.length_append, List.length_singleton] at hlen
              have xa : Xt φ1 H1 φ6 H6 := x3.trans x36
              refine ⟨us, eD6, by rw [← ra.length]; omega, n - 1, by omega, φ6, M6, acc ++ [v6], us ++ [u6], by omega, ⟨xa.pre, xa.res, fun a o ea hc => ?_, xa.fresh, xa.freshr, fun a o ea => ?_⟩, m6.under eD6 hd6 nD6, hd6, nD6, upd_same, (((ra.mono x36).under eD6 hd6).append (.cons (q6.under eD6 hd6) .nil)), e3⟩
              · rw [upd_ne (ne_of_none ea hD)]
                exact xa.keep a o ea hc
              · obtain ⟨o', e'⟩ := xa.there a o ea
                exact ⟨o', by rw [upd_ne (ne_of_none ea hD)]; exact e'⟩
            · cases e3
          · rename_i M5 ec
            refine ⟨φ3, M3, env1, false, M5, m4, re', ec, fun φ5 H5 x5 m5 => ?_⟩
            show (if false = true then _ else _)
            rw [if_neg Bool.false_ne_true]
            have x35 := x4.trans x5
            exact ⟨n - 1, by omega, φ5, M5, acc, us, by omega, x3.trans x35, m5, x35.res _ hd, x35.notin eD nD, x35.keep _ _ eD fun z => absurd z nD, ra.mono x35, e3⟩
          · cases e3
    · cases e3
  · refine .inl ⟨stop i (by omega), ?_⟩
    rw [List.drop_eq_nil_of_le (by omega)] at e3
    unfold lcL at e3
    rw [hgd] at e3
    cases e3
    have m4 := m3.less (l := φ1.r) x3.res
    have ra4 := ra.less (l := φ1.r) x3.res
    have nD2 : D ∉ φ1.r := (m1.notin2 hD).2
    have x4 : Xt φ1 H1 ⟨φ3.c, φ1.r⟩ H3 := ⟨x3.pre, fun _ h => h, x3.keep, x3.fresh, fun _ h n => absurd h n, x3.there⟩
    cases f with
    | false =>
      cases e
      exact k _ _ _ (x1.trans x4) m4 (.lst eD ⟨nD, nD2⟩ ra4)
    | true =>
      cases e
      -- the list becomes a cell
      have x5 : Xt φ1 H1 (Ph.add ⟨φ3.c, φ1.r⟩ D) H3 := ⟨by
        obtain ⟨e, h⟩ := x3.pre
        exact ⟨e ++ [D], by show φ3.c ++ [D] = _; rw [h, List.append_assoc]⟩, fun _ h => h, x3.keep, fun a h n => by
        rcases List.mem_append.mp h with h | h
        · exact x3.fresh a h n
        · have : a = D := by simpa using h
          rw [this]; exact hD, fun _ h n => absurd h n, x3.there⟩
      have up : ∀ {v : PV} {u : V}, Rp X.K φ3 H3 v u → Rp X.K (Ph.add ⟨φ3.c, φ1.r⟩ D) H3 v u := fun h => h.shift x3.res hd
      refine k (Ph.add ⟨φ3.c, φ1.r⟩ D) H3 _ (x1.trans x5) ?_ (.ref ?_)
      · refine ⟨by simp [Ph.add, m3.len], ?_, m4.res, fun n a c h1 h2 => ?_⟩
        · show (φ3.c ++ [D]).Nodup
          rw [List.nodup_append]
          refine ⟨m3.nd, by simp, fun a ha b hb e => ?_⟩
          have : b = D := by simpa using hb
          subst this
          exact nD (e ▸ ha)
        · change (φ3.c ++ [D])[n]? = some a at h1
          by_cases kk : n < φ3.c.length
          · rw [List.getElem?_append_left kk] at h1
            rw [List.getElem?_append_left (by rw [← m3.len]; exact kk)] at h2
            have h3 := m3.cells n a c h1 h2
            cases c with
            | lst ys =>
              obtain ⟨ws, h4, h5⟩ := h3
              exact ⟨ws, h4, h5.shift x3.res hd⟩
            | dic _ => exact h3
          · have k2 : n = φ3.c.length := by
              have := (List.getElem?_eq_some_iff.mp h1).1
              simp at this
              omega
            subst k2
            rw [List.getElem?_append_right (Nat.le_refl _)] at h1
            rw [m3.len, List.getElem?_append_right (Nat.le_refl _)] at h2
            simp at h1 h2
            subst h1 h2
            exact ⟨us, eD, ra.shift x3.res hd⟩
      · show (φ3.c ++ [D])[M2.length]? = some D
        rw [← m3.len, List.getElem?_append_right (Nat.le_refl _)]
        simp
theorem i_lc {elt tg iter : Expr} {ifs : List Expr} {scope : Scope} {own : List (Str × Nat)} {it : I} {t : T} {cs : Es} (f : Bool) (hc : X.calm = true) (hN : X.N.Nodup) (hi : PI X tg iter (tIt X.K call it)) (ok : blkC X.N X.env.scope scope own = true) (hw : (t.ids.all fun i => (own.map (·.2)).contains i) = true)
    (hg : ∀ (s : Shared) (H : Hp) (C : Addr) (cl : List (Str × Addr)) (fp : List Addr), PG (X.blk s H scope (compEnvC scope cl C X.env) fp) tg (gT X.K t)) (ht : ∀ (s : Shared) (H : Hp) (C : Addr) (cl : List (Str × Addr)) (fp : List Addr), PTs (X.blk s H scope (compEnvC scope cl C X.env) fp) ifs (tCs X.K call cs))
    (he : ∀ (s : Shared) (H : Hp) (C : Addr) (cl : List (Str × Addr)) (fp : List Addr), PE (X.blk s H scope (compEnvC scope cl C X.env) fp) elt (tI X.K call ma)) (hs : ∀ x, foldedSetIterable iter X.env x = pure x := by intro _; rfl) :
    PE X (.ListComp elt [⟨tg, iter, ifs, 0⟩] scope pos) (tI X.K call (.lc f (own.map (·.2)) t it cs ma)) :=
  (pe_lc hc hN hi (blkOk_by ok) hg ht he hs).imp fun _ _ _ h => lc_rd (fun i hi => by
    have := List.all_eq_true.mp hw i hi
    simpa using this) h
end
end Ev

/-! sorted and max of ints in a list or a tuple. -/
namespace Ev
open PySem PySem.Spec PyProof.Rows L2
section
variable {prog : Program} {w : World} {A : Around} {E : Value → Shared → Prop} {s : Shared}
/-- what a tuple holds, gathered -/
theorem gather_tup {t : Addr} {vs : List Value} {Q : List Value → Shared → Prop} (ht : IsTup s.heap t vs.toArray) (hz : vs.length ≤ sizeLine)
    (h : Q vs { s with heap := (s.heap.push (seqObj "list" #[] 0)).update s.heap.objs.size (Obj.mapSeq (· ++ vs.toArray)) }) : wpAny (model prog w) A (collect (.ref t)) Q E s := by
  obtain ⟨o, ho, hc, n, hd⟩ := id ht
  have h0 : (s.heap.push (seqObj "list" #[] 0)).get? s.heap.objs.size = some (seqObj "list" #[] 0) := Heap.get?_push_size _ rfl
  have h1 : (s.heap.push (seqObj "list" #[] 0)).get? t = some o := Heap.get?_push_of_some _ ho
  have h2 : ((s.heap.push (seqObj "list" #[] 0)).update s.heap.objs.size (Obj.mapSeq (· ++ vs.toArray))).get? s.heap.objs.size = _ := get?_update_seq h0 _
  unfold collect
  refine wpAny_bind (wpAny_runValue (codeAny_builtin entry_proto_collect' ?_))
  refine wpAny_bind (m := newList []) (wpAny_newList (wpAny_pure ⟨Code.quiet_builtin _ (by decide +kernel), codeAny_builtin entry_list_iadd' ?_⟩))
  show wpAny _ _ (Builtin.List.listExtendWith (.ref s.heap.objs.size) (.ref t) (.ref s.heap.objs.size)) _ _ _
  unfold Builtin.List.listExtendWith
  refine wpAny_bind (wpAny_typeOf (T := "tuple") ⟨o, h1, hc⟩ ?_)
  have hb : (Value.type "tuple" == Value.type "tuple") = true := by rfl
  rw [hb, Bool.or_true, if_pos rfl]
  refine wpAny_bind (listItems_at h1 hd (wpAny_bind (listItems_at h0 rfl ?_)))
  rw [if_neg (by simp)]
  refine wpAny_bind (listUpdate_at h0 rfl ?_ (Nat.zero_le _) (by simp only [Array.size_append, List.size_toArray, List.length_nil]; omega))
  refine wpAny_pure (wpAny_bind (m := load s.heap.objs.size) (wpAny_load h2 ?_))
  show wpAny _ _ (pure ((#[] : Array Value) ++ vs.toArray).toList) Q E _
  rw [show ((#[] : Array Value) ++ vs.toArray).toList = vs by simp]
  exact wpAny_pure h
theorem sorted_tupI {t : Addr} {vs : List Value} {ns : List Int} {Q : Value → Shared → Prop} (hi : IntsAre vs ns) (ht : IsTup s.heap t vs.toArray) (hz : vs.length ≤ sizeLine)
    (h : ∀ out : List Value, SrtO.Srtd SrtO.ltIv out → SrtO.Stb SrtO.ltIv out vs → Q (.ref (s.heap.objs.size + 1)) { s with heap := sortedAll s.heap vs out.toArray }) :
    wpAny (model prog w) A (call (.builtin "sorted") [.ref t]) Q E s := by
  refine Calls.call_function_entry kind_sorted plain_sorted entry_sorted (args_sorted1 _) ?_
  unfold Builtin.«sorted»
  refine wpAny_bind (m := checkCount "sorted" 1 1 _) (wpAny_pure (wpAny_bind (gather_tup ht hz (wpAny_bind (wpAny_newList ?_ hz)))))
  generalize hG : (s.heap.push (seqObj "list" #[] 0)).update s.heap.objs.size (Obj.mapSeq (· ++ vs.toArray)) = G
  have gs : G.objs.size = s.heap.objs.size + 1 := by rw [← hG, Heap.size_update]; exact size_push' ..
  have ga : (G.push (seqObj "list" vs.toArray 0)).get? (s.heap.objs.size + 1) = some (seqObj "list" vs.toArray 0) := gs ▸ Heap.get?_push_size _ rfl
  refine wpAny_bind (wpAny_holding (wpAny_call_entry slot_list_sort ⟨_, by rw [gs]; exact ga, rfl⟩ entry_list_sort ?_ (args_list_sort _)))
  rw [gs]
  refine SrtO.list_sort_ord SrtO.swo_int ga hz (fun h2 => SrtO.ints_sortable hi h2) fun out hs hb => ⟨_, rfl, wpAny_pure ⟨_, rfl, ?_⟩⟩
  have := h out hs hb
  unfold sortedAll at this
  rw [hG] at this
  exact this
theorem max_tupI {t : Addr} {its : List Value} {ns : List Int} {Q : Value → Shared → Prop} (hh : A.handled = none) (ht : IsTup s.heap t its.toArray) (hi : IntsAre its ns) (h0 : 0 < ns.length)
    (h : ∀ h' tk m t', (∀ b o, s.heap.get? b = some o → h'.get? b = some o) → m ∈ ns → (∀ a, a ∈ ns → a ≤ m) → Q (.int m t') { s with heap := h', toks := tk }) : wpAny (model prog w) A (call (.builtin "max") [.ref t]) Q E s := by
  obtain ⟨xs, e⟩ := hi.allInts.items
  obtain rfl : xs.toList.map (·.1) = ns := by rw [← nums_intItems, ← e]; exact hi.numsOf
  rw [e] at ht
  have hp : 0 < xs.size := by simpa using h0
  have hlt : t < s.heap.objs.size := by obtain ⟨_, q, _⟩ := ht; exact Heap.lt_size q
  have hf : ∀ b ∈ [s.heap.objs.size, t], b < (s.heap.push { cls := .type "tuple_iterator", data := .fields #[.ref t, .int 0 0] }).objs.size := fun b hb => by
    rw [Heap.size_push]
    simp only [List.mem_cons, List.not_mem_nil, or_false] at hb
    rcases hb with rfl | rfl
    · exact Nat.lt_succ_self _
    · exact Nat.lt_succ_of_lt hlt
  have hT : (s.heap.push { cls := .type "tuple_iterator", data := .fields #[.ref t, .int 0 0] }).IsTuple t (intItems xs) := by
    obtain ⟨o, q, r⟩ := ht
    exact ⟨o, Heap.get?_push_of_some _ q, r⟩
  refine call_max_walk (wpAny_pyIter_tuple ht ⟨_, _, _, _, _, _, _, rfl, Walks.tuple (A := A.in1) hh _ t (Nat.ne_of_lt hlt) (intItems xs), ⟨⟨_, Heap.get?_push_size _ rfl, rfl, rfl⟩, hT⟩, hf, by simpa [intItems] using hp,
    CmpOf.ints_gt (numAt xs) (fun _ _ => intItems_at), fun v h' tk hP hk => ?_⟩)
  obtain ⟨t', rfl⟩ := intItems_at hP
  have hz : (intItems xs).size = xs.size := by simp [intItems]
  rw [hz]
  obtain ⟨k1, k2⟩ := argBest_gt (numAt xs) (xs.size - 1)
  refine h h' tk _ t' (fun b o q => hk b o (fun hm => ?_) (Heap.get?_push_of_some _ q)) ?_ fun a ha => ?_
  · have := Heap.lt_size q
    simp only [List.mem_cons, List.not_mem_nil, or_false] at hm
    exact absurd (hm ▸ this) (Nat.lt_irrefl _)
  · rw [numAt_eq]; exact PySem.getD_mem (by rw [List.length_map, Array.length_toList]; exact Nat.lt_of_le_of_lt k1 (by omega))
  · obtain ⟨j, hj, rfl⟩ := mem_getD ha
    rw [List.length_map, Array.length_toList] at hj
    rw [← numAt_eq]; exact k2 j (by omega)
end
section
variable {X : Cx}
def rMaxT (K : PySem.W.Frag) : List V → Hp → VK → Prop := fun vs H Q => ∃ (a : Addr) (ns : List Int), vs = [V.ref a] ∧ SqT K H a (ns.map V.int) ∧ 0 < ns.length ∧ ∀ m, m ∈ ns → (∀ y, y ∈ ns → y ≤ m) → Q (.int m) H
theorem call_maxT (hc : X.calm = true) : CallR X (.builtin "max") (rMaxT X.K) := by
  intro pins s σ H vs us Q I r ⟨a, ns, e, hs, h0, q⟩
  subst e
  obtain ⟨its, rv, pl, _⟩ := I.tuple hs
  rw [Vals.ref1 r]
  exact max_tupI (I.ok.hd hc) pl rv.ints h0 fun h' tk m t' hk k1 k2 => ⟨.int _, H, I.kept hk, ⟨_, rfl⟩, q m k1 k2⟩
def rSrtT (K : PySem.W.Frag) : List V → Hp → VK → Prop := fun vs H Q => ∃ (a : Addr) (ns : List Int), vs = [V.ref a] ∧ SqT K H a (ns.map V.int) ∧
  ∀ (ms : List Int) (p : Addr), ms.Perm ns → ms.Pairwise (· ≤ ·) → H p = none → Q (.ref p) (upd H p (.lst (ms.map V.int)))
theorem call_sortedT : CallR X (.builtin "sorted") (rSrtT X.K) := by
  intro pins s σ H vs us Q I r ⟨a, ns, e, hs, q⟩
  subst e
  obtain ⟨its, rv, pl, hz⟩ := I.tuple hs
  rw [Vals.ref1 r]
  refine sorted_tupI rv.ints pl (by rw [← rv.length]; exact hz) fun out k1 k2 => ?_
  obtain ⟨j1, j2, j3⟩ := SrtO.ints_out rv.ints k1 k2
  obtain ⟨ep, he⟩ := PyProof.Rows.sortedAll_at s.heap its out.toArray
  have hl : ((out.map SrtO.iv).map V.int).length ≤ sizeLine := by
    have := j2.length_eq
    rw [List.length_map] at hz ⊢
    omega
  exact ⟨.ref _, upd H (s.heap.objs.size + 1) (.lst ((out.map SrtO.iv).map V.int)), I.laid (t' := s.toks) (fun _ _ => PyProof.Rows.sortedAll_old) (Nat.le_succ _) ⟨hl, out, ep, vals_of_ints j1, he⟩, rfl, q _ _ j2 j3 (I.hok.fresh (Nat.le_succ _))⟩
theorem srt_uniq {ms ns : List Int} (h : ms.Perm ns) (s : ms.Pairwise (· ≤ ·)) : ms = srtI ns := by
  have p : ms.Perm (srtI ns) := h.trans (List.mergeSort_perm ns _).symm
  refine p.eq_of_pairwise (le := fun a b => a ≤ b) (fun a b _ _ => Int.le_antisymm) s ?_
  have := List.pairwise_mergeSort (le := fun a b : Int => decide (a ≤ b)) (fun a b c => by simp; omega) (fun a b => by simp; omega) ns
  exact this.imp fun h => of_decide_eq_true h
theorem ints_sq {K : PySem.W.Frag} {φ : Ph} {H : Hp} {M : Mem} {v : PV} {u : V} {xs : List PV} {ns : List Int} (m : RM K φ H M) (h : Rp K φ H v u) (e1 : itemsT M v = some xs) (e2 : intsOf xs = some ns) :
    ∃ a, u = .ref a ∧ (SqL K H a (ns.map V.int) ∨ SqT K H a (ns.map V.int)) ∧ Rps K φ H xs (ns.map V.int) := by
  obtain ⟨a, ws, rfl, h1, h2⟩ := itemsT_sq m h e1
  obtain rfl := ints_rps h2 e2
  exact ⟨a, rfl, h1, h2⟩
theorem ints_back {K : PySem.W.Frag} {φ : Ph} {H : Hp} : ∀ ms : List Int, Rps K φ H (ms.map PV.int) (ms.map V.int)
  | [] => .nil
  | x :: xs => .cons (.int x) (ints_back xs)
theorem c_sorted {f : Bool} : CallR X (.builtin "sorted") (rBl X.K .srt f) := (CallR.or cr_sortedI call_sortedT).imp fun xs H Q ⟨φ, M, vs, z, m, r, e, k⟩ => by
  change srtB M vs = some z at e
  unfold srtB at e
  split at e
  · obtain ⟨ys, e1, e⟩ := obind e
    obtain ⟨ns, e2, rfl⟩ := mapE e
    obtain ⟨u, rfl, h⟩ := one_of r
    obtain ⟨a, rfl, h1, h2⟩ := ints_sq m h e1 e2
    have fin : ∀ (ms : List Int) (p : Addr), ms.Perm ns → ms.Pairwise (· ≤ ·) → H p = none → Q (.ref p) (upd H p (.lst (ms.map V.int))) := fun ms p hp hs hn => by
      obtain rfl := srt_uniq hp hs
      exact k.asL m (ints_back _) hn
    exact h1.elim (fun h1 => .inl ⟨a, ns, rfl, h1, fin⟩) fun h1 => .inr ⟨a, ns, rfl, h1, fin⟩
  · cases e
theorem c_maxT (hc : X.calm = true) {f : Bool} : CallR X (.builtin "max") (rBl X.K .maxt f) := (call_maxT hc).imp fun xs H Q ⟨φ, M, vs, z, m, r, e, k⟩ => by
  change maxtB M vs = some z at e
  unfold maxtB at e
  split at e
  · rename_i ys
    obtain ⟨ns, e2, e⟩ := obind e
    obtain ⟨n, e3, rfl⟩ := mapE e
    obtain ⟨u, rfl, h⟩ := one_of r
    cases h with
    | tup h1 h2 =>
    obtain rfl := ints_rps h2 e2
    refine ⟨_, ns, rfl, h1, ?_, fun m' hm hy => ?_⟩
    · cases ns with
      | nil => cases e3
      | cons _ _ => exact Nat.succ_pos _
    · rw [maxI_ok e3 hm hy]
      exact k.asM m (.int _) fun _ h => nomatch h
  · cases e
end
end Ev

/-! tuple(zip(a, b)) of two lists. -/
namespace Ev
open PySem PySem.Spec PyProof.Rows L2
theorem nolen_zip : typeLookup (.type "zip") "__len__" = pure none := by rw [typeLookup_type, builtinLookup_eq_fast]; kernel_rfl
theorem nohint_zip : typeLookup (.type "zip") "__length_hint__" = pure none := by rw [typeLookup_type, builtinLookup_eq_fast]; kernel_rfl

/-- pairs of what is left, each a new tuple -/
inductive Zp : Hp → List V → List V → List V → Hp → Prop
  | nil {H : Hp} {xs ys : List V} (h : xs = [] ∨ ys = []) : Zp H xs ys [] H
  | cons {H H' : Hp} {T : Addr} {x y : V} {xs ys ws : List V} (h : H T = none) (r : Zp (upd H T (.tup [x, y])) xs ys ws H') : Zp H (x :: xs) (y :: ys) (.ref T :: ws) H'

def ZS (z TI TO i1 i2 l1 l2 S : Addr) (xs ys : Array Value) (i : Nat) (h : Heap) : Prop :=
  IsPair h TI (.ref i1) (.ref i2) ∧ h.IsListIter i1 l1 i ∧ h.IsListIter i2 l2 i ∧ h.IsList l1 xs ∧ h.IsList l2 ys ∧ (∃ o, h.get? TO = some o) ∧
    ((IsZip h z TI TO .none ∧ ∃ a b, IsPair h TO a b) ∨ ∃ T f oT, IsZipHeld h z TI TO T f ∧ h.get? T = some oT ∧ T ≠ z ∧ T ≠ i1 ∧ T ≠ i2 ∧ T ≠ S)
theorem ZS.frame {z TI TO i1 i2 l1 l2 S : Addr} {xs ys : Array Value} {i : Nat} {h h' : Heap} (st : ZS z TI TO i1 i2 l1 l2 S xs ys i h)
    (nz : S ≠ z) (nTI : S ≠ TI) (nTO : S ≠ TO) (n1 : S ≠ i1) (n2 : S ≠ i2) (m1 : S ≠ l1) (m2 : S ≠ l2) (hk : ∀ b o, b ≠ S → h.get? b = some o → h'.get? b = some o) : ZS z TI TO i1 i2 l1 l2 S xs ys i h' := by
  obtain ⟨hTI, h1, h2, hl1, hl2, ⟨oo, ho⟩, hz⟩ := st
  refine ⟨hk _ _ (Ne.symm nTI) hTI, h1.at fun o e => hk _ o (Ne.symm n1) e, h2.at fun o e => hk _ o (Ne.symm n2) e, hl1.at fun o e => hk _ o (Ne.symm m1) e, hl2.at fun o e => hk _ o (Ne.symm m2) e, ⟨oo, hk _ _ (Ne.symm nTO) ho⟩, ?_⟩
  rcases hz with ⟨hz, a, b, hTO⟩ | ⟨T, f, oT, hz, hT, r1, r2, r3, r4⟩
  · exact .inl ⟨hk _ _ (Ne.symm nz) hz, a, b, hk _ _ (Ne.symm nTO) hTO⟩
  · exact .inr ⟨T, f, oT, hk _ _ (Ne.symm nz) hz, hk _ _ r4 hT, r1, r2, r3, r4⟩
theorem fpOk_upd {X : Cx} {pins : List (Addr × Obj)} {H : Hp} {b T : Addr} {o : HO} (h : FpOk X pins H b) (n : b ≠ T) : FpOk X pins (upd H T o) b :=
  ⟨by rw [upd_ne n]; exact h.1, h.2⟩
section
variable {X : Cx} {pins : List (Addr × Obj)} {σ : L2.St} {z TI TO i1 i2 l1 l2 S : Addr} {its its2 : List Value} {xs ys : List V} {R : Result → Shared → Prop} {A : Around}
theorem loop_zip (hh : A.handled = none) (D : ZipApart z TI TO i1 i2 l1 l2) (nz : S ≠ z) (nTI : S ≠ TI) (nTO : S ≠ TO) (n1 : S ≠ i1) (n2 : S ≠ i2) (m1 : S ≠ l1) (m2 : S ≠ l2)
    (rx : Vals xs its) (ry : Vals ys its2) (res : Value) (hn : min its.length its2.length ≤ sizeLine) :
    ∀ (k i : Nat) (s : Shared) (acc : Array Value) (c : Nat) (H : Hp) (aV : List V), min its.length its2.length - i = k → i ≤ min its.length its2.length → Inv X pins σ H s → (∀ b ∈ [S, z, TI, TO, i1, i2], FpOk X pins H b) →
      ZS z TI TO i1 i2 l1 l2 S its.toArray its2.toArray i s.heap → s.heap.get? S = some { cls := .type "list", dict := none, data := .seq acc c, slots := #[] } → Vals aV acc.toList → acc.size = i →
      (∀ H' s' acc' c' ws, Inv X pins σ H' s' → Zp H (xs.drop i) (ys.drop i) ws H' → s'.heap.get? S = some { cls := .type "list", dict := none, data := .seq acc' c', slots := #[] } → Vals (aV ++ ws) acc'.toList → acc'.size = min its.length its2.length → H' S = none → R (.ok (.ret res)) s') →
      codeAny (model X.prog X.w) A (.builtin "list.extend.loop" ⟨[.ref S, .ref z, res], []⟩) R s := by
  have lx := rx.length
  have ly := ry.length
  intro k
  induction k with
  | zero =>
    intro i s acc c H aV hk hi I fp st hS ra ha hR
    have hin : i = min its.length its2.length := by omega
    obtain ⟨hTI, h1, h2, hl1, hl2, ⟨oo, ho⟩, hz⟩ := st
    have hend : its.toArray[i]? = none ∨ its2.toArray[i]? = none := by
      rcases Nat.le_total its.length its2.length with h | h
      · exact .inl (by simp; omega)
      · exact .inr (by simp; omega)
    have hd : xs.drop i = [] ∨ ys.drop i = [] := by
      rcases Nat.le_total its.length its2.length with h | h
      · exact .inl (List.drop_eq_nil_of_le (by omega))
      · exact .inr (List.drop_eq_nil_of_le (by omega))
    refine codeAny_builtin F.entry_extend_loop ?_
    rw [Around.under_plainId F.plain_extend_loop _]
    show wpAny _ A.in1 (pyNext (.ref z) >>= _) _ _ s
    have fin : ∀ h' : Heap, (∀ c o, c ≠ z → c ≠ TO → c ≠ i1 → c ≠ i2 → s.heap.get? c = some o → h'.get? c = some o) → R (.ok (.ret res)) { s with heap := h' } := fun h' hk' => by
      have I1 : Inv X pins σ H { s with heap := h' } := I.turnedL (t' := s.toks) (ch := [z, TO, i1, i2]) (fun b o hb e => hk' b o (fun q => hb (by simp [q])) (fun q => hb (by simp [q])) (fun q => hb (by simp [q])) (fun q => hb (by simp [q])) e) (fun b hb => fp b (by simp at hb ⊢; rcases hb with q | q | q | q <;> simp [q]))
      exact hR H _ acc c [] I1 (.nil hd) (hk' S _ nz nTO n1 n2 hS) (by rw [List.append_nil]; exact ra) (by omega) (fp S (by simp)).1
    rcases hz with ⟨hz, a, b, hTO⟩ | ⟨T, f, oT, hz, hT, r1, r2, r3, r4⟩
    · exact wpAny_bind (wpAny_pyNext_zip_end hh D hz hTI hTO h1 h2 hl1 hl2 hend fun h' hk' => wpAny_pure (fin h' hk'))
    · exact wpAny_bind (wpAny_pyNext_zip_end_held hh D hz hT hTI h1 h2 hl1 hl2 hend fun h' hk' => wpAny_pure (fin h' fun c o q1 q2 q3 q4 e => hk' c o q1 q3 q4 e))
  | succ k ih =>
    intro i s acc c H aV hk hi I fp st hS ra ha hR
    obtain ⟨hTI, h1, h2, hl1, hl2, ⟨oo, ho⟩, hz⟩ := st
    have hlt : i < min its.length its2.length := by omega
    have q1 : i < its.length := Nat.lt_of_lt_of_le hlt (Nat.min_le_left ..)
    have q2 : i < its2.length := Nat.lt_of_lt_of_le hlt (Nat.min_le_right ..)
    have p1 : i < xs.length := by omega
    have p2 : i < ys.length := by omega
    obtain ⟨u, eu, ru⟩ := rx.get (i := i) (List.getElem?_eq_getElem p1)
    obtain ⟨u2, eu2, ru2⟩ := ry.get (i := i) (List.getElem?_eq_getElem p2)
    have ex : its.toArray[i]? = some u := by simpa using eu
    have ey : its2.toArray[i]? = some u2 := by simpa using eu2
    have lt : ∀ {c o}, s.heap.get? c = some o → s.heap.objs.size ≠ c := fun e => Nat.ne_of_gt (Heap.lt_size e)
    have N1 : s.heap.objs.size ≠ i1 := let ⟨_, e, _⟩ := h1; lt e
    have N2 : s.heap.objs.size ≠ i2 := let ⟨_, e, _⟩ := h2; lt e
    have NS : s.heap.objs.size ≠ S := lt hS
    have NTI : s.heap.objs.size ≠ TI := lt hTI
    have NTO : s.heap.objs.size ≠ TO := lt ho
    have Nz : s.heap.objs.size ≠ z := by
      rcases hz with ⟨hz, _⟩ | ⟨_, _, _, hz, _⟩
      · exact lt hz
      · exact lt hz
    have Nl1 : s.heap.objs.size ≠ l1 := let ⟨_, e, _⟩ := hl1; lt e
    have Nl2 : s.heap.objs.size ≠ l2 := let ⟨_, e, _⟩ := hl2; lt e
    have dx : xs.drop i = xs[i] :: xs.drop (i + 1) := List.drop_eq_getElem_cons p1
    have dy : ys.drop i = ys[i] :: ys.drop (i + 1) := List.drop_eq_getElem_cons p2
    refine codeAny_builtin F.entry_extend_loop ?_
    rw [Around.under_plainId F.plain_extend_loop _]
    show wpAny _ A.in1 (pyNext (.ref z) >>= _) _ _ s
    have step : ∀ h' : Heap, ZS z TI TO i1 i2 l1 l2 S its.toArray its2.toArray (i + 1) h' → h'.get? s.heap.objs.size = some { cls := .type "tuple", data := .seq #[u, u2] } →
        (∀ c o, c ≠ z → c ≠ TO → c ≠ i1 → c ≠ i2 → s.heap.get? c = some o → h'.get? c = some o) →
        wpAny (model X.prog X.w) A.in1 (updateSeq S (·.push (Value.ref s.heap.objs.size)) >>= fun _ => again (.builtin "list.extend.loop" ⟨[.ref S, .ref z, res], []⟩))
          (fun fin s' => match fin with | .done f => R (.ok f) s' | .again c' => c'.quiet = true ∧ codeAny (model X.prog X.w) A c' R s') (fun e s' => R (.error e) s') { s with heap := h' } := fun h' st' hT hk' => by
      have new : ObjOk X.prog X.w (upd H s.heap.objs.size (.tup [xs[i], ys[i]])) h' s.heap.objs.size (.tup [xs[i], ys[i]]) :=
        ⟨by show 2 ≤ sizeLine; decide, [u, u2], .cons ru (.cons ru2 .nil), ⟨_, hT, rfl, _, rfl⟩⟩
      have I1 : Inv X pins σ (upd H s.heap.objs.size (.tup [xs[i], ys[i]])) { s with heap := h' } :=
        I.turnedNew (t' := s.toks) (ch := [z, TO, i1, i2]) (fun b o hb e => hk' b o (fun q => hb (by simp [q])) (fun q => hb (by simp [q])) (fun q => hb (by simp [q])) (fun q => hb (by simp [q])) e) (fun b hb => fp b (by simp at hb ⊢; rcases hb with q | q | q | q <;> simp [q])) (Nat.le_refl _) new
      have fp1 : ∀ b ∈ [S, z, TI, TO, i1, i2], FpOk X pins (upd H s.heap.objs.size (.tup [xs[i], ys[i]])) b := fun b hb => fpOk_upd (fp b hb) (by
        simp at hb
        rcases hb with q | q | q | q | q | q <;> rw [q]
        · exact Ne.symm NS
        · exact Ne.symm Nz
        · exact Ne.symm NTI
        · exact Ne.symm NTO
        · exact Ne.symm N1
        · exact Ne.symm N2)
      have hS' := hk' S _ nz nTO n1 n2 hS
      obtain ⟨f0, f1, f2, f3, f4, f5⟩ := fp1 S (by simp)
      refine wpAny_bind ?_
      refine wpAny_updateSeq (s := { s with heap := h' }) hS' rfl (wpAny_pure ⟨plainId_quiet F.plain_extend_loop _, ih (i + 1) _ (acc.push (.ref s.heap.objs.size)) _ (upd H s.heap.objs.size (.tup [xs[i], ys[i]])) (aV ++ [.ref s.heap.objs.size]) (by omega) hlt ?_ fp1 ?_ (Heap.get?_update_self _ hS' rfl) ?_ ?_ ?_⟩)
        (by rw [ha]; omega) (by show (acc.push _).size ≤ sizeLine + 1; rw [Array.size_push, ha]; omega)
      · exact I1.turned (t' := s.toks) (it := S) (fun b o hb e => (Heap.get?_update_other _ _ (Ne.symm hb)).trans e) f0 f1 f3 f4 f5
      · exact st'.frame nz nTI nTO n1 n2 m1 m2 fun b o hb e => (Heap.get?_update_other _ _ (Ne.symm hb)).trans e
      · rw [Array.toList_push]; exact ra.append (.cons rfl .nil)
      · rw [Array.size_push, ha]
      · intro H' s' acc' c' ws I' zp e r' l' n'
        refine hR H' s' acc' c' (.ref s.heap.objs.size :: ws) I' ?_ e (by rw [List.append_assoc] at r'; exact r') l' n'
        rw [dx, dy]
        exact .cons (I.hok.fresh (Nat.le_refl _)) zp
    rcases hz with ⟨hz, a, b, hTO⟩ | ⟨T, f, oT, hz, hT, r1, r2, r3, r4⟩
    · refine wpAny_bind (wpAny_pyNext_zip_item D hz hTI hTO h1 h2 hl1 hl2 ex ey fun h' a1 a2 a3 a4 a5 a6 hk' => ?_)
      refine step h' ⟨hk' _ _ D.TIz D.TITO D.TIi1 D.TIi2 hTI, a3, a4, hl1.at fun o e => hk' _ o D.l1z D.l1TO D.l1i1 D.l1i2 e, hl2.at fun o e => hk' _ o D.l2z D.l2TO D.l2i1 D.l2i2 e, ⟨_, a2⟩,
              .inr ⟨s.heap.objs.size, false, _, a1, a5, Nz, N1, N2, NS⟩⟩ a5 hk'
    · refine wpAny_bind (wpAny_pyNext_zip_item_held D hz hT hTI h1 h2 hl1 hl2 ex ey fun h' a1 a3 a4 a5 a6 hk' => ?_)
      have zTO : TO ≠ z := D.TOz
      refine step h' ⟨hk' _ _ D.TIz D.TIi1 D.TIi2 hTI, a3, a4, hl1.at fun o e => hk' _ o D.l1z D.l1i1 D.l1i2 e, hl2.at fun o e => hk' _ o D.l2z D.l2i1 D.l2i2 e, ⟨_, hk' _ _ D.TOz D.TOi1 D.TOi2 ho⟩,
              .inr ⟨T, true, oT, a1, hk' _ _ r1 r2 r3 hT, r1, r2, r3, r4⟩⟩ a5 fun c o q1 _ q3 q4 e => hk' c o q1 q3 q4 e
/-- what stands when a zip of two lists has come -/
structure ZipNew (s : Shared) (z TI TO i1 i2 l1 l2 : Addr) : Prop where
  D : ZipApart z TI TO i1 i2 l1 l2
  hz : IsZip s.heap z TI TO .none
  hTI : IsPair s.heap TI (.ref i1) (.ref i2)
  hTO : ∃ a b, IsPair s.heap TO a b
  h1 : s.heap.IsListIter i1 l1 0
  h2 : s.heap.IsListIter i2 l2 0
theorem collect_zip {s : Shared} {H : Hp} {E : Value → Shared → Prop} {Q : List Value → Shared → Prop} (hh : A.handled = none) (Z : ZipNew s z TI TO i1 i2 l1 l2) (hl1 : s.heap.IsList l1 its.toArray) (hl2 : s.heap.IsList l2 its2.toArray)
    (rx : Vals xs its) (ry : Vals ys its2) (hn : min its.length its2.length ≤ sizeLine) (I : Inv X pins σ H s) (fp : ∀ b ∈ [z, TI, TO, i1, i2], FpOk X pins H b)
    (hQ : ∀ H' s' ws us, Inv X pins σ H' s' → Zp H xs ys ws H' → Vals ws us → us.length ≤ sizeLine → Q us s') :
    wpAny (model X.prog X.w) A (collect (.ref z)) Q E s := by
  obtain ⟨D, hz, hTI, ⟨ta, tb, hTO⟩, h1, h2⟩ := Z
  have lt : ∀ {c o}, s.heap.get? c = some o → s.heap.objs.size ≠ c := fun e => Nat.ne_of_gt (Heap.lt_size e)
  have N1 : s.heap.objs.size ≠ i1 := let ⟨_, e, _⟩ := h1; lt e
  have N2 : s.heap.objs.size ≠ i2 := let ⟨_, e, _⟩ := h2; lt e
  have Nl1 : s.heap.objs.size ≠ l1 := let ⟨_, e, _⟩ := hl1; lt e
  have Nl2 : s.heap.objs.size ≠ l2 := let ⟨_, e, _⟩ := hl2; lt e
  have hT0 : s.TypeIs (.ref z) "zip" := ⟨_, hz, rfl⟩
  unfold collect
  refine wpAny_bind (wpAny_runValue (codeAny_builtin F.entry_proto_collect ?_))
  rw [Around.under_plainId F.plain_proto_collect _]
  show wpAny _ A.in1 (newList [] >>= fun l => again (.builtin "list.__iadd__" ⟨[l, .ref z], []⟩)) _ _ s
  refine wpAny_bind (wpAny_newObj_type ?_)
  refine wpAny_pure ⟨plainId_quiet F.plain_list_iadd _, codeAny_builtin F.entry_list_iadd ?_⟩
  rw [Around.under_plainId F.plain_list_iadd _]
  have up : ∀ b o, s.heap.get? b = some o → (s.heap.push { cls := .type "list", data := .seq ([] : List Value).toArray }).get? b = some o := fun b o e => Heap.get?_push_of_some _ e
  have hz1 := up _ _ hz
  have hT1 : ({ s with heap := s.heap.push { cls := .type "list", data := .seq ([] : List Value).toArray } } : Shared).TypeIs (.ref z) "zip" := ⟨_, hz1, rfl⟩
  show wpAny _ A.in1 (Builtin.List.listExtendWith (.ref s.heap.objs.size) (.ref z) (.ref s.heap.objs.size)) _ _ _
  unfold Builtin.List.listExtendWith
  refine wpAny_bind (wpAny_typeOf hT1 ?_)
  have e1 : Builtin.List.listSameRef (.ref s.heap.objs.size) (.ref z) = false := by simp [Builtin.List.listSameRef, lt hz]
  have e2 : (Value.type "zip" == Value.type "list") = false := by decide
  have e3 : (Value.type "zip" == Value.type "tuple") = false := by decide
  simp only [e1, e2, e3, Bool.or_false, Bool.false_eq_true, if_false]
  refine wpAny_bind (wpAny_pyIter_zip (s := { s with heap := s.heap.push { cls := .type "list", data := .seq ([] : List Value).toArray } }) hz1 ?_)
  refine wpAny_bind (wpAny_holding ?_)
  unfold Builtin.List.listLengthHint
  refine wpAny_bind (wpAny_specialOf hT1 nolen_zip ?_)
  show wpAny _ A.in1 (specialOf (Value.ref z) (Str.ofString "__length_hint__") >>= _) _ _ _
  refine wpAny_bind (wpAny_specialOf hT1 nohint_zip ?_)
  refine wpAny_pure ?_
  show wpAny _ A.in1 (rule "list.extend.makes-room" >>= fun _ => Builtin.List.listTouch (.ref s.heap.objs.size) >>= fun _ =>
    again (.builtin "list.extend.loop" ⟨[.ref s.heap.objs.size, .ref z, .ref s.heap.objs.size], []⟩)) _ _ _
  refine wpAny_bind (wpAny_rule ?_)
  have hS₁ : (s.heap.push { cls := .type "list", data := .seq ([] : List Value).toArray }).get? s.heap.objs.size = some { cls := .type "list", data := .seq ([] : List Value).toArray } := Heap.get?_push_size _ rfl
  refine wpAny_bind ?_
  show wpAny _ A.in1 (updateSeq s.heap.objs.size (·.push .none) >>= fun _ => updateSeq s.heap.objs.size (·.pop)) _ _ _
  refine wpAny_bind (wpAny_updateSeq hS₁ rfl ?_)
  have hS₂ := Heap.get?_update_self (Obj.mapSeq (·.push Value.none)) hS₁ rfl
  refine wpAny_updateSeq hS₂ rfl ?_
  have hS₃ := Heap.get?_update_self (Obj.mapSeq (·.pop)) hS₂ rfl
  have oth : ∀ b o, b ≠ s.heap.objs.size → (s.heap.push { cls := .type "list", data := .seq ([] : List Value).toArray }).get? b = some o →
      (((s.heap.push { cls := .type "list", data := .seq ([] : List Value).toArray }).update s.heap.objs.size (Obj.mapSeq (·.push Value.none))).update s.heap.objs.size (Obj.mapSeq (·.pop))).get? b = some o :=
    fun b o hb e => (Heap.get?_update_other _ _ (Ne.symm hb)).trans ((Heap.get?_update_other _ _ (Ne.symm hb)).trans e)
  have all : ∀ b o, s.heap.get? b = some o → (((s.heap.push { cls := .type "list", data := .seq ([] : List Value).toArray }).update s.heap.objs.size (Obj.mapSeq (·.push Value.none))).update s.heap.objs.size (Obj.mapSeq (·.pop))).get? b = some o :=
    fun b o e => oth b o (Ne.symm (lt e)) (up b o e)
  have I1 := I.kept (t' := s.toks) all
  have fpS : FpOk X pins H s.heap.objs.size := I.fpOk (Nat.le_refl _) (I.hok.fresh (Nat.le_refl _))
  refine wpAny_pure ⟨plainId_quiet F.plain_extend_loop _, loop_zip (R := _) hh D (lt hz) (lt hTI) (lt hTO) N1 N2 Nl1 Nl2 rx ry (.ref s.heap.objs.size) hn _ 0 _ _ _ H [] rfl (Nat.zero_le _) I1 (fun b hb => ?_)
    ⟨all _ _ hTI, h1.at fun o e => all _ o e, h2.at fun o e => all _ o e, hl1.at fun o e => all _ o e, hl2.at fun o e => all _ o e, ⟨_, all _ _ hTO⟩, .inl ⟨all _ _ hz, ta, tb, all _ _ hTO⟩⟩ hS₃ .nil rfl fun H' s' acc' c' ws I' zp e r' l' n' => ?_⟩
  · rcases List.mem_cons.mp hb with q | q
    · rw [q]; exact fpS
    · exact fp b q
  show wpAny _ A (load s.heap.objs.size >>= _) _ _ s'
  refine wpAny_bind (wpAny_load e ?_)
  exact wpAny_pure (hQ H' s' ws acc'.toList I' (by simpa using zp) (by simpa using r') (by rw [Array.length_toList]; omega))
theorem code_tuple_new_zip {s : Shared} {H : Hp} {E : Value → Shared → Prop} {Q₁ : Value → Shared → Prop} (hh : A.handled = none) (Z : ZipNew s z TI TO i1 i2 l1 l2) (hl1 : s.heap.IsList l1 its.toArray) (hl2 : s.heap.IsList l2 its2.toArray)
    (rx : Vals xs its) (ry : Vals ys its2) (hn : min its.length its2.length ≤ sizeLine) (I : Inv X pins σ H s) (fp : ∀ b ∈ [z, TI, TO, i1, i2], FpOk X pins H b)
    (h : ∀ H' s' ws us, Inv X pins σ H' s' → Zp H xs ys ws H' → Vals ws us → us.length ≤ sizeLine → Q₁ (.ref s'.heap.objs.size) { s' with heap := s'.heap.push { cls := .type "tuple", data := .seq us.toArray } }) :
    codeAny (model X.prog X.w) A (.call (.builtin "tuple.__new__") ⟨[.type "tuple", .ref z], []⟩) (wants Q₁ E) s := by
  refine codeAny_of_tree ?_
  show wpAny _ A.in1 (do checkBuiltinCall "tuple.__new__" ⟨[.type "tuple", .ref z], []⟩; again (.builtin "tuple.__new__" ⟨[.type "tuple", .ref z], []⟩)) _ _ s
  refine wpAny_bind (wpAny_of_eq (F.newCall_tuple_1 _) (wpAny_pure ⟨plainId_quiet F.plain_tuple_new _, codeAny_builtin F.entry_tuple_new ?_⟩))
  rw [Around.under_plainId F.plain_tuple_new _]
  have hsub := sub_tuple_self
  have hinit := init_tuple_lookup
  have hmh := madeHere_tuple
  have hTI : s.TypeIs (.ref z) "zip" := ⟨_, Z.hz, rfl⟩
  have hh1 : A.in1.handled = none := hh
  wp_walk using wpAny_typeOf hTI, collect_zip (A := A.in1) hh1 Z hl1 hl2 rx ry hn I fp
  intro H' s' ws us I' zp r' l'
  show wpAny _ _ (Builtin.Tuple.tupleExact us.toArray >>= fun v => ret v) _ _ _
  unfold Builtin.Tuple.tupleExact
  refine wpAny_bind (wpAny_newObj_type ?_ (by show us.toArray.size ≤ sizeLine; simpa using l'))
  exact wpAny_pure (h H' s' ws us I' zp r' l')
theorem call_tuple_zip {s : Shared} {H : Hp} {E : Value → Shared → Prop} {Q : Value → Shared → Prop} (hh : A.handled = none) (Z : ZipNew s z TI TO i1 i2 l1 l2) (hl1 : s.heap.IsList l1 its.toArray) (hl2 : s.heap.IsList l2 its2.toArray)
    (rx : Vals xs its) (ry : Vals ys its2) (hn : min its.length its2.length ≤ sizeLine) (I : Inv X pins σ H s) (fp : ∀ b ∈ [z, TI, TO, i1, i2], FpOk X pins H b)
    (hQ : ∀ H' s' ws us, Inv X pins σ H' s' → Zp H xs ys ws H' → Vals ws us → us.length ≤ sizeLine → Q (.ref s'.heap.objs.size) { s' with heap := s'.heap.push { cls := .type "tuple", data := .seq us.toArray } }) :
    wpAny (model X.prog X.w) A (call (.type "tuple") [.ref z]) Q E s := by
  refine callType_codes (Q₁ := fun obj s₁ => s₁.TypeIs obj "tuple" ∧ Q obj s₁) F.called_tuple (F.typeCall_tuple_1 _) F.entry_object_init
    (code_tuple_new_zip (A := A.in1) hh Z hl1 hl2 rx ry hn I fp fun H' s' ws us I' zp r' l' => ⟨⟨_, Heap.get?_push_size _ rfl, rfl⟩, hQ H' s' ws us I' zp r' l'⟩) fun obj s₁ h₁ => ?_
  exact ⟨h₁.1, F.args_object_init_2 obj _, object_init_meets F.called_tuple.init.lookup F.called_tuple.made (by decide) X.prog X.w A.in1 _ s₁ ⟨h₁.1, rfl, h₁.2⟩⟩
end
/-- tuple(zip(a, b)) of two lists -/
def tZipT (K : PySem.W.Frag) (ta : TA) : TE := fun σ H Q => ta σ H fun vs H1 => ∃ a b xs ys, vs = [.ref a, .ref b] ∧ SqL K H1 a xs ∧ SqL K H1 b ys ∧ ∀ ws H2 q, Zp H1 xs ys ws H2 → H2 q = none → Q (.ref q) (upd H2 q (.tup ws))
section
variable {X : Cx} {a b : Expr} {ta : TA} {p p2 pos pos2 : Pos}
theorem pe_zipT (hc : X.calm = true) (hg : Gl X "tuple") (hm : X.mg "tuple" = none) (hg2 : Gl X "zip") (hm2 : X.mg "zip" = none) (ha : PA X [a, b] ta)
    (hs : starEach [a, b] X.env = (false, PySem.eval a X.env) :: starEach [b] X.env := by rfl) (hpl : (backTo pos2 (starEach [b] X.env)).any (·.1) = false := by rfl)
    (na : starEach [.Call (.Name "zip" p2) [a, b] [] pos2] X.env = (false, PySem.eval (.Call (.Name "zip" p2) [a, b] [] pos2) X.env) :: starEach [] X.env := by rfl) :
    PE X (.Call (.Name "tuple" p) [.Call (.Name "zip" p2) [a, b] [] pos2] [] pos) (tZipT X.K ta) := by
  refine ⟨fun pins s σ H Q I h => ?_⟩
  refine Call_ (ld_blt I hg hm boot_tuple (PyProof.Rows.callWith_type1 (args_cons (thn (Q := fun v s1 => ∃ (z TI TO i1 i2 l1 l2 : Addr) (xs ys : List V) (its its2 : List Value) (H1 : Hp), v = .ref z ∧ ZipNew s1 z TI TO i1 i2 l1 l2 ∧ s1.heap.IsList l1 its.toArray ∧ s1.heap.IsList l2 its2.toArray ∧ Vals xs its ∧ Vals ys its2 ∧ min its.length its2.length ≤ sizeLine ∧ Inv X pins σ H1 s1 ∧ (∀ b ∈ [z, TI, TO, i1, i2], FpOk X pins H1 b) ∧ ∀ ws H2 q, Zp H1 xs ys ws H2 → H2 q = none → Q (.ref q) (upd H2 q (.tup ws))) ?_ fun v s1 hv => args_nil ?_) na) na))
  · refine Call_ (ld_blt I hg2 hm2 PyProof.Rows.boot_zip (PyProof.Rows.callWith_type1 (thn (ha.run pos2 pins s σ H _ I h) fun us s1 ⟨vs, H1, I1, r1, q1⟩ => ?_) hs hpl))
    obtain ⟨l1, l2, xs, ys, ex, hx, hy, q⟩ := q1
    subst ex
    cases r1 with
    | cons r rr =>
      cases rr with
      | cons r' rr =>
        cases rr
        cases r
        cases r'
        obtain ⟨its, rv, p1, z1⟩ := I1.list hx
        obtain ⟨its2, rv2, p2, z2⟩ := I1.list hy
        refine call_zip_2 p1.isList p2.isList fun h' hz hTI hTO h1 h2 hsz hk => ?_
        have I2 : Inv X pins σ H1 { s1 with heap := h' } := I1.kept (t' := s1.toks) hk
        refine ⟨_, _, _, _, _, l1, l2, xs, ys, its, its2, H1, rfl, ⟨PySem.W.ktu_apart s1.heap.objs.size l1 l2 p1.lt p2.lt, hz, hTI, ⟨_, _, hTO⟩, h1, h2⟩, p1.isList.at fun o e => hk _ o e, p2.isList.at fun o e => hk _ o e, rv, rv2, ?_, I2, fun c hcm => ?_, q⟩
        · have := rv.length; omega
        · have hle : s1.heap.objs.size ≤ c := by
            simp at hcm
            rcases hcm with z | z | z | z | z <;> rw [z] <;> first | exact Nat.le_add_right _ _ | exact Nat.le_refl _
          exact I1.fpOk hle (I1.hok.fresh hle)
  · obtain ⟨z, TI, TO, i1, i2, l1, l2, xs, ys, its, its2, H1, rfl, Z, hl1, hl2, rx, ry, hn, I1, fp, q⟩ := hv
    refine call_tuple_zip (I1.ok.hd hc) Z hl1 hl2 rx ry hn I1 fp fun H' s' ws us I' zp r' l' => ?_
    refine ⟨.ref s'.heap.objs.size, upd H' s'.heap.objs.size (.tup ws), I'.laid (t' := s'.toks) (fun b o e => Heap.get?_push_of_some _ e) (Nat.le_refl _) (show ObjOk X.prog X.w _ _ _ (.tup ws) from ⟨?_, us, r', IsTup.new _ _⟩), rfl, q _ _ _ zp (I'.hok.fresh (Nat.le_refl _))⟩
    have := r'.length
    omega
end
theorem Zp.rps {K : PySem.W.Frag} {φ : Ph} {M : Mem} {H H' : Hp} {xs ys ws : List V} (z : Zp H xs ys ws H') : ∀ {ps qs : List PV}, RM K φ H M → Rps K φ H ps xs → Rps K φ H qs ys → Xt φ H φ H' ∧ RM K φ H' M ∧ Rps K φ H' (List.zipWith pairP ps qs) ws := by
  induction z with
  | nil h =>
    intro ps qs m r1 r2
    refine ⟨.refl, m, ?_⟩
    rcases h with h | h
    · subst h; cases r1; exact .nil
    · subst h; cases r2; cases ps <;> exact .nil
  | @cons H H' T x y xs ys ws h r ih =>
    intro ps qs m r1 r2
    cases r1 with
    | cons a1 r1 =>
    cases r2 with
    | cons a2 r2 =>
    have x1 : Xt φ H φ (upd H T (.tup [x, y])) := xt_new h
    obtain ⟨x2, m2, q2⟩ := ih (m.new h) (r1.mono x1) (r2.mono x1)
    refine ⟨x1.trans x2, m2, .cons ?_ q2⟩
    have : Rp K φ (upd H T (.tup [x, y])) (pairP _ _) (.ref T) := .tup (.inl (.inl upd_same)) (.cons (a1.mono x1) (.cons (a2.mono x1) .nil))
    exact this.mono x2
section
variable {X : Cx} {call : Cl} {a b : Expr} {ma mb : E} {p p2 pos pos2 : Pos}
theorem i_ztup {f : Bool} (hc : X.calm = true) (hg : Gl X "tuple") (hm : X.mg "tuple" = none) (hg2 : Gl X "zip") (hm2 : X.mg "zip" = none) (ha : PA X [a, b] (tIs X.K call (.cons ma (.cons mb .nil))))
    (hs : starEach [a, b] X.env = (false, PySem.eval a X.env) :: starEach [b] X.env := by rfl) (hpl : (backTo pos2 (starEach [b] X.env)).any (·.1) = false := by rfl)
    (na : starEach [.Call (.Name "zip" p2) [a, b] [] pos2] X.env = (false, PySem.eval (.Call (.Name "zip" p2) [a, b] [] pos2) X.env) :: starEach [] X.env := by rfl) :
    PE X (.Call (.Name "tuple" p) [.Call (.Name "zip" p2) [a, b] [] pos2] [] pos) (tI X.K call (.blt .ztup f (.cons ma (.cons mb .nil)))) :=
  (pe_zipT hc hg hm hg2 hm2 ha hs hpl na).imp fun σ H Q ⟨φ, M, env, v, M', m, r, e, k⟩ => by
    unfold Ev.eval at e
    obtain ⟨⟨vs, M1⟩, e1, e⟩ := bindE e
    obtain ⟨z, e2, e⟩ := mapE e
    refine tIs.then_ m r e1 fun φ1 H1 u x1 m1 r1 q1 => ?_
    change ztupB M1 vs = some z at e2
    unfold ztupB at e2
    split at e2
    · rename_i pa pb pe
      cases h1 : items M1 pa with
      | none => rw [h1] at e2; cases e2
      | some xs =>
      rw [h1] at e2
      obtain ⟨ys, h2, rfl⟩ := mapE e2
      obtain ⟨u1, t1, rfl, q2, q3⟩ := two_of q1
      obtain ⟨p1, vs1, rfl, g1, g2⟩ := items_sq m1 q2 h1
      obtain ⟨p2, vs2, rfl, g3, g4⟩ := items_sq m1 q3 h2
      refine ⟨p1, p2, vs1, vs2, rfl, g1, g3, fun ws H2 q zp hq => ?_⟩
      obtain ⟨x2, m2, r2⟩ := zp.rps m1 g2 g4
      have k1 : Pst X.K φ H M1 (.tup (List.zipWith pairP xs ys)) Q := by
        cases f <;> (cases e; exact k)
      exact (k1.mono (x1.trans x2)).tup m2 r2 hq
    · cases e2
end
end Ev

/-! A table of the module: ints to plain values. -/
namespace Ev
open PySem PySem.Spec PyProof.Rows L2
def absT : Value → Option PV
  | .int i _ => some (.int i)
  | .str s _ => some (.str s)
  | .bool b => some (.bl b)
  | .none => some .non
  | _ => none
def entI (e : DictEntry) : Option (Int × PV) := match e.key with
  | .int k _ => if (e.hash == hashInt k) = true then (absT e.val).map fun v => (k, v) else none
  | _ => none
/-- the name x of the module is a table -/
def TabAt (K : PySem.W.Frag) (mg : Str → Option Value) (x : Str) (kvs : List (Int × PV)) : Prop :=
  ∃ a es ep, mg x = some (.ref a) ∧ K.lookup a = some { cls := .type "dict", dict := none, data := .dict es ep, slots := #[] } ∧ es.toList.map entI = kvs.map some ∧ (kvs.map (·.1)).Nodup
theorem absT_rel {u : Value} {v : PV} (h : absT u = some v) : ∃ z, RelV z u ∧ ∀ (K : PySem.W.Frag) φ H, Rp K φ H v z := by
  unfold absT at h
  split at h <;> cases h
  · exact ⟨.int _, ⟨_, rfl⟩, fun _ _ _ => .int _⟩
  · exact ⟨.str _, ⟨_, rfl⟩, fun _ _ _ => .str _⟩
  · exact ⟨.bl _, rfl, fun _ _ _ => .bl _⟩
  · exact ⟨.non, rfl, fun _ _ _ => .non⟩
theorem entI_get {e : DictEntry} {p : Int × PV} (h : entI e = some p) : (∃ t, e.key = .int p.1 t) ∧ e.hash = hashInt p.1 ∧ absT e.val = some p.2 := by
  unfold entI at h
  split at h
  · rename_i k t hk
    split at h
    · rename_i hh
      cases hv : absT e.val with
      | none => rw [hv] at h; cases h
      | some v =>
        rw [hv] at h
        cases h
        exact ⟨⟨t, hk⟩, eq_of_beq hh, rfl⟩
    · cases h
  · cases h
/-- the entries as keys and values -/
theorem tab_vs {P : Program} {w : World} : ∀ {es : List DictEntry} {kvs : List (Int × PV)}, es.map entI = kvs.map some → ∃ vs : List (Key × Value), Pairs (mixKind P w) es vs ∧ vs.map (·.1) = kvs.map (fun kv => Sum.inl kv.1) ∧ (∀ e ∈ es, ∃ k, (mixKind P w).is k e.key = true ∧ e.hash = (mixKind P w).hash k) ∧
    ∀ i v, (kvs.find? fun kv => decide (kv.1 = i)).map (·.2) = some v → ∃ u, valueAt vs (Sum.inl i) = some u ∧ absT u = some v
  | [], [], _ => ⟨[], .nil, rfl, (fun _ h => nomatch h), fun i v h => by cases h⟩
  | e :: es, p :: kvs, h => by
    rw [List.map_cons, List.map_cons] at h
    injection h with h1 h2
    obtain ⟨⟨t, hk⟩, hh, hv⟩ := entI_get h1
    obtain ⟨vs, a1, a2, a3, a4⟩ := tab_vs (P := P) (w := w) h2
    have hi : (mixKind P w).is (Sum.inl p.1) e.key = true := by rw [hk]; exact kV_is (k := Sum.inl p.1) ⟨t, rfl⟩
    refine ⟨(Sum.inl p.1, e.val) :: vs, .cons hi rfl a1, by rw [List.map_cons, List.map_cons, a2], fun e' he => ?_, fun i v hf => ?_⟩
    · rcases List.mem_cons.mp he with rfl | he
      · exact ⟨Sum.inl p.1, hi, hh⟩
      · exact a3 e' he
    · by_cases c : p.1 = i
      · subst c
        rw [List.find?_cons] at hf
        simp only [decide_true] at hf
        cases hf
        refine ⟨e.val, ?_, hv⟩
        unfold valueAt
        rw [List.find?_cons]
        simp
      · rw [List.find?_cons] at hf
        simp only [c, decide_false] at hf
        obtain ⟨u, b1, b2⟩ := a4 i v hf
        refine ⟨u, ?_, b2⟩
        unfold valueAt at b1 ⊢
        rw [List.find?_cons]
        have : ¬ ((Sum.inl p.1 : Key) = Sum.inl i) := fun z => c (Sum.inl.inj z)
        simp only [this, decide_false]
        exact b1
  | [], p :: kvs, h => by cases h
  | e :: es, [], h => by cases h
def tTab (a : Addr) (kvs : List (Int × PV)) (ty : TE) : TE := fun σ H Q => ty σ H fun y H1 => ∃ i v, y = .int i ∧ tabV kvs (.int i) = some v ∧ ∀ z, (∀ (K : PySem.W.Frag) φ H, Rp K φ H v z) → Q z H1
section
variable {X : Cx} {b : Expr} {p pos : Pos} {ty : TE} {x : Str} {kvs : List (Int × PV)}
theorem i_tab {call : Cl} {mb : E} (hg : Gl X x) (hT : TabAt X.K X.mg x kvs) (hb : PE X b (tI X.K call mb)) (hs : NoSl b := by intro _ _; rfl) (hd : (x == ("__debug__" : Str)) = false := by decide) :
    PE X (.Subscript (.Name x p) b pos) (tI X.K call (.tab kvs mb)) := by
  obtain ⟨a, es, ep, hm, hk, he, hn⟩ := hT
  have main : PE X (.Subscript (.Name x p) b pos) (tTab a kvs (tI X.K call mb)) := by
    refine ⟨fun pins s σ H Q I h => ?_⟩
    refine subD_of PySem.F.slot_dict_getitem.lookup hs (ld_glob I hg hm (thn (hb.run pins s σ H _ I h) fun iv s2 ⟨y, H2, I2, ry, i, v, ey, hv, q2⟩ => ?_) hd)
    subst ey
    have ho := I2.kIn a _ hk
    obtain ⟨vs, a1, a2, a3, a4⟩ := tab_vs (P := X.prog) (w := X.w) he
    obtain ⟨u, hu, hau⟩ := a4 i v hv
    obtain ⟨z, rz, rp⟩ := absT_rel hau
    have dd : s2.heap.DictOf (mixKind X.prog X.w) a vs := ⟨_, es, ep, ho, ⟨rfl, rfl, rfl⟩, rfl, fun e he' => a3 e (by simpa using he'), a1, by
      rw [a2]
      have : (kvs.map fun kv => (Sum.inl kv.1 : Key)) = (kvs.map (·.1)).map Sum.inl := by rw [List.map_map]; rfl
      rw [this]
      exact List.Pairwise.map _ (fun a b h z => h (Sum.inl.inj z)) hn⟩
    exact ⟨⟨_, ho, rfl⟩, wpAny_getItem_of (kV_is (k := Sum.inl i) ry) dd.mapOf hu ⟨z, H2, I2.tok _, rz, q2 z rp⟩⟩
  exact main.imp fun σ H Q ⟨φ, M, env, v, M', m, r, e, k⟩ => by
    unfold Ev.eval at e
    obtain ⟨⟨y, M1⟩, e1, e⟩ := bindE e
    obtain ⟨z, e2, e⟩ := mapE e
    cases e
    refine tI.then_ m r e1 fun φ1 H1 u x1 m1 r1 q1 => ?_
    have hi : ∃ i, y = .int i := by
      change tabV kvs y = some v at e2
      unfold tabV at e2
      split at e2
      · exact ⟨_, rfl⟩
      · cases e2
    obtain ⟨i, rfl⟩ := hi
    cases q1
    exact ⟨i, v, rfl, e2, fun w hw => k _ _ _ x1 m1 (hw _ _ _)⟩
end
end Ev
namespace Ev
open PySem PySem.Spec PyProof.Rows L2
theorem tab_of {K : PySem.W.Frag} {h : Heap} {mg : Str → Option Value} {x : Str} {kvs : List (Int × PV)} {a : Addr} {es : Array DictEntry} {ep : Nat} (X : K.In h) (G : h.Ns mainGlobals mg) (hn : PySem.W.nsIn K mainGlobals x = some (some (.ref a)))
    (hk : K.lookup a = some { cls := .type "dict", dict := none, data := .dict es ep, slots := #[] }) (e : es.toList.map entI = kvs.map some) (nd : (kvs.map (·.1)).Nodup) : TabAt K mg x kvs :=
  ⟨a, es, ep, PySem.W.mg_of X G hn, hk, e, nd⟩
end Ev

/-! Statements, defs. -/
namespace Ev
open PySem PySem.Spec PyProof.Rows L2
/-- what is wanted behind a statement, by the interpreter's result -/
def RK (K : PySem.W.Frag) (φ : Ph) (H : Hp) (D : Ends) : R → Prop
  | .nx env' M' => ∀ φ' H' σ', Xt φ H φ' H' → RM K φ' H' M' → RE K φ' H' env' σ' → D.nx σ' H'
  | .rt v M' => ∀ φ' H' u, Xt φ H φ' H' → RM K φ' H' M' → Rp K φ' H' v u → D.rt u H'
def tS (K : PySem.W.Frag) (call : Cl) (W : Nat) (s : S) : TS := fun D σ H => ∃ φ M env r, RM K φ H M ∧ RE K φ H env σ ∧ Ev.exec call W s env M = some r ∧ RK K φ H D r
def tSs (K : PySem.W.Frag) (call : Cl) (W : Nat) (s : Ss) : TS := fun D σ H => ∃ φ M env r, RM K φ H M ∧ RE K φ H env σ ∧ Ev.execs call W s env M = some r ∧ RK K φ H D r
theorem _root_.L2.PS.imp {X : Cx} {e : Stmt} {t t' : TS} (h : PS X e t) (k : ∀ D σ H, t' D σ H → t D σ H) : PS X e t' := ⟨fun pins s σ H D I q => h.run pins s σ H D I (k _ _ _ q)⟩
theorem _root_.L2.PSs.imp {X : Cx} {e : List Stmt} {t t' : TS} (h : PSs X e t) (k : ∀ D σ H, t' D σ H → t D σ H) : PSs X e t' := ⟨fun pins s σ H D I q => h.run pins s σ H D I (k _ _ _ q)⟩
theorem RK.mono {K : PySem.W.Frag} {φ φ1 : Ph} {H H1 : Hp} {D : Ends} {r : R} (x : Xt φ H φ1 H1) (k : RK K φ H D r) : RK K φ1 H1 D r := by
  cases r with
  | nx env M => exact fun φ' H' σ' y => k φ' H' σ' (x.trans y)
  | rt v M => exact fun φ' H' u y => k φ' H' u (x.trans y)
section
variable {X : Cx} {call : Cl} {W : Nat} {a b c : Expr} {ma mb mc : E} {pos : Pos}
theorem s_set {x : Str} {pos' : Pos} (i : Nat) (hN : X.N.Nodup) (ha : PE X a (tI X.K call ma)) (hi : X.N[i]? = some x := by rfl) (hx : Loc X.env.scope x := by first | exact .inl rfl | exact .inr rfl) (hs : swapsWith a (some (.Name x pos')) pos.line X.env = pure false := by rfl)
    (hf : X.fn x = true ∨ X.env.scope.names.lookup x = some .local := by first | exact .inl rfl | exact .inr rfl | assumption) : PS X (.Assign [.Name x pos'] a pos) (tS X.K call W (.set i ma)) :=
  (ps_set hN hi hx ha hs hf).imp fun D σ H ⟨φ, M, env, r, m, re, e, k⟩ => by
    unfold Ev.exec at e
    obtain ⟨⟨v, M1⟩, e1, e⟩ := bindE e
    cases e
    exact tI.then_ m re e1 fun φ1 H1 u x1 m1 r1 q1 => k _ _ _ x1 m1 (r1.set q1 i)
theorem s_setLc {y : Str} {py : Pos} {elt tg iter : Expr} {ifs : List Expr} {scope : Scope} {own : List (Str × Nat)} {pos spos : Pos} {it : I} {t : T} {cs : Es} (i : Nat) (f : Bool) (hc : X.calm = true) (hN : X.N.Nodup) (hI : PI X tg iter (tIt X.K call it)) (ok : blkC X.N X.env.scope scope own = true) (hw : (t.ids.all fun i => (own.map (·.2)).contains i) = true)
    (hg : ∀ (s : Shared) (H : Hp) (C : Addr) (cl : List (Str × Addr)) (fp : List Addr), PG (X.blk s H scope (compEnvC scope cl C X.env) fp) tg (gT X.K t)) (ht : ∀ (s : Shared) (H : Hp) (C : Addr) (cl : List (Str × Addr)) (fp : List Addr), PTs (X.blk s H scope (compEnvC scope cl C X.env) fp) ifs (tCs X.K call cs))
    (he : ∀ (s : Shared) (H : Hp) (C : Addr) (cl : List (Str × Addr)) (fp : List Addr), PE (X.blk s H scope (compEnvC scope cl C X.env) fp) elt (tI X.K call ma))
    (hy : X.N[i]? = some y := by rfl) (hyl : X.env.scope.names.lookup y = some .local := by rfl)
    (hsw : swapsWith (.ListComp elt [⟨tg, iter, ifs, 0⟩] scope pos) (some (.Name y py)) spos.line X.env = pure true := by exact sw_true rfl rfl rfl (by decide +kernel)) (hs : ∀ x, foldedSetIterable iter X.env x = pure x := by intro _; rfl) :
    PS X (.Assign [.Name y py] (.ListComp elt [⟨tg, iter, ifs, 0⟩] scope pos) spos) (tS X.K call W (.set i (.lc f (own.map (·.2)) t it cs ma))) :=
  (ps_setLc hc hN hy hyl hsw hI (blkOk_by ok) hg ht he hs).imp fun D σ H ⟨φ, M, env, r, m, re, e, k⟩ => by
    unfold Ev.exec at e
    obtain ⟨⟨v, M1⟩, e1, e⟩ := bindE e
    cases e
    refine lc_rd (fun i hi => by
      have := List.all_eq_true.mp hw i hi
      simpa using this) (Q := fun x H1 => gName i x σ H1 D.nx) (tI.then_ m re e1 fun φ1 H1 u x1 m1 r1 q1 => ?_)
    exact k _ _ _ x1 m1 (r1.set q1 i)
theorem s_asg {tg : Expr} {t : T} (ha : PE X a (tI X.K call ma)) (hg : PG X tg (gT X.K t)) (hs : swapsWithSole [tg] a pos.line X.env = pure false := by rfl) (hw : swappedStores [tg] a X.env = pure none := by rfl)
    (h1 : (assignEach [tg] X.env).map (·.2) = [assign tg X.env] := by rfl) : PS X (.Assign [tg] a pos) (tS X.K call W (.asg t ma)) :=
  (ps_asg ha hg hs hw h1).imp fun D σ H ⟨φ, M, env, r, m, re, e, k⟩ => by
    unfold Ev.exec at e
    obtain ⟨⟨v, M1⟩, e1, e⟩ := bindE e
    obtain ⟨env1, e2, e⟩ := mapE e
    subst e
    exact tI.then_ m re e1 fun φ1 H1 u x1 m1 r1 q1 => gT_rd q1 r1 e2 fun σ' r' _ => k _ _ _ x1 m1 r'
theorem s_par {x y : Str} {px py pt : Pos} {kt k2 pt2} (i j : Nat) (hc : X.calm = true) (hN : X.N.Nodup) (ha : PA X [a, b] (tIs X.K call (.cons ma (.cons mb .nil)))) (hi : X.N[i]? = some x := by rfl) (hj : X.N[j]? = some y := by rfl) (hij : i ≠ j := by decide)
    (hx : X.env.scope.names.lookup x = some .local := by rfl) (hy : X.env.scope.names.lookup y = some .local := by rfl)
    (hw : swappedStores [.Tuple [.Name x px, .Name y py] kt pt] (.Tuple [a, b] k2 pt2) X.env = pure (some [x, y]) := by rfl)
    (hs : swapsWithSole [.Tuple [.Name x px, .Name y py] kt pt] (.Tuple [a, b] k2 pt2) pos.line X.env = pure false := by rfl) :
    PS X (.Assign [.Tuple [.Name x px, .Name y py] kt pt] (.Tuple [a, b] k2 pt2) pos) (tS X.K call W (.par i j ma mb)) :=
  (ps_par hc hN hi hj hij hx hy ha hw hs).imp fun D σ H ⟨φ, M, env, r, m, re, e, k⟩ => by
    unfold Ev.exec at e
    obtain ⟨⟨v, M1⟩, e1, e⟩ := bindE e
    obtain ⟨⟨w, M2⟩, e2, e⟩ := bindE e
    cases e
    have ev : Ev.evals call (.cons ma (.cons mb .nil)) env M = some ([v, w], M2) := by
      unfold Ev.evals
      rw [e1]
      show bnd (Ev.evals call (.cons mb .nil) env M1) _ = _
      unfold Ev.evals
      rw [e2]
      unfold Ev.evals
      rfl
    refine tIs.then_ m re ev fun φ1 H1 u x1 m1 r1 q1 => ?_
    obtain ⟨z, t, rfl, q, q'⟩ := two_of q1
    exact ⟨z, t, rfl, k _ _ _ x1 m1 ((r1.set q i).set q' j)⟩
theorem three_of {xs : List PV} {a b c : PV} {vs : List V} {K : PySem.W.Frag} {φ : Ph} {H : Hp} (e : xs = [a, b, c]) (q : Rps K φ H xs vs) : ∃ z t s, vs = [z, t, s] ∧ Rp K φ H a z ∧ Rp K φ H b t ∧ Rp K φ H c s := by
  subst e
  cases q with
  | cons p q =>
    cases q with
    | cons p' q =>
      cases q with
      | cons p'' q =>
        cases q
        exact ⟨_, _, _, rfl, p, p', p''⟩
theorem s_par3 {x y z : Str} {c : Expr} {mc : E} {px py pz pt : Pos} {kt k2 pt2} (i j l : Nat) (hc : X.calm = true) (hN : X.N.Nodup) (ha : PA X [a, b, c] (tIs X.K call (.cons ma (.cons mb (.cons mc .nil))))) (hi : X.N[i]? = some x := by rfl) (hj : X.N[j]? = some y := by rfl) (hl : X.N[l]? = some z := by rfl)
    (hij : i ≠ j := by decide) (hil : i ≠ l := by decide) (hjl : j ≠ l := by decide)
    (hx : X.env.scope.names.lookup x = some .local := by rfl) (hy : X.env.scope.names.lookup y = some .local := by rfl) (hz : X.env.scope.names.lookup z = some .local := by rfl)
    (hw : swappedStores [.Tuple [.Name x px, .Name y py, .Name z pz] kt pt] (.Tuple [a, b, c] k2 pt2) X.env = pure (some [x, y, z]) := by rfl)
    (hs : swapsWithSole [.Tuple [.Name x px, .Name y py, .Name z pz] kt pt] (.Tuple [a, b, c] k2 pt2) pos.line X.env = pure false := by rfl) :
    PS X (.Assign [.Tuple [.Name x px, .Name y py, .Name z pz] kt pt] (.Tuple [a, b, c] k2 pt2) pos) (tS X.K call W (.par3 i j l ma mb mc)) :=
  (ps_par3 hc hN hi hj hl hij hil hjl hx hy hz ha hw hs).imp fun D σ H ⟨φ, M, env, r, m, re, e, k⟩ => by
    unfold Ev.exec at e
    obtain ⟨⟨v, M1⟩, e1, e⟩ := bindE e
    obtain ⟨⟨w, M2⟩, e2, e⟩ := bindE e
    obtain ⟨⟨u, M3⟩, e3, e⟩ := bindE e
    cases e
    have ev : Ev.evals call (.cons ma (.cons mb (.cons mc .nil))) env M = some ([v, w, u], M3) := by
      unfold Ev.evals
      rw [e1]
      show bnd (Ev.evals call (.cons mb (.cons mc .nil)) env M1) _ = _
      unfold Ev.evals
      rw [e2]
      show bnd (bnd (Ev.evals call (.cons mc .nil) env M2) _) _ = _
      unfold Ev.evals
      rw [e3]
      unfold Ev.evals
      rfl
    refine tIs.then_ m re ev fun φ1 H1 us x1 m1 r1 q1 => ?_
    obtain ⟨z, t, s, rfl, q, q', q''⟩ := three_of rfl q1
    exact ⟨z, t, s, rfl, k _ _ _ x1 m1 (((r1.set q i).set q' j).set q'' l)⟩
theorem s_seti {i : Expr} {mi : E} {spos : Pos} (ha : PE X a (tI X.K call ma)) (hb : PE X b (tI X.K call mb)) (hi : PE X i (tI X.K call mi)) (hp : ∀ v, assign (.Subscript b i spos) X.env v = (do
      let ov ← holding [v] (PySem.eval b X.env)
      let iv ← holding [v, ov] (PySem.eval i X.env)
      standAt spos
      holding [v, ov, iv] (setItem ov iv v)
      release [v, ov, iv] []) := by intro _; rfl) (hs : swapsWithSole [.Subscript b i spos] a pos.line X.env = pure false := by rfl) (hw : swappedStores [.Subscript b i spos] a X.env = pure none := by rfl)
    (h1 : (assignEach [.Subscript b i spos] X.env).map (·.2) = [assign (.Subscript b i spos) X.env] := by rfl) : PS X (.Assign [.Subscript b i spos] a pos) (tS X.K call W (.seti mb mi ma)) :=
  (ps_asg ha (pg_sub hb hi set_list hp) hs hw h1).imp fun D σ H ⟨φ, M, env, r, m, re, e, k⟩ => by
    unfold Ev.exec at e
    obtain ⟨⟨v, M1⟩, e1, e⟩ := bindE e
    obtain ⟨⟨o, M2⟩, e2, e⟩ := bindE e
    cases o with
    | ref n =>
      obtain ⟨⟨y, M3⟩, e3, e⟩ := bindE e
      cases y with
      | int z =>
        simp only at e
        split at e
        · rename_i xs e4
          obtain ⟨ys, e5, e⟩ := mapE e
          subst e
          refine tI.then_ m re e1 fun φ1 H1 u x1 m1 r1 q1 => tI.then_ m1 r1 e2 fun φ2 H2 u2 x2 m2 r2 q2 => tI.then_ m2 r2 e3 fun φ3 H3 u3 x3 m3 r3 q3 => ?_
          cases q3
          cases q2 with
          | ref h2 =>
          have h3 := x3.get h2
          obtain ⟨ad, h6, vs, h7, h8⟩ := m3.at_ e4
          rw [h3] at h6
          cases h6
          obtain ⟨j, e6, e7⟩ := mapE e5
          subst e7
          refine ⟨_, vs, z, j, rfl, rfl, h7, by rw [← h8.length]; exact e6, ?_⟩
          have xs3 := xt_set (o := .lst (vs.set j u)) m3 h3
          exact k _ _ _ (x1.trans (x2.trans (x3.trans xs3))) (m3.set h3 (h8.set j (q1.mono (x2.trans x3)))) (r3.mono xs3)
        · cases e
      | non | bl | str | tup | lst | rol | ref => cases e
    | non | bl | int | str | tup | lst | rol => cases e
theorem s_exp (h : PS X (.Expr a pos) (tDrop (tI X.K call ma))) : PS X (.Expr a pos) (tS X.K call W (.exp ma)) :=
  h.imp fun D σ H ⟨φ, M, env, r, m, re, e, k⟩ => by
    unfold Ev.exec at e
    obtain ⟨⟨v, M1⟩, e1, e⟩ := bindE e
    cases e
    exact tI.then_ m re e1 fun φ1 H1 u x1 m1 r1 q1 => k _ _ _ x1 m1 r1
theorem s_ite {p q : List Stmt} {sp sq : Ss} (hc : PT X c (tT X.K call mc)) (hp : PSs X p (tSs X.K call W sp)) (hq : PSs X q (tSs X.K call W sq)) : PS X (.If c p q pos) (tS X.K call W (.ite mc sp sq)) :=
  (ps_if hc hp hq).imp fun D σ H ⟨φ, M, env, r, m, re, e, k⟩ => by
    unfold Ev.exec at e
    obtain ⟨⟨v, M1⟩, e1, e⟩ := bindE e
    rcases bifE e with ⟨t, e⟩ | ⟨t, e⟩
    · exact tT.then_ m re e1 t fun φ1 H1 x1 m1 r1 => by rw [if_pos rfl]; exact ⟨φ1, M1, env, r, m1, r1, e, k.mono x1⟩
    · exact tT.then_ m re e1 t fun φ1 H1 x1 m1 r1 => by rw [if_neg Bool.false_ne_true]; exact ⟨φ1, M1, env, r, m1, r1, e, k.mono x1⟩
theorem s_ret (ha : PE X a (tI X.K call ma)) : PS X (.Return (some a) pos) (tS X.K call W (.ret ma)) :=
  (ps_ret ha).imp fun D σ H ⟨φ, M, env, r, m, re, e, k⟩ => by
    unfold Ev.exec at e
    obtain ⟨⟨v, M1⟩, e1, e⟩ := bindE e
    cases e
    exact tI.then_ m re e1 fun φ1 H1 u x1 m1 r1 q1 => k _ _ _ x1 m1 q1
theorem s_rais {st : Stmt} : PS X st (tS X.K call W .rais) := ps_never.imp fun D σ H ⟨φ, M, env, r, m, re, e, k⟩ => by
  unfold Ev.exec at e
  cases e
theorem ss_nil : PSs X [] (tSs X.K call W .nil) := pss_nil.imp fun D σ H ⟨φ, M, env, r, m, re, e, k⟩ => by
  unfold Ev.execs at e
  cases e
  exact k _ _ _ .refl m re
theorem ss_cons {st : Stmt} {rest : List Stmt} {s : S} {ss : Ss} (h : PS X st (tS X.K call W s)) (hr : PSs X rest (tSs X.K call W ss)) : PSs X (st :: rest) (tSs X.K call W (.cons s ss)) :=
  (pss_cons h hr).imp fun D σ H ⟨φ, M, env, r, m, re, e, k⟩ => by
    unfold Ev.execs at e
    cases e1 : Ev.exec call W s env M with
    | none => rw [e1] at e; cases e
    | some r1 =>
      rw [e1] at e
      refine ⟨φ, M, env, r1, m, re, e1, ?_⟩
      cases r1 with
      | nx env1 M1 => exact fun φ' H' σ' x m' re' => ⟨φ', M1, env1, r, m', re', e, k.mono x⟩
      | rt v M1 =>
        cases e
        exact k
theorem s_for {tg iter : Expr} {body : List Stmt} {it : I} {t : T} {sb : Ss} (hp : PassesOwn (model X.prog X.w) X.A X.env X.xe) (hc : X.calm = true) (hi : PI X tg iter (tIt X.K call it)) (hg : PG X tg (gT X.K t)) (hb : PSs X body (tSs X.K call W sb))
    (hs : ∀ x, foldedSetIterable iter X.env x = pure x := by intro _; rfl) : PS X (.For tg iter body [] pos) (tS X.K call W (.for_ t it sb)) :=
  (ps_for hp hc hi hg hb hs).imp fun D σ H ⟨φ, M, env, r, m, re, e, k⟩ => by
    unfold Ev.exec at e
    obtain ⟨⟨⟨xs, g⟩, M1⟩, e1, e⟩ := bindE e
    refine ⟨φ, M, env, (xs, g), M1, m, re, e1, fun φ1 H1 J x1 m1 ok => ?_⟩
    simp only at ok e
    refine ⟨fun i n σ2 H2 => ∃ (φ2 : Ph) (M2 : Mem) (env2 : Env), i + n = xs.length ∧ Xt φ1 H1 φ2 H2 ∧ RM X.K φ2 H2 M2 ∧ RE X.K φ2 H2 env2 σ2 ∧ forL t g (Ev.execs call W sb) (xs.drop i) env2 M2 = some r,
      ⟨xs.length, φ1, M1, env, by omega, .refl, m1, re.mono x1, e⟩, ?_⟩
    rintro i n σ2 H2 ⟨φ2, M2, env2, hn, x2, m2, re2, e2⟩
    have hgd : gOk g M2 = true := by
      cases hg : gOk g M2 with
      | true => rfl
      | false =>
        cases hd : xs.drop i with
        | nil => rw [hd] at e2; unfold forL at e2; rw [hg] at e2; cases e2
        | cons a l => rw [hd] at e2; unfold forL at e2; rw [hg] at e2; cases e2
    obtain ⟨go, stop, yld⟩ := ok φ2 H2 M2 x2 m2 hgd
    by_cases hi : i < xs.length
    · refine .inr ⟨go i hi, ?_⟩
      rw [List.drop_eq_getElem_cons hi] at e2
      unfold forL at e2
      rw [hgd] at e2
      simp only at e2
      split at e2
      · rename_i env3 eb
        refine ⟨fun σ' H' => ∃ n', n' < n ∧ ∃ (φ4 : Ph) (M4 : Mem) (env4 : Env), i + 1 + n' = xs.length ∧ Xt φ1 H1 φ4 H' ∧ RM X.K φ4 H' M4 ∧ RE X.K φ4 H' env4 σ' ∧ forL t g (Ev.execs call W sb) (xs.drop (i + 1)) env4 M4 = some r, fun σ' H' h => h, fun x H3 hy => ?_⟩
        obtain ⟨v0, ev0, rv0, x3, mm⟩ := yld i x H3 hi hy
        rw [List.getElem?_eq_getElem hi] at ev0
        cases ev0
        have m3 := mm M2 m2
        refine gT_rd rv0 (re2.mono x3) eb fun σ' re' _ => ?_
        cases er : Ev.execs call W sb env3 M2 with
        | none => rw [er] at e2; cases e2
        | some r3 =>
          rw [er] at e2
          refine ⟨φ2, M2, env3, r3, m3, re', er, ?_⟩
          cases r3 with
          | nx env5 M5 => exact fun φ5 H5 σ5 x5 m5 re5 => ⟨n - 1, by omega, φ5, M5, env5, by omega, x2.trans (x3.trans x5), m5, re5, e2⟩
          | rt v M5 =>
            cases e2
            exact fun φ5 H5 u x5 m5 q5 => k _ _ _ (x1.trans (x2.trans (x3.trans x5))) m5 q5
      · cases e2
    · refine .inl ⟨stop i (by omega), ?_⟩
      rw [List.drop_eq_nil_of_le (by omega)] at e2
      unfold forL at e2
      rw [hgd] at e2
      cases e2
      exact k _ _ _ (x1.trans x2) m2 re2
theorem s_whl {body : List Stmt} {sb : Ss} (hp : PassesOwn (model X.prog X.w) X.A X.env X.xe) (hc : PT X c (tT X.K call mc)) (hb : PSs X body (tSs X.K call W sb)) : PS X (.While c body [] pos) (tS X.K call W (.whl mc sb)) :=
  (ps_while hp hc hb).imp fun D σ H ⟨φ, M, env, r, m, re, e, k⟩ => by
    unfold Ev.exec at e
    refine ⟨fun n σ2 H2 => ∃ (φ2 : Ph) (M2 : Mem) (env2 : Env), Xt φ H φ2 H2 ∧ RM X.K φ2 H2 M2 ∧ RE X.K φ2 H2 env2 σ2 ∧ whlL (fun env M => bnd (Ev.eval call mc env M) fun x M1 => (truthy M1 x).map fun k => (k, M1)) (Ev.execs call W sb) n env2 M2 = some r,
      ⟨W, φ, M, env, .refl, m, re, e⟩, ?_⟩
    rintro n σ2 H2 ⟨φ2, M2, env2, x2, m2, re2, e2⟩
    cases n with
    | zero => unfold whlL at e2; cases e2
    | succ n =>
      unfold whlL at e2
      cases ec : Ev.eval call mc env2 M2 with
      | none => rw [ec] at e2; cases e2
      | some vc =>
        obtain ⟨v, M3⟩ := vc
        rw [ec] at e2
        simp only [bnd] at e2
        cases tc : truthy M3 v with
        | none => rw [tc] at e2; cases e2
        | some b =>
          rw [tc] at e2
          refine tT.then_ m2 re2 ec tc fun φ3 H3 x3 m3 re3 => ?_
          cases b with
          | true =>
            rw [if_pos rfl]
            refine ⟨fun σ' H' => ∃ n', n' < n + 1 ∧ ∃ (φ4 : Ph) (M4 : Mem) (env4 : Env), Xt φ H φ4 H' ∧ RM X.K φ4 H' M4 ∧ RE X.K φ4 H' env4 σ' ∧ whlL (fun env M => bnd (Ev.eval call mc env M) fun x M1 => (truthy M1 x).map fun k => (k, M1)) (Ev.execs call W sb) n' env4 M4 = some r, fun σ' H' h => h, ?_⟩
            simp only [Option.map] at e2
            cases er : Ev.execs call W sb env2 M3 with
            | none => rw [er] at e2; cases e2
            | some r3 =>
              rw [er] at e2
              refine ⟨φ3, M3, env2, r3, m3, re3, er, ?_⟩
              cases r3 with
              | nx env5 M5 => exact fun φ5 H5 σ5 x5 m5 re5 => ⟨n, by omega, φ5, M5, env5, x2.trans (x3.trans x5), m5, re5, e2⟩
              | rt v M5 =>
                cases e2
                exact fun φ5 H5 u x5 m5 q5 => k _ _ _ (x2.trans (x3.trans x5)) m5 q5
          | false =>
            rw [if_neg Bool.false_ne_true]
            simp only [Option.map] at e2
            cases e2
            exact k _ _ _ (x2.trans x3) m3 re3
end
/-! ### leaving a def -/
section
variable {K : PySem.W.Frag} {φ φ' : Ph} {H H' : Hp} {M M' : Mem}
mutual
theorem under_rp {e : List Addr} {l : List Addr} (hl : ∀ a, a ∈ l → a ∈ φ.r) : ∀ {v : PV} {u : V} {c : List Addr}, φ.c = c ++ e → Rp K φ H v u → under c.length v = true → Rp K ⟨c, l⟩ H v u
  | _, _, _, _, .non, _ => .non
  | _, _, _, _, .bl b, _ => .bl b
  | _, _, _, _, .int i, _ => .int i
  | _, _, _, _, .str s, _ => .str s
  | .tup xs, _, c, hc, .tup k r, h => .tup k (unders_rp hl hc r h)
  | .lst xs, _, c, hc, .lst k n r, h => .lst k ⟨fun z => n.1 (by rw [hc]; exact List.mem_append_left _ z), fun z => n.2 (hl _ z)⟩ (unders_rp hl hc r h)
  | .rol xs, _, c, hc, .rol k r, h => .rol (by
      rcases k with ⟨o, k⟩ | ⟨k, n⟩ | k
      · exact .inl ⟨o, k⟩
      · exact .inr (.inl ⟨k, fun z => n.1 (by rw [hc]; exact List.mem_append_left _ z), fun z => n.2 (hl _ z)⟩)
      · exact .inr (.inr k)) (unders_rp hl hc r h)
  | .ref n, _, c, hc, .ref k, h => .ref (by
      have h1 : n < c.length := of_decide_eq_true h
      show c[n]? = _
      rw [hc, List.getElem?_append_left h1] at k
      exact k)
theorem unders_rp {e : List Addr} {l : List Addr} (hl : ∀ a, a ∈ l → a ∈ φ.r) : ∀ {v : List PV} {u : List V} {c : List Addr}, φ.c = c ++ e → Rps K φ H v u → unders c.length v = true → Rps K ⟨c, l⟩ H v u
  | _, _, _, _, .nil, _ => .nil
  | x :: xs, _, c, hc, .cons k r, h => by
    unfold unders at h
    rw [Bool.and_eq_true] at h
    exact .cons (under_rp hl hc k h.1) (unders_rp hl hc r h.2)
end
theorem leave_ok {v w : PV} {u : V} (m00 : RM K φ H M) (x : Xt φ H φ' H') (m : RM K φ' H' M') (r : Rp K φ' H' v u) {M2 : Mem} (h : leave M.length v M' = some (w, M2)) : ∃ φ2, Xt φ H φ2 H' ∧ RM K φ2 H' M2 ∧ Rp K φ2 H' w u := by
  unfold leave at h
  split at h
  · cases h
    exact ⟨φ', x, m, r⟩
  · split at h
    · rename_i hall
      obtain ⟨e, he⟩ := x.pre
      have hlen : φ.c.length = M.length := m00.len
      have hx : Xt φ H φ H' := ⟨⟨[], by simp⟩, fun _ h => h, x.keep, fun _ h n => absurd h n, fun _ h n => absurd h n, x.there⟩
      have hm : RM K φ H' (M'.take M.length) := by
        refine ⟨?_, ?_, fun a ha => m.res a (x.res a ha), fun n a c h1 h2 => ?_⟩
        · have := m.len
          rw [he, List.length_append] at this
          rw [List.length_take]
          omega
        · have := m.nd
          rw [he] at this
          exact (List.nodup_append.mp this).1
        · have hn : n < φ.c.length := (List.getElem?_eq_some_iff.mp h1).1
          rw [List.getElem?_take_of_lt (by omega)] at h2
          have h1' : φ'.c[n]? = some a := x.get h1
          have h3 := m.cells n a c h1' h2
          have hmem : c ∈ M'.take M.length := by
            apply List.mem_of_getElem? (i := n)
            rw [List.getElem?_take_of_lt (by omega)]
            exact h2
          have hu := List.all_eq_true.mp hall c hmem
          cases c with
          | lst xs =>
            obtain ⟨vs, h4, h5⟩ := h3
            refine ⟨vs, h4, ?_⟩
            have hu' : unders φ.c.length xs = true := by rw [hlen]; exact hu
            exact unders_rp (l := φ.r) x.res he h5 hu'
          | dic _ => exact h3
      split at h
      · rename_i hu
        cases h
        exact ⟨φ, hx, hm, under_rp (l := φ.r) x.res he r (by rw [hlen]; exact hu)⟩
      · split at h
        · rename_i k hu
          split at h
          · rename_i xs hk
            split at h
            · rename_i hxs
              cases h
              cases r with
              | @ref _ a h1 =>
              obtain ⟨a', h2, vs, h3, h4⟩ := m.at_ hk
              rw [h1] at h2
              cases h2
              have hk2 : ¬ k < M.length := fun z => hu (decide_eq_true z)
              have hnc : a ∉ φ.c := fun z => by
                obtain ⟨j, hj, ej⟩ := List.getElem_of_mem z
                have h5 : φ'.c[j]? = some a := x.get (by rw [List.getElem?_eq_getElem hj, ej])
                have := m.eq_of h1 h5
                omega
              refine ⟨φ, hx, hm, .lst h3 ⟨hnc, fun z => ?_⟩ (unders_rp (l := φ.r) x.res he h4 (by rw [hlen]; exact hxs))⟩
              obtain ⟨o, eo⟩ := m00.res a z
              have := x.fresh a (List.mem_of_getElem? h1) hnc
              rw [eo] at this
              cases this
            · cases h
          · cases h
        · cases h
    · cases h
end
end Ev

/-! Defs, the whole program. -/
namespace Ev
open PySem PySem.Spec PyProof.Rows L2
section
variable {P : Program} {w : World} {K : PySem.W.Frag} {mg : Str → Option Value} {base : Heap} {prog : List Fn} {W k : Nat}
theorem callN_get {i : Nat} {fn : Fn} {args : List PV} {M M' : Mem} {v : PV} (hp : prog[i]? = some fn) (h : callN prog W (k + 1) i args M = some (v, M')) :
    args.length = fn.params ∧ ∃ r, execs (callN prog W k) W fn.body (args.map some ++ List.replicate (fn.slots - fn.params) none) M = some r ∧
      ∃ v1 M1, (r = .rt v1 M1 ∨ ∃ env, r = .nx env M1 ∧ v1 = .non) ∧ (if fn.keep then some (v1, M1) else leave M.length v1 M1) = some (v, M') := by
  unfold callN at h
  rw [hp] at h
  simp only at h
  unfold runFn at h
  split at h
  · rename_i hl
    refine ⟨hl, ?_⟩
    cases e : execs (callN prog W k) W fn.body (args.map some ++ List.replicate (fn.slots - fn.params) none) M with
    | none => rw [e] at h; cases h
    | some r =>
      rw [e] at h
      cases r with
      | nx env M1 => exact ⟨_, rfl, .non, M1, .inr ⟨env, rfl, rfl⟩, h⟩
      | rt v1 M1 => exact ⟨_, rfl, v1, M1, .inl rfl, h⟩
  · cases h
theorem start_re {φ : Ph} {H : Hp} {args : List PV} {vs : List V} {N : List Str} {n p : Nat} (r : Rps K φ H args vs) (h1 : n = N.length) (h2 : p = args.length) : RE K φ H (args.map some ++ List.replicate (n - p) none) (L2.start N vs) := by
  unfold L2.start
  have hl := r.length
  refine ⟨by rw [List.length_append, List.length_append, List.length_map, List.length_map, List.length_replicate, List.length_replicate]; omega, fun i v e => ?_⟩
  by_cases hi : i < args.length
  · rw [List.getElem?_append_left (by rw [List.length_map]; exact hi), List.getElem?_map, List.getElem?_eq_getElem hi] at e
    cases e
    obtain ⟨u, h3, h4⟩ := r.get (List.getElem?_eq_getElem hi)
    exact ⟨u, by rw [List.getElem?_append_left (by rw [List.length_map, ← hl]; exact hi), List.getElem?_map, h3]; rfl, h4⟩
  · rw [List.getElem?_append_right (by rw [List.length_map]; omega)] at e
    have := List.mem_of_getElem? e
    have := List.eq_of_mem_replicate this
    cases this
/-- a def keeps the interpreter's promise -/
theorem fn_ok {x : Str} {st : Stmt} {f : Addr} {fd : FuncData} {N ps : List Str} {i : Nat} {fn : Fn} (F : L2.Fun K x x st f fd) (S : FnScope N ps (defScope st)) (hp : prog[i]? = some fn) (h1 : fn.slots = N.length) (h2 : fn.params = ps.length)
    (body : ∀ (cdv : Value) (A : Around) (outer : List PySem.Env) (s : Shared) (H : Hp) (E : XK), Room k (A.deeper (envOfC x (defScope st) s.heap.objs.size f cdv)) → PSs (cxOf CX0 P w K mg base N x (defScope st) f cdv A outer s H E).nox (defBody st) (tSs K (callN prog W k) W fn.body)) :
    FnOk P w K mg base CX0 (k + 1) f fd ps (spC K (callN prog W (k + 1)) i) := by
  refine F.ok S (fun vs H Q E h => ?_) (fun cdv A outer s H vs Q E hr h => ⟨_, body cdv A outer s H E hr, ?_⟩)
  · obtain ⟨φ, M, args, v, M', m, r, e, _⟩ := h
    obtain ⟨hl, _⟩ := callN_get hp e
    rw [← r.length, hl, h2]
  · obtain ⟨φ, M, args, v, M', m, r, e, kk⟩ := h
    obtain ⟨hl, res, e1, v1, M1, hr1, e2⟩ := callN_get hp e
    refine ⟨φ, M, _, res, m, start_re r h1 hl.symm, e1, ?_⟩
    have fin : ∀ φ' H' u, Xt φ H φ' H' → RM K φ' H' M1 → Rp K φ' H' v1 u → Q u H' := fun φ' H' u x' m' q' => by
      cases hk : fn.keep with
      | true =>
        rw [hk, if_pos rfl] at e2
        cases e2
        exact kk φ' H' u x' m' q'
      | false =>
        rw [hk, if_neg Bool.false_ne_true] at e2
        obtain ⟨φ2, x2, m2, q2⟩ := leave_ok m x' m' q' e2
        exact kk φ2 H' u x2 m2 q2
    rcases hr1 with rfl | ⟨env, rfl, rfl⟩
    · exact fin
    · exact fun φ' H' σ' x' m' _ => fin φ' H' .non x' m' .non
end
/-- what the top has left: the defs' names by index, the constants, the built-ins' names -/
structure Top (P : Program) (w : World) (K : PySem.W.Frag) (mg : Str → Option Value) (base : Heap) (prog : List Fn) (W k : Nat) (names : List Str) (consts : List (Str × PV)) (blts : List Str) : Prop where
  cal : ∀ (i : Nat) (x : Str), names[i]? = some x → Cal P w K mg base k x (spC K (callN prog W k) i)
  con : ∀ (i : Nat) (x : Str) (v : PV), consts[i]? = some (x, v) → ∃ z u, mg x = some u ∧ RelV z u ∧ Con K v z
  blt : ∀ (i : Nat) (x : Str), blts[i]? = some x → mg x = none
/-- a def of the text -/
def DefOf (K : PySem.W.Frag) (mg : Str → Option Value) (x : Str) (st : Stmt) : Prop := ∃ (f : Addr) (fd : FuncData), mg x = some (.ref f) ∧ L2.Fun K x x st f fd
theorem def_mk {K : PySem.W.Frag} {h : Heap} {mg : Str → Option Value} {x : Str} {st : Stmt} {f : Addr} {oc : Value} {od an : Option Addr} {osl : Array (Option Value)} {kV doc pm cdv ct : Value} (X : K.In h) (G : h.Ns mainGlobals mg)
    (a : PySem.W.nsIn K mainGlobals x = some (some (.ref f))) (l : K.lookup f = some ⟨oc, od, .func (PySem.W.fnOf x x (defArgs st) (defBody st) (defScope st) .none kV doc pm an cdv ct), osl⟩)
    (c : PySem.W.codeIn K cdv x = true) (k : PySem.W.keepIn K (.ref f) = true) : DefOf K mg x st := ⟨f, _, PySem.W.mg_of X G a, L2.fun_mk l c k⟩
section
variable {P : Program} {w : World} {K : PySem.W.Frag} {mg : Str → Option Value} {base : Heap} {prog : List Fn} {W k : Nat}
/-- how the arguments bind, whatever the def's object -/
abbrev BindsP (st : Stmt) (x : Str) (ps : List Str) : Prop := ∀ (kV doc pm : Value) (an : Option Addr) (cdv ct : Value) (us : List Value), us.length = ps.length → bindArgs (PySem.W.fnOf x x (defArgs st) (defBody st) (defScope st) .none kV doc pm an cdv ct) ⟨us, []⟩ = pure (ps.zip us)
theorem cal_zero {x : Str} {st : Stmt} {ps : List Str} {i : Nat} (d : DefOf K mg x st) (b : BindsP st x ps) : Cal P w K mg base 0 x (spC K (callN prog W 0) i) := by
  obtain ⟨f, fd, h1, F⟩ := d
  refine ⟨f, fd, ps, ⟨fun vs H Q E h => ?_, fun A outer s H args us vs Q E _ _ _ _ h => ?_⟩, h1, F.kp, F.binds b⟩
  · obtain ⟨φ, M, args, v, M', m, r, e, _⟩ := h
    unfold callN at e
    cases e
  · obtain ⟨φ, M, args, v, M', m, r, e, _⟩ := h
    unfold callN at e
    cases e
theorem cal_succ {x : Str} {st : Stmt} {N ps : List Str} {i : Nat} {fn : Fn} (d : DefOf K mg x st) (b : BindsP st x ps) (S : FnScope N ps (defScope st)) (hp : prog[i]? = some fn) (h1 : fn.slots = N.length) (h2 : fn.params = ps.length)
    (body : ∀ (f : Addr) (cdv : Value) (A : Around) (outer : List PySem.Env) (s : Shared) (H : Hp) (E : XK), Room k (A.deeper (envOfC x (defScope st) s.heap.objs.size f cdv)) → PSs (cxOf CX0 P w K mg base N x (defScope st) f cdv A outer s H E).nox (defBody st) (tSs K (callN prog W k) W fn.body)) :
    Cal P w K mg base (k + 1) x (spC K (callN prog W (k + 1)) i) := by
  obtain ⟨f, fd, e1, F⟩ := d
  exact ⟨f, fd, ps, fn_ok F S hp h1 h2 (body f), e1, F.kp, F.binds b⟩
end
section
variable {X : Cx} {call : Cl} {pos : Pos}
theorem i_con {x : Str} {v : PV} (hg : Gl X x) (h : ∃ z u, X.mg x = some u ∧ RelV z u ∧ Con X.K v z) (hd : (x == ("__debug__" : Str)) = false := by decide) : PE X (.Name x pos) (tI X.K call (.cst v)) := by
  obtain ⟨z, u, h1, h2, h3⟩ := h
  exact i_glob hg h1 h2 h3 hd
end
/-- constants -/
theorem con_int {K : PySem.W.Frag} (i : Int) : Con K (.int i) (.int i) := fun _ _ => .int i
theorem con_str {K : PySem.W.Frag} (s : Str) : Con K (.str s) (.str s) := fun _ _ => .str s
inductive Cons (K : PySem.W.Frag) : List PV → List V → Prop
  | nil : Cons K [] []
  | cons {v : PV} {z : V} {vs : List PV} {zs : List V} : Con K v z → Cons K vs zs → Cons K (v :: vs) (z :: zs)
theorem Cons.rps {K : PySem.W.Frag} {vs : List PV} {zs : List V} (h : Cons K vs zs) (φ : Ph) (H : Hp) : Rps K φ H vs zs := by
  induction h with
  | nil => exact .nil
  | cons h _ ih => exact .cons (h φ H) ih
theorem con_tup {K : PySem.W.Frag} {vs : List PV} {zs : List V} {a : Addr} {od : Option Addr} {its : Array Value} {n : Nat} {sl : Array (Option Value)} (hk : K.lookup a = some ⟨.type "tuple", od, .seq its n, sl⟩) (hz : its.size ≤ sizeLine) (hv : Vals zs its.toList) (h : Cons K vs zs) : Con K (.tup vs) (.ref a) :=
  fun φ H => .tup (.inr ⟨_, its, n, hk, rfl, rfl, hz, hv⟩) (h.rps φ H)
inductive ConVals (K : PySem.W.Frag) : List PV → List Value → Prop
  | nil : ConVals K [] []
  | cons {v : PV} {u : Value} {vs : List PV} {us : List Value} : (∃ z, RelV z u ∧ Con K v z) → ConVals K vs us → ConVals K (v :: vs) (u :: us)
theorem ConVals.split {K : PySem.W.Frag} {vs : List PV} {us : List Value} (h : ConVals K vs us) : ∃ zs, Vals zs us ∧ Cons K vs zs := by
  induction h with
  | nil => exact ⟨[], .nil, .nil⟩
  | cons h _ ih =>
    obtain ⟨z, h1, h2⟩ := h
    obtain ⟨zs, h3, h4⟩ := ih
    exact ⟨z :: zs, .cons h1 h3, .cons h2 h4⟩
theorem con_tupR {K : PySem.W.Frag} {vs : List PV} {a : Addr} {od : Option Addr} {its : Array Value} {n : Nat} {sl : Array (Option Value)} (hk : K.lookup a = some ⟨.type "tuple", od, .seq its n, sl⟩) (h : ConVals K vs its.toList) (hz : its.size ≤ sizeLine) : Con K (.tup vs) (.ref a) := by
  obtain ⟨zs, h1, h2⟩ := h.split
  exact con_tup hk hz h1 h2
def absP : Value → Option PV
  | .int i _ => some (.int i)
  | .str s _ => some (.str s)
  | .bool b => some (.bl b)
  | .none => some .non
  | _ => none
theorem absP_con {K : PySem.W.Frag} {u : Value} {v : PV} (h : absP u = some v) : ∃ z, RelV z u ∧ Con K v z := by
  unfold absP at h
  split at h <;> cases h
  · exact ⟨.int _, ⟨_, rfl⟩, fun _ _ => .int _⟩
  · exact ⟨.str _, ⟨_, rfl⟩, fun _ _ => .str _⟩
  · exact ⟨.bl _, rfl, fun _ _ => .bl _⟩
  · exact ⟨.non, rfl, fun _ _ => .non⟩
theorem absPs_con {K : PySem.W.Frag} : ∀ {us : List Value} {vs : List PV}, us.map absP = vs.map some → ConVals K vs us
  | [], [], _ => .nil
  | u :: us, v :: vs, h => by
    rw [List.map_cons, List.map_cons] at h
    injection h with h1 h2
    exact .cons (absP_con h1) (absPs_con h2)
  | [], v :: vs, h => by cases h
  | u :: us, [], h => by cases h
theorem con_tupA {K : PySem.W.Frag} {vs : List PV} {a : Addr} {od : Option Addr} {its : Array Value} {n : Nat} {sl : Array (Option Value)} (hk : K.lookup a = some ⟨.type "tuple", od, .seq its n, sl⟩) (e : its.toList.map absP = vs.map some) (hz : its.size ≤ sizeLine) : Con K (.tup vs) (.ref a) :=
  con_tupR hk (absPs_con e) hz
theorem con_of {K : PySem.W.Frag} {h : Heap} {mg : Str → Option Value} {x : Str} {v : PV} {z : V} {u : Value} (X : K.In h) (G : h.Ns mainGlobals mg) (a : PySem.W.nsIn K mainGlobals x = some (some u)) (r : RelV z u) (c : Con K v z) : ∃ z u, mg x = some u ∧ RelV z u ∧ Con K v z :=
  ⟨z, u, PySem.W.mg_of X G a, r, c⟩
theorem con_ofI {K : PySem.W.Frag} {h : Heap} {mg : Str → Option Value} {x : Str} {i : Int} {t : Tok} (X : K.In h) (G : h.Ns mainGlobals mg) (a : PySem.W.nsIn K mainGlobals x = some (some (.int i t))) : ∃ z u, mg x = some u ∧ RelV z u ∧ Con K (.int i) z := con_of (z := .int i) X G a ⟨t, rfl⟩ (con_int i)
theorem con_ofS {K : PySem.W.Frag} {h : Heap} {mg : Str → Option Value} {x : Str} {i : Str} {t : Tok} (X : K.In h) (G : h.Ns mainGlobals mg) (a : PySem.W.nsIn K mainGlobals x = some (some (.str i t))) : ∃ z u, mg x = some u ∧ RelV z u ∧ Con K (.str i) z := con_of (z := .str i) X G a ⟨t, rfl⟩ (con_str i)
theorem blk_ok {N : List Str} {sc scope : Scope} {own : List (Str × Nat)} (h : blkC N sc scope own = true) : blkC N sc scope own = true := h
/-- the built-ins' names -/
theorem bb_abs : bootBuiltins "abs" = some (.builtin "abs") := by decide +kernel
theorem bb_len : bootBuiltins "len" = some (.builtin "len") := by decide +kernel
theorem bb_sum : bootBuiltins "sum" = some (.builtin "sum") := by decide +kernel
theorem bb_all : bootBuiltins "all" = some (.builtin "all") := by decide +kernel
theorem bb_any : bootBuiltins "any" = some (.builtin "any") := by decide +kernel
theorem bb_max : bootBuiltins "max" = some (.builtin "max") := by decide +kernel
theorem bb_sorted : bootBuiltins "sorted" = some (.builtin "sorted") := by decide +kernel
theorem bb_min : bootBuiltins "min" = some (.builtin "min") := by decide +kernel
theorem bb_int : bootBuiltins "int" = some (.type "int") := by decide +kernel
theorem bb_bool : bootBuiltins "bool" = some (.type "bool") := by decide +kernel
theorem bb_str : bootBuiltins "str" = some (.type "str") := by decide +kernel
theorem bb_tuple : bootBuiltins "tuple" = some (.type "tuple") := by decide +kernel
theorem bb_list : bootBuiltins "list" = some (.type "list") := by decide +kernel
/-- the law's call, from its promise -/
theorem law_sp {K : PySem.W.Frag} {call : Cl} {i : Nat} {H : Hp} {a : Addr} {ns : List Int} {M' : Mem} (hS : SqL K H a (ns.map V.int)) (h : call i [.rol (ns.map PV.int)] [] = some (.bl true, M')) : spC K call i [.ref a] H (fun v _ => v = .bl true) fun _ _ _ => False := by
  have hr : ∀ ms : List Int, Rps K ⟨[], []⟩ H (ms.map PV.int) (ms.map V.int) := fun ms => by
    induction ms with
    | nil => exact .nil
    | cons x xs ih => exact .cons (.int x) ih
  have hR : RolAt K ⟨[], []⟩ H a (ns.map V.int) := by
    rcases hS with (h | ⟨o, h⟩) | h
    · exact .inr (.inl ⟨h, by simp, by simp⟩)
    · exact .inl ⟨o, h⟩
    · exact .inr (.inr h)
  refine ⟨⟨[], []⟩, [], [.rol (ns.map PV.int)], .bl true, M', ⟨rfl, by simp, fun a h => by simp at h, fun n a c h => by simp at h⟩, .cons (.rol hR (hr ns)) .nil, h, fun φ' H' u x m q => ?_⟩
  cases q
  rfl
end Ev

/-! The plain side: how the interpreter's steps reduce; fractions; loops. -/
namespace Ev
section
variable {α β : Type} {M M' : Mem} {env : Env}
theorem bnd_some (a : α) (M : Mem) (f : α → Mem → Option β) : bnd (some (a, M)) f = f a M := rfl
theorem bnd_none (f : α → Mem → Option β) : bnd none f = none := rfl
theorem bifb_t (x y : Option β) : bifb (some true) x y = x := rfl
theorem bifb_f (x y : Option β) : bifb (some false) x y = y := rfl
theorem bifb_d {p : Prop} [Decidable p] (x y : Option β) : bifb (some (decide p)) x y = if p then x else y := by
  by_cases h : p
  · rw [decide_eq_true h, if_pos h]; rfl
  · rw [decide_eq_false h, if_neg h]; rfl
theorem bifb_b (b : Bool) (x y : Option β) : bifb (some b) x y = if b = true then x else y := by cases b <;> rfl
theorem iff_t (x : Option β) : iff_ true x = x := rfl
theorem iff_d {p : Prop} [Decidable p] (x : Option β) : iff_ (decide p) x = if p then x else none := by
  by_cases h : p
  · rw [decide_eq_true h, if_pos h]; rfl
  · rw [decide_eq_false h, if_neg h]; rfl
theorem nxt_nx (env : Env) (M : Mem) (f : Env → Mem → Option R) : nxt (some (.nx env M)) f = f env M := rfl
theorem nxt_rt (v : PV) (M : Mem) (f : Env → Mem → Option R) : nxt (some (.rt v M)) f = some (.rt v M) := rfl
theorem addOp_ii (i j : Int) : addOp M (.int i) (.int j) = some (.int (i + j)) := rfl
theorem addOp_tt (xs ys : List PV) : addOp M (.tup xs) (.tup ys) = if decide (xs.length + ys.length ≤ PySem.sizeLine) then some (.tup (xs ++ ys)) else none := rfl
theorem addOp_ll (xs ys : List PV) : addOp M (.lst xs) (.lst ys) = if decide (xs.length + ys.length ≤ PySem.sizeLine) then some (.lst (xs ++ ys)) else none := rfl
theorem subOp_ii (i j : Int) : subOp (.int i) (.int j) = some (.int (i - j)) := rfl
theorem mulOp_ii (i j : Int) : mulOp M (.int i) (.int j) = if mulOk i j then some (.int (i * j)) else none := rfl
theorem fdivOp_ii (i j : Int) : fdivOp (.int i) (.int j) = if divOk i j then some (.int (i.fdiv j)) else none := rfl
theorem modOp_ii (i j : Int) : modOp (.int i) (.int j) = if decide (j ≠ 0) then some (.int (i.fmod j)) else none := rfl
theorem cmpI_ii (p : Int → Int → Bool) (i j : Int) : cmpI p (.int i) (.int j) = some (p i j) := rfl
theorem tru_bl (b : Bool) : truthy M (.bl b) = some b := rfl
theorem tru_int (i : Int) : truthy M (.int i) = some (i != 0) := rfl
theorem absB_i (i : Int) : absB [.int i] = some (.int (if i < 0 then -i else i)) := rfl
theorem intB_i (i : Int) : intB [.int i] = some (.int i) := rfl
theorem asM_int (f : Bool) (i : Int) : asM f (.int i) M = (.int i, M) := by cases f <;> rfl
theorem asM_bl (f : Bool) (i : Bool) : asM f (.bl i) M = (.bl i, M) := by cases f <;> rfl
theorem asM_tup (f : Bool) (xs : List PV) : asM f (.tup xs) M = (.tup xs, M) := by cases f <;> rfl
theorem asM_false (v : PV) : asM false v M = (v, M) := rfl
theorem asM_lst (xs : List PV) : asM true (.lst xs) M = (.ref M.length, M ++ [.lst xs]) := rfl
theorem isOp_n (a : PV) : isOp a .non = some (isNon a) := by cases a <;> rfl
theorem isOp_bb (a b : Bool) : isOp (.bl a) (.bl b) = some (decide (a = b)) := rfl
theorem setAll_nil (vs : List PV) : setAll env [] vs = env := by unfold setAll; rfl
theorem setAll_cons (i : Nat) (is : List Nat) (v : PV) (vs : List PV) : setAll env (i :: is) (v :: vs) = setAll (env.set i (some v)) is vs := rfl
theorem bindT_nm (i : Nat) (v : PV) : bindT (.nm i) v env = some (env.set i (some v)) := rfl
theorem bindT_tp (is : List Nat) (vs : List PV) : bindT (.tp is) (.tup vs) env = if decide (vs.length = is.length) then some (setAll env is vs) else none := rfl
end
theorem bindT_ls0 (is : List Nat) (vs : List PV) (env : Env) : bindT (.ls is) (.lst vs) env = if decide (vs.length = is.length) then some (setAll env is vs) else none := rfl
/-- the end of a def -/
def fin (keep : Bool) (n : Nat) (r : Option R) : Option (PV × Mem) := match r with
  | some (.rt v M1) => if keep then some (v, M1) else leave n v M1
  | some (.nx _ M1) => if keep then some (.non, M1) else leave n .non M1
  | none => none
theorem fin_rt (n : Nat) (v : PV) (M : Mem) : fin false n (some (.rt v M)) = leave n v M := rfl
theorem fin_nx (n : Nat) (e : Env) (M : Mem) : fin false n (some (.nx e M)) = leave n .non M := rfl
theorem leave_same (v : PV) (M : Mem) : leave M.length v M = some (v, M) := by unfold leave; rw [if_pos rfl]
theorem leave_len {n : Nat} {v : PV} {M : Mem} (h : M.length = n) : leave n v M = some (v, M) := by unfold leave; rw [if_pos h]
/-! ### sizes -/
def lt2 (n : Nat) (x : Int) : Prop := x.natAbs < 2 ^ n
theorem lt2.mono {n m : Nat} {x : Int} (h : lt2 n x) (hm : n ≤ m) : lt2 m x := Nat.lt_of_lt_of_le h (Nat.pow_le_pow_right (by decide) hm)
theorem log2_lt {n : Nat} {x : Nat} (h0 : 0 < n) (h : x < 2 ^ n) : x.log2 < n := PySem.Flt.log2_lt_of h0 h
theorem mulOk_of {a b : Nat} {x y : Int} (hx : lt2 a x) (hy : lt2 b y) (h : a + b ≤ 999990) : mulOk x y = true := by
  unfold mulOk
  rw [Bool.or_eq_true]
  right
  have h1 := log2_lt (Nat.succ_pos a) (hx.mono (Nat.le_succ a))
  have h2 := log2_lt (Nat.succ_pos b) (hy.mono (Nat.le_succ b))
  exact decide_eq_true (by omega)
theorem mulOk_small {x y : Int} (h : (-(2 ^ 64) < y ∧ y < 2 ^ 64)) : mulOk x y = true := by
  unfold mulOk
  rw [Bool.or_eq_true]
  left
  exact decide_eq_true (.inr h)
theorem mulOk_smallL {x y : Int} (h : (-(2 ^ 64) < x ∧ x < 2 ^ 64)) : mulOk x y = true := by
  unfold mulOk
  rw [Bool.or_eq_true]
  left
  exact decide_eq_true (.inl h)
theorem divOk_of {n : Nat} {x y : Int} (h0 : y ≠ 0) (hy : lt2 n y) (hn : n ≤ 8990) : divOk x y = true := by
  unfold divOk
  rw [Bool.and_eq_true]
  have h2 := log2_lt (Nat.succ_pos n) (hy.mono (Nat.le_succ n))
  exact ⟨decide_eq_true h0, decide_eq_true (by omega)⟩
theorem lt2.mul {a b : Nat} {x y : Int} (hx : lt2 a x) (hy : lt2 b y) : lt2 (a + b) (x * y) := by
  unfold lt2
  rw [Int.natAbs_mul, Nat.pow_add]
  exact Nat.mul_lt_mul'' hx hy
theorem lt2.add {a : Nat} {x y : Int} (hx : lt2 a x) (hy : lt2 a y) : lt2 (a + 1) (x + y) := by
  unfold lt2 at *
  rw [Nat.pow_succ]
  omega
theorem lt2.sub {a : Nat} {x y : Int} (hx : lt2 a x) (hy : lt2 a y) : lt2 (a + 1) (x - y) := by
  unfold lt2 at *
  rw [Nat.pow_succ]
  omega
/-! ### Euclid's loop -/
theorem whl_gcd (ε : Int → Int → Env) (c : Env → Mem → Option (Bool × Mem)) (body : Env → Mem → Option R) (M : Mem) (hc : ∀ a b : Int, c (ε a b) M = some (decide (b ≠ 0), M))
    (hb : ∀ a b : Int, b ≠ 0 → body (ε a b) M = some (.nx (ε b (a.fmod b)) M)) : ∀ (m n : Nat) (a b : Nat), b < 2 ^ m → 2 * m + 1 ≤ n → whlL c body n (ε a b) M = some (.nx (ε (Nat.gcd a b : Nat) 0) M)
  | m, 0, a, b, _, hn => absurd hn (by omega)
  | m, n + 1, a, b, hm, hn => by
    unfold whlL
    rw [hc]
    by_cases h0 : b = 0
    · subst h0
      rw [Nat.gcd_zero_right]
      simp
    · have hb' : ((b : Nat) : Int) ≠ 0 := by omega
      rw [decide_eq_true hb']
      simp only [hb _ _ hb']
      have e1 : ((a : Nat) : Int).fmod ((b : Nat) : Int) = ((a % b : Nat) : Int) := by
        rw [Int.fmod_eq_emod_of_nonneg _ (by omega)]
        simp
      rw [e1]
      by_cases h1 : a % b = 0
      · cases n with
        | zero => 
          have : m ≠ 0 := fun z => by subst z; simp at hm; omega
          omega
        | succ n =>
          unfold whlL
          rw [hc, h1]
          have : Nat.gcd a b = b := by
            rw [Nat.gcd_comm, Nat.gcd_rec, h1, Nat.gcd_zero_left]
          rw [this]
          simp
      · cases m with
        | zero => simp at hm; omega
        | succ m =>
        cases n with
        | zero => omega
        | succ n =>
          unfold whlL
          rw [hc]
          have hr : ((a % b : Nat) : Int) ≠ 0 := by omega
          rw [decide_eq_true hr]
          simp only [hb _ _ hr]
          have e2 : ((b : Nat) : Int).fmod ((a % b : Nat) : Int) = ((b % (a % b) : Nat) : Int) := by
            rw [Int.fmod_eq_emod_of_nonneg _ (by omega)]
            simp
          rw [e2]
          have hlt : a % b < b := Nat.mod_lt _ (by omega)
          have hlt2 : b % (a % b) < a % b := Nat.mod_lt _ (by omega)
          have hle : a % b + b % (a % b) ≤ b := by
            have h3 := Nat.mod_add_div b (a % b)
            have h4 : 1 ≤ b / (a % b) := Nat.div_pos (Nat.le_of_lt hlt) (by omega)
            have h5 : (a % b) * 1 ≤ (a % b) * (b / (a % b)) := Nat.mul_le_mul_left _ h4
            omega
          rw [Nat.pow_succ] at hm
          have := whl_gcd ε c body M hc hb m n (a % b) (b % (a % b)) (by omega) (by omega)
          rw [this]
          rw [show Nat.gcd a b = Nat.gcd (a % b) (b % (a % b)) by rw [Nat.gcd_comm a b, Nat.gcd_rec b a, Nat.gcd_rec (a % b) b, Nat.gcd_comm]]
/-! ### fractions -/
def fr (q : Rat) : PV := .tup [.int q.num, .int (q.den : Int)]
def sgn (b : Int) : Int := if b > 0 then 1 else -1
theorem low_num {a b s : Int} (hb : b ≠ 0) (hs : s = b.sign) : a.fdiv ((Int.gcd a b : Nat) * s) = (Rat.divInt a b).num ∧ b.fdiv ((Int.gcd a b : Nat) * s) = ((Rat.divInt a b).den : Int) := by
  have hg : 0 < Int.gcd a b := Int.gcd_pos_of_ne_zero_right a hb
  obtain ⟨x, hx⟩ := Int.gcd_dvd_left a b
  obtain ⟨y, hy⟩ := Int.gcd_dvd_right a b
  have hss : s * s = 1 := by
    rcases Int.lt_or_gt_of_ne hb with h | h
    · rw [hs, Int.sign_eq_neg_one_of_neg h]; rfl
    · rw [hs, Int.sign_eq_one_of_pos h]; rfl
  generalize hG : Int.gcd a b = g at *
  have hg' : (g : Int) ≠ 0 := by omega
  have hgs : (g : Int) * s ≠ 0 := fun z => by
    rcases Int.mul_eq_zero.mp z with z | z
    · exact hg' z
    · rw [z] at hss; cases hss
  have div (z w : Int) (h : z = (g : Int) * w) : z.fdiv ((g : Int) * s) = s * w := by
    have h2 : z = ((g : Int) * s) * (s * w) := by
      rw [Int.mul_assoc, ← Int.mul_assoc s s w, hss, Int.one_mul]; exact h
    rw [Int.fdiv_eq_ediv_of_dvd ⟨s * w, h2⟩, h2]
    exact Int.mul_ediv_cancel_left _ hgs
  rw [div a x hx, div b y hy, Rat.num_divInt, Rat.den_divInt, if_neg hb, Int.gcd_comm b a, hG, ← hs]
  constructor
  · rw [hx, ← Int.mul_assoc, Int.mul_comm s (g : Int), Int.mul_assoc, Int.mul_ediv_cancel_left _ hg']
  · have h1 : b.natAbs = g * y.natAbs := by
      rw [hy, Int.natAbs_mul]
      rfl
    rw [h1, Nat.mul_div_cancel_left _ hg]
    rcases Int.lt_or_gt_of_ne hb with h | h
    · rw [hs, Int.sign_eq_neg_one_of_neg h]
      have : y < 0 := by
        rcases Int.lt_or_gt_of_ne (show y ≠ 0 from fun z => by rw [z, Int.mul_zero] at hy; exact hb hy) with h1 | h1
        · exact h1
        · have := Int.mul_pos (show (0 : Int) < g by omega) h1
          omega
      omega
    · rw [hs, Int.sign_eq_one_of_pos h]
      have : 0 < y := by
        rcases Int.lt_or_gt_of_ne (show y ≠ 0 from fun z => by rw [z, Int.mul_zero] at hy; exact hb hy) with h1 | h1
        · have := Int.mul_neg_of_pos_of_neg (show (0 : Int) < g by omega) h1
          omega
        · exact h1
      omega
/-- the reduced form is no greater -/
theorem low_le (a b : Int) (hb : b ≠ 0) : (Rat.divInt a b).num.natAbs ≤ a.natAbs ∧ (Rat.divInt a b).den ≤ b.natAbs := by
  rw [Rat.num_divInt, Rat.den_divInt, if_neg hb]
  constructor
  · rw [Int.natAbs_ediv_of_dvd (by
      rw [Int.gcd_comm]
      exact Int.dvd_mul_of_dvd_right (Int.gcd_dvd_left a b)), Int.natAbs_mul]
    have : b.sign.natAbs ≤ 1 := by
      rcases Int.lt_or_gt_of_ne hb with h | h
      · rw [Int.sign_eq_neg_one_of_neg h]; decide
      · rw [Int.sign_eq_one_of_pos h]; decide
    calc b.sign.natAbs * a.natAbs / ((b.gcd a : Nat) : Int).natAbs ≤ b.sign.natAbs * a.natAbs := Nat.div_le_self _ _
      _ ≤ 1 * a.natAbs := Nat.mul_le_mul_right _ this
      _ = a.natAbs := Nat.one_mul _
  · exact Nat.div_le_self _ _
/-- num and den below 2 ^ n -/
def sm (n : Nat) (q : Rat) : Prop := lt2 n q.num ∧ q.den < 2 ^ n
theorem sm.mono {n m : Nat} {q : Rat} (h : sm n q) (hm : n ≤ m) : sm m q := ⟨h.1.mono hm, Nat.lt_of_lt_of_le h.2 (Nat.pow_le_pow_right (by decide) hm)⟩
theorem sm.den {n : Nat} {q : Rat} (h : sm n q) : lt2 n (q.den : Int) := by
  unfold lt2
  rw [Int.natAbs_natCast]
  exact h.2
theorem sm_low {n : Nat} {a b : Int} (ha : lt2 n a) (hb : lt2 n b) (h0 : b ≠ 0) : sm n (Rat.divInt a b) := by
  obtain ⟨h1, h2⟩ := low_le a b h0
  exact ⟨Nat.lt_of_le_of_lt h1 ha, Nat.lt_of_le_of_lt h2 hb⟩
theorem add_low (p q : Rat) : Rat.divInt (p.num * q.den + q.num * p.den) (p.den * q.den) = p + q := by
  conv => rhs; rw [← Rat.num_divInt_den p, ← Rat.num_divInt_den q]
  rw [Rat.divInt_add_divInt _ _ (by have := p.den_nz; omega) (by have := q.den_nz; omega)]
theorem sub_low (p q : Rat) : Rat.divInt (p.num * q.den - q.num * p.den) (p.den * q.den) = p - q := by
  rw [Rat.sub_def', ← Rat.divInt_ofNat]
  simp
theorem mul_low (p q : Rat) : Rat.divInt (p.num * q.num) (p.den * q.den) = p * q := by
  conv => rhs; rw [← Rat.num_divInt_den p, ← Rat.num_divInt_den q]
  rw [Rat.divInt_mul_divInt]
theorem div_low (p q : Rat) (hq : q ≠ 0) : Rat.divInt (p.num * q.den) (p.den * q.num) = p / q := by
  rw [Rat.div_def, Rat.inv_def]
  conv => rhs; rw [← Rat.num_divInt_den p]
  rw [Rat.divInt_mul_divInt]
theorem den_pos (q : Rat) : 0 < (q.den : Int) := by have := q.den_nz; omega
theorem num_ne {q : Rat} (h : q ≠ 0) : q.num ≠ 0 := fun z => h (Rat.num_eq_zero.mp z)
theorem sm_add {a b : Nat} {p q : Rat} (hp : sm a p) (hq : sm b q) : sm (a + b + 1) (p + q) := by
  rw [← add_low]
  refine sm_low ?_ ((hp.den.mul hq.den).mono (by omega)) ?_
  · exact (hp.1.mul hq.den).add (by rw [Nat.add_comm]; exact hq.1.mul hp.den)
  · exact Int.ne_of_gt (Int.mul_pos (den_pos p) (den_pos q))
theorem sm_sub {a b : Nat} {p q : Rat} (hp : sm a p) (hq : sm b q) : sm (a + b + 1) (p - q) := by
  rw [← sub_low]
  refine sm_low ?_ ((hp.den.mul hq.den).mono (by omega)) ?_
  · exact (hp.1.mul hq.den).sub (by rw [Nat.add_comm]; exact hq.1.mul hp.den)
  · exact Int.ne_of_gt (Int.mul_pos (den_pos p) (den_pos q))
theorem sm_mul {a b : Nat} {p q : Rat} (hp : sm a p) (hq : sm b q) : sm (a + b) (p * q) := by
  rw [← mul_low]
  exact sm_low (hp.1.mul hq.1) (hp.den.mul hq.den) (Int.ne_of_gt (Int.mul_pos (den_pos p) (den_pos q)))
theorem sm_div {a b : Nat} {p q : Rat} (hp : sm a p) (hq : sm b q) (h : q ≠ 0) : sm (a + b) (p / q) := by
  rw [← div_low p q h]
  exact sm_low (hp.1.mul hq.den) (hp.den.mul hq.1) (fun z => by
    rcases Int.mul_eq_zero.mp z with z | z
    · exact Int.ne_of_gt (den_pos p) z
    · exact num_ne h z)
/-! ### == -/
theorem eqD_ii (M : Mem) (a b : Int) : eqD M (.int a) (.int b) = some (decide (a = b)) := by
  show some (PySem.PyData.eqv (.int a) (.int b)) = _
  show some (a == b) = _
  rw [Bool.beq_eq_decide_eq]
theorem eqD_bb (M : Mem) (a b : Bool) : eqD M (.bl a) (.bl b) = some (decide (a = b)) := by
  show some (PySem.PyData.eqv (.bool a) (.bool b)) = _
  show some (a == b) = _
  rw [Bool.beq_eq_decide_eq]
theorem eqD_pp (M : Mem) (a b c d : Int) : eqD M (.tup [.int a, .int b]) (.tup [.int c, .int d]) = some (decide (a = c ∧ b = d)) := by
  show some ((a == c) && ((b == d) && true)) = _
  rw [Bool.and_true, Bool.beq_eq_decide_eq, Bool.beq_eq_decide_eq, ← Bool.decide_and]
theorem eqD_fr (M : Mem) (p q : Rat) : eqD M (fr p) (fr q) = some (decide (p = q)) := by
  unfold fr
  rw [eqD_pp]
  congr 1
  by_cases h : p = q
  · subst h; simp
  · rw [decide_eq_false h, decide_eq_false]
    rintro ⟨h1, h2⟩
    exact h (Rat.ext h1 (by omega))
theorem idx_tup0 (M : Mem) (x0 : PV) (xs : List PV) : idxOp M (.tup (x0 :: xs)) (.int 0) = some x0 := by
  show L2.atI (x0 :: xs) 0 = _
  unfold L2.atI L2.ixN
  rw [if_pos (by omega), if_pos (by simp only [List.length_cons]; omega)]
  rfl
theorem idx_tup1 (M : Mem) (x0 x1 : PV) (xs : List PV) : idxOp M (.tup (x0 :: x1 :: xs)) (.int 1) = some x1 := by
  show L2.atI (x0 :: x1 :: xs) 1 = _
  unfold L2.atI L2.ixN
  rw [if_pos (by omega), if_pos (by simp only [List.length_cons]; omega)]
  rfl
theorem idx_tup2 (M : Mem) (x0 x1 x2 : PV) (xs : List PV) : idxOp M (.tup (x0 :: x1 :: x2 :: xs)) (.int 2) = some x2 := by
  show L2.atI (x0 :: x1 :: x2 :: xs) 2 = _
  unfold L2.atI L2.ixN
  rw [if_pos (by omega), if_pos (by simp only [List.length_cons]; omega)]
  rfl
theorem idx_tup3 (M : Mem) (x0 x1 x2 x3 : PV) (xs : List PV) : idxOp M (.tup (x0 :: x1 :: x2 :: x3 :: xs)) (.int 3) = some x3 := by
  show L2.atI (x0 :: x1 :: x2 :: x3 :: xs) 3 = _
  unfold L2.atI L2.ixN
  rw [if_pos (by omega), if_pos (by simp only [List.length_cons]; omega)]
  rfl
theorem idx_lst0 (M : Mem) (x0 : PV) (xs : List PV) : idxOp M (.lst (x0 :: xs)) (.int 0) = some x0 := by
  show L2.atI (x0 :: xs) 0 = _
  unfold L2.atI L2.ixN
  rw [if_pos (by omega), if_pos (by simp only [List.length_cons]; omega)]
  rfl
theorem idx_lst1 (M : Mem) (x0 x1 : PV) (xs : List PV) : idxOp M (.lst (x0 :: x1 :: xs)) (.int 1) = some x1 := by
  show L2.atI (x0 :: x1 :: xs) 1 = _
  unfold L2.atI L2.ixN
  rw [if_pos (by omega), if_pos (by simp only [List.length_cons]; omega)]
  rfl
theorem idx_lst2 (M : Mem) (x0 x1 x2 : PV) (xs : List PV) : idxOp M (.lst (x0 :: x1 :: x2 :: xs)) (.int 2) = some x2 := by
  show L2.atI (x0 :: x1 :: x2 :: xs) 2 = _
  unfold L2.atI L2.ixN
  rw [if_pos (by omega), if_pos (by simp only [List.length_cons]; omega)]
  rfl
theorem idx_lst3 (M : Mem) (x0 x1 x2 x3 : PV) (xs : List PV) : idxOp M (.lst (x0 :: x1 :: x2 :: x3 :: xs)) (.int 3) = some x3 := by
  show L2.atI (x0 :: x1 :: x2 :: x3 :: xs) 3 = _
  unfold L2.atI L2.ixN
  rw [if_pos (by omega), if_pos (by simp only [List.length_cons]; omega)]
  rfl
theorem idx_rol0 (M : Mem) (x0 : PV) (xs : List PV) : idxOp M (.rol (x0 :: xs)) (.int 0) = some x0 := by
  show L2.atI (x0 :: xs) 0 = _
  unfold L2.atI L2.ixN
  rw [if_pos (by omega), if_pos (by simp only [List.length_cons]; omega)]
  rfl
theorem idx_rol1 (M : Mem) (x0 x1 : PV) (xs : List PV) : idxOp M (.rol (x0 :: x1 :: xs)) (.int 1) = some x1 := by
  show L2.atI (x0 :: x1 :: xs) 1 = _
  unfold L2.atI L2.ixN
  rw [if_pos (by omega), if_pos (by simp only [List.length_cons]; omega)]
  rfl
theorem idx_rol2 (M : Mem) (x0 x1 x2 : PV) (xs : List PV) : idxOp M (.rol (x0 :: x1 :: x2 :: xs)) (.int 2) = some x2 := by
  show L2.atI (x0 :: x1 :: x2 :: xs) 2 = _
  unfold L2.atI L2.ixN
  rw [if_pos (by omega), if_pos (by simp only [List.length_cons]; omega)]
  rfl
theorem idx_rol3 (M : Mem) (x0 x1 x2 x3 : PV) (xs : List PV) : idxOp M (.rol (x0 :: x1 :: x2 :: x3 :: xs)) (.int 3) = some x3 := by
  show L2.atI (x0 :: x1 :: x2 :: x3 :: xs) 3 = _
  unfold L2.atI L2.ixN
  rw [if_pos (by omega), if_pos (by simp only [List.length_cons]; omega)]
  rfl
theorem bifb_isTy (t : Ty) (v : PV) {β : Type} (x y : Option β) : bifb (some (isTy t v)) x y = if isTy t v = true then x else y := bifb_b _ x y
theorem newL_f (xs : List PV) (M : Mem) : newL false xs M = (.lst xs, M) := rfl
theorem newL_t (xs : List PV) (M : Mem) : newL true xs M = (.ref M.length, M ++ [.lst xs]) := rfl
theorem fin_rtk (n : Nat) (v : PV) (M : Mem) : fin true n (some (.rt v M)) = some (v, M) := rfl
theorem sizeL : PySem.sizeLine = 16777216 := by decide +kernel
theorem fr_0 : fr 0 = .tup [.int 0, .int 1] := rfl
theorem fr_1 : fr 1 = .tup [.int 1, .int 1] := rfl
/-! ### comprehensions -/
theorem lcL_none {t : T} {g : Gd} {cond : Env → Mem → Option (Bool × Mem)} {elt : Env → Mem → Option (PV × Mem)} {env : Env} {M : Mem} (hg : gOk g M = true) : ∀ (xs acc : List PV), (∀ x ∈ xs, ∃ env1, bindT t x env = some env1 ∧ cond env1 M = some (false, M)) →
    lcL t g cond elt env xs acc M = some (acc, M)
  | [], acc, _ => by unfold lcL; rw [hg]
  | x :: xs, acc, h => by
    unfold lcL
    rw [hg]
    obtain ⟨env1, h1, h2⟩ := h x List.mem_cons_self
    simp only [h1, h2]
    exact lcL_none hg xs acc fun y hy => h y (List.mem_cons_of_mem _ hy)
/-- a map -/
theorem lcL_map {t : T} {g : Gd} {cond : Env → Mem → Option (Bool × Mem)} {elt : Env → Mem → Option (PV × Mem)} {env : Env} {M : Mem} (hg : gOk g M = true) (f : PV → PV) : ∀ (xs acc : List PV), (∀ x ∈ xs, ∃ env1, bindT t x env = some env1 ∧ cond env1 M = some (true, M) ∧ elt env1 M = some (f x, M)) →
    lcL t g cond elt env xs acc M = some (acc ++ xs.map f, M)
  | [], acc, _ => by unfold lcL; rw [hg]; simp
  | x :: xs, acc, h => by
    unfold lcL
    rw [hg]
    obtain ⟨env1, h1, h2, h3⟩ := h x List.mem_cons_self
    simp only [h1, h2, h3]
    rw [lcL_map hg f xs _ fun y hy => h y (List.mem_cons_of_mem _ hy), List.map_cons, List.append_assoc]
    rfl
/-- a comprehension that draws: each item's value keeps P, the memory keeps I -/
theorem lcL_draw {t : T} {cond : Env → Mem → Option (Bool × Mem)} {elt : Env → Mem → Option (PV × Mem)} {env : Env} (P : PV → Prop) (I : Mem → Prop) : ∀ (xs acc : List PV) (M : Mem), I M → (∀ x ∈ xs, ∀ M, I M → ∃ env1 v M', bindT t x env = some env1 ∧ cond env1 M = some (true, M) ∧ elt env1 M = some (v, M') ∧ P v ∧ I M') →
    ∃ vs M', lcL t [] cond elt env xs acc M = some (acc ++ vs, M') ∧ vs.length = xs.length ∧ (∀ v ∈ vs, P v) ∧ I M'
  | [], acc, M, hI, _ => ⟨[], M, by unfold lcL; simp [gOk], rfl, by simp, hI⟩
  | x :: xs, acc, M, hI, h => by
    obtain ⟨env1, v, M1, h1, h2, h3, h4, h5⟩ := h x List.mem_cons_self M hI
    obtain ⟨vs, M', e, hl, hp, hI'⟩ := lcL_draw P I xs (acc ++ [v]) M1 h5 fun y hy => h y (List.mem_cons_of_mem _ hy)
    refine ⟨v :: vs, M', ?_, by simp [hl], fun w hw => ?_, hI'⟩
    · unfold lcL
      simp only [gOk, h1, h2, h3]
      rw [e, List.append_assoc]
      rfl
    · rcases List.mem_cons.mp hw with rfl | hw
      · exact h4
      · exact hp w hw
theorem seqG_tup (M : Mem) (xs : List PV) : seqG M (.tup xs) = some (true, xs, []) := rfl
theorem seqG_lst (M : Mem) (xs : List PV) : seqG M (.lst xs) = some (false, xs, []) := rfl
theorem lenB_tup (M : Mem) (xs : List PV) : lenB M [.tup xs] = some (.int xs.length) := rfl
theorem lenB_lst (M : Mem) (xs : List PV) : lenB M [.lst xs] = some (.int xs.length) := rfl
theorem zip_mem : ∀ {xs : List PV} {z : PV}, z ∈ zipP xs xs → ∃ x ∈ xs, z = .tup [x, x]
  | [], _, h => by simp [zipP] at h
  | x :: xs, z, h => by
    unfold zipP at h
    rcases List.mem_cons.mp h with rfl | h
    · exact ⟨x, List.mem_cons_self, rfl⟩
    · obtain ⟨y, h1, h2⟩ := zip_mem h
      exact ⟨y, List.mem_cons_of_mem _ h1, h2⟩
/-! ### plain values -/
mutual
def dpt : PV → Nat
  | .tup xs | .lst xs => dpts xs + 1
  | _ => 0
def dpts : List PV → Nat
  | [] => 0
  | x :: xs => max (dpt x) (dpts xs)
end
mutual
def pl : PV → Bool
  | .non | .bl _ | .int _ => true
  | .str s => PySem.PyData.canLay0 (.str s)
  | .tup xs | .lst xs => pls xs
  | .rol _ | .ref _ => false
def pls : List PV → Bool
  | [] => true
  | x :: xs => pl x && pls xs
end
theorem pls_mem : ∀ {xs : List PV} {x : PV}, pls xs = true → x ∈ xs → pl x = true ∧ dpt x ≤ dpts xs
  | y :: ys, x, h, hm => by
    have h' : (pl y && pls ys) = true := h
    rw [Bool.and_eq_true] at h'
    rcases List.mem_cons.mp hm with rfl | hm
    · exact ⟨h'.1, Nat.le_max_left _ _⟩
    · obtain ⟨h1, h2⟩ := pls_mem h'.2 hm
      exact ⟨h1, Nat.le_trans h2 (Nat.le_max_right _ _)⟩
def sortP : PV → Int
  | .non => 0 | .bl _ => 1 | .int _ => 2 | .str _ => 3 | .tup _ => 4 | _ => 5
/-! ### draws -/
abbrev cup (x y : Int) : Cell := .lst [.int x, .int y]
def CupB (x y : Int) : Prop := 0 ≤ x ∧ 0 ≤ y ∧ y < 2147483648
theorem idx_cup0 (x y : PV) (T : Mem) : idxOp (.lst [x, y] :: T) (.ref 0) (.int 0) = some x := rfl
theorem idx_cup1 (x y : PV) (T : Mem) : idxOp (.lst [x, y] :: T) (.ref 0) (.int 1) = some y := rfl
theorem setAt0 (x v : PV) (xs : List PV) : setAt (x :: xs) 0 v = some (v :: xs) := by
  unfold setAt L2.ixN
  rw [if_pos (by omega), if_pos (by simp only [List.length_cons]; omega)]
  rfl
theorem setAt1 (x y v : PV) (xs : List PV) : setAt (x :: y :: xs) 1 v = some (x :: v :: xs) := by
  unfold setAt L2.ixN
  rw [if_pos (by omega), if_pos (by simp only [List.length_cons]; omega)]
  rfl
end Ev

/-! The text as the interpreter has it, and that it is this text: printed by gen.py. -/
namespace Lw
open PySem PySem.Spec PyProof.Rows L2 Ev
def topS (i : Nat) : Stmt := PySem.Challenge.pw_endsmeasured_k52_whole_builds.main.body.getD i (.Pass ⟨0, 0, 0, 0⟩)
abbrev k_DIGITS : PV := (.int (10000000000000000000000000000000000000000))
abbrev k_NONE : PV := (.tup [(.int (0)), (.int (1))])
abbrev k_ONE : PV := (.tup [(.int (1)), (.int (1))])
abbrev k_PIECES : PV := (.int (60))
abbrev k_DEEP : PV := (.int (60))
abbrev k_ROW : PV := (.str "row")
abbrev k_SIDE : PV := (.str "side")
def m_is_integer : Ss := (.cons (.ret (.and (.isi (.var 0) .int) (.not (.isi (.var 0) .bool)))) .nil)
def m_is_tuple_of : Ss := (.cons (.ret (.and (.isi (.var 0) .tuple) (.chn .le .le (.var 1) (.blt .len false (.cons (.var 0) .nil)) (.var 2)))) .nil)
def m_divisor_of : Ss := (.cons (.par 0 1 (.blt .abs false (.cons (.var 0) .nil)) (.blt .abs false (.cons (.var 1) .nil))) (.cons (.whl (.cmp .ne (.var 1) (.cst (.int (0)))) (.cons (.par 0 1 (.var 1) (.bin .mod false (.var 0) (.var 1))) .nil)) (.cons (.ret (.var 0)) .nil)))
def m_lowest : Ss := (.cons (.set 2 (.bin .mul false (.call 2 (.cons (.var 0) (.cons (.var 1) .nil))) (.ite (.cmp .gt (.var 1) (.cst (.int (0)))) (.cst (.int (1))) (.neg (.cst (.int (1))))))) (.cons (.ret (.tup (.cons (.bin .fdiv false (.var 0) (.var 2)) (.cons (.bin .fdiv false (.var 1) (.var 2)) .nil)))) .nil))
def m_sum_of : Ss := (.cons (.ret (.call 3 (.cons (.bin .add false (.bin .mul false (.idx (.var 0) (.cst (.int (0)))) (.idx (.var 1) (.cst (.int (1))))) (.bin .mul false (.idx (.var 1) (.cst (.int (0)))) (.idx (.var 0) (.cst (.int (1)))))) (.cons (.bin .mul false (.idx (.var 0) (.cst (.int (1)))) (.idx (.var 1) (.cst (.int (1))))) .nil)))) .nil)
def m_part_of : Ss := (.cons (.ret (.call 3 (.cons (.bin .mul false (.idx (.var 0) (.cst (.int (0)))) (.idx (.var 1) (.cst (.int (1))))) (.cons (.bin .mul false (.idx (.var 0) (.cst (.int (1)))) (.idx (.var 1) (.cst (.int (0))))) .nil)))) .nil)
def m_is_under : Ss := (.cons (.ret (.cmp .lt (.bin .mul false (.idx (.var 0) (.cst (.int (0)))) (.idx (.var 1) (.cst (.int (1))))) (.bin .mul false (.idx (.var 1) (.cst (.int (0)))) (.idx (.var 0) (.cst (.int (1))))))) .nil)
def m_fits_fraction : Ss := (.cons (.ite (.or (.not (.call 1 (.cons (.var 0) (.cons (.cst (.int (2))) (.cons (.cst (.int (2))) .nil))))) (.not (.blt .all false (.cons (.lc false [1] (.nm 1) (.seq (.var 0)) .nil (.and (.call 0 (.cons (.var 1) .nil)) (.chn .lt .lt (.neg (.cst k_DIGITS)) (.var 1) (.cst k_DIGITS)))) .nil)))) (.cons (.ret (.cst (.bl false))) .nil) .nil) (.cons (.ret (.and (.cmp .ge (.idx (.var 0) (.cst (.int (1)))) (.cst (.int (1)))) (.cmp .eq (.call 2 (.cons (.idx (.var 0) (.cst (.int (0)))) (.cons (.idx (.var 0) (.cst (.int (1)))) .nil))) (.cst (.int (1)))))) .nil))
def m_need_fraction : Ss := (.cons (.ite (.not (.call 7 (.cons (.var 0) .nil))) (.cons .rais .nil) .nil) .nil)
def m_need_both : Ss := (.cons (.exp (.call 8 (.cons (.var 0) .nil))) (.cons (.exp (.call 8 (.cons (.var 1) .nil))) .nil))
def m_is_fraction : Ss := (.cons (.ret (.call 7 (.cons (.var 0) .nil))) .nil)
def m_plus : Ss := (.cons (.exp (.call 9 (.cons (.var 0) (.cons (.var 1) .nil)))) (.cons (.ret (.call 4 (.cons (.var 0) (.cons (.var 1) .nil)))) .nil))
def m_over : Ss := (.cons (.exp (.call 9 (.cons (.var 0) (.cons (.var 1) .nil)))) (.cons (.ite (.cmp .eq (.var 1) (.cst k_NONE)) (.cons .rais .nil) .nil) (.cons (.ret (.call 5 (.cons (.var 0) (.cons (.var 1) .nil)))) .nil)))
def m_is_less : Ss := (.cons (.exp (.call 9 (.cons (.var 0) (.cons (.var 1) .nil)))) (.cons (.ret (.call 6 (.cons (.var 0) (.cons (.var 1) .nil)))) .nil))
def m_pieces_in : Ss := (.cons (.ite (.or (.not (.isi (.var 0) .tuple)) (.cmp .lt (.var 1) (.cst (.int (0))))) (.cons (.ret (.cst (.int (0)))) .nil) .nil) (.cons (.ite (.cmp .eq (.var 0) (.tup .nil)) (.cons (.ret (.cst (.int (1)))) .nil) .nil) (.cons (.ite (.or (.cmp .lt (.blt .len false (.cons (.var 0) .nil)) (.cst (.int (3)))) (.or (.cmp .gt (.blt .len false (.cons (.var 0) .nil)) (.bin .add false (.cst k_PIECES) (.cst (.int (1))))) (.or (.not (.isi (.idx (.var 0) (.cst (.int (0)))) .str)) (.cmp .notin (.idx (.var 0) (.cst (.int (0)))) (.tup (.cons (.cst k_ROW) (.cons (.cst k_SIDE) .nil))))))) (.cons (.ret (.cst (.int (0)))) .nil) .nil) (.cons (.set 2 (.lc false [3] (.nm 3) (.seq (.slc (.var 0) true false (.cst (.int (1))) (.cst .non))) .nil (.call 14 (.cons (.var 3) (.cons (.bin .sub false (.var 1) (.cst (.int (1)))) .nil))))) (.cons (.ret (.ite (.and (.blt .all false (.cons (.lc false [4] (.nm 4) (.seq (.var 2)) .nil (.cmp .gt (.var 4) (.cst (.int (0))))) .nil)) (.cmp .le (.blt .sum false (.cons (.var 2) .nil)) (.cst k_PIECES))) (.blt .sum false (.cons (.var 2) .nil)) (.cst (.int (0))))) .nil)))))
def m_fits_build : Ss := (.cons (.ret (.cmp .gt (.call 14 (.cons (.var 0) (.cons (.bin .sub false (.cst k_DEEP) (.cst (.int (1)))) .nil))) (.cst (.int (0))))) .nil)
def m_need_build : Ss := (.cons (.ite (.not (.call 15 (.cons (.var 0) .nil))) (.cons .rais .nil) .nil) .nil)
def m_value_in : Ss := (.cons (.ite (.cmp .eq (.var 0) (.tup .nil)) (.cons (.ret (.cst k_ONE)) .nil) .nil) (.cons (.set 1 (.cst k_NONE)) (.cons (.for_ (.nm 2) (.seq (.slc (.var 0) true false (.cst (.int (1))) (.cst .non))) (.cons (.set 3 (.call 17 (.cons (.var 2) .nil))) (.cons (.set 1 (.call 4 (.cons (.var 1) (.cons (.ite (.cmp .eq (.idx (.var 0) (.cst (.int (0)))) (.cst k_ROW)) (.var 3) (.tup (.cons (.idx (.var 3) (.cst (.int (1)))) (.cons (.idx (.var 3) (.cst (.int (0)))) .nil)))) .nil)))) .nil))) (.cons (.ret (.ite (.cmp .eq (.idx (.var 0) (.cst (.int (0)))) (.cst k_ROW)) (.var 1) (.tup (.cons (.idx (.var 1) (.cst (.int (1)))) (.cons (.idx (.var 1) (.cst (.int (0)))) .nil))))) .nil))))
def m_turned_in : Ss := (.cons (.ite (.cmp .eq (.var 0) (.tup .nil)) (.cons (.ret (.tup .nil)) .nil) .nil) (.cons (.ret (.bin .add false (.tup (.cons (.ite (.cmp .eq (.idx (.var 0) (.cst (.int (0)))) (.cst k_ROW)) (.cst k_SIDE) (.cst k_ROW)) .nil)) (.blt .tuple false (.cons (.lc false [1] (.nm 1) (.seq (.slc (.var 0) true false (.cst (.int (1))) (.cst .non))) .nil (.call 18 (.cons (.var 1) .nil))) .nil)))) .nil))
def m_is_build : Ss := (.cons (.ret (.call 15 (.cons (.var 0) .nil))) .nil)
def m_value_of_build : Ss := (.cons (.exp (.call 16 (.cons (.var 0) .nil))) (.cons (.ret (.call 17 (.cons (.var 0) .nil))) .nil))
def m_pieces_in_build : Ss := (.cons (.exp (.call 16 (.cons (.var 0) .nil))) (.cons (.ret (.call 14 (.cons (.var 0) (.cons (.cst k_DEEP) .nil)))) .nil))
def m_turned_build : Ss := (.cons (.exp (.call 16 (.cons (.var 0) .nil))) (.cons (.ret (.call 18 (.cons (.var 0) .nil))) .nil))
def m__law_cup : Ss := (.cons (.set 1 (.blt .abs false (.cons (.idx (.bin .add false (.blt .list false (.cons (.var 0) .nil)) (.lst false (.cons (.cst (.int (0))) .nil))) (.cst (.int (0)))) .nil))) (.cons (.ret (.lst true (.cons (.ite (.cmp .ge (.var 1) (.bin .pow false (.cst (.int (10))) (.cst (.int (18))))) (.bin .fdiv false (.var 1) (.cst (.int (73)))) (.cst (.int (0)))) (.cons (.bin .add false (.bin .mod false (.blt .int false (.cons (.bin .add false (.bin .mul false (.var 1) (.cst (.int (283)))) (.cst (.int (3907)))) .nil)) (.cst (.int (2077503167)))) (.cst (.int (167)))) .nil)))) .nil))
def m__law_roll : Ss := (.cons (.ite (.cmp .gt (.idx (.var 0) (.cst (.int (0)))) (.cst (.int (0)))) (.cons (.set 2 (.bin .mod false (.blt .int false (.cons (.idx (.var 0) (.cst (.int (0)))) .nil)) (.var 1))) (.cons (.seti (.var 0) (.cst (.int (0))) (.bin .fdiv false (.idx (.var 0) (.cst (.int (0)))) (.var 1))) (.cons (.ret (.var 2)) .nil))) .nil) (.cons (.seti (.var 0) (.cst (.int (1))) (.bin .mod false (.blt .int false (.cons (.bin .add false (.bin .mul false (.idx (.var 0) (.cst (.int (1)))) (.cst (.int (31051)))) (.cst (.int (7993)))) .nil)) (.cst (.int (2147483543))))) (.cons (.set 3 (.bin .mod false (.blt .int false (.cons (.bin .mul false (.idx (.var 0) (.cst (.int (1)))) (.bin .add false (.idx (.var 0) (.cst (.int (1)))) (.cst (.int (229))))) .nil)) (.cst (.int (2147483587))))) (.cons (.ret (.bin .mod false (.blt .int false (.cons (.bin .fdiv false (.var 3) (.cst (.int (821)))) .nil)) (.var 1))) .nil))))
def m__law_some : Ss := (.cons (.ret (.idx (.var 1) (.call 24 (.cons (.var 0) (.cons (.blt .len false (.cons (.var 1) .nil)) .nil))))) .nil)
def m__law_sort : Ss := (.cons (.ite (.or (.cmp .is (.var 0) (.cst .non)) (.isi (.var 0) .bool)) (.cons (.ret (.ite (.cmp .is (.var 0) (.cst .non)) (.cst (.int (0))) (.cst (.int (1))))) .nil) .nil) (.cons (.ite (.or (.isi (.var 0) .int) (.isi (.var 0) .str)) (.cons (.ret (.ite (.isi (.var 0) .int) (.cst (.int (2))) (.cst (.int (3))))) .nil) .nil) (.cons (.ret (.ite (.isi (.var 0) .tuple) (.cst (.int (4))) (.ite (.isi (.var 0) .list) (.cst (.int (5))) (.cst (.int (6)))))) .nil)))
def m__law_like : Ss := (.cons (.set 2 (.call 26 (.cons (.var 1) .nil))) (.cons (.ite (.or (.cmp .ne (.call 26 (.cons (.var 0) .nil)) (.var 2)) (.cmp .eq (.var 2) (.cst (.int (6))))) (.cons (.ret (.cst (.bl false))) .nil) .nil) (.cons (.ite (.cmp .isin (.var 2) (.tup (.cons (.cst (.int (4))) (.cons (.cst (.int (5))) .nil)))) (.cons (.ret (.and (.cmp .eq (.blt .len false (.cons (.var 0) .nil)) (.blt .len false (.cons (.var 1) .nil))) (.cmp .eq (.lc false [3, 4] (.tp [3, 4]) (.zip (.var 0) (.var 1)) (.cons (.not (.call 27 (.cons (.var 3) (.cons (.var 4) .nil)))) .nil) (.cst (.int (1)))) (.lst false .nil)))) .nil) .nil) (.cons (.ret (.cmp .eq (.var 0) (.var 1))) .nil))))
def m__law_least : Ss := (.cons (.par 2 3 (.blt .abs false (.cons (.var 0) .nil)) (.blt .abs false (.cons (.var 1) .nil))) (.cons (.whl (.cmp .ne (.var 3) (.cst (.int (0)))) (.cons (.par 2 3 (.var 3) (.bin .mod false (.blt .int false (.cons (.var 2) .nil)) (.var 3))) .nil)) (.cons (.set 4 (.ite (.cmp .lt (.var 1) (.cst (.int (0)))) (.neg (.cst (.int (1)))) (.cst (.int (1))))) (.cons (.ret (.tup (.cons (.blt .int false (.cons (.bin .fdiv false (.bin .mul false (.var 4) (.var 0)) (.var 2)) .nil)) (.cons (.blt .int false (.cons (.bin .fdiv false (.bin .mul false (.var 4) (.var 1)) (.var 2)) .nil)) .nil)))) .nil))))
def m__law_plus : Ss := (.cons (.ret (.call 28 (.cons (.bin .add false (.bin .mul false (.idx (.var 0) (.cst (.int (0)))) (.idx (.var 1) (.cst (.int (1))))) (.bin .mul false (.idx (.var 1) (.cst (.int (0)))) (.idx (.var 0) (.cst (.int (1)))))) (.cons (.bin .mul false (.idx (.var 0) (.cst (.int (1)))) (.idx (.var 1) (.cst (.int (1))))) .nil)))) .nil)
def m__law_under : Ss := (.cons (.ret (.cmp .lt (.bin .mul false (.idx (.var 0) (.cst (.int (0)))) (.idx (.var 1) (.cst (.int (1))))) (.bin .mul false (.idx (.var 1) (.cst (.int (0)))) (.idx (.var 0) (.cst (.int (1))))))) .nil)
def m__law_build : Ss := (.cons (.ite (.cmp .eq (.var 1) (.cst (.int (1)))) (.cons (.ret (.tup .nil)) .nil) .nil) (.cons (.par 2 3 (.lst true .nil) (.var 1)) (.cons (.whl (.cmp .gt (.var 3) (.cst (.int (0)))) (.cons (.set 4 (.blt .min false (.cons (.var 3) (.cons (.bin .add false (.cst (.int (1))) (.call 24 (.cons (.var 0) (.cons (.call 25 (.cons (.var 0) (.cons (.lst false (.cons (.cst (.int (1))) (.cons (.cst (.int (3))) (.cons (.bin .sub false (.var 1) (.cst (.int (1)))) .nil)))) .nil))) .nil)))) .nil)))) (.cons (.set 4 (.blt .min false (.cons (.var 4) (.cons (.bin .sub false (.var 1) (.cst (.int (1)))) .nil)))) (.cons (.exp (.app (.var 2) (.call 31 (.cons (.var 0) (.cons (.var 4) .nil))))) (.cons (.set 3 (.bin .sub false (.var 3) (.var 4))) .nil))))) (.cons (.ret (.bin .add false (.tup (.cons (.call 25 (.cons (.var 0) (.cons (.lst false (.cons (.cst (.str "row")) (.cons (.cst (.str "side")) .nil))) .nil))) .nil)) (.blt .tuple false (.cons (.var 2) .nil)))) .nil))))
def m__law_worth : Ss := (.cons (.ite (.cmp .eq (.var 0) (.tup .nil)) (.cons (.ret (.tup (.cons (.cst (.int (1))) (.cons (.cst (.int (1))) .nil)))) .nil) .nil) (.cons (.set 1 (.tup (.cons (.cst (.int (0))) (.cons (.cst (.int (1))) .nil)))) (.cons (.for_ (.nm 2) (.seq (.slc (.var 0) true false (.cst (.int (1))) (.cst .non))) (.cons (.set 3 (.call 32 (.cons (.var 2) .nil))) (.cons (.set 1 (.call 29 (.cons (.var 1) (.cons (.ite (.cmp .eq (.idx (.var 0) (.cst (.int (0)))) (.cst (.str "row"))) (.var 3) (.tup (.cons (.idx (.var 3) (.cst (.int (1)))) (.cons (.idx (.var 3) (.cst (.int (0)))) .nil)))) .nil)))) .nil))) (.cons (.ret (.ite (.cmp .eq (.idx (.var 0) (.cst (.int (0)))) (.cst (.str "row"))) (.var 1) (.tup (.cons (.idx (.var 1) (.cst (.int (1)))) (.cons (.idx (.var 1) (.cst (.int (0)))) .nil))))) .nil))))
def m__law_pieces : Ss := (.cons (.ite (.or (.not (.isi (.var 0) .tuple)) (.cmp .gt (.var 1) (.cst (.int (70))))) (.cons (.ret (.cst (.int (0)))) .nil) .nil) (.cons (.ite (.cmp .eq (.var 0) (.tup .nil)) (.cons (.ret (.cst (.int (1)))) .nil) .nil) (.cons (.ite (.or (.cmp .lt (.blt .len false (.cons (.var 0) .nil)) (.cst (.int (3)))) (.or (.cmp .ne (.call 26 (.cons (.idx (.var 0) (.cst (.int (0)))) .nil)) (.cst (.int (3)))) (.cmp .notin (.idx (.var 0) (.cst (.int (0)))) (.tup (.cons (.cst (.str "row")) (.cons (.cst (.str "side")) .nil)))))) (.cons (.ret (.cst (.int (0)))) .nil) .nil) (.cons (.set 2 (.lc false [3] (.nm 3) (.seq (.slc (.var 0) true false (.cst (.int (1))) (.cst .non))) .nil (.call 33 (.cons (.var 3) (.cons (.bin .add false (.var 1) (.cst (.int (1)))) .nil))))) (.cons (.ret (.ite (.and (.cmp .notin (.cst (.int (0))) (.var 2)) (.cmp .le (.blt .sum false (.cons (.var 2) .nil)) (.cst (.int (60))))) (.blt .sum false (.cons (.var 2) .nil)) (.cst (.int (0))))) .nil)))))
def m__law_turn : Ss := (.cons (.ret (.ite (.cmp .eq (.var 0) (.tup .nil)) (.tup .nil) (.bin .add false (.tup (.cons (.ite (.cmp .eq (.idx (.var 0) (.cst (.int (0)))) (.cst (.str "row"))) (.cst (.str "side")) (.cst (.str "row"))) .nil)) (.blt .tuple false (.cons (.lc false [1] (.nm 1) (.seq (.slc (.var 0) true false (.cst (.int (1))) (.cst .non))) .nil (.call 34 (.cons (.var 1) .nil))) .nil))))) .nil)
def m__law_bent : Ss := (.cons (.ite (.or (.not (.isi (.var 1) .tuple)) (.or (.cmp .eq (.var 1) (.tup .nil)) (.cmp .eq (.call 24 (.cons (.var 0) (.cons (.cst (.int (6))) .nil))) (.cst (.int (0)))))) (.cons (.ret (.call 25 (.cons (.var 0) (.cons (.lst false (.cons (.tup .nil) (.cons (.cst .non) (.cons (.lst false .nil) (.cons (.cst (.str "row")) (.cons (.cst (.str "side")) (.cons (.cst (.int (0))) (.cons (.cst (.int (1))) (.cons (.cst (.bl true)) (.cons (.tup (.cons (.cst (.str "row")) .nil)) (.cons (.tup (.cons (.cst (.str "row")) (.cons (.tup .nil) .nil))) (.cons (.tup (.cons (.cst (.str "side")) (.cons (.tup .nil) (.cons (.tup .nil) .nil)))) (.cons (.tup (.cons (.cst (.str "rows")) (.cons (.tup .nil) (.cons (.tup .nil) .nil)))) (.cons (.tup .nil) (.cons (.tup (.cons (.cst (.str "row")) (.cons (.tup .nil) (.cons (.cst .non) .nil)))) (.cons (.tup (.cons (.tup .nil) (.cons (.tup .nil) .nil))) (.cons (.tup (.cons (.cst (.str "row")) (.cons (.cst (.str "side")) (.cons (.tup .nil) .nil)))) .nil))))))))))))))))) .nil)))) .nil) .nil) (.cons (.par 2 3 (.call 24 (.cons (.var 0) (.cons (.blt .len false (.cons (.var 1) .nil)) .nil))) (.call 24 (.cons (.var 0) (.cons (.cst (.int (10))) .nil)))) (.cons (.ite (.cmp .eq (.var 3) (.cst (.int (0)))) (.cons (.ret (.bin .add false (.slc (.var 1) false true (.cst .non) (.var 2)) (.slc (.var 1) true false (.bin .add false (.var 2) (.cst (.int (1)))) (.cst .non)))) .nil) .nil) (.cons (.ite (.cmp .eq (.var 3) (.cst (.int (1)))) (.cons (.ret (.bin .add false (.slc (.var 1) false true (.cst .non) (.bin .add false (.var 2) (.cst (.int (1))))) (.slc (.var 1) true false (.var 2) (.cst .non)))) .nil) .nil) (.cons (.ite (.cmp .eq (.var 3) (.cst (.int (2)))) (.cons (.ret (.blt .list false (.cons (.var 1) .nil))) .nil) .nil) (.cons (.ite (.cmp .eq (.var 3) (.cst (.int (3)))) (.cons (.ret (.rev (.var 1))) .nil) .nil) (.cons (.ret (.bin .add false (.bin .add false (.slc (.var 1) false true (.cst .non) (.var 2)) (.tup (.cons (.call 35 (.cons (.var 0) (.cons (.idx (.var 1) (.var 2)) .nil))) .nil))) (.slc (.var 1) true false (.bin .add false (.var 2) (.cst (.int (1)))) (.cst .non)))) .nil)))))))
def m__law_right : Ss := (.cons (.set 2 (.call 31 (.cons (.var 0) (.cons (.var 1) .nil)))) (.cons (.par 3 4 (.call 32 (.cons (.var 2) .nil)) (.call 34 (.cons (.var 2) .nil))) (.cons (.set 5 (.lst false (.cons (.call 19 (.cons (.var 2) .nil)) (.cons (.call 20 (.cons (.var 2) .nil)) (.cons (.call 21 (.cons (.var 2) .nil)) (.cons (.call 22 (.cons (.var 2) .nil)) (.cons (.call 20 (.cons (.var 4) .nil)) (.cons (.call 22 (.cons (.var 4) .nil)) (.cons (.call 21 (.cons (.var 4) .nil)) .nil))))))))) (.cons (.ite (.or (.not (.call 27 (.cons (.var 5) (.cons (.lst false (.cons (.cst (.bl true)) (.cons (.var 3) (.cons (.var 1) (.cons (.var 4) (.cons (.tup (.cons (.idx (.var 3) (.cst (.int (1)))) (.cons (.idx (.var 3) (.cst (.int (0)))) .nil))) (.cons (.var 2) (.cons (.var 1) .nil)))))))) .nil)))) (.cmp .isn (.call 10 (.cons (.var 3) .nil)) (.cst (.bl true)))) (.cons (.ret (.cst (.bl false))) .nil) .nil) (.cons (.asg (.tp [6, 7]) (.tup (.cons (.cst (.int (1))) (.cons (.cst (.int (1))) .nil)))) (.cons (.for_ (.nm 8) (.rng (.cst (.int 0)) (.var 1)) (.cons (.par 6 7 (.var 7) (.bin .add false (.var 6) (.var 7))) .nil)) (.cons (.ite (.or (.cmp .gt (.blt .maxt false (.cons (.var 3) .nil)) (.var 6)) (.or (.call 30 (.cons (.var 3) (.cons (.tup (.cons (.cst (.int (1))) (.cons (.var 1) .nil))) .nil))) (.call 30 (.cons (.tup (.cons (.var 1) (.cons (.cst (.int (1))) .nil))) (.cons (.var 3) .nil))))) (.cons (.ret (.cst (.bl false))) .nil) .nil) (.cons (.ite (.cmp .lt (.var 1) (.cst (.int (60)))) (.cons (.set 5 (.lst false (.cons (.call 20 (.cons (.tup (.cons (.cst (.str "row")) (.cons (.var 2) (.cons (.tup .nil) .nil)))) .nil)) (.cons (.call 20 (.cons (.tup (.cons (.cst (.str "side")) (.cons (.tup .nil) (.cons (.var 2) .nil)))) .nil)) .nil)))) (.cons (.ite (.not (.call 27 (.cons (.var 5) (.cons (.lst false (.cons (.call 11 (.cons (.var 3) (.cons (.tup (.cons (.cst (.int (1))) (.cons (.cst (.int (1))) .nil))) .nil))) (.cons (.call 12 (.cons (.tup (.cons (.cst (.int (1))) (.cons (.cst (.int (1))) .nil))) (.cons (.call 11 (.cons (.tup (.cons (.cst (.int (1))) (.cons (.cst (.int (1))) .nil))) (.cons (.call 12 (.cons (.tup (.cons (.cst (.int (1))) (.cons (.cst (.int (1))) .nil))) (.cons (.var 3) .nil))) .nil))) .nil))) .nil))) .nil)))) (.cons (.ret (.cst (.bl false))) .nil) .nil) .nil)) .nil) (.cons (.for_ (.nm 9) (.seq (.bin .add false (.lc false [8] (.nm 8) (.rng (.cst (.int 0)) (.cst (.int (8)))) .nil (.call 35 (.cons (.var 0) (.cons (.var 2) .nil)))) (.lst false (.cons (.blt .list false (.cons (.var 2) .nil)) (.cons (.cst .non) (.cons (.cst (.str "row")) (.cons (.cst (.int (5))) (.cons (.tup (.cons (.var 2) .nil)) (.cons (.tup (.cons (.cst (.str "row")) (.cons (.var 2) .nil))) (.cons (.tup (.cons (.cst (.str "side")) (.cons (.var 2) (.cons (.var 2) .nil)))) .nil)))))))))) (.cons (.ite (.not (.call 27 (.cons (.call 19 (.cons (.var 9) .nil)) (.cons (.cmp .gt (.call 33 (.cons (.var 9) (.cons (.cst (.int (0))) .nil))) (.cst (.int (0)))) .nil)))) (.cons (.ret (.cst (.bl false))) .nil) .nil) .nil)) (.cons (.ret (.cst (.bl true))) .nil))))))))))
def m__law_first_right : Ss := (.cons (.set 0 (.tup (.cons (.cst (.str "row")) (.cons (.tup .nil) (.cons (.tup (.cons (.cst (.str "side")) (.cons (.tup .nil) (.cons (.tup .nil) .nil)))) .nil))))) (.cons (.ite (.not (.call 27 (.cons (.call 20 (.cons (.bin .add false (.tup (.cons (.cst (.str "side")) .nil)) (.bin .mul false (.tup (.cons (.tup .nil) .nil)) (.cst (.int (5))))) .nil)) (.cons (.tup (.cons (.cst (.int (1))) (.cons (.cst (.int (5))) .nil))) .nil)))) (.cons (.ret (.cst (.bl false))) .nil) .nil) (.cons (.set 1 (.lst false (.cons (.call 19 (.cons (.var 0) .nil)) (.cons (.call 19 (.cons (.tup (.cons (.cst (.str "row")) (.cons (.tup .nil) .nil))) .nil)) (.cons (.call 20 (.cons (.var 0) .nil)) (.cons (.call 21 (.cons (.var 0) .nil)) (.cons (.call 22 (.cons (.var 0) .nil)) (.cons (.call 20 (.cons (.call 22 (.cons (.var 0) .nil)) .nil)) .nil)))))))) (.cons (.ite (.not (.call 27 (.cons (.var 1) (.cons (.lst false (.cons (.cst (.bl true)) (.cons (.cst (.bl false)) (.cons (.tup (.cons (.cst (.int (3))) (.cons (.cst (.int (2))) .nil))) (.cons (.cst (.int (3))) (.cons (.tup (.cons (.cst (.str "side")) (.cons (.tup .nil) (.cons (.tup (.cons (.cst (.str "row")) (.cons (.tup .nil) (.cons (.tup .nil) .nil)))) .nil)))) (.cons (.tup (.cons (.cst (.int (2))) (.cons (.cst (.int (3))) .nil))) .nil))))))) .nil)))) (.cons (.ret (.cst (.bl false))) .nil) .nil) (.cons (.ret (.cst (.bl true))) .nil)))))
def m__law_written : Ss := (.cons (.set 1 (.bin .add false (.cst (.int (2))) (.call 24 (.cons (.var 0) (.cons (.cst (.int (59))) .nil))))) (.cons (.set 2 (.lst false (.cons (.call 20 (.cons (.bin .add false (.tup (.cons (.cst (.str "row")) .nil)) (.bin .mul false (.tup (.cons (.tup .nil) .nil)) (.var 1))) .nil)) (.cons (.call 20 (.cons (.bin .add false (.tup (.cons (.cst (.str "side")) .nil)) (.bin .mul false (.tup (.cons (.tup .nil) .nil)) (.var 1))) .nil)) (.cons (.call 19 (.cons (.bin .add false (.tup (.cons (.cst (.str "row")) .nil)) (.bin .mul false (.tup (.cons (.tup .nil) .nil)) (.cst (.int (60))))) .nil)) (.cons (.call 19 (.cons (.bin .add false (.tup (.cons (.cst (.str "row")) .nil)) (.bin .mul false (.tup (.cons (.tup .nil) .nil)) (.cst (.int (61))))) .nil)) (.cons (.call 20 (.cons (.tup .nil) .nil)) .nil))))))) (.cons (.ite (.not (.call 27 (.cons (.var 2) (.cons (.lst false (.cons (.tup (.cons (.var 1) (.cons (.cst (.int (1))) .nil))) (.cons (.tup (.cons (.cst (.int (1))) (.cons (.var 1) .nil))) (.cons (.cst (.bl true)) (.cons (.cst (.bl false)) (.cons (.tup (.cons (.cst (.int (1))) (.cons (.cst (.int (1))) .nil))) .nil)))))) .nil)))) (.cons (.ret (.cst (.bl false))) .nil) .nil) (.cons (.asg (.tp [3, 4, 5]) (.tup (.cons (.tup .nil) (.cons (.cst (.int (1))) (.cons (.cst (.int (1))) .nil))))) (.cons (.for_ (.nm 6) (.rng (.cst (.int 0)) (.cst (.int (59)))) (.cons (.par3 3 4 5 (.ite (.cmp .eq (.bin .mod false (.blt .int false (.cons (.var 6) .nil)) (.cst (.int (2)))) (.cst (.int (0)))) (.tup (.cons (.cst (.str "row")) (.cons (.tup .nil) (.cons (.var 3) .nil)))) (.tup (.cons (.cst (.str "side")) (.cons (.var 3) (.cons (.tup .nil) .nil))))) (.var 5) (.bin .add false (.var 4) (.var 5))) .nil)) (.cons (.ite (.or (.not (.call 27 (.cons (.lst false (.cons (.call 20 (.cons (.var 3) .nil)) (.cons (.call 21 (.cons (.var 3) .nil)) .nil))) (.cons (.lst false (.cons (.call 32 (.cons (.var 3) .nil)) (.cons (.cst (.int (60))) .nil))) .nil)))) (.cmp .ne (.blt .srt false (.cons (.call 32 (.cons (.var 3) .nil)) .nil)) (.lst false (.cons (.var 4) (.cons (.var 5) .nil))))) (.cons (.ret (.cst (.bl false))) .nil) .nil) (.cons (.ret (.and (.cmp .is (.call 19 (.cons (.tup (.cons (.cst (.str "row")) (.cons (.tup .nil) (.cons (.var 3) .nil)))) .nil)) (.cst (.bl false))) (.cmp .is (.call 13 (.cons (.call 20 (.cons (.tup (.cons (.cst (.str "side")) (.cons (.tup .nil) (.cons (.tup .nil) .nil)))) .nil)) (.cons (.call 20 (.cons (.tup .nil) .nil)) .nil))) (.cst (.bl true))))) .nil)))))))
def m_law : Ss := (.cons (.ite (.not (.call 37 .nil)) (.cons (.ret (.cst (.bl false))) .nil) .nil) (.cons (.set 1 (.call 23 (.cons (.var 0) .nil))) (.cons (.for_ (.nm 2) (.seq (.tup (.cons (.bin .add false (.cst (.int (1))) (.call 24 (.cons (.var 1) (.cons (.cst (.int (3))) .nil)))) (.cons (.bin .add false (.cst (.int (3))) (.call 24 (.cons (.var 1) (.cons (.cst (.int (6))) .nil)))) (.cons (.bin .add false (.cst (.int (9))) (.call 24 (.cons (.var 1) (.cons (.cst (.int (20))) .nil)))) (.cons (.bin .add false (.cst (.int (30))) (.call 24 (.cons (.var 1) (.cons (.cst (.int (31))) .nil)))) .nil)))))) (.cons (.ite (.not (.call 36 (.cons (.var 1) (.cons (.var 2) .nil)))) (.cons (.ret (.cst (.bl false))) .nil) .nil) .nil)) (.cons (.ret (.call 38 (.cons (.var 1) .nil))) .nil))))
def prog : List Fn := [⟨1, 1, false, m_is_integer⟩,
  ⟨3, 3, false, m_is_tuple_of⟩,
  ⟨2, 2, false, m_divisor_of⟩,
  ⟨3, 2, false, m_lowest⟩,
  ⟨2, 2, false, m_sum_of⟩,
  ⟨2, 2, false, m_part_of⟩,
  ⟨2, 2, false, m_is_under⟩,
  ⟨2, 1, false, m_fits_fraction⟩,
  ⟨1, 1, false, m_need_fraction⟩,
  ⟨2, 2, false, m_need_both⟩,
  ⟨1, 1, false, m_is_fraction⟩,
  ⟨2, 2, false, m_plus⟩,
  ⟨2, 2, false, m_over⟩,
  ⟨2, 2, false, m_is_less⟩,
  ⟨5, 2, false, m_pieces_in⟩,
  ⟨1, 1, false, m_fits_build⟩,
  ⟨1, 1, false, m_need_build⟩,
  ⟨4, 1, false, m_value_in⟩,
  ⟨2, 1, false, m_turned_in⟩,
  ⟨1, 1, false, m_is_build⟩,
  ⟨1, 1, false, m_value_of_build⟩,
  ⟨1, 1, false, m_pieces_in_build⟩,
  ⟨1, 1, false, m_turned_build⟩,
  ⟨2, 1, true, m__law_cup⟩,
  ⟨4, 2, false, m__law_roll⟩,
  ⟨2, 2, false, m__law_some⟩,
  ⟨1, 1, false, m__law_sort⟩,
  ⟨5, 2, false, m__law_like⟩,
  ⟨5, 2, false, m__law_least⟩,
  ⟨2, 2, false, m__law_plus⟩,
  ⟨2, 2, false, m__law_under⟩,
  ⟨5, 2, false, m__law_build⟩,
  ⟨4, 1, false, m__law_worth⟩,
  ⟨4, 2, false, m__law_pieces⟩,
  ⟨2, 1, false, m__law_turn⟩,
  ⟨4, 2, false, m__law_bent⟩,
  ⟨10, 2, false, m__law_right⟩,
  ⟨2, 0, false, m__law_first_right⟩,
  ⟨7, 1, false, m__law_written⟩,
  ⟨3, 1, false, m_law⟩]
def names : List Str := [Str.ofString "is_integer", Str.ofString "is_tuple_of", Str.ofString "divisor_of", Str.ofString "lowest", Str.ofString "sum_of", Str.ofString "part_of", Str.ofString "is_under", Str.ofString "fits_fraction", Str.ofString "need_fraction", Str.ofString "need_both", Str.ofString "is_fraction", Str.ofString "plus", Str.ofString "over", Str.ofString "is_less", Str.ofString "pieces_in", Str.ofString "fits_build", Str.ofString "need_build", Str.ofString "value_in", Str.ofString "turned_in", Str.ofString "is_build", Str.ofString "value_of_build", Str.ofString "pieces_in_build", Str.ofString "turned_build", Str.ofString "_law_cup", Str.ofString "_law_roll", Str.ofString "_law_some", Str.ofString "_law_sort", Str.ofString "_law_like", Str.ofString "_law_least", Str.ofString "_law_plus", Str.ofString "_law_under", Str.ofString "_law_build", Str.ofString "_law_worth", Str.ofString "_law_pieces", Str.ofString "_law_turn", Str.ofString "_law_bent", Str.ofString "_law_right", Str.ofString "_law_first_right", Str.ofString "_law_written", Str.ofString "law"]
def consts : List (Str × PV) := [("DIGITS", k_DIGITS), ("NONE", k_NONE), ("PIECES", k_PIECES), ("SIDE", k_SIDE), ("ROW", k_ROW), ("DEEP", k_DEEP), ("ONE", k_ONE)]
def blts : List Str := ["isinstance", "bool", "int", "len", "tuple", "abs", "all", "sum", "str", "list", "zip", "min", "range", "max", "sorted"]
abbrev s_is_integer : Stmt := topS 8
theorem sc_is_integer : FnScope ["value"] ["value"] (defScope s_is_integer) := ⟨rfl, rfl, rfl, by decide +kernel, rfl, by decide +kernel, by decide +kernel⟩
abbrev s_is_tuple_of : Stmt := topS 9
theorem sc_is_tuple_of : FnScope ["value", "low", "high"] ["value", "low", "high"] (defScope s_is_tuple_of) := ⟨rfl, rfl, rfl, by decide +kernel, rfl, by decide +kernel, by decide +kernel⟩
abbrev s_divisor_of : Stmt := topS 10
theorem sc_divisor_of : FnScope ["one", "other"] ["one", "other"] (defScope s_divisor_of) := ⟨rfl, rfl, rfl, by decide +kernel, rfl, by decide +kernel, by decide +kernel⟩
abbrev s_lowest : Stmt := topS 11
theorem sc_lowest : FnScope ["above", "below", "part"] ["above", "below"] (defScope s_lowest) := ⟨rfl, rfl, rfl, by decide +kernel, rfl, by decide +kernel, by decide +kernel⟩
abbrev s_sum_of : Stmt := topS 12
theorem sc_sum_of : FnScope ["one", "other"] ["one", "other"] (defScope s_sum_of) := ⟨rfl, rfl, rfl, by decide +kernel, rfl, by decide +kernel, by decide +kernel⟩
abbrev s_part_of : Stmt := topS 13
theorem sc_part_of : FnScope ["one", "other"] ["one", "other"] (defScope s_part_of) := ⟨rfl, rfl, rfl, by decide +kernel, rfl, by decide +kernel, by decide +kernel⟩
abbrev s_is_under : Stmt := topS 14
theorem sc_is_under : FnScope ["one", "other"] ["one", "other"] (defScope s_is_under) := ⟨rfl, rfl, rfl, by decide +kernel, rfl, by decide +kernel, by decide +kernel⟩
abbrev s_fits_fraction : Stmt := topS 15
theorem sc_fits_fraction : FnScope ["value", "number"] ["value"] (defScope s_fits_fraction) := ⟨rfl, rfl, rfl, by decide +kernel, rfl, by decide +kernel, by decide +kernel⟩
abbrev s_need_fraction : Stmt := topS 16
theorem sc_need_fraction : FnScope ["value"] ["value"] (defScope s_need_fraction) := ⟨rfl, rfl, rfl, by decide +kernel, rfl, by decide +kernel, by decide +kernel⟩
abbrev s_need_both : Stmt := topS 17
theorem sc_need_both : FnScope ["one", "other"] ["one", "other"] (defScope s_need_both) := ⟨rfl, rfl, rfl, by decide +kernel, rfl, by decide +kernel, by decide +kernel⟩
abbrev s_is_fraction : Stmt := topS 18
theorem sc_is_fraction : FnScope ["value"] ["value"] (defScope s_is_fraction) := ⟨rfl, rfl, rfl, by decide +kernel, rfl, by decide +kernel, by decide +kernel⟩
abbrev s_plus : Stmt := topS 19
theorem sc_plus : FnScope ["one", "other"] ["one", "other"] (defScope s_plus) := ⟨rfl, rfl, rfl, by decide +kernel, rfl, by decide +kernel, by decide +kernel⟩
abbrev s_over : Stmt := topS 20
theorem sc_over : FnScope ["one", "other"] ["one", "other"] (defScope s_over) := ⟨rfl, rfl, rfl, by decide +kernel, rfl, by decide +kernel, by decide +kernel⟩
abbrev s_is_less : Stmt := topS 21
theorem sc_is_less : FnScope ["one", "other"] ["one", "other"] (defScope s_is_less) := ⟨rfl, rfl, rfl, by decide +kernel, rfl, by decide +kernel, by decide +kernel⟩
abbrev s_pieces_in : Stmt := topS 27
theorem sc_pieces_in : FnScope ["value", "deep", "found", "part", "many"] ["value", "deep"] (defScope s_pieces_in) := ⟨rfl, rfl, rfl, by decide +kernel, rfl, by decide +kernel, by decide +kernel⟩
abbrev s_fits_build : Stmt := topS 28
theorem sc_fits_build : FnScope ["value"] ["value"] (defScope s_fits_build) := ⟨rfl, rfl, rfl, by decide +kernel, rfl, by decide +kernel, by decide +kernel⟩
abbrev s_need_build : Stmt := topS 29
theorem sc_need_build : FnScope ["value"] ["value"] (defScope s_need_build) := ⟨rfl, rfl, rfl, by decide +kernel, rfl, by decide +kernel, by decide +kernel⟩
abbrev s_value_in : Stmt := topS 30
theorem sc_value_in : FnScope ["build", "found", "part", "own"] ["build"] (defScope s_value_in) := ⟨rfl, rfl, rfl, by decide +kernel, rfl, by decide +kernel, by decide +kernel⟩
abbrev s_turned_in : Stmt := topS 31
theorem sc_turned_in : FnScope ["build", "part"] ["build"] (defScope s_turned_in) := ⟨rfl, rfl, rfl, by decide +kernel, rfl, by decide +kernel, by decide +kernel⟩
abbrev s_is_build : Stmt := topS 32
theorem sc_is_build : FnScope ["value"] ["value"] (defScope s_is_build) := ⟨rfl, rfl, rfl, by decide +kernel, rfl, by decide +kernel, by decide +kernel⟩
abbrev s_value_of_build : Stmt := topS 33
theorem sc_value_of_build : FnScope ["build"] ["build"] (defScope s_value_of_build) := ⟨rfl, rfl, rfl, by decide +kernel, rfl, by decide +kernel, by decide +kernel⟩
abbrev s_pieces_in_build : Stmt := topS 34
theorem sc_pieces_in_build : FnScope ["build"] ["build"] (defScope s_pieces_in_build) := ⟨rfl, rfl, rfl, by decide +kernel, rfl, by decide +kernel, by decide +kernel⟩
abbrev s_turned_build : Stmt := topS 35
theorem sc_turned_build : FnScope ["build"] ["build"] (defScope s_turned_build) := ⟨rfl, rfl, rfl, by decide +kernel, rfl, by decide +kernel, by decide +kernel⟩
abbrev s__law_cup : Stmt := topS 37
theorem sc__law_cup : FnScope ["script", "cell"] ["script"] (defScope s__law_cup) := ⟨rfl, rfl, rfl, by decide +kernel, rfl, by decide +kernel, by decide +kernel⟩
abbrev s__law_roll : Stmt := topS 38
theorem sc__law_roll : FnScope ["cup", "many", "found", "deep"] ["cup", "many"] (defScope s__law_roll) := ⟨rfl, rfl, rfl, by decide +kernel, rfl, by decide +kernel, by decide +kernel⟩
abbrev s__law_some : Stmt := topS 39
theorem sc__law_some : FnScope ["cup", "things"] ["cup", "things"] (defScope s__law_some) := ⟨rfl, rfl, rfl, by decide +kernel, rfl, by decide +kernel, by decide +kernel⟩
abbrev s__law_sort : Stmt := topS 40
theorem sc__law_sort : FnScope ["value"] ["value"] (defScope s__law_sort) := ⟨rfl, rfl, rfl, by decide +kernel, rfl, by decide +kernel, by decide +kernel⟩
abbrev s__law_like : Stmt := topS 41
theorem sc__law_like : FnScope ["one", "other", "sort", "first", "second"] ["one", "other"] (defScope s__law_like) := ⟨rfl, rfl, rfl, by decide +kernel, rfl, by decide +kernel, by decide +kernel⟩
abbrev s__law_least : Stmt := topS 42
theorem sc__law_least : FnScope ["above", "below", "one", "other", "sign"] ["above", "below"] (defScope s__law_least) := ⟨rfl, rfl, rfl, by decide +kernel, rfl, by decide +kernel, by decide +kernel⟩
abbrev s__law_plus : Stmt := topS 43
theorem sc__law_plus : FnScope ["one", "other"] ["one", "other"] (defScope s__law_plus) := ⟨rfl, rfl, rfl, by decide +kernel, rfl, by decide +kernel, by decide +kernel⟩
abbrev s__law_under : Stmt := topS 44
theorem sc__law_under : FnScope ["one", "other"] ["one", "other"] (defScope s__law_under) := ⟨rfl, rfl, rfl, by decide +kernel, rfl, by decide +kernel, by decide +kernel⟩
abbrev s__law_build : Stmt := topS 45
theorem sc__law_build : FnScope ["cup", "many", "parts", "left", "own"] ["cup", "many"] (defScope s__law_build) := ⟨rfl, rfl, rfl, by decide +kernel, rfl, by decide +kernel, by decide +kernel⟩
abbrev s__law_worth : Stmt := topS 46
theorem sc__law_worth : FnScope ["build", "found", "part", "own"] ["build"] (defScope s__law_worth) := ⟨rfl, rfl, rfl, by decide +kernel, rfl, by decide +kernel, by decide +kernel⟩
abbrev s__law_pieces : Stmt := topS 47
theorem sc__law_pieces : FnScope ["value", "deep", "parts", "part"] ["value", "deep"] (defScope s__law_pieces) := ⟨rfl, rfl, rfl, by decide +kernel, rfl, by decide +kernel, by decide +kernel⟩
abbrev s__law_turn : Stmt := topS 48
theorem sc__law_turn : FnScope ["build", "part"] ["build"] (defScope s__law_turn) := ⟨rfl, rfl, rfl, by decide +kernel, rfl, by decide +kernel, by decide +kernel⟩
abbrev s__law_bent : Stmt := topS 49
theorem sc__law_bent : FnScope ["cup", "value", "at", "way"] ["cup", "value"] (defScope s__law_bent) := ⟨rfl, rfl, rfl, by decide +kernel, rfl, by decide +kernel, by decide +kernel⟩
abbrev s__law_right : Stmt := topS 50
theorem sc__law_right : FnScope ["cup", "many", "build", "worth", "other", "told", "one", "next_one", "turn", "value"] ["cup", "many"] (defScope s__law_right) := ⟨rfl, rfl, rfl, by decide +kernel, rfl, by decide +kernel, by decide +kernel⟩
abbrev s__law_first_right : Stmt := topS 51
theorem sc__law_first_right : FnScope ["build", "told"] [] (defScope s__law_first_right) := ⟨rfl, rfl, rfl, by decide +kernel, rfl, by decide +kernel, by decide +kernel⟩
abbrev s__law_written : Stmt := topS 52
theorem sc__law_written : FnScope ["cup", "many", "told", "nested", "one", "other", "turn"] ["cup"] (defScope s__law_written) := ⟨rfl, rfl, rfl, by decide +kernel, rfl, by decide +kernel, by decide +kernel⟩
abbrev s_law : Stmt := topS 53
theorem sc_law : FnScope ["script", "cup", "many"] ["script"] (defScope s_law) := ⟨rfl, rfl, rfl, by decide +kernel, rfl, by decide +kernel, by decide +kernel⟩
section
variable {P : Program} {w : World} {K : PySem.W.Frag} {mg : Str → Option Value} {base : Heap} {W k : Nat}
theorem b_is_integer (T : Top P w K mg base prog W k names consts blts) (f : Addr) (cdv : Value) (A : Around) (outer : List PySem.Env) (s : Shared) (H : Hp) (E : XK) (hr : Room k (A.deeper (envOfC "is_integer" (defScope s_is_integer) s.heap.objs.size f cdv))) :
    PSs (cxOf CX0 P w K mg base ["value"] "is_integer" (defScope s_is_integer) f cdv A outer s H E).nox (defBody s_is_integer) (tSs K (callN prog W k) W m_is_integer) :=
  (ss_cons (s_ret (i_and (i_isi (T := .int) rfl (T.blt 0 _ rfl) rfl (T.blt 2 _ rfl) bb_int (i_var 0)) (i_one (i_not (i_isi (T := .bool) rfl (T.blt 0 _ rfl) rfl (T.blt 1 _ rfl) bb_bool (i_var 0))))))
  ss_nil)
theorem b_is_tuple_of (T : Top P w K mg base prog W k names consts blts) (f : Addr) (cdv : Value) (A : Around) (outer : List PySem.Env) (s : Shared) (H : Hp) (E : XK) (hr : Room k (A.deeper (envOfC "is_tuple_of" (defScope s_is_tuple_of) s.heap.objs.size f cdv))) :
    PSs (cxOf CX0 P w K mg base ["value", "low", "high"] "is_tuple_of" (defScope s_is_tuple_of) f cdv A outer s H E).nox (defBody s_is_tuple_of) (tSs K (callN prog W k) W m_is_tuple_of) :=
  (ss_cons (s_ret (i_and (i_isi (T := .tuple) rfl (T.blt 0 _ rfl) rfl (T.blt 4 _ rfl) bb_tuple (i_var 0)) (i_one (i_chn o_le o_le (i_var 1) (i_bltB (f := false) c_len rfl (T.blt 3 _ rfl) bb_len (is_cons (i_var 0) is_nil)) (i_var 2)))))
  ss_nil)
theorem b_divisor_of (T : Top P w K mg base prog W k names consts blts) (f : Addr) (cdv : Value) (A : Around) (outer : List PySem.Env) (s : Shared) (H : Hp) (E : XK) (hr : Room k (A.deeper (envOfC "divisor_of" (defScope s_divisor_of) s.heap.objs.size f cdv))) :
    PSs (cxOf CX0 P w K mg base ["one", "other"] "divisor_of" (defScope s_divisor_of) f cdv A outer s H E).nox (defBody s_divisor_of) (tSs K (callN prog W k) W m_divisor_of) :=
  (ss_cons (s_par 0 1 rfl sc_divisor_of.nd (is_cons (i_bltB (f := false) c_abs rfl (T.blt 5 _ rfl) bb_abs (is_cons (i_var 0) is_nil)) (is_cons (i_bltB (f := false) c_abs rfl (T.blt 5 _ rfl) bb_abs (is_cons (i_var 1) is_nil)) is_nil)))
  (ss_cons (s_whl PassesOwn.never (t_cmp (o_ne hr.units) (i_var 1) i_int (nomark _)) (ss_cons (s_par 0 1 rfl sc_divisor_of.nd (is_cons (i_var 1) (is_cons (i_bin false o_mod (i_var 0) (i_var 1)) is_nil)))
  ss_nil))
  (ss_cons (s_ret (i_var 0))
  ss_nil)))
theorem b_lowest (T : Top P w K mg base prog W k names consts blts) (f : Addr) (cdv : Value) (A : Around) (outer : List PySem.Env) (s : Shared) (H : Hp) (E : XK) (hr : Room k (A.deeper (envOfC "lowest" (defScope s_lowest) s.heap.objs.size f cdv))) :
    PSs (cxOf CX0 P w K mg base ["above", "below", "part"] "lowest" (defScope s_lowest) f cdv A outer s H E).nox (defBody s_lowest) (tSs K (callN prog W k) W m_lowest) :=
  (ss_cons (s_set 2 sc_lowest.nd (i_bin false o_mul (i_call (T.cal 2 _ rfl) hr rfl (is_cons (i_var 0) (is_cons (i_var 1) is_nil))) (i_ite (t_cmp o_gt (i_var 1) i_int (nomark _)) i_int (i_neg i_int))))
  (ss_cons (s_ret (i_tup (is_cons (i_bin false o_fdiv (i_var 0) (i_var 2)) (is_cons (i_bin false o_fdiv (i_var 1) (i_var 2)) is_nil))))
  ss_nil))
theorem b_sum_of (T : Top P w K mg base prog W k names consts blts) (f : Addr) (cdv : Value) (A : Around) (outer : List PySem.Env) (s : Shared) (H : Hp) (E : XK) (hr : Room k (A.deeper (envOfC "sum_of" (defScope s_sum_of) s.heap.objs.size f cdv))) :
    PSs (cxOf CX0 P w K mg base ["one", "other"] "sum_of" (defScope s_sum_of) f cdv A outer s H E).nox (defBody s_sum_of) (tSs K (callN prog W k) W m_sum_of) :=
  (ss_cons (s_ret (i_call (T.cal 3 _ rfl) hr rfl (is_cons (i_bin false o_add (i_bin false o_mul (i_idx (i_var 0) i_int) (i_idx (i_var 1) i_int)) (i_bin false o_mul (i_idx (i_var 1) i_int) (i_idx (i_var 0) i_int))) (is_cons (i_bin false o_mul (i_idx (i_var 0) i_int) (i_idx (i_var 1) i_int)) is_nil))))
  ss_nil)
theorem b_part_of (T : Top P w K mg base prog W k names consts blts) (f : Addr) (cdv : Value) (A : Around) (outer : List PySem.Env) (s : Shared) (H : Hp) (E : XK) (hr : Room k (A.deeper (envOfC "part_of" (defScope s_part_of) s.heap.objs.size f cdv))) :
    PSs (cxOf CX0 P w K mg base ["one", "other"] "part_of" (defScope s_part_of) f cdv A outer s H E).nox (defBody s_part_of) (tSs K (callN prog W k) W m_part_of) :=
  (ss_cons (s_ret (i_call (T.cal 3 _ rfl) hr rfl (is_cons (i_bin false o_mul (i_idx (i_var 0) i_int) (i_idx (i_var 1) i_int)) (is_cons (i_bin false o_mul (i_idx (i_var 0) i_int) (i_idx (i_var 1) i_int)) is_nil))))
  ss_nil)
theorem b_is_under (T : Top P w K mg base prog W k names consts blts) (f : Addr) (cdv : Value) (A : Around) (outer : List PySem.Env) (s : Shared) (H : Hp) (E : XK) (hr : Room k (A.deeper (envOfC "is_under" (defScope s_is_under) s.heap.objs.size f cdv))) :
    PSs (cxOf CX0 P w K mg base ["one", "other"] "is_under" (defScope s_is_under) f cdv A outer s H E).nox (defBody s_is_under) (tSs K (callN prog W k) W m_is_under) :=
  (ss_cons (s_ret (i_cmp o_lt (i_bin false o_mul (i_idx (i_var 0) i_int) (i_idx (i_var 1) i_int)) (i_bin false o_mul (i_idx (i_var 1) i_int) (i_idx (i_var 0) i_int)) (nomark _)))
  ss_nil)
theorem b_fits_fraction (T : Top P w K mg base prog W k names consts blts) (f : Addr) (cdv : Value) (A : Around) (outer : List PySem.Env) (s : Shared) (H : Hp) (E : XK) (hr : Room k (A.deeper (envOfC "fits_fraction" (defScope s_fits_fraction) s.heap.objs.size f cdv))) :
    PSs (cxOf CX0 P w K mg base ["value", "number"] "fits_fraction" (defScope s_fits_fraction) f cdv A outer s H E).nox (defBody s_fits_fraction) (tSs K (callN prog W k) W m_fits_fraction) :=
  (ss_cons (s_ite (t_w (w_or (t_not (t_of (i_call (T.cal 1 _ rfl) hr rfl (is_cons (i_var 0) (is_cons i_int (is_cons i_int is_nil)))))) (w_or1 (t_not (t_of (i_bltB (f := false) (c_all rfl) rfl (T.blt 6 _ rfl) bb_all (is_cons (i_lc (own := [("number", 1)]) false rfl sc_fits_fraction.nd (it_seq (i_var 0)) (blk_ok (N := ["value", "number"]) (sc := defScope s_fits_fraction) (by decide +kernel)) rfl (fun _ _ _ _ _ => (g_nm 1 sc_fits_fraction.nd)) (fun _ _ _ _ _ => cs_nil) (fun _ _ _ _ _ => (i_and (i_call (T.cal 0 _ rfl) hr rfl (is_cons (i_var 1) is_nil)) (i_one (i_chn o_lt o_lt (i_neg (i_con rfl (T.con 0 _ _ rfl))) (i_var 1) (i_con rfl (T.con 0 _ _ rfl))))))) is_nil))))))) (ss_cons (s_ret i_bl)
  ss_nil) ss_nil)
  (ss_cons (s_ret (i_and (i_cmp o_ge (i_idx (i_var 0) i_int) i_int (nomark _)) (i_one (i_cmp (o_eq hr.units) (i_call (T.cal 2 _ rfl) hr rfl (is_cons (i_idx (i_var 0) i_int) (is_cons (i_idx (i_var 0) i_int) is_nil))) i_int (nomark _)))))
  ss_nil))
theorem b_need_fraction (T : Top P w K mg base prog W k names consts blts) (f : Addr) (cdv : Value) (A : Around) (outer : List PySem.Env) (s : Shared) (H : Hp) (E : XK) (hr : Room k (A.deeper (envOfC "need_fraction" (defScope s_need_fraction) s.heap.objs.size f cdv))) :
    PSs (cxOf CX0 P w K mg base ["value"] "need_fraction" (defScope s_need_fraction) f cdv A outer s H E).nox (defBody s_need_fraction) (tSs K (callN prog W k) W m_need_fraction) :=
  (ss_cons (s_ite (t_not (t_of (i_call (T.cal 7 _ rfl) hr rfl (is_cons (i_var 0) is_nil)))) (ss_cons s_rais
  ss_nil) ss_nil)
  ss_nil)
theorem b_need_both (T : Top P w K mg base prog W k names consts blts) (f : Addr) (cdv : Value) (A : Around) (outer : List PySem.Env) (s : Shared) (H : Hp) (E : XK) (hr : Room k (A.deeper (envOfC "need_both" (defScope s_need_both) s.heap.objs.size f cdv))) :
    PSs (cxOf CX0 P w K mg base ["one", "other"] "need_both" (defScope s_need_both) f cdv A outer s H E).nox (defBody s_need_both) (tSs K (callN prog W k) W m_need_both) :=
  (ss_cons (s_exp (ps_expr (i_call (T.cal 8 _ rfl) hr rfl (is_cons (i_var 0) is_nil))))
  (ss_cons (s_exp (ps_expr (i_call (T.cal 8 _ rfl) hr rfl (is_cons (i_var 1) is_nil))))
  ss_nil))
theorem b_is_fraction (T : Top P w K mg base prog W k names consts blts) (f : Addr) (cdv : Value) (A : Around) (outer : List PySem.Env) (s : Shared) (H : Hp) (E : XK) (hr : Room k (A.deeper (envOfC "is_fraction" (defScope s_is_fraction) s.heap.objs.size f cdv))) :
    PSs (cxOf CX0 P w K mg base ["value"] "is_fraction" (defScope s_is_fraction) f cdv A outer s H E).nox (defBody s_is_fraction) (tSs K (callN prog W k) W m_is_fraction) :=
  (ss_cons (s_ret (i_call (T.cal 7 _ rfl) hr rfl (is_cons (i_var 0) is_nil)))
  ss_nil)
theorem b_plus (T : Top P w K mg base prog W k names consts blts) (f : Addr) (cdv : Value) (A : Around) (outer : List PySem.Env) (s : Shared) (H : Hp) (E : XK) (hr : Room k (A.deeper (envOfC "plus" (defScope s_plus) s.heap.objs.size f cdv))) :
    PSs (cxOf CX0 P w K mg base ["one", "other"] "plus" (defScope s_plus) f cdv A outer s H E).nox (defBody s_plus) (tSs K (callN prog W k) W m_plus) :=
  (ss_cons (s_exp (ps_expr (i_call (T.cal 9 _ rfl) hr rfl (is_cons (i_var 0) (is_cons (i_var 1) is_nil)))))
  (ss_cons (s_ret (i_call (T.cal 4 _ rfl) hr rfl (is_cons (i_var 0) (is_cons (i_var 1) is_nil))))
  ss_nil))
theorem b_over (T : Top P w K mg base prog W k names consts blts) (f : Addr) (cdv : Value) (A : Around) (outer : List PySem.Env) (s : Shared) (H : Hp) (E : XK) (hr : Room k (A.deeper (envOfC "over" (defScope s_over) s.heap.objs.size f cdv))) :
    PSs (cxOf CX0 P w K mg base ["one", "other"] "over" (defScope s_over) f cdv A outer s H E).nox (defBody s_over) (tSs K (callN prog W k) W m_over) :=
  (ss_cons (s_exp (ps_expr (i_call (T.cal 9 _ rfl) hr rfl (is_cons (i_var 0) (is_cons (i_var 1) is_nil)))))
  (ss_cons (s_ite (t_cmp (o_eq hr.units) (i_var 1) (i_con rfl (T.con 1 _ _ rfl)) (nomark _)) (ss_cons s_rais
  ss_nil) ss_nil)
  (ss_cons (s_ret (i_call (T.cal 5 _ rfl) hr rfl (is_cons (i_var 0) (is_cons (i_var 1) is_nil))))
  ss_nil)))
theorem b_is_less (T : Top P w K mg base prog W k names consts blts) (f : Addr) (cdv : Value) (A : Around) (outer : List PySem.Env) (s : Shared) (H : Hp) (E : XK) (hr : Room k (A.deeper (envOfC "is_less" (defScope s_is_less) s.heap.objs.size f cdv))) :
    PSs (cxOf CX0 P w K mg base ["one", "other"] "is_less" (defScope s_is_less) f cdv A outer s H E).nox (defBody s_is_less) (tSs K (callN prog W k) W m_is_less) :=
  (ss_cons (s_exp (ps_expr (i_call (T.cal 9 _ rfl) hr rfl (is_cons (i_var 0) (is_cons (i_var 1) is_nil)))))
  (ss_cons (s_ret (i_call (T.cal 6 _ rfl) hr rfl (is_cons (i_var 0) (is_cons (i_var 1) is_nil))))
  ss_nil))
theorem b_pieces_in (T : Top P w K mg base prog W k names consts blts) (f : Addr) (cdv : Value) (A : Around) (outer : List PySem.Env) (s : Shared) (H : Hp) (E : XK) (hr : Room k (A.deeper (envOfC "pieces_in" (defScope s_pieces_in) s.heap.objs.size f cdv))) :
    PSs (cxOf CX0 P w K mg base ["value", "deep", "found", "part", "many"] "pieces_in" (defScope s_pieces_in) f cdv A outer s H E).nox (defBody s_pieces_in) (tSs K (callN prog W k) W m_pieces_in) :=
  (ss_cons (s_ite (t_w (w_or (t_not (t_of (i_isi (T := .tuple) rfl (T.blt 0 _ rfl) rfl (T.blt 4 _ rfl) bb_tuple (i_var 0)))) (w_or1 (t_cmp o_lt (i_var 1) i_int (nomark _))))) (ss_cons (s_ret i_int)
  ss_nil) ss_nil)
  (ss_cons (s_ite (t_cmp (o_eq hr.units) (i_var 0) (i_tup is_nil) (nomark _)) (ss_cons (s_ret i_int)
  ss_nil) ss_nil)
  (ss_cons (s_ite (t_w (w_or (t_cmp o_lt (i_bltB (f := false) c_len rfl (T.blt 3 _ rfl) bb_len (is_cons (i_var 0) is_nil)) i_int (nomark _)) (w_or (t_cmp o_gt (i_bltB (f := false) c_len rfl (T.blt 3 _ rfl) bb_len (is_cons (i_var 0) is_nil)) (i_bin false o_add (i_con rfl (T.con 2 _ _ rfl)) i_int) (nomark _)) (w_or (t_not (t_of (i_isi (T := .str) rfl (T.blt 0 _ rfl) rfl (T.blt 8 _ rfl) bb_str (i_idx (i_var 0) i_int)))) (w_or1 (t_cmp o_nin (i_idx (i_var 0) i_int) (i_tup (is_cons (i_con rfl (T.con 4 _ _ rfl)) (is_cons (i_con rfl (T.con 3 _ _ rfl)) is_nil))) (by with_unfolding_all rfl))))))) (ss_cons (s_ret i_int)
  ss_nil) ss_nil)
  (ss_cons (s_setLc (own := [("part", 3)]) 2 false rfl sc_pieces_in.nd (it_seq (i_slc (i_var 0) (o_some i_int) o_none)) (blk_ok (N := ["value", "deep", "found", "part", "many"]) (sc := defScope s_pieces_in) (by decide +kernel)) rfl (fun _ _ _ _ _ => (g_nm 3 sc_pieces_in.nd)) (fun _ _ _ _ _ => cs_nil) (fun _ _ _ _ _ => (i_call (T.cal 14 _ rfl) hr rfl (is_cons (i_var 3) (is_cons (i_bin false o_sub (i_var 1) i_int) is_nil)))))
  (ss_cons (s_ret (i_ite (t_w (w_and (t_of (i_bltB (f := false) (c_all rfl) rfl (T.blt 6 _ rfl) bb_all (is_cons (i_lc (own := [("many", 4)]) false rfl sc_pieces_in.nd (it_seq (i_var 2)) (blk_ok (N := ["value", "deep", "found", "part", "many"]) (sc := defScope s_pieces_in) (by decide +kernel)) rfl (fun _ _ _ _ _ => (g_nm 4 sc_pieces_in.nd)) (fun _ _ _ _ _ => cs_nil) (fun _ _ _ _ _ => (i_cmp o_gt (i_var 4) i_int (nomark _)))) is_nil))) (w_and1 (t_cmp o_le (i_bltB (f := false) (c_sum rfl) rfl (T.blt 7 _ rfl) bb_sum (is_cons (i_var 2) is_nil)) (i_con rfl (T.con 2 _ _ rfl)) (nomark _))))) (i_bltB (f := false) (c_sum rfl) rfl (T.blt 7 _ rfl) bb_sum (is_cons (i_var 2) is_nil)) i_int))
  ss_nil)))))
theorem b_fits_build (T : Top P w K mg base prog W k names consts blts) (f : Addr) (cdv : Value) (A : Around) (outer : List PySem.Env) (s : Shared) (H : Hp) (E : XK) (hr : Room k (A.deeper (envOfC "fits_build" (defScope s_fits_build) s.heap.objs.size f cdv))) :
    PSs (cxOf CX0 P w K mg base ["value"] "fits_build" (defScope s_fits_build) f cdv A outer s H E).nox (defBody s_fits_build) (tSs K (callN prog W k) W m_fits_build) :=
  (ss_cons (s_ret (i_cmp o_gt (i_call (T.cal 14 _ rfl) hr rfl (is_cons (i_var 0) (is_cons (i_bin false o_sub (i_con rfl (T.con 5 _ _ rfl)) i_int) is_nil))) i_int (nomark _)))
  ss_nil)
theorem b_need_build (T : Top P w K mg base prog W k names consts blts) (f : Addr) (cdv : Value) (A : Around) (outer : List PySem.Env) (s : Shared) (H : Hp) (E : XK) (hr : Room k (A.deeper (envOfC "need_build" (defScope s_need_build) s.heap.objs.size f cdv))) :
    PSs (cxOf CX0 P w K mg base ["value"] "need_build" (defScope s_need_build) f cdv A outer s H E).nox (defBody s_need_build) (tSs K (callN prog W k) W m_need_build) :=
  (ss_cons (s_ite (t_not (t_of (i_call (T.cal 15 _ rfl) hr rfl (is_cons (i_var 0) is_nil)))) (ss_cons s_rais
  ss_nil) ss_nil)
  ss_nil)
theorem b_value_in (T : Top P w K mg base prog W k names consts blts) (f : Addr) (cdv : Value) (A : Around) (outer : List PySem.Env) (s : Shared) (H : Hp) (E : XK) (hr : Room k (A.deeper (envOfC "value_in" (defScope s_value_in) s.heap.objs.size f cdv))) :
    PSs (cxOf CX0 P w K mg base ["build", "found", "part", "own"] "value_in" (defScope s_value_in) f cdv A outer s H E).nox (defBody s_value_in) (tSs K (callN prog W k) W m_value_in) :=
  (ss_cons (s_ite (t_cmp (o_eq hr.units) (i_var 0) (i_tup is_nil) (nomark _)) (ss_cons (s_ret (i_con rfl (T.con 6 _ _ rfl)))
  ss_nil) ss_nil)
  (ss_cons (s_set 1 sc_value_in.nd (i_con rfl (T.con 1 _ _ rfl)))
  (ss_cons (s_for PassesOwn.never rfl (it_seq (i_slc (i_var 0) (o_some i_int) o_none)) (g_nm 2 sc_value_in.nd) (ss_cons (s_set 3 sc_value_in.nd (i_call (T.cal 17 _ rfl) hr rfl (is_cons (i_var 2) is_nil)))
  (ss_cons (s_set 1 sc_value_in.nd (i_call (T.cal 4 _ rfl) hr rfl (is_cons (i_var 1) (is_cons (i_ite (t_cmp (o_eq hr.units) (i_idx (i_var 0) i_int) (i_con rfl (T.con 4 _ _ rfl)) (nomark _)) (i_var 3) (i_tup (is_cons (i_idx (i_var 3) i_int) (is_cons (i_idx (i_var 3) i_int) is_nil)))) is_nil))))
  ss_nil)))
  (ss_cons (s_ret (i_ite (t_cmp (o_eq hr.units) (i_idx (i_var 0) i_int) (i_con rfl (T.con 4 _ _ rfl)) (nomark _)) (i_var 1) (i_tup (is_cons (i_idx (i_var 1) i_int) (is_cons (i_idx (i_var 1) i_int) is_nil)))))
  ss_nil))))
theorem b_turned_in (T : Top P w K mg base prog W k names consts blts) (f : Addr) (cdv : Value) (A : Around) (outer : List PySem.Env) (s : Shared) (H : Hp) (E : XK) (hr : Room k (A.deeper (envOfC "turned_in" (defScope s_turned_in) s.heap.objs.size f cdv))) :
    PSs (cxOf CX0 P w K mg base ["build", "part"] "turned_in" (defScope s_turned_in) f cdv A outer s H E).nox (defBody s_turned_in) (tSs K (callN prog W k) W m_turned_in) :=
  (ss_cons (s_ite (t_cmp (o_eq hr.units) (i_var 0) (i_tup is_nil) (nomark _)) (ss_cons (s_ret (i_tup is_nil))
  ss_nil) ss_nil)
  (ss_cons (s_ret (i_bin false o_add (i_tup (is_cons (i_ite (t_cmp (o_eq hr.units) (i_idx (i_var 0) i_int) (i_con rfl (T.con 4 _ _ rfl)) (nomark _)) (i_con rfl (T.con 3 _ _ rfl)) (i_con rfl (T.con 4 _ _ rfl))) is_nil)) (i_bltT (f := false) c_tuple rfl (T.blt 4 _ rfl) bb_tuple (is_cons (i_lc (own := [("part", 1)]) false rfl sc_turned_in.nd (it_seq (i_slc (i_var 0) (o_some i_int) o_none)) (blk_ok (N := ["build", "part"]) (sc := defScope s_turned_in) (by decide +kernel)) rfl (fun _ _ _ _ _ => (g_nm 1 sc_turned_in.nd)) (fun _ _ _ _ _ => cs_nil) (fun _ _ _ _ _ => (i_call (T.cal 18 _ rfl) hr rfl (is_cons (i_var 1) is_nil)))) is_nil))))
  ss_nil))
theorem b_is_build (T : Top P w K mg base prog W k names consts blts) (f : Addr) (cdv : Value) (A : Around) (outer : List PySem.Env) (s : Shared) (H : Hp) (E : XK) (hr : Room k (A.deeper (envOfC "is_build" (defScope s_is_build) s.heap.objs.size f cdv))) :
    PSs (cxOf CX0 P w K mg base ["value"] "is_build" (defScope s_is_build) f cdv A outer s H E).nox (defBody s_is_build) (tSs K (callN prog W k) W m_is_build) :=
  (ss_cons (s_ret (i_call (T.cal 15 _ rfl) hr rfl (is_cons (i_var 0) is_nil)))
  ss_nil)
theorem b_value_of_build (T : Top P w K mg base prog W k names consts blts) (f : Addr) (cdv : Value) (A : Around) (outer : List PySem.Env) (s : Shared) (H : Hp) (E : XK) (hr : Room k (A.deeper (envOfC "value_of_build" (defScope s_value_of_build) s.heap.objs.size f cdv))) :
    PSs (cxOf CX0 P w K mg base ["build"] "value_of_build" (defScope s_value_of_build) f cdv A outer s H E).nox (defBody s_value_of_build) (tSs K (callN prog W k) W m_value_of_build) :=
  (ss_cons (s_exp (ps_expr (i_call (T.cal 16 _ rfl) hr rfl (is_cons (i_var 0) is_nil))))
  (ss_cons (s_ret (i_call (T.cal 17 _ rfl) hr rfl (is_cons (i_var 0) is_nil)))
  ss_nil))
theorem b_pieces_in_build (T : Top P w K mg base prog W k names consts blts) (f : Addr) (cdv : Value) (A : Around) (outer : List PySem.Env) (s : Shared) (H : Hp) (E : XK) (hr : Room k (A.deeper (envOfC "pieces_in_build" (defScope s_pieces_in_build) s.heap.objs.size f cdv))) :
    PSs (cxOf CX0 P w K mg base ["build"] "pieces_in_build" (defScope s_pieces_in_build) f cdv A outer s H E).nox (defBody s_pieces_in_build) (tSs K (callN prog W k) W m_pieces_in_build) :=
  (ss_cons (s_exp (ps_expr (i_call (T.cal 16 _ rfl) hr rfl (is_cons (i_var 0) is_nil))))
  (ss_cons (s_ret (i_call (T.cal 14 _ rfl) hr rfl (is_cons (i_var 0) (is_cons (i_con rfl (T.con 5 _ _ rfl)) is_nil))))
  ss_nil))
theorem b_turned_build (T : Top P w K mg base prog W k names consts blts) (f : Addr) (cdv : Value) (A : Around) (outer : List PySem.Env) (s : Shared) (H : Hp) (E : XK) (hr : Room k (A.deeper (envOfC "turned_build" (defScope s_turned_build) s.heap.objs.size f cdv))) :
    PSs (cxOf CX0 P w K mg base ["build"] "turned_build" (defScope s_turned_build) f cdv A outer s H E).nox (defBody s_turned_build) (tSs K (callN prog W k) W m_turned_build) :=
  (ss_cons (s_exp (ps_expr (i_call (T.cal 16 _ rfl) hr rfl (is_cons (i_var 0) is_nil))))
  (ss_cons (s_ret (i_call (T.cal 18 _ rfl) hr rfl (is_cons (i_var 0) is_nil)))
  ss_nil))
theorem b__law_cup (T : Top P w K mg base prog W k names consts blts) (f : Addr) (cdv : Value) (A : Around) (outer : List PySem.Env) (s : Shared) (H : Hp) (E : XK) (hr : Room k (A.deeper (envOfC "_law_cup" (defScope s__law_cup) s.heap.objs.size f cdv))) :
    PSs (cxOf CX0 P w K mg base ["script", "cell"] "_law_cup" (defScope s__law_cup) f cdv A outer s H E).nox (defBody s__law_cup) (tSs K (callN prog W k) W m__law_cup) :=
  (ss_cons (s_set 1 sc__law_cup.nd (i_bltB (f := false) c_abs rfl (T.blt 5 _ rfl) bb_abs (is_cons (i_idx (i_bin false o_add (i_bltT (f := false) c_list rfl (T.blt 9 _ rfl) bb_list (is_cons (i_var 0) is_nil)) (i_lst false (is_cons i_int is_nil))) i_int) is_nil)))
  (ss_cons (s_ret (i_lst true (is_cons (i_ite (t_cmp o_ge (i_var 1) (i_bin false o_pow i_int i_int) (nomark _)) (i_bin false o_fdiv (i_var 1) i_int) i_int) (is_cons (i_bin false o_add (i_bin false o_mod (i_bltT (f := false) c_int rfl (T.blt 2 _ rfl) bb_int (is_cons (i_bin false o_add (i_bin false o_mul (i_var 1) i_int) i_int) is_nil)) i_int) i_int) is_nil))))
  ss_nil))
theorem b__law_roll (T : Top P w K mg base prog W k names consts blts) (f : Addr) (cdv : Value) (A : Around) (outer : List PySem.Env) (s : Shared) (H : Hp) (E : XK) (hr : Room k (A.deeper (envOfC "_law_roll" (defScope s__law_roll) s.heap.objs.size f cdv))) :
    PSs (cxOf CX0 P w K mg base ["cup", "many", "found", "deep"] "_law_roll" (defScope s__law_roll) f cdv A outer s H E).nox (defBody s__law_roll) (tSs K (callN prog W k) W m__law_roll) :=
  (ss_cons (s_ite (t_cmp o_gt (i_idx (i_var 0) i_int) i_int (nomark _)) (ss_cons (s_set 2 sc__law_roll.nd (i_bin false o_mod (i_bltT (f := false) c_int rfl (T.blt 2 _ rfl) bb_int (is_cons (i_idx (i_var 0) i_int) is_nil)) (i_var 1)))
  (ss_cons (s_seti (i_bin false o_fdiv (i_idx (i_var 0) i_int) (i_var 1)) (i_var 0) i_int)
  (ss_cons (s_ret (i_var 2))
  ss_nil))) ss_nil)
  (ss_cons (s_seti (i_bin false o_mod (i_bltT (f := false) c_int rfl (T.blt 2 _ rfl) bb_int (is_cons (i_bin false o_add (i_bin false o_mul (i_idx (i_var 0) i_int) i_int) i_int) is_nil)) i_int) (i_var 0) i_int)
  (ss_cons (s_set 3 sc__law_roll.nd (i_bin false o_mod (i_bltT (f := false) c_int rfl (T.blt 2 _ rfl) bb_int (is_cons (i_bin false o_mul (i_idx (i_var 0) i_int) (i_bin false o_add (i_idx (i_var 0) i_int) i_int)) is_nil)) i_int))
  (ss_cons (s_ret (i_bin false o_mod (i_bltT (f := false) c_int rfl (T.blt 2 _ rfl) bb_int (is_cons (i_bin false o_fdiv (i_var 3) i_int) is_nil)) (i_var 1)))
  ss_nil))))
theorem b__law_some (T : Top P w K mg base prog W k names consts blts) (f : Addr) (cdv : Value) (A : Around) (outer : List PySem.Env) (s : Shared) (H : Hp) (E : XK) (hr : Room k (A.deeper (envOfC "_law_some" (defScope s__law_some) s.heap.objs.size f cdv))) :
    PSs (cxOf CX0 P w K mg base ["cup", "things"] "_law_some" (defScope s__law_some) f cdv A outer s H E).nox (defBody s__law_some) (tSs K (callN prog W k) W m__law_some) :=
  (ss_cons (s_ret (i_idx (i_var 1) (i_call (T.cal 24 _ rfl) hr rfl (is_cons (i_var 0) (is_cons (i_bltB (f := false) c_len rfl (T.blt 3 _ rfl) bb_len (is_cons (i_var 1) is_nil)) is_nil)))))
  ss_nil)
theorem b__law_sort (T : Top P w K mg base prog W k names consts blts) (f : Addr) (cdv : Value) (A : Around) (outer : List PySem.Env) (s : Shared) (H : Hp) (E : XK) (hr : Room k (A.deeper (envOfC "_law_sort" (defScope s__law_sort) s.heap.objs.size f cdv))) :
    PSs (cxOf CX0 P w K mg base ["value"] "_law_sort" (defScope s__law_sort) f cdv A outer s H E).nox (defBody s__law_sort) (tSs K (callN prog W k) W m__law_sort) :=
  (ss_cons (s_ite (t_w (w_or (t_cmp o_is (i_var 0) i_non (nomark _)) (w_or1 (t_of (i_isi (T := .bool) rfl (T.blt 0 _ rfl) rfl (T.blt 1 _ rfl) bb_bool (i_var 0)))))) (ss_cons (s_ret (i_ite (t_cmp o_is (i_var 0) i_non (nomark _)) i_int i_int))
  ss_nil) ss_nil)
  (ss_cons (s_ite (t_w (w_or (t_of (i_isi (T := .int) rfl (T.blt 0 _ rfl) rfl (T.blt 2 _ rfl) bb_int (i_var 0))) (w_or1 (t_of (i_isi (T := .str) rfl (T.blt 0 _ rfl) rfl (T.blt 8 _ rfl) bb_str (i_var 0)))))) (ss_cons (s_ret (i_ite (t_of (i_isi (T := .int) rfl (T.blt 0 _ rfl) rfl (T.blt 2 _ rfl) bb_int (i_var 0))) i_int i_int))
  ss_nil) ss_nil)
  (ss_cons (s_ret (i_ite (t_of (i_isi (T := .tuple) rfl (T.blt 0 _ rfl) rfl (T.blt 4 _ rfl) bb_tuple (i_var 0))) i_int (i_ite (t_of (i_isi (T := .list) rfl (T.blt 0 _ rfl) rfl (T.blt 9 _ rfl) bb_list (i_var 0))) i_int i_int)))
  ss_nil)))
theorem b__law_like (T : Top P w K mg base prog W k names consts blts) (f : Addr) (cdv : Value) (A : Around) (outer : List PySem.Env) (s : Shared) (H : Hp) (E : XK) (hr : Room k (A.deeper (envOfC "_law_like" (defScope s__law_like) s.heap.objs.size f cdv))) :
    PSs (cxOf CX0 P w K mg base ["one", "other", "sort", "first", "second"] "_law_like" (defScope s__law_like) f cdv A outer s H E).nox (defBody s__law_like) (tSs K (callN prog W k) W m__law_like) :=
  (ss_cons (s_set 2 sc__law_like.nd (i_call (T.cal 26 _ rfl) hr rfl (is_cons (i_var 1) is_nil)))
  (ss_cons (s_ite (t_w (w_or (t_cmp (o_ne hr.units) (i_call (T.cal 26 _ rfl) hr rfl (is_cons (i_var 0) is_nil)) (i_var 2) (nomark _)) (w_or1 (t_cmp (o_eq hr.units) (i_var 2) i_int (nomark _))))) (ss_cons (s_ret i_bl)
  ss_nil) ss_nil)
  (ss_cons (s_ite (t_cmp o_in (i_var 2) (i_tup (is_cons i_int (is_cons i_int is_nil))) (by with_unfolding_all rfl)) (ss_cons (s_ret (i_and (i_cmp (o_eq hr.units) (i_bltB (f := false) c_len rfl (T.blt 3 _ rfl) bb_len (is_cons (i_var 0) is_nil)) (i_bltB (f := false) c_len rfl (T.blt 3 _ rfl) bb_len (is_cons (i_var 1) is_nil)) (nomark _)) (i_one (i_cmp (o_eq hr.units) (i_lc (own := [("first", 3), ("second", 4)]) false rfl sc__law_like.nd (it_zip rfl (T.blt 10 _ rfl) (is_cons (i_var 0) (is_cons (i_var 1) is_nil))) (blk_ok (N := ["one", "other", "sort", "first", "second"]) (sc := defScope s__law_like) (by decide +kernel)) rfl (fun _ _ _ _ _ => (g_tp rfl (gs_cons 3 sc__law_like.nd (gs_cons 4 sc__law_like.nd gs_nil)))) (fun _ _ _ _ _ => (cs_one (t_not (t_of (i_call (T.cal 27 _ rfl) hr rfl (is_cons (i_var 3) (is_cons (i_var 4) is_nil))))))) (fun _ _ _ _ _ => i_int)) (i_lst false is_nil) (nomark _)))))
  ss_nil) ss_nil)
  (ss_cons (s_ret (i_cmp (o_eq hr.units) (i_var 0) (i_var 1) (nomark _)))
  ss_nil))))
theorem b__law_least (T : Top P w K mg base prog W k names consts blts) (f : Addr) (cdv : Value) (A : Around) (outer : List PySem.Env) (s : Shared) (H : Hp) (E : XK) (hr : Room k (A.deeper (envOfC "_law_least" (defScope s__law_least) s.heap.objs.size f cdv))) :
    PSs (cxOf CX0 P w K mg base ["above", "below", "one", "other", "sign"] "_law_least" (defScope s__law_least) f cdv A outer s H E).nox (defBody s__law_least) (tSs K (callN prog W k) W m__law_least) :=
  (ss_cons (s_par 2 3 rfl sc__law_least.nd (is_cons (i_bltB (f := false) c_abs rfl (T.blt 5 _ rfl) bb_abs (is_cons (i_var 0) is_nil)) (is_cons (i_bltB (f := false) c_abs rfl (T.blt 5 _ rfl) bb_abs (is_cons (i_var 1) is_nil)) is_nil)))
  (ss_cons (s_whl PassesOwn.never (t_cmp (o_ne hr.units) (i_var 3) i_int (nomark _)) (ss_cons (s_par 2 3 rfl sc__law_least.nd (is_cons (i_var 3) (is_cons (i_bin false o_mod (i_bltT (f := false) c_int rfl (T.blt 2 _ rfl) bb_int (is_cons (i_var 2) is_nil)) (i_var 3)) is_nil)))
  ss_nil))
  (ss_cons (s_set 4 sc__law_least.nd (i_ite (t_cmp o_lt (i_var 1) i_int (nomark _)) (i_neg i_int) i_int))
  (ss_cons (s_ret (i_tup (is_cons (i_bltT (f := false) c_int rfl (T.blt 2 _ rfl) bb_int (is_cons (i_bin false o_fdiv (i_bin false o_mul (i_var 4) (i_var 0)) (i_var 2)) is_nil)) (is_cons (i_bltT (f := false) c_int rfl (T.blt 2 _ rfl) bb_int (is_cons (i_bin false o_fdiv (i_bin false o_mul (i_var 4) (i_var 1)) (i_var 2)) is_nil)) is_nil))))
  ss_nil))))
theorem b__law_plus (T : Top P w K mg base prog W k names consts blts) (f : Addr) (cdv : Value) (A : Around) (outer : List PySem.Env) (s : Shared) (H : Hp) (E : XK) (hr : Room k (A.deeper (envOfC "_law_plus" (defScope s__law_plus) s.heap.objs.size f cdv))) :
    PSs (cxOf CX0 P w K mg base ["one", "other"] "_law_plus" (defScope s__law_plus) f cdv A outer s H E).nox (defBody s__law_plus) (tSs K (callN prog W k) W m__law_plus) :=
  (ss_cons (s_ret (i_call (T.cal 28 _ rfl) hr rfl (is_cons (i_bin false o_add (i_bin false o_mul (i_idx (i_var 0) i_int) (i_idx (i_var 1) i_int)) (i_bin false o_mul (i_idx (i_var 1) i_int) (i_idx (i_var 0) i_int))) (is_cons (i_bin false o_mul (i_idx (i_var 0) i_int) (i_idx (i_var 1) i_int)) is_nil))))
  ss_nil)
theorem b__law_under (T : Top P w K mg base prog W k names consts blts) (f : Addr) (cdv : Value) (A : Around) (outer : List PySem.Env) (s : Shared) (H : Hp) (E : XK) (hr : Room k (A.deeper (envOfC "_law_under" (defScope s__law_under) s.heap.objs.size f cdv))) :
    PSs (cxOf CX0 P w K mg base ["one", "other"] "_law_under" (defScope s__law_under) f cdv A outer s H E).nox (defBody s__law_under) (tSs K (callN prog W k) W m__law_under) :=
  (ss_cons (s_ret (i_cmp o_lt (i_bin false o_mul (i_idx (i_var 0) i_int) (i_idx (i_var 1) i_int)) (i_bin false o_mul (i_idx (i_var 1) i_int) (i_idx (i_var 0) i_int)) (nomark _)))
  ss_nil)
theorem b__law_build (T : Top P w K mg base prog W k names consts blts) (f : Addr) (cdv : Value) (A : Around) (outer : List PySem.Env) (s : Shared) (H : Hp) (E : XK) (hr : Room k (A.deeper (envOfC "_law_build" (defScope s__law_build) s.heap.objs.size f cdv))) :
    PSs (cxOf CX0 P w K mg base ["cup", "many", "parts", "left", "own"] "_law_build" (defScope s__law_build) f cdv A outer s H E).nox (defBody s__law_build) (tSs K (callN prog W k) W m__law_build) :=
  (ss_cons (s_ite (t_cmp (o_eq hr.units) (i_var 1) i_int (nomark _)) (ss_cons (s_ret (i_tup is_nil))
  ss_nil) ss_nil)
  (ss_cons (s_par 2 3 rfl sc__law_build.nd (is_cons (i_lst true is_nil) (is_cons (i_var 1) is_nil)))
  (ss_cons (s_whl PassesOwn.never (t_cmp o_gt (i_var 3) i_int (nomark _)) (ss_cons (s_set 4 sc__law_build.nd (i_bltB (f := false) (c_min rfl) rfl (T.blt 11 _ rfl) bb_min (is_cons (i_var 3) (is_cons (i_bin false o_add i_int (i_call (T.cal 24 _ rfl) hr rfl (is_cons (i_var 0) (is_cons (i_call (T.cal 25 _ rfl) hr rfl (is_cons (i_var 0) (is_cons (i_lst false (is_cons i_int (is_cons i_int (is_cons (i_bin false o_sub (i_var 1) i_int) is_nil)))) is_nil))) is_nil)))) is_nil))))
  (ss_cons (s_set 4 sc__law_build.nd (i_bltB (f := false) (c_min rfl) rfl (T.blt 11 _ rfl) bb_min (is_cons (i_var 4) (is_cons (i_bin false o_sub (i_var 1) i_int) is_nil))))
  (ss_cons (s_exp (ps_expr (i_app (i_var 2) (is_cons (i_call (T.cal 31 _ rfl) hr rfl (is_cons (i_var 0) (is_cons (i_var 4) is_nil))) is_nil))))
  (ss_cons (s_set 3 sc__law_build.nd (i_bin false o_sub (i_var 3) (i_var 4)))
  ss_nil)))))
  (ss_cons (s_ret (i_bin false o_add (i_tup (is_cons (i_call (T.cal 25 _ rfl) hr rfl (is_cons (i_var 0) (is_cons (i_lst false (is_cons i_str (is_cons i_str is_nil))) is_nil))) is_nil)) (i_bltT (f := false) c_tuple rfl (T.blt 4 _ rfl) bb_tuple (is_cons (i_var 2) is_nil))))
  ss_nil))))
theorem b__law_worth (T : Top P w K mg base prog W k names consts blts) (f : Addr) (cdv : Value) (A : Around) (outer : List PySem.Env) (s : Shared) (H : Hp) (E : XK) (hr : Room k (A.deeper (envOfC "_law_worth" (defScope s__law_worth) s.heap.objs.size f cdv))) :
    PSs (cxOf CX0 P w K mg base ["build", "found", "part", "own"] "_law_worth" (defScope s__law_worth) f cdv A outer s H E).nox (defBody s__law_worth) (tSs K (callN prog W k) W m__law_worth) :=
  (ss_cons (s_ite (t_cmp (o_eq hr.units) (i_var 0) (i_tup is_nil) (nomark _)) (ss_cons (s_ret (i_tup (is_cons i_int (is_cons i_int is_nil))))
  ss_nil) ss_nil)
  (ss_cons (s_set 1 sc__law_worth.nd (i_tup (is_cons i_int (is_cons i_int is_nil))))
  (ss_cons (s_for PassesOwn.never rfl (it_seq (i_slc (i_var 0) (o_some i_int) o_none)) (g_nm 2 sc__law_worth.nd) (ss_cons (s_set 3 sc__law_worth.nd (i_call (T.cal 32 _ rfl) hr rfl (is_cons (i_var 2) is_nil)))
  (ss_cons (s_set 1 sc__law_worth.nd (i_call (T.cal 29 _ rfl) hr rfl (is_cons (i_var 1) (is_cons (i_ite (t_cmp (o_eq hr.units) (i_idx (i_var 0) i_int) i_str (nomark _)) (i_var 3) (i_tup (is_cons (i_idx (i_var 3) i_int) (is_cons (i_idx (i_var 3) i_int) is_nil)))) is_nil))))
  ss_nil)))
  (ss_cons (s_ret (i_ite (t_cmp (o_eq hr.units) (i_idx (i_var 0) i_int) i_str (nomark _)) (i_var 1) (i_tup (is_cons (i_idx (i_var 1) i_int) (is_cons (i_idx (i_var 1) i_int) is_nil)))))
  ss_nil))))
theorem b__law_pieces (T : Top P w K mg base prog W k names consts blts) (f : Addr) (cdv : Value) (A : Around) (outer : List PySem.Env) (s : Shared) (H : Hp) (E : XK) (hr : Room k (A.deeper (envOfC "_law_pieces" (defScope s__law_pieces) s.heap.objs.size f cdv))) :
    PSs (cxOf CX0 P w K mg base ["value", "deep", "parts", "part"] "_law_pieces" (defScope s__law_pieces) f cdv A outer s H E).nox (defBody s__law_pieces) (tSs K (callN prog W k) W m__law_pieces) :=
  (ss_cons (s_ite (t_w (w_or (t_not (t_of (i_isi (T := .tuple) rfl (T.blt 0 _ rfl) rfl (T.blt 4 _ rfl) bb_tuple (i_var 0)))) (w_or1 (t_cmp o_gt (i_var 1) i_int (nomark _))))) (ss_cons (s_ret i_int)
  ss_nil) ss_nil)
  (ss_cons (s_ite (t_cmp (o_eq hr.units) (i_var 0) (i_tup is_nil) (nomark _)) (ss_cons (s_ret i_int)
  ss_nil) ss_nil)
  (ss_cons (s_ite (t_w (w_or (t_cmp o_lt (i_bltB (f := false) c_len rfl (T.blt 3 _ rfl) bb_len (is_cons (i_var 0) is_nil)) i_int (nomark _)) (w_or (t_cmp (o_ne hr.units) (i_call (T.cal 26 _ rfl) hr rfl (is_cons (i_idx (i_var 0) i_int) is_nil)) i_int (nomark _)) (w_or1 (t_cmp o_nin (i_idx (i_var 0) i_int) (i_tup (is_cons i_str (is_cons i_str is_nil))) (by with_unfolding_all rfl)))))) (ss_cons (s_ret i_int)
  ss_nil) ss_nil)
  (ss_cons (s_setLc (own := [("part", 3)]) 2 false rfl sc__law_pieces.nd (it_seq (i_slc (i_var 0) (o_some i_int) o_none)) (blk_ok (N := ["value", "deep", "parts", "part"]) (sc := defScope s__law_pieces) (by decide +kernel)) rfl (fun _ _ _ _ _ => (g_nm 3 sc__law_pieces.nd)) (fun _ _ _ _ _ => cs_nil) (fun _ _ _ _ _ => (i_call (T.cal 33 _ rfl) hr rfl (is_cons (i_var 3) (is_cons (i_bin false o_add (i_var 1) i_int) is_nil)))))
  (ss_cons (s_ret (i_ite (t_w (w_and (t_cmp o_nin i_int (i_var 2) (by with_unfolding_all rfl)) (w_and1 (t_cmp o_le (i_bltB (f := false) (c_sum rfl) rfl (T.blt 7 _ rfl) bb_sum (is_cons (i_var 2) is_nil)) i_int (nomark _))))) (i_bltB (f := false) (c_sum rfl) rfl (T.blt 7 _ rfl) bb_sum (is_cons (i_var 2) is_nil)) i_int))
  ss_nil)))))
theorem b__law_turn (T : Top P w K mg base prog W k names consts blts) (f : Addr) (cdv : Value) (A : Around) (outer : List PySem.Env) (s : Shared) (H : Hp) (E : XK) (hr : Room k (A.deeper (envOfC "_law_turn" (defScope s__law_turn) s.heap.objs.size f cdv))) :
    PSs (cxOf CX0 P w K mg base ["build", "part"] "_law_turn" (defScope s__law_turn) f cdv A outer s H E).nox (defBody s__law_turn) (tSs K (callN prog W k) W m__law_turn) :=
  (ss_cons (s_ret (i_ite (t_cmp (o_eq hr.units) (i_var 0) (i_tup is_nil) (nomark _)) (i_tup is_nil) (i_bin false o_add (i_tup (is_cons (i_ite (t_cmp (o_eq hr.units) (i_idx (i_var 0) i_int) i_str (nomark _)) i_str i_str) is_nil)) (i_bltT (f := false) c_tuple rfl (T.blt 4 _ rfl) bb_tuple (is_cons (i_lc (own := [("part", 1)]) false rfl sc__law_turn.nd (it_seq (i_slc (i_var 0) (o_some i_int) o_none)) (blk_ok (N := ["build", "part"]) (sc := defScope s__law_turn) (by decide +kernel)) rfl (fun _ _ _ _ _ => (g_nm 1 sc__law_turn.nd)) (fun _ _ _ _ _ => cs_nil) (fun _ _ _ _ _ => (i_call (T.cal 34 _ rfl) hr rfl (is_cons (i_var 1) is_nil)))) is_nil)))))
  ss_nil)
theorem b__law_bent (T : Top P w K mg base prog W k names consts blts) (f : Addr) (cdv : Value) (A : Around) (outer : List PySem.Env) (s : Shared) (H : Hp) (E : XK) (hr : Room k (A.deeper (envOfC "_law_bent" (defScope s__law_bent) s.heap.objs.size f cdv))) :
    PSs (cxOf CX0 P w K mg base ["cup", "value", "at", "way"] "_law_bent" (defScope s__law_bent) f cdv A outer s H E).nox (defBody s__law_bent) (tSs K (callN prog W k) W m__law_bent) :=
  (ss_cons (s_ite (t_w (w_or (t_not (t_of (i_isi (T := .tuple) rfl (T.blt 0 _ rfl) rfl (T.blt 4 _ rfl) bb_tuple (i_var 1)))) (w_or (t_cmp (o_eq hr.units) (i_var 1) (i_tup is_nil) (nomark _)) (w_or1 (t_cmp (o_eq hr.units) (i_call (T.cal 24 _ rfl) hr rfl (is_cons (i_var 0) (is_cons i_int is_nil))) i_int (nomark _)))))) (ss_cons (s_ret (i_call (T.cal 25 _ rfl) hr rfl (is_cons (i_var 0) (is_cons (i_lst false (is_cons (i_tup is_nil) (is_cons i_non (is_cons (i_lst false is_nil) (is_cons i_str (is_cons i_str (is_cons i_int (is_cons i_int (is_cons i_bl (is_cons (i_tup (is_cons i_str is_nil)) (is_cons (i_tup (is_cons i_str (is_cons (i_tup is_nil) is_nil))) (is_cons (i_tup (is_cons i_str (is_cons (i_tup is_nil) (is_cons (i_tup is_nil) is_nil)))) (is_cons (i_tup (is_cons i_str (is_cons (i_tup is_nil) (is_cons (i_tup is_nil) is_nil)))) (is_cons (i_tup is_nil) (is_cons (i_tup (is_cons i_str (is_cons (i_tup is_nil) (is_cons i_non is_nil)))) (is_cons (i_tup (is_cons (i_tup is_nil) (is_cons (i_tup is_nil) is_nil))) (is_cons (i_tup (is_cons i_str (is_cons i_str (is_cons (i_tup is_nil) is_nil)))) is_nil))))))))))))))))) is_nil))))
  ss_nil) ss_nil)
  (ss_cons (s_par 2 3 rfl sc__law_bent.nd (is_cons (i_call (T.cal 24 _ rfl) hr rfl (is_cons (i_var 0) (is_cons (i_bltB (f := false) c_len rfl (T.blt 3 _ rfl) bb_len (is_cons (i_var 1) is_nil)) is_nil))) (is_cons (i_call (T.cal 24 _ rfl) hr rfl (is_cons (i_var 0) (is_cons i_int is_nil))) is_nil)))
  (ss_cons (s_ite (t_cmp (o_eq hr.units) (i_var 3) i_int (nomark _)) (ss_cons (s_ret (i_bin false o_add (i_slc (i_var 1) o_none (o_some (i_var 2))) (i_slc (i_var 1) (o_some (i_bin false o_add (i_var 2) i_int)) o_none)))
  ss_nil) ss_nil)
  (ss_cons (s_ite (t_cmp (o_eq hr.units) (i_var 3) i_int (nomark _)) (ss_cons (s_ret (i_bin false o_add (i_slc (i_var 1) o_none (o_some (i_bin false o_add (i_var 2) i_int))) (i_slc (i_var 1) (o_some (i_var 2)) o_none)))
  ss_nil) ss_nil)
  (ss_cons (s_ite (t_cmp (o_eq hr.units) (i_var 3) i_int (nomark _)) (ss_cons (s_ret (i_bltT (f := false) c_list rfl (T.blt 9 _ rfl) bb_list (is_cons (i_var 1) is_nil)))
  ss_nil) ss_nil)
  (ss_cons (s_ite (t_cmp (o_eq hr.units) (i_var 3) i_int (nomark _)) (ss_cons (s_ret (i_rev (i_var 1)))
  ss_nil) ss_nil)
  (ss_cons (s_ret (i_bin false o_add (i_bin false o_add (i_slc (i_var 1) o_none (o_some (i_var 2))) (i_tup (is_cons (i_call (T.cal 35 _ rfl) hr rfl (is_cons (i_var 0) (is_cons (i_idx (i_var 1) (i_var 2)) is_nil))) is_nil))) (i_slc (i_var 1) (o_some (i_bin false o_add (i_var 2) i_int)) o_none)))
  ss_nil)))))))
theorem b__law_right (T : Top P w K mg base prog W k names consts blts) (f : Addr) (cdv : Value) (A : Around) (outer : List PySem.Env) (s : Shared) (H : Hp) (E : XK) (hr : Room k (A.deeper (envOfC "_law_right" (defScope s__law_right) s.heap.objs.size f cdv))) :
    PSs (cxOf CX0 P w K mg base ["cup", "many", "build", "worth", "other", "told", "one", "next_one", "turn", "value"] "_law_right" (defScope s__law_right) f cdv A outer s H E).nox (defBody s__law_right) (tSs K (callN prog W k) W m__law_right) :=
  (ss_cons (s_set 2 sc__law_right.nd (i_call (T.cal 31 _ rfl) hr rfl (is_cons (i_var 0) (is_cons (i_var 1) is_nil))))
  (ss_cons (s_par 3 4 rfl sc__law_right.nd (is_cons (i_call (T.cal 32 _ rfl) hr rfl (is_cons (i_var 2) is_nil)) (is_cons (i_call (T.cal 34 _ rfl) hr rfl (is_cons (i_var 2) is_nil)) is_nil)))
  (ss_cons (s_set 5 sc__law_right.nd (i_lst false (is_cons (i_call (T.cal 19 _ rfl) hr rfl (is_cons (i_var 2) is_nil)) (is_cons (i_call (T.cal 20 _ rfl) hr rfl (is_cons (i_var 2) is_nil)) (is_cons (i_call (T.cal 21 _ rfl) hr rfl (is_cons (i_var 2) is_nil)) (is_cons (i_call (T.cal 22 _ rfl) hr rfl (is_cons (i_var 2) is_nil)) (is_cons (i_call (T.cal 20 _ rfl) hr rfl (is_cons (i_var 4) is_nil)) (is_cons (i_call (T.cal 22 _ rfl) hr rfl (is_cons (i_var 4) is_nil)) (is_cons (i_call (T.cal 21 _ rfl) hr rfl (is_cons (i_var 4) is_nil)) is_nil)))))))))
  (ss_cons (s_ite (t_w (w_or (t_not (t_of (i_call (T.cal 27 _ rfl) hr rfl (is_cons (i_var 5) (is_cons (i_lst false (is_cons i_bl (is_cons (i_var 3) (is_cons (i_var 1) (is_cons (i_var 4) (is_cons (i_tup (is_cons (i_idx (i_var 3) i_int) (is_cons (i_idx (i_var 3) i_int) is_nil))) (is_cons (i_var 2) (is_cons (i_var 1) is_nil)))))))) is_nil))))) (w_or1 (t_cmp o_isn (i_call (T.cal 10 _ rfl) hr rfl (is_cons (i_var 3) is_nil)) i_bl (nomark _))))) (ss_cons (s_ret i_bl)
  ss_nil) ss_nil)
  (ss_cons (s_asg (i_tup (is_cons i_int (is_cons i_int is_nil))) (g_tp rfl (gs_cons 6 sc__law_right.nd (gs_cons 7 sc__law_right.nd gs_nil))))
  (ss_cons (s_for PassesOwn.never rfl (it_rng1 rfl (T.blt 12 _ rfl) (is_cons (i_var 1) is_nil)) (g_nm 8 sc__law_right.nd) (ss_cons (s_par 6 7 rfl sc__law_right.nd (is_cons (i_var 7) (is_cons (i_bin false o_add (i_var 6) (i_var 7)) is_nil)))
  ss_nil))
  (ss_cons (s_ite (t_w (w_or (t_cmp o_gt (i_bltB (f := false) (c_maxT rfl) rfl (T.blt 13 _ rfl) bb_max (is_cons (i_var 3) is_nil)) (i_var 6) (nomark _)) (w_or (t_of (i_call (T.cal 30 _ rfl) hr rfl (is_cons (i_var 3) (is_cons (i_tup (is_cons i_int (is_cons (i_var 1) is_nil))) is_nil)))) (w_or1 (t_of (i_call (T.cal 30 _ rfl) hr rfl (is_cons (i_tup (is_cons (i_var 1) (is_cons i_int is_nil))) (is_cons (i_var 3) is_nil)))))))) (ss_cons (s_ret i_bl)
  ss_nil) ss_nil)
  (ss_cons (s_ite (t_cmp o_lt (i_var 1) i_int (nomark _)) (ss_cons (s_set 5 sc__law_right.nd (i_lst false (is_cons (i_call (T.cal 20 _ rfl) hr rfl (is_cons (i_tup (is_cons i_str (is_cons (i_var 2) (is_cons (i_tup is_nil) is_nil)))) is_nil)) (is_cons (i_call (T.cal 20 _ rfl) hr rfl (is_cons (i_tup (is_cons i_str (is_cons (i_tup is_nil) (is_cons (i_var 2) is_nil)))) is_nil)) is_nil))))
  (ss_cons (s_ite (t_not (t_of (i_call (T.cal 27 _ rfl) hr rfl (is_cons (i_var 5) (is_cons (i_lst false (is_cons (i_call (T.cal 11 _ rfl) hr rfl (is_cons (i_var 3) (is_cons (i_tup (is_cons i_int (is_cons i_int is_nil))) is_nil))) (is_cons (i_call (T.cal 12 _ rfl) hr rfl (is_cons (i_tup (is_cons i_int (is_cons i_int is_nil))) (is_cons (i_call (T.cal 11 _ rfl) hr rfl (is_cons (i_tup (is_cons i_int (is_cons i_int is_nil))) (is_cons (i_call (T.cal 12 _ rfl) hr rfl (is_cons (i_tup (is_cons i_int (is_cons i_int is_nil))) (is_cons (i_var 3) is_nil))) is_nil))) is_nil))) is_nil))) is_nil))))) (ss_cons (s_ret i_bl)
  ss_nil) ss_nil)
  ss_nil)) ss_nil)
  (ss_cons (s_for PassesOwn.never rfl (it_seq (i_bin false o_add (i_lc (own := [("turn", 8)]) false rfl sc__law_right.nd (it_rng1 rfl (T.blt 12 _ rfl) (is_cons i_int is_nil)) (blk_ok (N := ["cup", "many", "build", "worth", "other", "told", "one", "next_one", "turn", "value"]) (sc := defScope s__law_right) (by decide +kernel)) rfl (fun _ _ _ _ _ => (g_nm 8 sc__law_right.nd)) (fun _ _ _ _ _ => cs_nil) (fun _ _ _ _ _ => (i_call (T.cal 35 _ rfl) hr rfl (is_cons (i_var 0) (is_cons (i_var 2) is_nil))))) (i_lst false (is_cons (i_bltT (f := false) c_list rfl (T.blt 9 _ rfl) bb_list (is_cons (i_var 2) is_nil)) (is_cons i_non (is_cons i_str (is_cons i_int (is_cons (i_tup (is_cons (i_var 2) is_nil)) (is_cons (i_tup (is_cons i_str (is_cons (i_var 2) is_nil))) (is_cons (i_tup (is_cons i_str (is_cons (i_var 2) (is_cons (i_var 2) is_nil)))) is_nil)))))))))) (g_nm 9 sc__law_right.nd) (ss_cons (s_ite (t_not (t_of (i_call (T.cal 27 _ rfl) hr rfl (is_cons (i_call (T.cal 19 _ rfl) hr rfl (is_cons (i_var 9) is_nil)) (is_cons (i_cmp o_gt (i_call (T.cal 33 _ rfl) hr rfl (is_cons (i_var 9) (is_cons i_int is_nil))) i_int (nomark _)) is_nil))))) (ss_cons (s_ret i_bl)
  ss_nil) ss_nil)
  ss_nil))
  (ss_cons (s_ret i_bl)
  ss_nil))))))))))
theorem b__law_first_right (T : Top P w K mg base prog W k names consts blts) (f : Addr) (cdv : Value) (A : Around) (outer : List PySem.Env) (s : Shared) (H : Hp) (E : XK) (hr : Room k (A.deeper (envOfC "_law_first_right" (defScope s__law_first_right) s.heap.objs.size f cdv))) :
    PSs (cxOf CX0 P w K mg base ["build", "told"] "_law_first_right" (defScope s__law_first_right) f cdv A outer s H E).nox (defBody s__law_first_right) (tSs K (callN prog W k) W m__law_first_right) :=
  (ss_cons (s_set 0 sc__law_first_right.nd (i_tup (is_cons i_str (is_cons (i_tup is_nil) (is_cons (i_tup (is_cons i_str (is_cons (i_tup is_nil) (is_cons (i_tup is_nil) is_nil)))) is_nil)))))
  (ss_cons (s_ite (t_not (t_of (i_call (T.cal 27 _ rfl) hr rfl (is_cons (i_call (T.cal 20 _ rfl) hr rfl (is_cons (i_bin false o_add (i_tup (is_cons i_str is_nil)) (i_bin false o_mul (i_tup (is_cons (i_tup is_nil) is_nil)) i_int)) is_nil)) (is_cons (i_tup (is_cons i_int (is_cons i_int is_nil))) is_nil))))) (ss_cons (s_ret i_bl)
  ss_nil) ss_nil)
  (ss_cons (s_set 1 sc__law_first_right.nd (i_lst false (is_cons (i_call (T.cal 19 _ rfl) hr rfl (is_cons (i_var 0) is_nil)) (is_cons (i_call (T.cal 19 _ rfl) hr rfl (is_cons (i_tup (is_cons i_str (is_cons (i_tup is_nil) is_nil))) is_nil)) (is_cons (i_call (T.cal 20 _ rfl) hr rfl (is_cons (i_var 0) is_nil)) (is_cons (i_call (T.cal 21 _ rfl) hr rfl (is_cons (i_var 0) is_nil)) (is_cons (i_call (T.cal 22 _ rfl) hr rfl (is_cons (i_var 0) is_nil)) (is_cons (i_call (T.cal 20 _ rfl) hr rfl (is_cons (i_call (T.cal 22 _ rfl) hr rfl (is_cons (i_var 0) is_nil)) is_nil)) is_nil))))))))
  (ss_cons (s_ite (t_not (t_of (i_call (T.cal 27 _ rfl) hr rfl (is_cons (i_var 1) (is_cons (i_lst false (is_cons i_bl (is_cons i_bl (is_cons (i_tup (is_cons i_int (is_cons i_int is_nil))) (is_cons i_int (is_cons (i_tup (is_cons i_str (is_cons (i_tup is_nil) (is_cons (i_tup (is_cons i_str (is_cons (i_tup is_nil) (is_cons (i_tup is_nil) is_nil)))) is_nil)))) (is_cons (i_tup (is_cons i_int (is_cons i_int is_nil))) is_nil))))))) is_nil))))) (ss_cons (s_ret i_bl)
  ss_nil) ss_nil)
  (ss_cons (s_ret i_bl)
  ss_nil)))))
theorem b__law_written (T : Top P w K mg base prog W k names consts blts) (f : Addr) (cdv : Value) (A : Around) (outer : List PySem.Env) (s : Shared) (H : Hp) (E : XK) (hr : Room k (A.deeper (envOfC "_law_written" (defScope s__law_written) s.heap.objs.size f cdv))) :
    PSs (cxOf CX0 P w K mg base ["cup", "many", "told", "nested", "one", "other", "turn"] "_law_written" (defScope s__law_written) f cdv A outer s H E).nox (defBody s__law_written) (tSs K (callN prog W k) W m__law_written) :=
  (ss_cons (s_set 1 sc__law_written.nd (i_bin false o_add i_int (i_call (T.cal 24 _ rfl) hr rfl (is_cons (i_var 0) (is_cons i_int is_nil)))))
  (ss_cons (s_set 2 sc__law_written.nd (i_lst false (is_cons (i_call (T.cal 20 _ rfl) hr rfl (is_cons (i_bin false o_add (i_tup (is_cons i_str is_nil)) (i_bin false o_mul (i_tup (is_cons (i_tup is_nil) is_nil)) (i_var 1))) is_nil)) (is_cons (i_call (T.cal 20 _ rfl) hr rfl (is_cons (i_bin false o_add (i_tup (is_cons i_str is_nil)) (i_bin false o_mul (i_tup (is_cons (i_tup is_nil) is_nil)) (i_var 1))) is_nil)) (is_cons (i_call (T.cal 19 _ rfl) hr rfl (is_cons (i_bin false o_add (i_tup (is_cons i_str is_nil)) (i_bin false o_mul (i_tup (is_cons (i_tup is_nil) is_nil)) i_int)) is_nil)) (is_cons (i_call (T.cal 19 _ rfl) hr rfl (is_cons (i_bin false o_add (i_tup (is_cons i_str is_nil)) (i_bin false o_mul (i_tup (is_cons (i_tup is_nil) is_nil)) i_int)) is_nil)) (is_cons (i_call (T.cal 20 _ rfl) hr rfl (is_cons (i_tup is_nil) is_nil)) is_nil)))))))
  (ss_cons (s_ite (t_not (t_of (i_call (T.cal 27 _ rfl) hr rfl (is_cons (i_var 2) (is_cons (i_lst false (is_cons (i_tup (is_cons (i_var 1) (is_cons i_int is_nil))) (is_cons (i_tup (is_cons i_int (is_cons (i_var 1) is_nil))) (is_cons i_bl (is_cons i_bl (is_cons (i_tup (is_cons i_int (is_cons i_int is_nil))) is_nil)))))) is_nil))))) (ss_cons (s_ret i_bl)
  ss_nil) ss_nil)
  (ss_cons (s_asg (i_tup (is_cons (i_tup is_nil) (is_cons i_int (is_cons i_int is_nil)))) (g_tp rfl (gs_cons 3 sc__law_written.nd (gs_cons 4 sc__law_written.nd (gs_cons 5 sc__law_written.nd gs_nil)))))
  (ss_cons (s_for PassesOwn.never rfl (it_rng1 rfl (T.blt 12 _ rfl) (is_cons i_int is_nil)) (g_nm 6 sc__law_written.nd) (ss_cons (s_par3 3 4 5 rfl sc__law_written.nd (is_cons (i_ite (t_cmp (o_eq hr.units) (i_bin false o_mod (i_bltT (f := false) c_int rfl (T.blt 2 _ rfl) bb_int (is_cons (i_var 6) is_nil)) i_int) i_int (nomark _)) (i_tup (is_cons i_str (is_cons (i_tup is_nil) (is_cons (i_var 3) is_nil)))) (i_tup (is_cons i_str (is_cons (i_var 3) (is_cons (i_tup is_nil) is_nil))))) (is_cons (i_var 5) (is_cons (i_bin false o_add (i_var 4) (i_var 5)) is_nil))))
  ss_nil))
  (ss_cons (s_ite (t_w (w_or (t_not (t_of (i_call (T.cal 27 _ rfl) hr rfl (is_cons (i_lst false (is_cons (i_call (T.cal 20 _ rfl) hr rfl (is_cons (i_var 3) is_nil)) (is_cons (i_call (T.cal 21 _ rfl) hr rfl (is_cons (i_var 3) is_nil)) is_nil))) (is_cons (i_lst false (is_cons (i_call (T.cal 32 _ rfl) hr rfl (is_cons (i_var 3) is_nil)) (is_cons i_int is_nil))) is_nil))))) (w_or1 (t_cmp (o_ne hr.units) (i_bltB (f := false) c_sorted rfl (T.blt 14 _ rfl) bb_sorted (is_cons (i_call (T.cal 32 _ rfl) hr rfl (is_cons (i_var 3) is_nil)) is_nil)) (i_lst false (is_cons (i_var 4) (is_cons (i_var 5) is_nil))) (nomark _))))) (ss_cons (s_ret i_bl)
  ss_nil) ss_nil)
  (ss_cons (s_ret (i_and (i_cmp o_is (i_call (T.cal 19 _ rfl) hr rfl (is_cons (i_tup (is_cons i_str (is_cons (i_tup is_nil) (is_cons (i_var 3) is_nil)))) is_nil)) i_bl (nomark _)) (i_one (i_cmp o_is (i_call (T.cal 13 _ rfl) hr rfl (is_cons (i_call (T.cal 20 _ rfl) hr rfl (is_cons (i_tup (is_cons i_str (is_cons (i_tup is_nil) (is_cons (i_tup is_nil) is_nil)))) is_nil)) (is_cons (i_call (T.cal 20 _ rfl) hr rfl (is_cons (i_tup is_nil) is_nil)) is_nil))) i_bl (nomark _)))))
  ss_nil)))))))
theorem b_law (T : Top P w K mg base prog W k names consts blts) (f : Addr) (cdv : Value) (A : Around) (outer : List PySem.Env) (s : Shared) (H : Hp) (E : XK) (hr : Room k (A.deeper (envOfC "law" (defScope s_law) s.heap.objs.size f cdv))) :
    PSs (cxOf CX0 P w K mg base ["script", "cup", "many"] "law" (defScope s_law) f cdv A outer s H E).nox (defBody s_law) (tSs K (callN prog W k) W m_law) :=
  (ss_cons (s_ite (t_not (t_of (i_call0 (T.cal 37 _ rfl) hr rfl))) (ss_cons (s_ret i_bl)
  ss_nil) ss_nil)
  (ss_cons (s_set 1 sc_law.nd (i_call (T.cal 23 _ rfl) hr rfl (is_cons (i_var 0) is_nil)))
  (ss_cons (s_for PassesOwn.never rfl (it_seq (i_tup (is_cons (i_bin false o_add i_int (i_call (T.cal 24 _ rfl) hr rfl (is_cons (i_var 1) (is_cons i_int is_nil)))) (is_cons (i_bin false o_add i_int (i_call (T.cal 24 _ rfl) hr rfl (is_cons (i_var 1) (is_cons i_int is_nil)))) (is_cons (i_bin false o_add i_int (i_call (T.cal 24 _ rfl) hr rfl (is_cons (i_var 1) (is_cons i_int is_nil)))) (is_cons (i_bin false o_add i_int (i_call (T.cal 24 _ rfl) hr rfl (is_cons (i_var 1) (is_cons i_int is_nil)))) is_nil)))))) (g_nm 2 sc_law.nd) (ss_cons (s_ite (t_not (t_of (i_call (T.cal 36 _ rfl) hr rfl (is_cons (i_var 1) (is_cons (i_var 2) is_nil))))) (ss_cons (s_ret i_bl)
  ss_nil) ss_nil)
  ss_nil))
  (ss_cons (s_ret (i_call (T.cal 38 _ rfl) hr rfl (is_cons (i_var 1) is_nil)))
  ss_nil))))
theorem bi_is_integer : BindsP s_is_integer "is_integer" ["value"] := fun _ _ _ _ _ _ us hl => match us, hl with | [_], _ => rfl
theorem bi_is_tuple_of : BindsP s_is_tuple_of "is_tuple_of" ["value", "low", "high"] := fun _ _ _ _ _ _ us hl => match us, hl with | [_, _, _], _ => rfl
theorem bi_divisor_of : BindsP s_divisor_of "divisor_of" ["one", "other"] := fun _ _ _ _ _ _ us hl => match us, hl with | [_, _], _ => rfl
theorem bi_lowest : BindsP s_lowest "lowest" ["above", "below"] := fun _ _ _ _ _ _ us hl => match us, hl with | [_, _], _ => rfl
theorem bi_sum_of : BindsP s_sum_of "sum_of" ["one", "other"] := fun _ _ _ _ _ _ us hl => match us, hl with | [_, _], _ => rfl
theorem bi_part_of : BindsP s_part_of "part_of" ["one", "other"] := fun _ _ _ _ _ _ us hl => match us, hl with | [_, _], _ => rfl
theorem bi_is_under : BindsP s_is_under "is_under" ["one", "other"] := fun _ _ _ _ _ _ us hl => match us, hl with | [_, _], _ => rfl
theorem bi_fits_fraction : BindsP s_fits_fraction "fits_fraction" ["value"] := fun _ _ _ _ _ _ us hl => match us, hl with | [_], _ => rfl
theorem bi_need_fraction : BindsP s_need_fraction "need_fraction" ["value"] := fun _ _ _ _ _ _ us hl => match us, hl with | [_], _ => rfl
theorem bi_need_both : BindsP s_need_both "need_both" ["one", "other"] := fun _ _ _ _ _ _ us hl => match us, hl with | [_, _], _ => rfl
theorem bi_is_fraction : BindsP s_is_fraction "is_fraction" ["value"] := fun _ _ _ _ _ _ us hl => match us, hl with | [_], _ => rfl
theorem bi_plus : BindsP s_plus "plus" ["one", "other"] := fun _ _ _ _ _ _ us hl => match us, hl with | [_, _], _ => rfl
theorem bi_over : BindsP s_over "over" ["one", "other"] := fun _ _ _ _ _ _ us hl => match us, hl with | [_, _], _ => rfl
theorem bi_is_less : BindsP s_is_less "is_less" ["one", "other"] := fun _ _ _ _ _ _ us hl => match us, hl with | [_, _], _ => rfl
theorem bi_pieces_in : BindsP s_pieces_in "pieces_in" ["value", "deep"] := fun _ _ _ _ _ _ us hl => match us, hl with | [_, _], _ => rfl
theorem bi_fits_build : BindsP s_fits_build "fits_build" ["value"] := fun _ _ _ _ _ _ us hl => match us, hl with | [_], _ => rfl
theorem bi_need_build : BindsP s_need_build "need_build" ["value"] := fun _ _ _ _ _ _ us hl => match us, hl with | [_], _ => rfl
theorem bi_value_in : BindsP s_value_in "value_in" ["build"] := fun _ _ _ _ _ _ us hl => match us, hl with | [_], _ => rfl
theorem bi_turned_in : BindsP s_turned_in "turned_in" ["build"] := fun _ _ _ _ _ _ us hl => match us, hl with | [_], _ => rfl
theorem bi_is_build : BindsP s_is_build "is_build" ["value"] := fun _ _ _ _ _ _ us hl => match us, hl with | [_], _ => rfl
theorem bi_value_of_build : BindsP s_value_of_build "value_of_build" ["build"] := fun _ _ _ _ _ _ us hl => match us, hl with | [_], _ => rfl
theorem bi_pieces_in_build : BindsP s_pieces_in_build "pieces_in_build" ["build"] := fun _ _ _ _ _ _ us hl => match us, hl with | [_], _ => rfl
theorem bi_turned_build : BindsP s_turned_build "turned_build" ["build"] := fun _ _ _ _ _ _ us hl => match us, hl with | [_], _ => rfl
theorem bi__law_cup : BindsP s__law_cup "_law_cup" ["script"] := fun _ _ _ _ _ _ us hl => match us, hl with | [_], _ => rfl
theorem bi__law_roll : BindsP s__law_roll "_law_roll" ["cup", "many"] := fun _ _ _ _ _ _ us hl => match us, hl with | [_, _], _ => rfl
theorem bi__law_some : BindsP s__law_some "_law_some" ["cup", "things"] := fun _ _ _ _ _ _ us hl => match us, hl with | [_, _], _ => rfl
theorem bi__law_sort : BindsP s__law_sort "_law_sort" ["value"] := fun _ _ _ _ _ _ us hl => match us, hl with | [_], _ => rfl
theorem bi__law_like : BindsP s__law_like "_law_like" ["one", "other"] := fun _ _ _ _ _ _ us hl => match us, hl with | [_, _], _ => rfl
theorem bi__law_least : BindsP s__law_least "_law_least" ["above", "below"] := fun _ _ _ _ _ _ us hl => match us, hl with | [_, _], _ => rfl
theorem bi__law_plus : BindsP s__law_plus "_law_plus" ["one", "other"] := fun _ _ _ _ _ _ us hl => match us, hl with | [_, _], _ => rfl
theorem bi__law_under : BindsP s__law_under "_law_under" ["one", "other"] := fun _ _ _ _ _ _ us hl => match us, hl with | [_, _], _ => rfl
theorem bi__law_build : BindsP s__law_build "_law_build" ["cup", "many"] := fun _ _ _ _ _ _ us hl => match us, hl with | [_, _], _ => rfl
theorem bi__law_worth : BindsP s__law_worth "_law_worth" ["build"] := fun _ _ _ _ _ _ us hl => match us, hl with | [_], _ => rfl
theorem bi__law_pieces : BindsP s__law_pieces "_law_pieces" ["value", "deep"] := fun _ _ _ _ _ _ us hl => match us, hl with | [_, _], _ => rfl
theorem bi__law_turn : BindsP s__law_turn "_law_turn" ["build"] := fun _ _ _ _ _ _ us hl => match us, hl with | [_], _ => rfl
theorem bi__law_bent : BindsP s__law_bent "_law_bent" ["cup", "value"] := fun _ _ _ _ _ _ us hl => match us, hl with | [_, _], _ => rfl
theorem bi__law_right : BindsP s__law_right "_law_right" ["cup", "many"] := fun _ _ _ _ _ _ us hl => match us, hl with | [_, _], _ => rfl
theorem bi__law_first_right : BindsP s__law_first_right "_law_first_right" [] := fun _ _ _ _ _ _ us hl => match us, hl with | [], _ => rfl
theorem bi__law_written : BindsP s__law_written "_law_written" ["cup"] := fun _ _ _ _ _ _ us hl => match us, hl with | [_], _ => rfl
theorem bi_law : BindsP s_law "law" ["script"] := fun _ _ _ _ _ _ us hl => match us, hl with | [_], _ => rfl
theorem tops (d_is_integer : DefOf K mg "is_integer" s_is_integer) (d_is_tuple_of : DefOf K mg "is_tuple_of" s_is_tuple_of) (d_divisor_of : DefOf K mg "divisor_of" s_divisor_of) (d_lowest : DefOf K mg "lowest" s_lowest) (d_sum_of : DefOf K mg "sum_of" s_sum_of) (d_part_of : DefOf K mg "part_of" s_part_of) (d_is_under : DefOf K mg "is_under" s_is_under) (d_fits_fraction : DefOf K mg "fits_fraction" s_fits_fraction) (d_need_fraction : DefOf K mg "need_fraction" s_need_fraction) (d_need_both : DefOf K mg "need_both" s_need_both) (d_is_fraction : DefOf K mg "is_fraction" s_is_fraction) (d_plus : DefOf K mg "plus" s_plus) (d_over : DefOf K mg "over" s_over) (d_is_less : DefOf K mg "is_less" s_is_less) (d_pieces_in : DefOf K mg "pieces_in" s_pieces_in) (d_fits_build : DefOf K mg "fits_build" s_fits_build) (d_need_build : DefOf K mg "need_build" s_need_build) (d_value_in : DefOf K mg "value_in" s_value_in) (d_turned_in : DefOf K mg "turned_in" s_turned_in) (d_is_build : DefOf K mg "is_build" s_is_build) (d_value_of_build : DefOf K mg "value_of_build" s_value_of_build) (d_pieces_in_build : DefOf K mg "pieces_in_build" s_pieces_in_build) (d_turned_build : DefOf K mg "turned_build" s_turned_build) (d__law_cup : DefOf K mg "_law_cup" s__law_cup) (d__law_roll : DefOf K mg "_law_roll" s__law_roll) (d__law_some : DefOf K mg "_law_some" s__law_some) (d__law_sort : DefOf K mg "_law_sort" s__law_sort) (d__law_like : DefOf K mg "_law_like" s__law_like) (d__law_least : DefOf K mg "_law_least" s__law_least) (d__law_plus : DefOf K mg "_law_plus" s__law_plus) (d__law_under : DefOf K mg "_law_under" s__law_under) (d__law_build : DefOf K mg "_law_build" s__law_build) (d__law_worth : DefOf K mg "_law_worth" s__law_worth) (d__law_pieces : DefOf K mg "_law_pieces" s__law_pieces) (d__law_turn : DefOf K mg "_law_turn" s__law_turn) (d__law_bent : DefOf K mg "_law_bent" s__law_bent) (d__law_right : DefOf K mg "_law_right" s__law_right) (d__law_first_right : DefOf K mg "_law_first_right" s__law_first_right) (d__law_written : DefOf K mg "_law_written" s__law_written) (d_law : DefOf K mg "law" s_law) (c_DIGITS : ∃ z u, mg "DIGITS" = some u ∧ RelV z u ∧ Con K k_DIGITS z) (c_NONE : ∃ z u, mg "NONE" = some u ∧ RelV z u ∧ Con K k_NONE z) (c_PIECES : ∃ z u, mg "PIECES" = some u ∧ RelV z u ∧ Con K k_PIECES z) (c_SIDE : ∃ z u, mg "SIDE" = some u ∧ RelV z u ∧ Con K k_SIDE z) (c_ROW : ∃ z u, mg "ROW" = some u ∧ RelV z u ∧ Con K k_ROW z) (c_DEEP : ∃ z u, mg "DEEP" = some u ∧ RelV z u ∧ Con K k_DEEP z) (c_ONE : ∃ z u, mg "ONE" = some u ∧ RelV z u ∧ Con K k_ONE z) (z_isinstance : mg "isinstance" = none) (z_bool : mg "bool" = none) (z_int : mg "int" = none) (z_len : mg "len" = none) (z_tuple : mg "tuple" = none) (z_abs : mg "abs" = none) (z_all : mg "all" = none) (z_sum : mg "sum" = none) (z_str : mg "str" = none) (z_list : mg "list" = none) (z_zip : mg "zip" = none) (z_min : mg "min" = none) (z_range : mg "range" = none) (z_max : mg "max" = none) (z_sorted : mg "sorted" = none)  : ∀ k, Top P w K mg base prog W k names consts blts := by
  have hc : ∀ (i : Nat) (x : Str) (v : PV), consts[i]? = some (x, v) → ∃ z u, mg x = some u ∧ RelV z u ∧ Con K v z := fun i x v h => by
    match i, h with
    | 0, h => cases h; exact c_DIGITS
    | 1, h => cases h; exact c_NONE
    | 2, h => cases h; exact c_PIECES
    | 3, h => cases h; exact c_SIDE
    | 4, h => cases h; exact c_ROW
    | 5, h => cases h; exact c_DEEP
    | 6, h => cases h; exact c_ONE
    | n + 7, h => exact absurd h (by simp [consts])
  have hb : ∀ (i : Nat) (x : Str), blts[i]? = some x → mg x = none := fun i x h => by
    match i, h with
    | 0, h => cases h; exact z_isinstance
    | 1, h => cases h; exact z_bool
    | 2, h => cases h; exact z_int
    | 3, h => cases h; exact z_len
    | 4, h => cases h; exact z_tuple
    | 5, h => cases h; exact z_abs
    | 6, h => cases h; exact z_all
    | 7, h => cases h; exact z_sum
    | 8, h => cases h; exact z_str
    | 9, h => cases h; exact z_list
    | 10, h => cases h; exact z_zip
    | 11, h => cases h; exact z_min
    | 12, h => cases h; exact z_range
    | 13, h => cases h; exact z_max
    | 14, h => cases h; exact z_sorted
    | n + 15, h => exact absurd h (by simp [blts])
  intro k
  induction k with
  | zero =>
    refine ⟨fun i x h => ?_, hc, hb⟩
    match i, h with
    | 0, h => cases h; exact cal_zero d_is_integer bi_is_integer
    | 1, h => cases h; exact cal_zero d_is_tuple_of bi_is_tuple_of
    | 2, h => cases h; exact cal_zero d_divisor_of bi_divisor_of
    | 3, h => cases h; exact cal_zero d_lowest bi_lowest
    | 4, h => cases h; exact cal_zero d_sum_of bi_sum_of
    | 5, h => cases h; exact cal_zero d_part_of bi_part_of
    | 6, h => cases h; exact cal_zero d_is_under bi_is_under
    | 7, h => cases h; exact cal_zero d_fits_fraction bi_fits_fraction
    | 8, h => cases h; exact cal_zero d_need_fraction bi_need_fraction
    | 9, h => cases h; exact cal_zero d_need_both bi_need_both
    | 10, h => cases h; exact cal_zero d_is_fraction bi_is_fraction
    | 11, h => cases h; exact cal_zero d_plus bi_plus
    | 12, h => cases h; exact cal_zero d_over bi_over
    | 13, h => cases h; exact cal_zero d_is_less bi_is_less
    | 14, h => cases h; exact cal_zero d_pieces_in bi_pieces_in
    | 15, h => cases h; exact cal_zero d_fits_build bi_fits_build
    | 16, h => cases h; exact cal_zero d_need_build bi_need_build
    | 17, h => cases h; exact cal_zero d_value_in bi_value_in
    | 18, h => cases h; exact cal_zero d_turned_in bi_turned_in
    | 19, h => cases h; exact cal_zero d_is_build bi_is_build
    | 20, h => cases h; exact cal_zero d_value_of_build bi_value_of_build
    | 21, h => cases h; exact cal_zero d_pieces_in_build bi_pieces_in_build
    | 22, h => cases h; exact cal_zero d_turned_build bi_turned_build
    | 23, h => cases h; exact cal_zero d__law_cup bi__law_cup
    | 24, h => cases h; exact cal_zero d__law_roll bi__law_roll
    | 25, h => cases h; exact cal_zero d__law_some bi__law_some
    | 26, h => cases h; exact cal_zero d__law_sort bi__law_sort
    | 27, h => cases h; exact cal_zero d__law_like bi__law_like
    | 28, h => cases h; exact cal_zero d__law_least bi__law_least
    | 29, h => cases h; exact cal_zero d__law_plus bi__law_plus
    | 30, h => cases h; exact cal_zero d__law_under bi__law_under
    | 31, h => cases h; exact cal_zero d__law_build bi__law_build
    | 32, h => cases h; exact cal_zero d__law_worth bi__law_worth
    | 33, h => cases h; exact cal_zero d__law_pieces bi__law_pieces
    | 34, h => cases h; exact cal_zero d__law_turn bi__law_turn
    | 35, h => cases h; exact cal_zero d__law_bent bi__law_bent
    | 36, h => cases h; exact cal_zero d__law_right bi__law_right
    | 37, h => cases h; exact cal_zero d__law_first_right bi__law_first_right
    | 38, h => cases h; exact cal_zero d__law_written bi__law_written
    | 39, h => cases h; exact cal_zero d_law bi_law
    | n + 40, h => exact absurd h (by simp [names])
  | succ k T =>
    refine ⟨fun i x h => ?_, hc, hb⟩
    match i, h with
    | 0, h => cases h; exact cal_succ d_is_integer bi_is_integer sc_is_integer rfl rfl rfl (b_is_integer T)
    | 1, h => cases h; exact cal_succ d_is_tuple_of bi_is_tuple_of sc_is_tuple_of rfl rfl rfl (b_is_tuple_of T)
    | 2, h => cases h; exact cal_succ d_divisor_of bi_divisor_of sc_divisor_of rfl rfl rfl (b_divisor_of T)
    | 3, h => cases h; exact cal_succ d_lowest bi_lowest sc_lowest rfl rfl rfl (b_lowest T)
    | 4, h => cases h; exact cal_succ d_sum_of bi_sum_of sc_sum_of rfl rfl rfl (b_sum_of T)
    | 5, h => cases h; exact cal_succ d_part_of bi_part_of sc_part_of rfl rfl rfl (b_part_of T)
    | 6, h => cases h; exact cal_succ d_is_under bi_is_under sc_is_under rfl rfl rfl (b_is_under T)
    | 7, h => cases h; exact cal_succ d_fits_fraction bi_fits_fraction sc_fits_fraction rfl rfl rfl (b_fits_fraction T)
    | 8, h => cases h; exact cal_succ d_need_fraction bi_need_fraction sc_need_fraction rfl rfl rfl (b_need_fraction T)
    | 9, h => cases h; exact cal_succ d_need_both bi_need_both sc_need_both rfl rfl rfl (b_need_both T)
    | 10, h => cases h; exact cal_succ d_is_fraction bi_is_fraction sc_is_fraction rfl rfl rfl (b_is_fraction T)
    | 11, h => cases h; exact cal_succ d_plus bi_plus sc_plus rfl rfl rfl (b_plus T)
    | 12, h => cases h; exact cal_succ d_over bi_over sc_over rfl rfl rfl (b_over T)
    | 13, h => cases h; exact cal_succ d_is_less bi_is_less sc_is_less rfl rfl rfl (b_is_less T)
    | 14, h => cases h; exact cal_succ d_pieces_in bi_pieces_in sc_pieces_in rfl rfl rfl (b_pieces_in T)
    | 15, h => cases h; exact cal_succ d_fits_build bi_fits_build sc_fits_build rfl rfl rfl (b_fits_build T)
    | 16, h => cases h; exact cal_succ d_need_build bi_need_build sc_need_build rfl rfl rfl (b_need_build T)
    | 17, h => cases h; exact cal_succ d_value_in bi_value_in sc_value_in rfl rfl rfl (b_value_in T)
    | 18, h => cases h; exact cal_succ d_turned_in bi_turned_in sc_turned_in rfl rfl rfl (b_turned_in T)
    | 19, h => cases h; exact cal_succ d_is_build bi_is_build sc_is_build rfl rfl rfl (b_is_build T)
    | 20, h => cases h; exact cal_succ d_value_of_build bi_value_of_build sc_value_of_build rfl rfl rfl (b_value_of_build T)
    | 21, h => cases h; exact cal_succ d_pieces_in_build bi_pieces_in_build sc_pieces_in_build rfl rfl rfl (b_pieces_in_build T)
    | 22, h => cases h; exact cal_succ d_turned_build bi_turned_build sc_turned_build rfl rfl rfl (b_turned_build T)
    | 23, h => cases h; exact cal_succ d__law_cup bi__law_cup sc__law_cup rfl rfl rfl (b__law_cup T)
    | 24, h => cases h; exact cal_succ d__law_roll bi__law_roll sc__law_roll rfl rfl rfl (b__law_roll T)
    | 25, h => cases h; exact cal_succ d__law_some bi__law_some sc__law_some rfl rfl rfl (b__law_some T)
    | 26, h => cases h; exact cal_succ d__law_sort bi__law_sort sc__law_sort rfl rfl rfl (b__law_sort T)
    | 27, h => cases h; exact cal_succ d__law_like bi__law_like sc__law_like rfl rfl rfl (b__law_like T)
    | 28, h => cases h; exact cal_succ d__law_least bi__law_least sc__law_least rfl rfl rfl (b__law_least T)
    | 29, h => cases h; exact cal_succ d__law_plus bi__law_plus sc__law_plus rfl rfl rfl (b__law_plus T)
    | 30, h => cases h; exact cal_succ d__law_under bi__law_under sc__law_under rfl rfl rfl (b__law_under T)
    | 31, h => cases h; exact cal_succ d__law_build bi__law_build sc__law_build rfl rfl rfl (b__law_build T)
    | 32, h => cases h; exact cal_succ d__law_worth bi__law_worth sc__law_worth rfl rfl rfl (b__law_worth T)
    | 33, h => cases h; exact cal_succ d__law_pieces bi__law_pieces sc__law_pieces rfl rfl rfl (b__law_pieces T)
    | 34, h => cases h; exact cal_succ d__law_turn bi__law_turn sc__law_turn rfl rfl rfl (b__law_turn T)
    | 35, h => cases h; exact cal_succ d__law_bent bi__law_bent sc__law_bent rfl rfl rfl (b__law_bent T)
    | 36, h => cases h; exact cal_succ d__law_right bi__law_right sc__law_right rfl rfl rfl (b__law_right T)
    | 37, h => cases h; exact cal_succ d__law_first_right bi__law_first_right sc__law_first_right rfl rfl rfl (b__law_first_right T)
    | 38, h => cases h; exact cal_succ d__law_written bi__law_written sc__law_written rfl rfl rfl (b__law_written T)
    | 39, h => cases h; exact cal_succ d_law bi_law sc_law rfl rfl rfl (b_law T)
    | n + 40, h => exact absurd h (by simp [names])
end
end Lw

namespace Lw
open Ev
def W : Nat := 1000000000000
theorem u_is_integer (k : Nat) (x0 : PV) (M : Mem) : callN prog W (k + 1) 0 [x0] M = fin false M.length (execs (callN prog W k) W m_is_integer [some x0] M) := by
  unfold callN
  rfl
theorem u_is_tuple_of (k : Nat) (x0 : PV) (x1 : PV) (x2 : PV) (M : Mem) : callN prog W (k + 1) 1 [x0, x1, x2] M = fin false M.length (execs (callN prog W k) W m_is_tuple_of [some x0, some x1, some x2] M) := by
  unfold callN
  rfl
theorem u_divisor_of (k : Nat) (x0 : PV) (x1 : PV) (M : Mem) : callN prog W (k + 1) 2 [x0, x1] M = fin false M.length (execs (callN prog W k) W m_divisor_of [some x0, some x1] M) := by
  unfold callN
  rfl
theorem u_lowest (k : Nat) (x0 : PV) (x1 : PV) (M : Mem) : callN prog W (k + 1) 3 [x0, x1] M = fin false M.length (execs (callN prog W k) W m_lowest [some x0, some x1, none] M) := by
  unfold callN
  rfl
theorem u_sum_of (k : Nat) (x0 : PV) (x1 : PV) (M : Mem) : callN prog W (k + 1) 4 [x0, x1] M = fin false M.length (execs (callN prog W k) W m_sum_of [some x0, some x1] M) := by
  unfold callN
  rfl
theorem u_part_of (k : Nat) (x0 : PV) (x1 : PV) (M : Mem) : callN prog W (k + 1) 5 [x0, x1] M = fin false M.length (execs (callN prog W k) W m_part_of [some x0, some x1] M) := by
  unfold callN
  rfl
theorem u_is_under (k : Nat) (x0 : PV) (x1 : PV) (M : Mem) : callN prog W (k + 1) 6 [x0, x1] M = fin false M.length (execs (callN prog W k) W m_is_under [some x0, some x1] M) := by
  unfold callN
  rfl
theorem u_fits_fraction (k : Nat) (x0 : PV) (M : Mem) : callN prog W (k + 1) 7 [x0] M = fin false M.length (execs (callN prog W k) W m_fits_fraction [some x0, none] M) := by
  unfold callN
  rfl
theorem u_need_fraction (k : Nat) (x0 : PV) (M : Mem) : callN prog W (k + 1) 8 [x0] M = fin false M.length (execs (callN prog W k) W m_need_fraction [some x0] M) := by
  unfold callN
  rfl
theorem u_need_both (k : Nat) (x0 : PV) (x1 : PV) (M : Mem) : callN prog W (k + 1) 9 [x0, x1] M = fin false M.length (execs (callN prog W k) W m_need_both [some x0, some x1] M) := by
  unfold callN
  rfl
theorem u_is_fraction (k : Nat) (x0 : PV) (M : Mem) : callN prog W (k + 1) 10 [x0] M = fin false M.length (execs (callN prog W k) W m_is_fraction [some x0] M) := by
  unfold callN
  rfl
theorem u_plus (k : Nat) (x0 : PV) (x1 : PV) (M : Mem) : callN prog W (k + 1) 11 [x0, x1] M = fin false M.length (execs (callN prog W k) W m_plus [some x0, some x1] M) := by
  unfold callN
  rfl
theorem u_over (k : Nat) (x0 : PV) (x1 : PV) (M : Mem) : callN prog W (k + 1) 12 [x0, x1] M = fin false M.length (execs (callN prog W k) W m_over [some x0, some x1] M) := by
  unfold callN
  rfl
theorem u_is_less (k : Nat) (x0 : PV) (x1 : PV) (M : Mem) : callN prog W (k + 1) 13 [x0, x1] M = fin false M.length (execs (callN prog W k) W m_is_less [some x0, some x1] M) := by
  unfold callN
  rfl
theorem u_pieces_in (k : Nat) (x0 : PV) (x1 : PV) (M : Mem) : callN prog W (k + 1) 14 [x0, x1] M = fin false M.length (execs (callN prog W k) W m_pieces_in [some x0, some x1, none, none, none] M) := by
  unfold callN
  rfl
theorem u_fits_build (k : Nat) (x0 : PV) (M : Mem) : callN prog W (k + 1) 15 [x0] M = fin false M.length (execs (callN prog W k) W m_fits_build [some x0] M) := by
  unfold callN
  rfl
theorem u_need_build (k : Nat) (x0 : PV) (M : Mem) : callN prog W (k + 1) 16 [x0] M = fin false M.length (execs (callN prog W k) W m_need_build [some x0] M) := by
  unfold callN
  rfl
theorem u_value_in (k : Nat) (x0 : PV) (M : Mem) : callN prog W (k + 1) 17 [x0] M = fin false M.length (execs (callN prog W k) W m_value_in [some x0, none, none, none] M) := by
  unfold callN
  rfl
theorem u_turned_in (k : Nat) (x0 : PV) (M : Mem) : callN prog W (k + 1) 18 [x0] M = fin false M.length (execs (callN prog W k) W m_turned_in [some x0, none] M) := by
  unfold callN
  rfl
theorem u_is_build (k : Nat) (x0 : PV) (M : Mem) : callN prog W (k + 1) 19 [x0] M = fin false M.length (execs (callN prog W k) W m_is_build [some x0] M) := by
  unfold callN
  rfl
theorem u_value_of_build (k : Nat) (x0 : PV) (M : Mem) : callN prog W (k + 1) 20 [x0] M = fin false M.length (execs (callN prog W k) W m_value_of_build [some x0] M) := by
  unfold callN
  rfl
theorem u_pieces_in_build (k : Nat) (x0 : PV) (M : Mem) : callN prog W (k + 1) 21 [x0] M = fin false M.length (execs (callN prog W k) W m_pieces_in_build [some x0] M) := by
  unfold callN
  rfl
theorem u_turned_build (k : Nat) (x0 : PV) (M : Mem) : callN prog W (k + 1) 22 [x0] M = fin false M.length (execs (callN prog W k) W m_turned_build [some x0] M) := by
  unfold callN
  rfl
theorem u__law_cup (k : Nat) (x0 : PV) (M : Mem) : callN prog W (k + 1) 23 [x0] M = fin true M.length (execs (callN prog W k) W m__law_cup [some x0, none] M) := by
  unfold callN
  rfl
theorem u__law_roll (k : Nat) (x0 : PV) (x1 : PV) (M : Mem) : callN prog W (k + 1) 24 [x0, x1] M = fin false M.length (execs (callN prog W k) W m__law_roll [some x0, some x1, none, none] M) := by
  unfold callN
  rfl
theorem u__law_some (k : Nat) (x0 : PV) (x1 : PV) (M : Mem) : callN prog W (k + 1) 25 [x0, x1] M = fin false M.length (execs (callN prog W k) W m__law_some [some x0, some x1] M) := by
  unfold callN
  rfl
theorem u__law_sort (k : Nat) (x0 : PV) (M : Mem) : callN prog W (k + 1) 26 [x0] M = fin false M.length (execs (callN prog W k) W m__law_sort [some x0] M) := by
  unfold callN
  rfl
theorem u__law_like (k : Nat) (x0 : PV) (x1 : PV) (M : Mem) : callN prog W (k + 1) 27 [x0, x1] M = fin false M.length (execs (callN prog W k) W m__law_like [some x0, some x1, none, none, none] M) := by
  unfold callN
  rfl
theorem u__law_least (k : Nat) (x0 : PV) (x1 : PV) (M : Mem) : callN prog W (k + 1) 28 [x0, x1] M = fin false M.length (execs (callN prog W k) W m__law_least [some x0, some x1, none, none, none] M) := by
  unfold callN
  rfl
theorem u__law_plus (k : Nat) (x0 : PV) (x1 : PV) (M : Mem) : callN prog W (k + 1) 29 [x0, x1] M = fin false M.length (execs (callN prog W k) W m__law_plus [some x0, some x1] M) := by
  unfold callN
  rfl
theorem u__law_under (k : Nat) (x0 : PV) (x1 : PV) (M : Mem) : callN prog W (k + 1) 30 [x0, x1] M = fin false M.length (execs (callN prog W k) W m__law_under [some x0, some x1] M) := by
  unfold callN
  rfl
theorem u__law_build (k : Nat) (x0 : PV) (x1 : PV) (M : Mem) : callN prog W (k + 1) 31 [x0, x1] M = fin false M.length (execs (callN prog W k) W m__law_build [some x0, some x1, none, none, none] M) := by
  unfold callN
  rfl
theorem u__law_worth (k : Nat) (x0 : PV) (M : Mem) : callN prog W (k + 1) 32 [x0] M = fin false M.length (execs (callN prog W k) W m__law_worth [some x0, none, none, none] M) := by
  unfold callN
  rfl
theorem u__law_pieces (k : Nat) (x0 : PV) (x1 : PV) (M : Mem) : callN prog W (k + 1) 33 [x0, x1] M = fin false M.length (execs (callN prog W k) W m__law_pieces [some x0, some x1, none, none] M) := by
  unfold callN
  rfl
theorem u__law_turn (k : Nat) (x0 : PV) (M : Mem) : callN prog W (k + 1) 34 [x0] M = fin false M.length (execs (callN prog W k) W m__law_turn [some x0, none] M) := by
  unfold callN
  rfl
theorem u__law_bent (k : Nat) (x0 : PV) (x1 : PV) (M : Mem) : callN prog W (k + 1) 35 [x0, x1] M = fin false M.length (execs (callN prog W k) W m__law_bent [some x0, some x1, none, none] M) := by
  unfold callN
  rfl
theorem u__law_right (k : Nat) (x0 : PV) (x1 : PV) (M : Mem) : callN prog W (k + 1) 36 [x0, x1] M = fin false M.length (execs (callN prog W k) W m__law_right [some x0, some x1, none, none, none, none, none, none, none, none] M) := by
  unfold callN
  rfl
theorem u__law_first_right (k : Nat) (M : Mem) : callN prog W (k + 1) 37 [] M = fin false M.length (execs (callN prog W k) W m__law_first_right [none, none] M) := by
  unfold callN
  rfl
theorem u__law_written (k : Nat) (x0 : PV) (M : Mem) : callN prog W (k + 1) 38 [x0] M = fin false M.length (execs (callN prog W k) W m__law_written [some x0, none, none, none, none, none, none] M) := by
  unfold callN
  rfl
theorem u_law (k : Nat) (x0 : PV) (M : Mem) : callN prog W (k + 1) 39 [x0] M = fin false M.length (execs (callN prog W k) W m_law [some x0, none, none] M) := by
  unfold callN
  rfl
/-! ### fractions: what the defs reckon -/
local macro_rules | `(tactic| walk_at "ev") => `(tactic| simp -implicitDefEqProofs only [execs, exec, eval, evals, evalI, conds, bnd_some, bnd_none, bifb_t, bifb_f, bifb_d, bifb_b, iff_t, iff_d, nxt_nx, nxt_rt, binop, cmpop, addOp_ii, addOp_tt, addOp_ll, subOp_ii, mulOp_ii, fdivOp_ii, modOp_ii, cmpI_ii, tru_bl, tru_int, absB_i, intB_i, asM_int, asM_bl, asM_tup, asM_false, isOp_n, isOp_bb, isNon, setAll_nil, setAll_cons, bindT_nm, bindT_tp, fin_rt, fin_nx, leave_same, bltOp, idx_tup0, idx_tup1, idx_tup2, idx_tup3, idx_lst0, idx_lst1, idx_lst2, idx_lst3, eqD_ii, eqD_bb, eqD_fr, Option.map_some, Option.map_none, Option.bind_some, List.getElem?_cons_zero, List.getElem?_cons_succ, List.set_cons_zero, List.set_cons_succ, List.length_cons, List.length_nil, if_true, if_false, decide_true, decide_false, Bool.not_true, Bool.not_false, decide_eq_true_eq, sizeL, Nat.reduceAdd, Nat.reduceLeDiff, Nat.zero_add, beq_self_eq_true, seqG_tup, seqG_lst, lenB_tup, lenB_lst, idx_cup0, idx_cup1, setAt0, setAt1, cup, isTy, Bool.false_eq_true, newL_f, newL_t, fin_rtk, List.nil_append, wipeE, Int.reduceNe, Int.reduceEq, Int.reduceLT, Int.reduceLE, Int.reduceAdd, Int.reduceSub, Int.reduceMul, Int.reduceNeg, Int.reduceGT])
local macro_rules | `(tactic| walk_at "evt") => `(tactic| try (walk_at "ev"))
theorem isNon_non : isNon .non = true := rfl
theorem isNon_tup (x : List PV) : isNon (.tup x) = false := rfl
theorem isNon_lst (x : List PV) : isNon (.lst x) = false := rfl
theorem isNon_rol (x : List PV) : isNon (.rol x) = false := rfl
theorem isNon_int (x : Int) : isNon (.int x) = false := rfl
theorem isNon_bl (x : Bool) : isNon (.bl x) = false := rfl
theorem isNon_str (x : PySem.Str) : isNon (.str x) = false := rfl
theorem isNon_ref (x : Nat) : isNon (.ref x) = false := rfl
theorem isNon_fr (x : Rat) : isNon (fr x) = false := rfl
theorem abs_nat (a : Int) : (if a < 0 then -a else a) = ((a.natAbs : Nat) : Int) := by omega
theorem divisor_of_ok (k : Nat) (a b : Int) (M : Mem) {n : Nat} (hb : lt2 n b) (hn : n ≤ 100000) : callN prog W (k + 1) 2 [.int a, .int b] M = some (.int (Int.gcd a b : Nat), M) := by
  rw [u_divisor_of]
  unfold m_divisor_of
  walk_at "ev"
  rw [abs_nat, abs_nat, whl_gcd (fun x y => [some (.int x), some (.int y)]) _ _ M (fun a b => ?_) (fun a b h => ?_) n W a.natAbs b.natAbs hb (by unfold W; omega)]
  · walk_at "ev"
    rfl
  · walk_at "ev"
    rw [decide_not]
  · walk_at "ev"
    rw [if_pos h]
    rfl
theorem lt2_gcd {n : Nat} {a b : Int} (hb : lt2 n b) (h0 : b ≠ 0) : lt2 n ((Int.gcd a b : Nat) : Int) := by
  unfold lt2
  rw [Int.natAbs_natCast]
  refine Nat.lt_of_le_of_lt ?_ hb
  have := Int.gcd_dvd_right a b
  have h := Int.natAbs_dvd_natAbs.mpr this
  rw [Int.natAbs_natCast] at h
  exact Nat.le_of_dvd (by omega) h
theorem sgn_eq {b : Int} (h : b ≠ 0) : (if 0 < b then (1 : Int) else -1) = b.sign := by
  rcases Int.lt_or_gt_of_ne h with h1 | h1
  · rw [if_neg (by omega), Int.sign_eq_neg_one_of_neg h1]
  · rw [if_pos h1, Int.sign_eq_one_of_pos h1]
theorem sgn2_eq {b : Int} (h : b ≠ 0) : (if b < 0 then (-1 : Int) else 1) = b.sign := by
  rcases Int.lt_or_gt_of_ne h with h1 | h1
  · rw [if_pos h1, Int.sign_eq_neg_one_of_neg h1]
  · rw [if_neg (by omega), Int.sign_eq_one_of_pos h1]
theorem sign_small (b : Int) : -(2 ^ 64) < b.sign ∧ b.sign < 2 ^ 64 := by
  have e : (2 : Int) ^ 64 = 18446744073709551616 := rfl
  rcases Int.lt_trichotomy b 0 with h | h | h
  · rw [Int.sign_eq_neg_one_of_neg h]; omega
  · rw [h, Int.sign_zero]; omega
  · rw [Int.sign_eq_one_of_pos h]; omega
theorem low_facts {n : Nat} {b s : Int} (a : Int) (hb : lt2 n b) (h0 : b ≠ 0) (hn : n ≤ 8000) (hs : s = b.sign) : mulOk ((Int.gcd a b : Nat) : Int) s = true ∧ divOk a (((Int.gcd a b : Nat) : Int) * s) = true ∧ divOk b (((Int.gcd a b : Nat) : Int) * s) = true ∧
    a.fdiv (((Int.gcd a b : Nat) : Int) * s) = (Rat.divInt a b).num ∧ b.fdiv (((Int.gcd a b : Nat) : Int) * s) = ((Rat.divInt a b).den : Int) := by
  have hg := lt2_gcd (a := a) hb h0
  have hg0 : ((Int.gcd a b : Nat) : Int) ≠ 0 := by
    have := Int.gcd_pos_of_ne_zero_right a h0
    omega
  have hsn : s ≠ 0 := fun z => h0 (Int.sign_eq_zero_iff_zero.mp (hs ▸ z))
  have hp : lt2 n (((Int.gcd a b : Nat) : Int) * s) := by
    unfold lt2
    rw [hs, Int.natAbs_mul, Int.natAbs_sign, if_neg h0, Nat.mul_one]
    exact hg
  have hp0 : ((Int.gcd a b : Nat) : Int) * s ≠ 0 := fun z => (Int.mul_eq_zero.mp z).elim hg0 hsn
  have hm : mulOk ((Int.gcd a b : Nat) : Int) s = true := mulOk_small (hs ▸ sign_small b)
  exact ⟨hm, divOk_of hp0 hp (by omega), divOk_of hp0 hp (by omega), low_num h0 hs⟩
theorem lowest_ok (k : Nat) (a b : Int) (M : Mem) {n : Nat} (hb : lt2 n b) (h0 : b ≠ 0) (hn : n ≤ 8000) : callN prog W (k + 2) 3 [.int a, .int b] M = some (fr (Rat.divInt a b), M) := by
  rw [u_lowest]
  unfold m_lowest
  walk_at "ev"
  rw [divisor_of_ok k a b M hb (by omega)]
  walk_at "ev"
  have hs := sgn_eq h0
  by_cases hpos : 0 < b
  · rw [if_pos hpos] at hs
    obtain ⟨f1, f2, f3, f4, f5⟩ := low_facts a hb h0 hn hs
    rw [if_pos hpos]
    walk_at "ev"
    rw [f1]
    walk_at "ev"
    rw [f2, f3]
    walk_at "ev"
    rw [f4, f5]
    rfl
  · rw [if_neg hpos] at hs
    obtain ⟨f1, f2, f3, f4, f5⟩ := low_facts a hb h0 hn hs
    rw [if_neg hpos]
    walk_at "ev"
    rw [f1]
    walk_at "ev"
    rw [f2, f3]
    walk_at "ev"
    rw [f4, f5]
    rfl
theorem sum_of_ok (k : Nat) {p q : Rat} (M : Mem) {a b : Nat} (hp : sm a p) (hq : sm b q) (h : a + b ≤ 7990) : callN prog W (k + 3) 4 [fr p, fr q] M = some (fr (p + q), M) := by
  rw [u_sum_of]
  unfold m_sum_of fr
  walk_at "ev"
  rw [mulOk_of hp.1 hq.den (by omega), mulOk_of hq.1 hp.den (by omega), mulOk_of hp.den hq.den (by omega)]
  walk_at "ev"
  rw [lowest_ok k _ _ M (hp.den.mul hq.den) (Int.ne_of_gt (Int.mul_pos (den_pos p) (den_pos q))) (by omega), add_low]
  walk_at "ev"
  rfl
theorem part_of_ok (k : Nat) {p q : Rat} (M : Mem) {a b : Nat} (hp : sm a p) (hq : sm b q) (h : a + b ≤ 7990) (h0 : q ≠ 0) : callN prog W (k + 3) 5 [fr p, fr q] M = some (fr (p / q), M) := by
  rw [u_part_of]
  unfold m_part_of fr
  walk_at "ev"
  rw [mulOk_of hp.1 hq.den (by omega), mulOk_of hp.den hq.1 (by omega)]
  walk_at "ev"
  rw [lowest_ok k _ _ M (hp.den.mul hq.1) (fun z => (Int.mul_eq_zero.mp z).elim (Int.ne_of_gt (den_pos p)) (num_ne h0)) (by omega), div_low p q h0]
  walk_at "ev"
  rfl
theorem is_under_ok (k : Nat) {p q : Rat} (M : Mem) {a b : Nat} (hp : sm a p) (hq : sm b q) (h : a + b ≤ 7990) : callN prog W (k + 1) 6 [fr p, fr q] M = some (.bl (decide (p < q)), M) := by
  rw [u_is_under]
  unfold m_is_under fr
  walk_at "ev"
  rw [mulOk_of hp.1 hq.den (by omega), mulOk_of hq.1 hp.den (by omega)]
  walk_at "ev"
  rw [decide_eq_decide.mpr (Rat.lt_iff p q)]

/-! ### the law's own fractions -/
theorem l_least_ok (k : Nat) (a b : Int) (M : Mem) {n : Nat} (hb : lt2 n b) (h0 : b ≠ 0) (hn : n ≤ 8000) : callN prog W (k + 1) 28 [.int a, .int b] M = some (fr (Rat.divInt a b), M) := by
  rw [u__law_least]
  unfold m__law_least
  walk_at "ev"
  rw [abs_nat, abs_nat, whl_gcd (fun x y => [some (.int a), some (.int b), some (.int x), some (.int y), none]) _ _ M (fun a b => ?_) (fun a b h => ?_) n W a.natAbs b.natAbs hb (by unfold W; omega)]
  rotate_left
  · walk_at "ev"
    rw [decide_not]
  · walk_at "ev"
    rw [if_pos h]
    walk_at "ev"
  walk_at "ev"
  have hs := sgn2_eq h0
  have hgd : ∀ s : Int, s = b.sign → mulOk s a = true ∧ mulOk s b = true ∧ divOk (s * a) ((Nat.gcd a.natAbs b.natAbs : Nat) : Int) = true ∧ divOk (s * b) ((Nat.gcd a.natAbs b.natAbs : Nat) : Int) = true ∧
      (s * a).fdiv ((Nat.gcd a.natAbs b.natAbs : Nat) : Int) = (Rat.divInt a b).num ∧ (s * b).fdiv ((Nat.gcd a.natAbs b.natAbs : Nat) : Int) = ((Rat.divInt a b).den : Int) := fun s hs => by
    have hg : lt2 n ((Nat.gcd a.natAbs b.natAbs : Nat) : Int) := lt2_gcd (a := a) hb h0
    have hg1 : 0 < Nat.gcd a.natAbs b.natAbs := Int.gcd_pos_of_ne_zero_right a h0
    have hg0 : ((Nat.gcd a.natAbs b.natAbs : Nat) : Int) ≠ 0 := by omega
    obtain ⟨l1, l2⟩ := low_num (a := a) h0 hs
    have hss : s * s = 1 := by
      rcases Int.lt_or_gt_of_ne h0 with h | h
      · rw [hs, Int.sign_eq_neg_one_of_neg h]; rfl
      · rw [hs, Int.sign_eq_one_of_pos h]; rfl
    have mv : ∀ z : Int, ((Int.gcd a b : Nat) : Int) ∣ z → (s * z).fdiv ((Nat.gcd a.natAbs b.natAbs : Nat) : Int) = z.fdiv (((Int.gcd a b : Nat) : Int) * s) := fun z ⟨w, hw⟩ => by
      have e1 : s * z = ((Nat.gcd a.natAbs b.natAbs : Nat) : Int) * (s * w) := by
        rw [hw, ← Int.mul_assoc, Int.mul_comm s, Int.mul_assoc]; rfl
      have e2 : z = (((Int.gcd a b : Nat) : Int) * s) * (s * w) := by
        rw [Int.mul_assoc, ← Int.mul_assoc s s w, hss, Int.one_mul]; exact hw
      have hgs : ((Int.gcd a b : Nat) : Int) * s ≠ 0 := fun q => by
        rcases Int.mul_eq_zero.mp q with q | q
        · exact hg0 q
        · rw [q] at hss; cases hss
      rw [Int.fdiv_eq_ediv_of_dvd ⟨s * w, e1⟩, Int.fdiv_eq_ediv_of_dvd ⟨s * w, e2⟩]
      conv => lhs; rw [e1]
      conv => rhs; rw [e2]
      rw [Int.mul_ediv_cancel_left _ hg0, Int.mul_ediv_cancel_left _ hgs]
    exact ⟨mulOk_smallL (hs ▸ sign_small b), mulOk_smallL (hs ▸ sign_small b), divOk_of hg0 hg (by omega), divOk_of hg0 hg (by omega), (mv a (Int.gcd_dvd_left a b)).trans l1, (mv b (Int.gcd_dvd_right a b)).trans l2⟩
  by_cases hpos : b < 0
  · rw [if_pos hpos] at hs
    obtain ⟨f1, f2, f3, f4, f5, f6⟩ := hgd _ hs
    rw [if_pos hpos]
    walk_at "ev"
    rw [f1, f2]
    walk_at "ev"
    rw [f3, f4]
    walk_at "ev"
    rw [f5, f6]
    rfl
  · rw [if_neg hpos] at hs
    obtain ⟨f1, f2, f3, f4, f5, f6⟩ := hgd _ hs
    rw [if_neg hpos]
    walk_at "ev"
    rw [f1, f2]
    walk_at "ev"
    rw [f3, f4]
    walk_at "ev"
    rw [f5, f6]
    rfl

theorem l_plus_ok (k : Nat) {p q : Rat} (M : Mem) {a b : Nat} (hp : sm a p) (hq : sm b q) (h : a + b ≤ 7990) : callN prog W (k + 2) 29 [fr p, fr q] M = some (fr (p + q), M) := by
  rw [u__law_plus]
  unfold m__law_plus fr
  walk_at "ev"
  rw [mulOk_of hp.1 hq.den (by omega), mulOk_of hq.1 hp.den (by omega), mulOk_of hp.den hq.den (by omega)]
  walk_at "ev"
  rw [l_least_ok k _ _ M (hp.den.mul hq.den) (Int.ne_of_gt (Int.mul_pos (den_pos p) (den_pos q))) (by omega), add_low]
  walk_at "ev"
  rfl

theorem l_under_ok (k : Nat) {p q : Rat} (M : Mem) {a b : Nat} (hp : sm a p) (hq : sm b q) (h : a + b ≤ 7990) : callN prog W (k + 1) 30 [fr p, fr q] M = some (.bl (decide (p < q)), M) := by
  rw [u__law_under]
  unfold m__law_under fr
  walk_at "ev"
  rw [mulOk_of hp.1 hq.den (by omega), mulOk_of hq.1 hp.den (by omega)]
  walk_at "ev"
  rw [decide_eq_decide.mpr (Rat.lt_iff p q)]

/-! ### draws -/
theorem roll_ok (k : Nat) {x y many : Int} (T : Mem) (h : CupB x y) (h1 : 1 ≤ many) (h2 : lt2 8000 many) :
    ∃ r x' y', callN prog W (k + 1) 24 [.ref 0, .int many] (cup x y :: T) = some (.int r, cup x' y' :: T) ∧ CupB x' y' ∧ 0 ≤ r ∧ r < many := by
  obtain ⟨hx, hy, hy2⟩ := h
  rw [u__law_roll]
  unfold m__law_roll
  walk_at "evt"
  have hne : many ≠ 0 := by omega
  have d0 := divOk_of (x := x) hne h2 (by omega)
  by_cases hpos : 0 < x
  · rw [if_pos hpos]
    rw [if_pos hne]
    walk_at "evt"
    rw [d0]
    walk_at "evt"
    refine ⟨x.fmod many, x.fdiv many, y, ?_, ⟨?_, hy, hy2⟩, ?_, ?_⟩
    · exact leave_len rfl
    · rw [Int.fdiv_eq_ediv_of_nonneg x (by omega)]
      exact Int.ediv_nonneg hx (by omega)
    · rw [Int.fmod_eq_emod_of_nonneg x (by omega)]
      exact Int.emod_nonneg x hne
    · rw [Int.fmod_eq_emod_of_nonneg x (by omega)]
      exact Int.emod_lt_of_pos x (by omega)
  · rw [if_neg hpos]
    walk_at "evt"
    have c1 : mulOk y 31051 = true := mulOk_small (by decide)
    rw [c1]
    walk_at "evt"
    have e1 : 0 ≤ (y * 31051 + 7993).fmod 2147483543 ∧ (y * 31051 + 7993).fmod 2147483543 < 2147483543 := by
      rw [Int.fmod_eq_emod_of_nonneg _ (by omega)]
      omega
    generalize (y * 31051 + 7993).fmod 2147483543 = y1 at e1
    walk_at "evt"
    have c2 : mulOk y1 (y1 + 229) = true := mulOk_small (by omega)
    rw [c2]
    walk_at "evt"
    generalize (y1 * (y1 + 229)).fmod 2147483587 = d
    have c3 : divOk d 821 = true := divOk_of (n := 10) (by decide) (by unfold lt2; decide) (by omega)
    rw [c3]
    walk_at "evt"
    rw [if_pos hne]
    refine ⟨(d.fdiv 821).fmod many, x, y1, leave_len rfl, ⟨hx, e1.1, by omega⟩, ?_, ?_⟩
    · rw [Int.fmod_eq_emod_of_nonneg _ (by omega)]
      exact Int.emod_nonneg _ hne
    · rw [Int.fmod_eq_emod_of_nonneg _ (by omega)]
      exact Int.emod_lt_of_pos _ (by omega)
theorem listB_rol (M : Mem) (xs : List PV) : listB M [.rol xs] = some (.lst xs) := rfl
theorem cup_ok (k : Nat) (ns : List Int) (hl : ns.length ≤ 63) : ∃ x y, callN prog W (k + 1) 23 [.rol (ns.map PV.int)] [] = some (.ref 0, [cup x y]) ∧ CupB x y := by
  rw [u__law_cup]
  unfold m__law_cup
  walk_at "evt"
  rw [listB_rol]
  walk_at "evt"
  rw [if_pos (by rw [List.length_map]; omega)]
  obtain ⟨c, rest, e, hc⟩ : ∃ c rest, ns.map PV.int ++ [PV.int 0] = .int c :: rest ∧ True := by
    cases ns with
    | nil => exact ⟨0, [], rfl, trivial⟩
    | cons n ns => exact ⟨n, ns.map PV.int ++ [PV.int 0], rfl, trivial⟩
  rw [e]
  walk_at "evt"
  rw [abs_nat]
  generalize hcc : ((c.natAbs : Nat) : Int) = a
  have ha : 0 ≤ a := by omega
  have p18 : powOp (.int 10) (.int 18) = some (.int 1000000000000000000) := by rfl
  rw [p18]
  walk_at "evt"
  have c1 : mulOk a 283 = true := mulOk_small (by decide)
  have c2 : divOk a 73 = true := divOk_of (n := 7) (by decide) (by unfold lt2; decide) (by omega)
  rw [c1, c2]
  by_cases h18 : 1000000000000000000 ≤ a
  · walk_at "evt"
    rw [if_pos h18]
    walk_at "evt"
    have e1 : 0 ≤ (a * 283 + 3907).fmod 2077503167 ∧ (a * 283 + 3907).fmod 2077503167 < 2077503167 := by
      rw [Int.fmod_eq_emod_of_nonneg _ (by omega)]
      omega
    refine ⟨_, _, rfl, ?_, by omega, by omega⟩
    rw [Int.fdiv_eq_ediv_of_nonneg _ (by omega)]
    omega
  · walk_at "evt"
    rw [if_neg h18]
    walk_at "evt"
    have e1 : 0 ≤ (a * 283 + 3907).fmod 2077503167 ∧ (a * 283 + 3907).fmod 2077503167 < 2077503167 := by
      rw [Int.fmod_eq_emod_of_nonneg _ (by omega)]
      omega
    exact ⟨0, _, rfl, by omega, by omega, by omega⟩

/-! ### equal, including the kinds -/
theorem sort_ok (k : Nat) (v : PV) (M : Mem) : callN prog W (k + 1) 26 [v] M = some (.int (sortP v), M) := by
  rw [u__law_sort]
  unfold m__law_sort
  cases v <;> (walk_at "ev"; rfl)
theorem in_45 (M : Mem) (v : PV) : inOp M (.int (sortP v)) (.tup [.int 4, .int 5]) = some (decide (4 ≤ sortP v)) := by
  cases v <;> rfl
theorem eqD_nil (M : Mem) : eqD M (.lst []) (.lst []) = some true := rfl
theorem like_seq (k : Nat) (M : Mem) (a b : PV) (kd : Bool) (xs : List PV) (g : Gd) (ha : seqG M a = some (kd, xs, g)) (hb : seqG M b = some (kd, xs, [])) (hg : gOk (g ++ []) M = true) (la : lenB M [a] = some (.int xs.length)) (lb : lenB M [b] = some (.int xs.length))
    (hs : sortP a = sortP b) (h4 : 4 ≤ sortP b) (h6 : sortP b ≠ 6) (ih : ∀ x ∈ xs, callN prog W (k + 1) 27 [x, x] M = some (.bl true, M)) : callN prog W (k + 2) 27 [a, b] M = some (.bl true, M) := by
  rw [u__law_like]
  unfold m__law_like
  walk_at "evt"
  rw [sort_ok]
  walk_at "evt"
  rw [sort_ok, hs]
  walk_at "evt"
  rw [if_neg h6]
  walk_at "evt"
  rw [in_45]
  walk_at "evt"
  rw [if_pos h4]
  walk_at "evt"
  rw [la]
  walk_at "evt"
  rw [lb]
  walk_at "evt"
  rw [ha, hb]
  walk_at "evt"
  rw [lcL_none hg]
  · walk_at "evt"
    rw [eqD_nil]
    walk_at "evt"
  · intro z hz
    obtain ⟨x, hx, rfl⟩ := zip_mem hz
    refine ⟨_, by walk_at "ev"; rfl, ?_⟩
    walk_at "evt"
    rw [ih x hx]
    walk_at "evt"
theorem eqD_scal (M : Mem) (v : PV) (h : pl v = true) (h4 : ¬ 4 ≤ sortP v) : eqD M v v = some true := by
  cases v with
  | non => rfl
  | bl b => show some (b == b) = _; rw [beq_self_eq_true]
  | int i => rw [eqD_ii, decide_eq_true rfl]
  | str s =>
    have h' : PySem.PyData.canLay0 (.str s) = true := h
    show (if (PySem.SeqAt.shaped (.str s) && PySem.SeqAt.shaped (.str s)) = true then some (s == s) else none) = _
    unfold PySem.SeqAt.shaped
    rw [h']
    show (if true = true then some (s == s) else none) = _
    rw [if_pos rfl, beq_self_eq_true]
  | tup xs => exact absurd (show (4 : Int) ≤ 4 by decide) h4
  | lst xs => exact absurd (show (4 : Int) ≤ 5 by decide) h4
  | rol xs => exact absurd (show (4 : Int) ≤ 5 by decide) h4
  | ref n => exact absurd (show (4 : Int) ≤ 5 by decide) h4
theorem like_self : ∀ (k : Nat) (v : PV) (M : Mem), pl v = true → dpt v ≤ k → callN prog W (k + 2) 27 [v, v] M = some (.bl true, M)
  | k, v, M, hp, hd => by
    by_cases h4 : 4 ≤ sortP v
    · cases v with
      | tup xs =>
        have hd' : dpts xs + 1 ≤ k := hd
        obtain ⟨k, rfl⟩ : ∃ j, k = j + 1 := ⟨k - 1, by omega⟩
        refine like_seq (k + 1) M _ _ true xs [] rfl rfl rfl rfl rfl rfl h4 (by show (4 : Int) ≠ 6; decide) fun x hx => ?_
        obtain ⟨h1, h2⟩ := pls_mem hp hx
        exact like_self k x M h1 (by omega)
      | lst xs =>
        have hd' : dpts xs + 1 ≤ k := hd
        obtain ⟨k, rfl⟩ : ∃ j, k = j + 1 := ⟨k - 1, by omega⟩
        refine like_seq (k + 1) M _ _ false xs [] rfl rfl rfl rfl rfl rfl h4 (by show (5 : Int) ≠ 6; decide) fun x hx => ?_
        obtain ⟨h1, h2⟩ := pls_mem hp hx
        exact like_self k x M h1 (by omega)
      | rol xs => cases hp
      | ref n => cases hp
      | non => exact absurd h4 (by decide)
      | bl b => exact absurd h4 (by show ¬ (4 : Int) ≤ 1; decide)
      | int i => exact absurd h4 (by show ¬ (4 : Int) ≤ 2; decide)
      | str s => exact absurd h4 (by show ¬ (4 : Int) ≤ 3; decide)
    · rw [u__law_like]
      unfold m__law_like
      walk_at "evt"
      rw [sort_ok]
      walk_at "evt"
      rw [sort_ok]
      walk_at "evt"
      rw [if_neg (by omega)]
      walk_at "evt"
      rw [in_45]
      walk_at "evt"
      rw [if_neg h4]
      walk_at "evt"
      rw [eqD_scal M v hp h4]
      walk_at "evt"
  termination_by k => k
/-- a told list (a cell) beside the due one -/
theorem like_ref (k : Nat) (n : Nat) (xs : List PV) (M : Mem) (h : M[n]? = some (.lst xs)) (hp : pls xs = true) (hd : dpts xs ≤ k) : callN prog W (k + 3) 27 [.ref n, .lst xs] M = some (.bl true, M) := by
  refine like_seq (k + 1) M _ _ false xs [(n, xs)] (by show (match M[n]? with | some (.lst xs) => some (false, xs, [(n, xs)]) | _ => none) = _; rw [h]) rfl ?_ ?_ rfl rfl (by show (4 : Int) ≤ 5; decide) (by show (5 : Int) ≠ 6; decide) fun x hx => ?_
  · show ((match M[n]? with | some (.lst ys) => pbeqs ys xs | _ => false) && true) = true
    rw [h, Bool.and_true]
    exact pbeqs_self xs
  · unfold lenB itemsT items
    simp only [h]
    rfl
  · obtain ⟨h1, h2⟩ := pls_mem hp hx
    exact like_self k x M h1 (by omega)

/-! ### chains -/
theorem fr_0' : (PV.tup [.int 0, .int 1]) = fr 0 := rfl
theorem fr_1' : (PV.tup [.int 1, .int 1]) = fr 1 := rfl
theorem fr_m1' : (PV.tup [.int (-1), .int 1]) = fr (-1) := rfl
theorem idx_fr0 (M : Mem) (q : Rat) : idxOp M (fr q) (.int 0) = some (.int q.num) := idx_tup0 _ _ _
theorem idx_fr1 (M : Mem) (q : Rat) : idxOp M (fr q) (.int 1) = some (.int q.den) := idx_tup1 _ _ _ _
theorem lcL_n {t : T} {c : Env → Mem → Option (Bool × Mem)} {e : Env → Mem → Option (PV × Mem)} {env : Env} {acc : List PV} {M : Mem} : lcL t [] c e env [] acc M = some (acc, M) := by unfold lcL; rfl
theorem lcL_c {t : T} {c : Env → Mem → Option (Bool × Mem)} {e : Env → Mem → Option (PV × Mem)} {env : Env} {x : PV} {xs acc : List PV} {M : Mem} : lcL t [] c e env (x :: xs) acc M =
    (bindT t x env).bind fun env1 => bnd (c env1 M) fun b M1 => bifb (some b) (bnd (e env1 M1) fun v M2 => lcL t [] c e env xs (acc ++ [v]) M2) (lcL t [] c e env xs acc M1) := by
  conv => lhs; unfold lcL
  show (match bindT t x env with | some env1 => _ | none => none) = _
  cases bindT t x env with
  | none => rfl
  | some env1 =>
    show (match c env1 M with | some (true, M1) => _ | some (false, M1) => _ | none => none) = bnd (c env1 M) _
    rcases c env1 M with _ | ⟨b, M1⟩
    · rfl
    · cases b
      · rfl
      · show (match e env1 M1 with | some (v, M2) => _ | none => none) = bnd (e env1 M1) _
        rcases e env1 M1 with _ | ⟨v, M2⟩ <;> rfl
theorem forL_n {t : T} {body : Env → Mem → Option R} {env : Env} {M : Mem} : forL t [] body [] env M = some (.nx env M) := by unfold forL; rfl
theorem forL_c {t : T} {body : Env → Mem → Option R} {x : PV} {xs : List PV} {env : Env} {M : Mem} : forL t [] body (x :: xs) env M = (bindT t x env).bind fun env1 => nxt (body env1 M) fun env2 M2 => forL t [] body xs env2 M2 := by
  conv => lhs; unfold forL
  show (match bindT t x env with | some env1 => _ | none => none) = _
  cases bindT t x env with
  | none => rfl
  | some env1 =>
    show (match body env1 M with | some (.nx env2 M2) => _ | r => r) = nxt (body env1 M) _
    rcases body env1 M with _ | r
    · rfl
    · cases r <;> rfl
local macro_rules | `(tactic| walk_at "evf") => `(tactic| simp -implicitDefEqProofs only [execs, exec, eval, evals, evalI, conds, bnd_some, bnd_none, bifb_t, bifb_f, bifb_d, bifb_b, iff_t, iff_d, nxt_nx, nxt_rt, binop, cmpop, addOp_ii, addOp_tt, addOp_ll, subOp_ii, mulOp_ii, fdivOp_ii, modOp_ii, cmpI_ii, tru_bl, tru_int, absB_i, intB_i, asM_int, asM_bl, asM_tup, asM_false, isOp_n, isOp_bb, isNon_non, isNon_tup, isNon_int, isNon_bl, isNon_lst, isNon_ref, isNon_rol, isNon_str, isNon_fr, setAll_nil, setAll_cons, bindT_nm, bindT_tp, fin_rt, fin_nx, leave_same, bltOp, idx_tup0, idx_tup1, idx_tup2, idx_tup3, idx_lst0, idx_lst1, idx_lst2, idx_lst3, eqD_ii, eqD_bb, eqD_fr, Option.map_some, Option.map_none, Option.bind_some, List.getElem?_cons_zero, List.getElem?_cons_succ, List.set_cons_zero, List.set_cons_succ, List.length_cons, List.length_nil, if_true, if_false, decide_true, decide_false, Bool.not_true, Bool.not_false, decide_eq_true_eq, sizeL, Nat.reduceAdd, Nat.reduceLeDiff, Nat.zero_add, beq_self_eq_true, seqG_tup, seqG_lst, lenB_tup, lenB_lst, idx_cup0, idx_cup1, setAt0, setAt1, cup, isTy, Bool.false_eq_true, newL_f, newL_t, fin_rtk, List.nil_append, wipeE, Int.reduceNe, Int.reduceEq, Int.reduceLT, Int.reduceLE, Int.reduceAdd, Int.reduceSub, Int.reduceMul, Int.reduceNeg, Int.reduceGT, fr_0', fr_1', fr_m1', idx_fr0, idx_fr1, lcL_n, lcL_c, forL_n, forL_c, allB, items, boolsOf, List.all_cons, List.all_nil, id_eq, Bool.and_true, List.cons_append, List.append_nil, cmpop, k_ONE, k_NONE, k_DIGITS, k_PIECES, k_DEEP, k_ROW, k_SIDE, not_true_eq_false, not_false_eq_true, ite_true, ite_false, *])
theorem is_tuple_of_ok (k : Nat) (xs : List PV) (lo hi : Int) (M : Mem) (h1 : lo ≤ (xs.length : Int)) (h2 : (xs.length : Int) ≤ hi) : callN prog W (k + 1) 1 [.tup xs, .int lo, .int hi] M = some (.bl true, M) := by
  rw [u_is_tuple_of]
  unfold m_is_tuple_of
  walk_at "evf"
theorem is_integer_ok (k : Nat) (i : Int) (M : Mem) : callN prog W (k + 1) 0 [.int i] M = some (.bl true, M) := by
  rw [u_is_integer]
  unfold m_is_integer
  walk_at "evf"
theorem num_one {a : Int} {q : Rat} : Int.gcd q.num (q.den : Int) = 1 := by
  have := q.reduced
  unfold Nat.Coprime at this
  unfold Int.gcd
  rw [Int.natAbs_natCast]
  exact this
theorem fits_fraction_ok (k : Nat) {q : Rat} (M : Mem) (h : sm 132 q) : callN prog W (k + 2) 7 [fr q] M = some (.bl true, M) := by
  obtain ⟨h1, h2⟩ := h
  have e : (2 : Nat) ^ 132 < 10000000000000000000000000000000000000000 := by decide +kernel
  have p1 : -10000000000000000000000000000000000000000 < q.num := by unfold lt2 at h1; omega
  have p2 : q.num < 10000000000000000000000000000000000000000 := by unfold lt2 at h1; omega
  have p3 : -10000000000000000000000000000000000000000 < (q.den : Int) := by omega
  have p4 : (q.den : Int) < 10000000000000000000000000000000000000000 := by omega
  have p5 : 1 ≤ (q.den : Int) := den_pos q
  have f1 : ∀ k, callN prog W (k + 1) 1 [.tup [.int q.num, .int q.den], .int 2, .int 2] M = some (.bl true, M) := fun k => is_tuple_of_ok k _ _ _ M (by simp) (by simp)
  have f2 := fun k i => is_integer_ok k i M
  have f3 : ∀ k, callN prog W (k + 1) 2 [.int q.num, .int q.den] M = some (.int 1, M) := fun k => by
    rw [divisor_of_ok k _ _ M (n := 132) (by unfold lt2; rw [Int.natAbs_natCast]; exact h2) (by omega), num_one (a := 0)]
    rfl
  rw [u_fits_fraction]
  unfold m_fits_fraction fr
  walk_at "evf"
theorem sm_0 (n : Nat) (h : 1 ≤ n) : sm n 0 := by
  have : 2 ^ 1 ≤ 2 ^ n := Nat.pow_le_pow_right (by decide) h
  refine ⟨?_, ?_⟩
  · show (0 : Nat) < 2 ^ n; omega
  · show (1 : Nat) < 2 ^ n; omega
theorem sm_1 (n : Nat) (h : 1 ≤ n) : sm n 1 := by
  have : 2 ^ 1 ≤ 2 ^ n := Nat.pow_le_pow_right (by decide) h
  refine ⟨?_, ?_⟩
  · show (1 : Nat) < 2 ^ n; omega
  · show (1 : Nat) < 2 ^ n; omega
mutual
theorem toD_pl : ∀ v : PV, pl v = true → ∃ d, toD v = some d ∧ d.canLay0 = true ∧ d.depth = dpt v
  | .non, _ => ⟨.none, rfl, rfl, rfl⟩
  | .bl b, _ => ⟨.bool b, rfl, rfl, rfl⟩
  | .int i, _ => ⟨.int i, rfl, rfl, rfl⟩
  | .str s, h => ⟨.str s, rfl, h, rfl⟩
  | .tup xs, h => by
    obtain ⟨ds, e1, e2, e3⟩ := toDs_pl xs h
    refine ⟨.tuple ds, ?_, e2, ?_⟩
    · show (toDs xs).map PySem.PyData.tuple = _
      rw [e1]; rfl
    · show PySem.PyData.depthAll ds + 1 = dpts xs + 1
      rw [e3]
  | .lst xs, h => by
    obtain ⟨ds, e1, e2, e3⟩ := toDs_pl xs h
    refine ⟨.list ds, ?_, e2, ?_⟩
    · show (toDs xs).map PySem.PyData.list = _
      rw [e1]; rfl
    · show PySem.PyData.depthAll ds + 1 = dpts xs + 1
      rw [e3]
theorem toDs_pl : ∀ xs : List PV, pls xs = true → ∃ ds, toDs xs = some ds ∧ PySem.PyData.canLayAll0 ds = true ∧ PySem.PyData.depthAll ds = dpts xs
  | [], _ => ⟨[], rfl, rfl, rfl⟩
  | x :: xs, h => by
    have h' : (pl x && pls xs) = true := h
    rw [Bool.and_eq_true] at h'
    obtain ⟨d, a1, a2, a3⟩ := toD_pl x h'.1
    obtain ⟨ds, b1, b2, b3⟩ := toDs_pl xs h'.2
    refine ⟨d :: ds, ?_, ?_, ?_⟩
    · show (match toD x, toDs xs with | some d, some ds => some (d :: ds) | _, _ => none) = _
      rw [a1, b1]
    · show (d.canLay0 && PySem.PyData.canLayAll0 ds) = true
      rw [a2, b2]; rfl
    · show max d.depth (PySem.PyData.depthAll ds) = max (dpt x) (dpts xs)
      rw [a3, b3]
end
theorem eqD_t0 (M : Mem) (xs : List PV) (h : pls xs = true) (hd : dpts xs ≤ 63) : eqD M (.tup xs) (.tup []) = some xs.isEmpty := by
  obtain ⟨ds, e1, e2, e3⟩ := toDs_pl xs h
  have t1 : toDM M (.tup xs) = some (.tuple ds) := by
    show (toDs xs).map PySem.PyData.tuple = _
    rw [e1]; rfl
  have t2 : toDM M (.tup []) = some (.tuple []) := rfl
  have s1 : PySem.SeqAt.shaped (.tuple ds) = true := by
    unfold PySem.SeqAt.shaped
    rw [Bool.and_eq_true]
    exact ⟨e2, decide_eq_true (by show PySem.PyData.depthAll ds + 1 ≤ 64; omega)⟩
  have s2 : PySem.SeqAt.shaped (.tuple []) = true := rfl
  unfold eqD
  rw [t1, t2]
  show (if (PySem.SeqAt.shaped (.tuple ds) && PySem.SeqAt.shaped (.tuple [])) = true then _ else _) = _
  rw [s1, s2, if_pos (by decide)]
  cases xs with
  | nil =>
    cases e1
    rfl
  | cons x xs =>
    cases ds with
    | nil =>
      exfalso
      have e1' : (match toD x, toDs xs with | some d, some ds => some (d :: ds) | _, _ => none) = some [] := e1
      split at e1' <;> cases e1'
    | cons d ds => rfl
theorem pl_fr (q : Rat) : pl (fr q) = true := rfl
theorem dpt_fr (q : Rat) : dpt (fr q) = 1 := rfl
theorem leave_cup (c : Cell) (v : PV) (T : Mem) : leave (T.length + 1) v (c :: T) = some (v, c :: T) := leave_len rfl
theorem rngI_len : ∀ (n : Nat) (a : Int), (rngI a n).length = n
  | 0, _ => rfl
  | n + 1, a => by
    show (rngI (a + 1) n).length + 1 = n + 1
    rw [rngI_len n]
theorem rngI_int : ∀ (n : Nat) (a : Int) (v : PV), v ∈ rngI a n → ∃ i, v = .int i
  | n + 1, a, v, h => by
    rcases List.mem_cons.mp (show v ∈ .int a :: rngI (a + 1) n from h) with h | h
    · exact ⟨a, h⟩
    · exact rngI_int n _ v h
theorem tupleB_lst (M : Mem) (xs : List PV) : tupleB M [.lst xs] = some (.tup xs) := rfl
theorem like_ok (k : Nat) (v : PV) (M : Mem) (hp : pl v = true) (hd : dpt v ≤ k) : callN prog W (k + 2) 27 [v, v] M = some (.bl true, M) := like_self k v M hp hd

/-! ### builds, plain -/
inductive Pb where | pc | nd (r : Bool) (ps : List Pb)
def wrd : Bool → PV
  | true => .str "row"
  | false => .str "side"
mutual
def pvB : Pb → PV
  | .pc => .tup []
  | .nd r ps => .tup (wrd r :: pvBs ps)
def pvBs : List Pb → List PV
  | [] => []
  | b :: bs => pvB b :: pvBs bs
end
mutual
def cnt : Pb → Nat
  | .pc => 1
  | .nd _ ps => cnts ps
def cnts : List Pb → Nat
  | [] => 0
  | b :: bs => cnt b + cnts bs
end
mutual
def okB : Pb → Prop
  | .pc => True
  | .nd _ ps => 2 ≤ ps.length ∧ okBs ps
def okBs : List Pb → Prop
  | [] => True
  | b :: bs => okB b ∧ okBs bs
end
mutual
def vl : Pb → Rat
  | .pc => 1
  | .nd r ps => if r then sV r ps else 1 / sV r ps
def sV (r : Bool) : List Pb → Rat
  | [] => 0
  | b :: bs => (if r then vl b else 1 / vl b) + sV r bs
end
mutual
def tn : Pb → Pb
  | .pc => .pc
  | .nd r ps => .nd (!r) (tns ps)
def tns : List Pb → List Pb
  | [] => []
  | b :: bs => tn b :: tns bs
end
theorem pvBs_map : ∀ ps : List Pb, pvBs ps = ps.map pvB
  | [] => rfl
  | b :: bs => by show pvB b :: pvBs bs = _; rw [pvBs_map bs]; rfl
theorem pvBs_len (ps : List Pb) : (pvBs ps).length = ps.length := by rw [pvBs_map, List.length_map]
theorem tns_map : ∀ ps : List Pb, tns ps = ps.map tn
  | [] => rfl
  | b :: bs => by show tn b :: tns bs = _; rw [tns_map bs]; rfl
mutual
theorem cnt_pos : ∀ b : Pb, okB b → 1 ≤ cnt b
  | .pc, _ => Nat.le_refl _
  | .nd r ps, h => by
    have h1 := cnts_len ps h.2
    have h2 := h.1
    show 1 ≤ cnts ps
    omega
theorem cnts_len : ∀ ps : List Pb, okBs ps → ps.length ≤ cnts ps
  | [], _ => Nat.le_refl _
  | b :: bs, h => by
    have h1 := cnt_pos b h.1
    have h2 := cnts_len bs h.2
    show bs.length + 1 ≤ cnt b + cnts bs
    omega
end
theorem okBs_mem : ∀ {ps : List Pb} {b : Pb}, okBs ps → b ∈ ps → okB b ∧ cnt b + ps.length ≤ cnts ps + 1
  | p :: ps, b, h, hm => by
    have h1 := cnt_pos p h.1
    have h2 := cnts_len ps h.2
    show okB b ∧ cnt b + (ps.length + 1) ≤ cnt p + cnts ps + 1
    rcases List.mem_cons.mp hm with rfl | hm
    · exact ⟨h.1, by omega⟩
    · obtain ⟨a1, a2⟩ := okBs_mem h.2 hm
      exact ⟨a1, by omega⟩
mutual
theorem vl_pos : ∀ b : Pb, okB b → 0 < vl b
  | .pc, _ => by decide
  | .nd r ps, h => by
    have h1 := sV_pos r ps h.2 (by intro z; have := h.1; rw [z] at this; simp at this)
    show 0 < if r then sV r ps else 1 / sV r ps
    split
    · exact h1
    · rw [Rat.div_def, Rat.one_mul]; exact Rat.inv_pos.mpr h1
theorem sV_pos (r : Bool) : ∀ ps : List Pb, okBs ps → ps ≠ [] → 0 < sV r ps
  | [], _, h => absurd rfl h
  | b :: bs, h, _ => by
    have h1 := vl_pos b h.1
    have h2 : 0 < if r then vl b else 1 / vl b := by
      split
      · exact h1
      · rw [Rat.div_def, Rat.one_mul]; exact Rat.inv_pos.mpr h1
    show 0 < _ + sV r bs
    match bs, h.2 with
    | [], _ => show 0 < _ + (0 : Rat); rw [Rat.add_zero]; exact h2
    | c :: cs, h' =>
      have h3 := sV_pos r (c :: cs) h' (by simp)
      grind
end
theorem sV_nn (r : Bool) (ps : List Pb) (h : okBs ps) : 0 ≤ sV r ps := by
  by_cases e : ps = []
  · subst e; exact Rat.le_refl
  · exact Rat.le_of_lt (sV_pos r ps h e)
/-! turned -/
mutual
theorem tn_tn : ∀ b : Pb, tn (tn b) = b
  | .pc => rfl
  | .nd r ps => by
    show Pb.nd (!(!r)) (tns (tns ps)) = _
    rw [tns_tns, Bool.not_not]
theorem tns_tns : ∀ ps : List Pb, tns (tns ps) = ps
  | [] => rfl
  | b :: bs => by show tn (tn b) :: tns (tns bs) = _; rw [tn_tn, tns_tns]
end
mutual
theorem cnt_tn : ∀ b : Pb, cnt (tn b) = cnt b
  | .pc => rfl
  | .nd r ps => cnts_tn ps
theorem cnts_tn : ∀ ps : List Pb, cnts (tns ps) = cnts ps
  | [] => rfl
  | b :: bs => by show cnt (tn b) + cnts (tns bs) = _; rw [cnt_tn, cnts_tn]; rfl
end
mutual
theorem okB_tn : ∀ b : Pb, okB b → okB (tn b)
  | .pc, _ => trivial
  | .nd r ps, h => ⟨by rw [tns_map, List.length_map]; exact h.1, okBs_tn ps h.2⟩
theorem okBs_tn : ∀ ps : List Pb, okBs ps → okBs (tns ps)
  | [], _ => trivial
  | b :: bs, h => ⟨okB_tn b h.1, okBs_tn bs h.2⟩
end
mutual
theorem vl_tn : ∀ b : Pb, vl (tn b) = 1 / vl b
  | .pc => by show (1 : Rat) = 1 / 1; decide +kernel
  | .nd r ps => by
    have h := sV_tn r ps
    show (if !r then sV (!r) (tns ps) else 1 / sV (!r) (tns ps)) = 1 / (if r then sV r ps else 1 / sV r ps)
    rw [h]
    cases r
    · show sV false ps = 1 / (1 / sV false ps); grind
    · rfl
theorem sV_tn (r : Bool) : ∀ ps : List Pb, sV (!r) (tns ps) = sV r ps
  | [] => rfl
  | b :: bs => by
    show (if !r then vl (tn b) else 1 / vl (tn b)) + sV (!r) (tns bs) = (if r then vl b else 1 / vl b) + sV r bs
    rw [sV_tn r bs, vl_tn b]
    cases r
    · rfl
    · show 1 / (1 / vl b) + _ = vl b + _; grind
end
/-! sizes: Fibonacci's numbers -/
def fbo : Nat → Nat
  | 0 => 0
  | 1 => 1
  | n + 2 => fbo n + fbo (n + 1)
theorem fbo_2 (n : Nat) : fbo (n + 2) = fbo n + fbo (n + 1) := rfl
theorem fbo_le : ∀ n : Nat, fbo n ≤ 2 ^ n ∧ fbo (n + 1) ≤ 2 ^ (n + 1) ∧ fbo n ≤ fbo (n + 1)
  | 0 => by decide
  | 1 => by decide
  | n + 2 => by
    obtain ⟨h1, h2, h3⟩ := fbo_le (n + 1)
    have e := fbo_2 (n + 1)
    have e2 := fbo_2 n
    refine ⟨h2, ?_, ?_⟩
    · show fbo (n + 1 + 2) ≤ 2 ^ (n + 1 + 1 + 1)
      rw [Nat.pow_succ]
      have : fbo (n + 1) ≤ fbo (n + 1 + 1) := h3
      have : fbo (n + 1 + 1) ≤ 2 ^ (n + 1 + 1) := h2
      generalize 2 ^ (n + 1 + 1) = z at *
      omega
    · show fbo (n + 2) ≤ fbo (n + 1 + 2)
      have : fbo (n + 1 + 1) = fbo (n + 2) := rfl
      omega
theorem fbo_add (m : Nat) : ∀ n : Nat, fbo (m + n + 1) = fbo (m + 1) * fbo (n + 1) + fbo m * fbo n ∧ fbo (m + n + 2) = fbo (m + 1) * fbo (n + 2) + fbo m * fbo (n + 1)
  | 0 => by
    refine ⟨?_, ?_⟩
    · show fbo (m + 1) = fbo (m + 1) * 1 + fbo m * 0
      omega
    · show fbo (m + 2) = fbo (m + 1) * 1 + fbo m * 1
      rw [fbo_2]; omega
  | n + 1 => by
    obtain ⟨h1, h2⟩ := fbo_add m n
    refine ⟨h2, ?_⟩
    have e : fbo (m + (n + 1) + 2) = fbo (m + n + 1) + fbo (m + n + 2) := rfl
    have e2 : fbo (n + 1 + 2) = fbo (n + 1) + fbo (n + 2) := rfl
    have e3 : fbo (n + 1 + 1) = fbo n + fbo (n + 1) := rfl
    rw [e, h1, h2, e2, e3]
    simp only [fbo_2, Nat.mul_add]
    omega
structure Fb (n : Nat) (q : Rat) : Prop where
  a : q.num.natAbs ≤ fbo (n + 1)
  b : q.den ≤ fbo (n + 1)
  c : q.num.natAbs + q.den ≤ fbo (n + 2)
theorem Fb.sm {n m : Nat} {q : Rat} (h : Fb n q) (hn : n + 2 ≤ m) : sm m q := by
  have h1 := (fbo_le (n + 1)).1
  have h2 : 2 ^ (n + 2) ≤ 2 ^ m := Nat.pow_le_pow_right (by decide) hn
  have h3 : 2 ^ (n + 1) < 2 ^ (n + 2) := Nat.pow_lt_pow_right (by decide) (by omega)
  have ha := h.a
  have hb := h.b
  exact ⟨by unfold lt2; omega, by omega⟩
theorem Fb_0 : Fb 0 0 := ⟨by decide, by decide, by decide⟩
theorem Fb_1 : Fb 1 1 := ⟨by decide, by decide, by decide⟩
/-- the greatest of a * d + b * c -/
theorem bil {a b c d A B C D : Nat} (ha : a ≤ A) (hb : b ≤ A) (hab : a + b ≤ A + B) (hc : c ≤ C) (hd : d ≤ C) (hcd : c + d ≤ C + D) (hB : B ≤ A) (hD : D ≤ C) :
    a * d + b * c ≤ A * C + B * D ∧ a * d + b * c + b * d ≤ A * (C + D) + B * C := by
  have key : ∀ (a b c d : Nat), a ≤ A → a + b ≤ A + B → d ≤ C → c + d ≤ C + D → b ≤ a → a * d + b * c ≤ A * C + B * D := fun a b c d ha hab hd hcd h => by
    obtain ⟨x, rfl⟩ : ∃ x, a = b + x := ⟨a - b, by omega⟩
    obtain ⟨y, rfl⟩ : ∃ y, C = D + y := ⟨C - D, by omega⟩
    have t1 : (b + x) * d + b * c = b * (c + d) + x * d := by rw [Nat.add_mul, Nat.mul_add]; omega
    have t2 : b * (c + d) ≤ b * (D + y + D) := Nat.mul_le_mul_left _ hcd
    have t3 : x * d ≤ x * (D + y) := Nat.mul_le_mul_left _ hd
    have t4 : b * (D + y + D) + x * (D + y) = (b + x) * y + (b + x + b) * D := by
      rw [Nat.mul_add b, Nat.mul_add b, Nat.mul_add x, Nat.add_mul, Nat.add_mul, Nat.add_mul]; omega
    have t5 : (b + x) * y ≤ A * y := Nat.mul_le_mul_right _ ha
    have t6 : (b + x + b) * D ≤ (A + B) * D := Nat.mul_le_mul_right _ hab
    have t7 : A * (D + y) + B * D = A * y + (A + B) * D := by rw [Nat.mul_add, Nat.add_mul]; omega
    omega
  refine ⟨?_, ?_⟩
  · rcases Nat.le_total b a with h | h
    · exact key a b c d ha hab hd hcd h
    · have := key b a d c hb (by omega) hc (by omega) h
      omega
  · have t1 : a * d + b * c + b * d = a * d + b * (c + d) := by rw [Nat.mul_add]; omega
    have t2 : b * (c + d) ≤ b * (C + D) := Nat.mul_le_mul_left _ hcd
    have t3 : a * d ≤ a * C := Nat.mul_le_mul_left _ hd
    have t4 : a * C + b * (C + D) = (a + b) * C + b * D := by rw [Nat.mul_add, Nat.add_mul]; omega
    have t5 : (a + b) * C ≤ (A + B) * C := Nat.mul_le_mul_right _ hab
    have t6 : b * D ≤ A * D := Nat.mul_le_mul_right _ hb
    have t7 : A * (C + D) + B * C = (A + B) * C + A * D := by rw [Nat.mul_add, Nat.add_mul]; omega
    omega
theorem Fb_add {m n : Nat} {p q : Rat} (hp : Fb m p) (hq : Fb n q) : Fb (m + n) (p + q) := by
  have h0 : (p.den * q.den : Int) ≠ 0 := Int.ne_of_gt (Int.mul_pos (den_pos p) (den_pos q))
  obtain ⟨l1, l2⟩ := low_le (p.num * q.den + q.num * p.den) (p.den * q.den) h0
  rw [add_low] at l1 l2
  obtain ⟨f1, f2⟩ := fbo_add m n
  have e1 := fbo_2 m
  have e2 := fbo_2 n
  have hp' := hp.c
  have hq' := hq.c
  obtain ⟨b1, b2⟩ := bil (a := p.num.natAbs) (b := p.den) (c := q.num.natAbs) (d := q.den) (A := fbo (m + 1)) (B := fbo m) (C := fbo (n + 1)) (D := fbo n) hp.a hp.b (by omega) hq.a hq.b (by omega) (fbo_le m).2.2 (fbo_le n).2.2
  have n1 : (p.num * q.den + q.num * p.den).natAbs ≤ p.num.natAbs * q.den + p.den * q.num.natAbs := by
    have := Int.natAbs_add_le (p.num * q.den) (q.num * p.den)
    rw [Int.natAbs_mul, Int.natAbs_mul, Int.natAbs_natCast, Int.natAbs_natCast, Nat.mul_comm q.num.natAbs] at this
    exact this
  have n2 : (p.den * q.den : Int).natAbs = p.den * q.den := by rw [Int.natAbs_mul]; rfl
  rw [n2] at l2
  have n3 : p.den * q.den ≤ fbo (m + 1) * fbo (n + 1) := Nat.mul_le_mul hp.b hq.b
  have e3 : fbo (n + 1) + fbo n = fbo (n + 2) := by omega
  rw [e3] at b2
  exact ⟨by omega, by omega, by omega⟩
theorem inv_pos_eq {p : Rat} (h : 0 < p) : (1 / p).num = p.den ∧ ((1 / p).den : Int) = p.num := by
  have hn : 0 < p.num := by
    have := (Rat.lt_iff 0 p).mp h
    simpa using this
  have hr := p.reduced
  have hz : p.num.toNat ≠ 0 := by omega
  have ha : p.num.natAbs = p.num.toNat := by omega
  have e : 1 / p = ⟨(p.den : Int), p.num.toNat, hz, by rw [Int.natAbs_natCast]; rw [← ha]; exact hr.symm⟩ := by
    have h1 := div_low 1 p (by intro z; rw [z] at h; exact absurd h (by decide))
    rw [← h1, ← Rat.num_divInt_den ⟨(p.den : Int), p.num.toNat, hz, _⟩]
    show Rat.divInt (1 * (p.den : Int)) (1 * p.num) = Rat.divInt (p.den : Int) ((p.num.toNat : Nat) : Int)
    rw [Int.one_mul, Int.one_mul, Int.toNat_of_nonneg (by omega)]
  rw [e]
  exact ⟨rfl, Int.toNat_of_nonneg (by omega)⟩
theorem fr_inv {p : Rat} (h : 0 < p) : PV.tup [.int (p.den : Int), .int p.num] = fr (1 / p) := by
  obtain ⟨h1, h2⟩ := inv_pos_eq h
  unfold fr
  rw [h1, h2]
theorem Fb_inv {n : Nat} {p : Rat} (h : 0 < p) (hp : Fb n p) : Fb n (1 / p) := by
  obtain ⟨h1, h2⟩ := inv_pos_eq h
  have := hp.a
  have := hp.b
  have := hp.c
  exact ⟨by omega, by omega, by omega⟩
mutual
theorem vl_Fb : ∀ b : Pb, okB b → Fb (cnt b) (vl b)
  | .pc, _ => Fb_1
  | .nd r ps, h => by
    have h1 := sV_Fb r ps h.2
    have h2 := sV_pos r ps h.2 (by intro z; have := h.1; rw [z] at this; simp at this)
    show Fb (cnts ps) (if r then sV r ps else 1 / sV r ps)
    split
    · exact h1
    · exact Fb_inv h2 h1
theorem sV_Fb (r : Bool) : ∀ ps : List Pb, okBs ps → Fb (cnts ps) (sV r ps)
  | [], _ => Fb_0
  | b :: bs, h => by
    have h1 := vl_Fb b h.1
    have h2 := sV_Fb r bs h.2
    show Fb (cnt b + cnts bs) ((if r then vl b else 1 / vl b) + sV r bs)
    refine Fb_add ?_ h2
    split
    · exact h1
    · exact Fb_inv (vl_pos b h.1) h1
end
/-- from 1 / n to n -/
theorem inv_le {x y : Rat} (hx : 0 < x) (h : x ≤ y) : 1 / y ≤ 1 / x := by
  have hy : 0 < y := by grind
  have h1 : 0 < 1 / x := by rw [Rat.div_def, Rat.one_mul]; exact Rat.inv_pos.mpr hx
  have h2 : 0 < 1 / y := by rw [Rat.div_def, Rat.one_mul]; exact Rat.inv_pos.mpr hy
  have e1 : 1 / x * x = 1 := by grind
  have e2 : 1 / y * y = 1 := by grind
  have h3 : (1 / x * (1 / y)) * x ≤ (1 / x * (1 / y)) * y := Rat.mul_le_mul_of_nonneg_left h (Rat.le_of_lt (Rat.mul_pos h1 h2))
  have h4 : (1 / x * (1 / y)) * x = 1 / y := by grind
  have h5 : (1 / x * (1 / y)) * y = 1 / x := by grind
  rw [h4, h5] at h3
  exact h3
theorem nat_pos {n : Nat} (h : 1 ≤ n) : (1 : Rat) ≤ (n : Rat) := by exact_mod_cast h
mutual
theorem vl_bd : ∀ b : Pb, okB b → vl b ≤ (cnt b : Rat) ∧ 1 / vl b ≤ (cnt b : Rat)
  | .pc, _ => ⟨by show (1 : Rat) ≤ ((1 : Nat) : Rat); decide +kernel, by show (1 : Rat) / 1 ≤ ((1 : Nat) : Rat); decide +kernel⟩
  | .nd r ps, h => by
    obtain ⟨h1, h2⟩ := sV_bd r ps h.2
    have hne : ps ≠ [] := by intro z; have := h.1; rw [z] at this; simp at this
    have hc : 1 ≤ cnts ps := cnt_pos (.nd r ps) h
    have h3 : 1 / sV r ps ≤ (cnts ps : Rat) := h2 hne
    show (if r then sV r ps else 1 / sV r ps) ≤ (cnts ps : Rat) ∧ 1 / (if r then sV r ps else 1 / sV r ps) ≤ (cnts ps : Rat)
    cases r
    · refine ⟨h3, ?_⟩
      have : 1 / (1 / sV false ps) = sV false ps := by grind
      show 1 / (1 / sV false ps) ≤ _
      rw [this]; exact h1
    · exact ⟨h1, h3⟩
theorem sV_bd (r : Bool) : ∀ ps : List Pb, okBs ps → sV r ps ≤ (cnts ps : Rat) ∧ (ps ≠ [] → 1 / sV r ps ≤ (cnts ps : Rat))
  | [], _ => ⟨by show (0 : Rat) ≤ ((0 : Nat) : Rat); decide +kernel, fun h => absurd rfl h⟩
  | b :: bs, h => by
    obtain ⟨h1, h2⟩ := vl_bd b h.1
    obtain ⟨h3, h4⟩ := sV_bd r bs h.2
    have hp := vl_pos b h.1
    have hn := sV_nn r bs h.2
    have e : ((cnt b + cnts bs : Nat) : Rat) = (cnt b : Rat) + (cnts bs : Rat) := by rw [Rat.natCast_add]
    have c0 : (0 : Rat) ≤ (cnts bs : Rat) := by exact_mod_cast Nat.zero_le _
    show (if r then vl b else 1 / vl b) + sV r bs ≤ ((cnt b + cnts bs : Nat) : Rat) ∧ (_ → 1 / ((if r then vl b else 1 / vl b) + sV r bs) ≤ ((cnt b + cnts bs : Nat) : Rat))
    rw [e]
    have hi : 0 < 1 / vl b := by rw [Rat.div_def, Rat.one_mul]; exact Rat.inv_pos.mpr hp
    have hx : ∀ x : Rat, 0 < x → x ≤ (cnt b : Rat) → 1 / x ≤ (cnt b : Rat) → x + sV r bs ≤ (cnt b : Rat) + (cnts bs : Rat) ∧ (b :: bs ≠ [] → 1 / (x + sV r bs) ≤ (cnt b : Rat) + (cnts bs : Rat)) := fun x x0 x1 x2 => by
      refine ⟨by grind, fun _ => ?_⟩
      have h5 := inv_le x0 (show x ≤ x + sV r bs by grind)
      grind
    cases r
    · refine hx (1 / vl b) hi h2 ?_
      have : 1 / (1 / vl b) = vl b := by grind
      rw [this]; exact h1
    · exact hx (vl b) hp h1 h2
end

/-! ### how many pieces a value has -/
local macro_rules | `(tactic| walk_at "evb") => `(tactic| simp -implicitDefEqProofs only [execs, exec, eval, evals, evalI, conds, bnd_some, bnd_none, bifb_t, bifb_f, bifb_d, bifb_b, iff_t, iff_d, nxt_nx, nxt_rt, binop, cmpop, addOp_ii, addOp_tt, addOp_ll, subOp_ii, mulOp_ii, fdivOp_ii, modOp_ii, cmpI_ii, tru_bl, tru_int, absB_i, intB_i, asM_int, asM_bl, asM_tup, asM_false, isOp_n, isOp_bb, isNon_non, isNon_tup, isNon_int, isNon_bl, isNon_lst, isNon_ref, isNon_rol, isNon_str, isNon_fr, setAll_nil, setAll_cons, bindT_nm, bindT_tp, fin_rt, fin_nx, leave_same, bltOp, idx_tup0, idx_tup1, idx_tup2, idx_tup3, idx_lst0, idx_lst1, idx_lst2, idx_lst3, eqD_ii, eqD_bb, eqD_fr, Option.map_some, Option.map_none, Option.bind_some, List.getElem?_cons_zero, List.getElem?_cons_succ, List.set_cons_zero, List.set_cons_succ, List.length_cons, List.length_nil, if_true, if_false, decide_true, decide_false, Bool.not_true, Bool.not_false, decide_eq_true_eq, sizeL, Nat.reduceAdd, Nat.reduceLeDiff, Nat.zero_add, beq_self_eq_true, seqG_tup, seqG_lst, lenB_tup, lenB_lst, idx_cup0, idx_cup1, setAt0, setAt1, cup, isTy, Bool.false_eq_true, newL_f, newL_t, fin_rtk, List.nil_append, wipeE, Int.reduceNe, Int.reduceEq, Int.reduceLT, Int.reduceLE, Int.reduceAdd, Int.reduceSub, Int.reduceMul, Int.reduceNeg, Int.reduceGT, cmpop, k_ONE, k_NONE, k_DIGITS, k_PIECES, k_DEEP, k_ROW, k_SIDE, List.append_nil, List.cons_append, not_true_eq_false, not_false_eq_true, ite_true, ite_false, gt_iff_lt, ge_iff_le, *])
def hdB : PV → Bool
  | .str s => decide (s = "row") || decide (s = "side")
  | _ => false
def tot (ns : List Int) : Int := if ns.all (fun i => decide (0 < i)) && decide (ns.sum ≤ 60) then ns.sum else 0
mutual
def pcP (c : Bool) : PV → Int → Int
  | .tup xs, d => if d < 0 then 0 else pcT c xs d
  | _, _ => 0
def pcT (c : Bool) : List PV → Int → Int
  | [], _ => 1
  | x :: ys, d => if hdB x && decide (2 ≤ ys.length) && (!c || decide (ys.length ≤ 60)) then tot (pcPs c ys (d - 1)) else 0
def pcPs (c : Bool) : List PV → Int → List Int
  | [], _ => []
  | y :: ys, d => pcP c y d :: pcPs c ys d
end
mutual
def tc : PV → Int
  | .tup xs => tcT xs
  | _ => 0
def tcT : List PV → Int
  | [] => 1
  | x :: ys => if hdB x && decide (2 ≤ ys.length) && (tcs ys).all (fun i => decide (0 < i)) then (tcs ys).sum else 0
def tcs : List PV → List Int
  | [] => []
  | y :: ys => tc y :: tcs ys
end
theorem pcPs_map (c : Bool) (d : Int) : ∀ ys : List PV, pcPs c ys d = ys.map fun y => pcP c y d
  | [] => by unfold pcPs; rfl
  | y :: ys => by unfold pcPs; rw [pcPs_map c d ys]; rfl
theorem tcs_map : ∀ ys : List PV, tcs ys = ys.map tc
  | [] => by unfold tcs; rfl
  | y :: ys => by unfold tcs; rw [tcs_map ys]; rfl
theorem tot_le (ns : List Int) : tot ns ≤ 60 := by
  unfold tot
  split
  · rename_i h
    rw [Bool.and_eq_true, decide_eq_true_eq] at h
    exact h.2
  · decide
/-- what the two countings share -/
def Rc (d : Int) (n t : Int) : Prop := 0 ≤ t ∧ (n = 0 ∨ n = t) ∧ n ≤ 60 ∧ (t ≤ 60 → t ≤ d + 1 → n = t)
theorem rc_list (d : Int) : ∀ {ns ts : List Int}, ns.length = ts.length → (∀ i (h : i < ns.length) (h' : i < ts.length), Rc d ns[i] ts[i]) →
    (ns.all (fun i => decide (0 < i)) = true → ns = ts) ∧ 0 ≤ ts.sum ∧ (∀ S, ts.sum + 1 ≤ S + ts.length → ts.all (fun i => decide (0 < i)) = true → S ≤ 60 → S ≤ d + 1 → ns = ts) ∧ (ts.all (fun i => decide (0 < i)) = true → (ts.length : Int) ≤ ts.sum)
  | [], [], _, _ => ⟨fun _ => rfl, by decide, fun _ _ _ _ _ => rfl, fun _ => by decide⟩
  | n :: ns, t :: ts, hl, h => by
    have h0 := h 0 (by simp) (by simp)
    simp only [List.getElem_cons_zero] at h0
    obtain ⟨a1, a2, a3, a4⟩ := h0
    obtain ⟨i1, i2, i3, i4⟩ := rc_list d (ns := ns) (ts := ts) (by simpa using hl) fun i h1 h2 => by
      have := h (i + 1) (by simp; omega) (by simp; omega)
      simpa using this
    refine ⟨fun ha => ?_, ?_, fun S hS ha h1 h2 => ?_, fun ha => ?_⟩
    · rw [List.all_cons, Bool.and_eq_true, decide_eq_true_eq] at ha
      rw [i1 ha.2]
      have : n = t := by omega
      rw [this]
    · rw [List.sum_cons]; omega
    · rw [List.all_cons, Bool.and_eq_true, decide_eq_true_eq] at ha
      rw [List.sum_cons, List.length_cons] at hS
      have l := i4 ha.2
      have hn : n = t := a4 (by omega) (by omega)
      rw [hn, i3 S (by omega) ha.2 h1 h2]
    · rw [List.all_cons, Bool.and_eq_true, decide_eq_true_eq] at ha
      rw [List.sum_cons, List.length_cons]
      have := i4 ha.2
      omega
theorem pc_rc (c : Bool) : ∀ (n : Nat) (v : PV) (d : Int), dpt v ≤ n → Rc d (pcP c v d) (tc v)
  | n, v, d, hd => by
    match v with
    | .tup xs =>
      have hd' : dpts xs + 1 ≤ n := hd
      obtain ⟨m, rfl⟩ : ∃ m, n = m + 1 := ⟨n - 1, by omega⟩
      unfold pcP tc
      match xs with
      | [] =>
        unfold pcT tcT
        split
        · exact ⟨by decide, .inl rfl, by decide, fun _ _ => by omega⟩
        · exact ⟨by decide, .inr rfl, by decide, fun _ _ => rfl⟩
      | x :: ys =>
        unfold pcT tcT
        have hr : (pcPs c ys (d - 1)).length = (tcs ys).length := by rw [pcPs_map, tcs_map, List.length_map, List.length_map]
        have ht : (tcs ys).length = ys.length := by rw [tcs_map, List.length_map]
        have hel : ∀ i (h : i < (pcPs c ys (d - 1)).length) (h' : i < (tcs ys).length), Rc (d - 1) (pcPs c ys (d - 1))[i] (tcs ys)[i] := fun i h h' => by
          simp only [pcPs_map, tcs_map, List.getElem_map]
          have hi : i < ys.length := by omega
          refine pc_rc c m ys[i] (d - 1) ?_
          have hm : ∀ {L : List PV} {y : PV}, y ∈ L → dpt y ≤ dpts L := fun {L y} => by
            induction L with
            | nil => intro h; cases h
            | cons a l ih =>
              intro h
              rcases List.mem_cons.mp h with rfl | h
              · exact Nat.le_max_left _ _
              · exact Nat.le_trans (ih h) (Nat.le_max_right _ _)
          have h1 : dpt ys[i] ≤ dpts ys := hm (List.getElem_mem hi)
          have h2 : dpts ys ≤ dpts (x :: ys) := Nat.le_max_right _ _
          omega
        obtain ⟨r1, r2, r3, r4⟩ := rc_list (d - 1) hr hel
        generalize pcPs c ys (d - 1) = ns at *
        generalize tcs ys = ts at *
        have htl := tot_le ns
        have h0 : 0 ≤ (if (hdB x && decide (2 ≤ ys.length) && ts.all fun i => decide (0 < i)) = true then ts.sum else 0) := by split <;> omega
        refine ⟨h0, ?_, ?_, fun h60 hd1 => ?_⟩
        · split
          · exact .inl rfl
          · split
            · rename_i g
              rw [Bool.and_eq_true, Bool.and_eq_true] at g
              unfold tot
              split
              · rename_i k
                rw [Bool.and_eq_true] at k
                have e := r1 k.1
                right
                rw [← e, if_pos (by rw [Bool.and_eq_true, Bool.and_eq_true]; exact ⟨g.1, k.1⟩)]
              · exact .inl rfl
            · exact .inl rfl
        · split
          · decide
          · split
            · exact htl
            · decide
        · by_cases g : (hdB x && decide (2 ≤ ys.length) && ts.all fun i => decide (0 < i)) = true
          · rw [if_pos g] at h60 hd1 ⊢
            rw [Bool.and_eq_true, Bool.and_eq_true, decide_eq_true_eq] at g
            obtain ⟨⟨g1, g2⟩, g3⟩ := g
            have l := r4 g3
            rw [if_neg (by omega), if_pos (by
              rw [g1, decide_eq_true g2, decide_eq_true (show ys.length ≤ 60 by omega)]
              cases c <;> rfl)]
            have e := r3 (ts.sum - 1) (by omega) g3 (by omega) (by omega)
            subst e
            unfold tot
            rw [if_pos (by rw [Bool.and_eq_true, decide_eq_true_eq]; exact ⟨g3, h60⟩)]
          · rw [if_neg g] at h60 hd1 ⊢
            split
            · rfl
            · split
              · rename_i k
                unfold tot
                split
                · rename_i q
                  rw [Bool.and_eq_true] at q
                  rw [Bool.and_eq_true] at k
                  exact absurd (by rw [← r1 q.1, Bool.and_eq_true]; exact ⟨k.1, q.1⟩) g
                · rfl
              · rfl
    | .non | .bl _ | .int _ | .str _ | .lst _ | .rol _ | .ref _ =>
      unfold pcP tc
      exact ⟨by decide, .inl rfl, by decide, fun _ _ => rfl⟩
  termination_by n => n
/-- the count, 0 for more than 60 -/
def K60 (v : PV) : Int := if tc v ≤ 60 then tc v else 0
theorem pc_K (c : Bool) (v : PV) (d : Int) (h : 59 ≤ d) : pcP c v d = K60 v := by
  obtain ⟨h1, h2, h3, h4⟩ := pc_rc c (dpt v) v d (Nat.le_refl _)
  unfold K60
  split
  · exact h4 (by omega) (by omega)
  · omega
theorem hdB_wrd (r : Bool) : hdB (wrd r) = true := by cases r <;> decide +kernel
mutual
theorem tc_pvB : ∀ b : Pb, okB b → tc (pvB b) = (cnt b : Int)
  | .pc, _ => by show tc (.tup []) = _; unfold tc tcT; rfl
  | .nd r ps, h => by
    obtain ⟨h1, h2⟩ := tcs_pvB ps h.2
    show tc (.tup (wrd r :: pvBs ps)) = ((cnts ps : Nat) : Int)
    unfold tc tcT
    rw [if_pos (by rw [hdB_wrd, pvBs_len, decide_eq_true h.1, h2]; rfl), h1]
theorem tcs_pvB : ∀ ps : List Pb, okBs ps → (tcs (pvBs ps)).sum = (cnts ps : Int) ∧ (tcs (pvBs ps)).all (fun i => decide (0 < i)) = true
  | [], _ => ⟨by unfold pvBs tcs; rfl, by unfold pvBs tcs; rfl⟩
  | b :: bs, h => by
    have h0 := tc_pvB b h.1
    have hp := cnt_pos b h.1
    obtain ⟨h1, h2⟩ := tcs_pvB bs h.2
    show (tcs (pvB b :: pvBs bs)).sum = ((cnt b + cnts bs : Nat) : Int) ∧ (tcs (pvB b :: pvBs bs)).all _ = true
    unfold tcs
    rw [List.sum_cons, List.all_cons, h0, h1, h2, decide_eq_true (by omega)]
    exact ⟨by omega, rfl⟩
end
mutual
def wid : PV → Nat
  | .tup xs | .lst xs => max xs.length (wids xs)
  | _ => 0
def wids : List PV → Nat
  | [] => 0
  | x :: xs => max (wid x) (wids xs)
end
theorem wids_mem : ∀ {xs : List PV} {x : PV}, x ∈ xs → wid x ≤ wids xs
  | y :: ys, x, h => by
    rcases List.mem_cons.mp h with rfl | h
    · exact Nat.le_max_left _ _
    · exact Nat.le_trans (wids_mem h) (Nat.le_max_right _ _)
/-- a value that may be judged -/
structure Vv (n : Nat) (v : PV) : Prop where
  p : pl v = true
  d : dpt v ≤ n
  w : wid v ≤ 1000
theorem Vv.mem {n : Nat} {xs : List PV} {x : PV} (h : Vv (n + 1) (.tup xs)) (hx : x ∈ xs) : Vv n x := by
  obtain ⟨h1, h2⟩ := pls_mem (xs := xs) h.p hx
  have h3 : dpts xs + 1 ≤ n + 1 := h.d
  have h4 : max xs.length (wids xs) ≤ 1000 := h.w
  have h5 := wids_mem hx
  exact ⟨h1, by omega, by omega⟩
theorem strIn (M : Mem) (s : PySem.Str) : inOp M (.str s) (.tup [.str "row", .str "side"]) = some (hdB (.str s)) := by
  show some ((("row" : PySem.Str) == s) || ((("side" : PySem.Str) == s) || false)) = some (decide (s = "row") || decide (s = "side"))
  rw [Bool.or_false, Bool.beq_eq_decide_eq, Bool.beq_eq_decide_eq, decide_eq_decide.mpr (eq_comm (a := ("row" : PySem.Str))), decide_eq_decide.mpr (eq_comm (a := ("side" : PySem.Str)))]
theorem inInts (M : Mem) (ns : List Int) : inOp M (.int 0) (.lst (ns.map PV.int)) = some (decide (0 ∈ ns)) := by
  have h1 : (ns.map PV.int).all flatP = true := by rw [List.all_map]; exact List.all_eq_true.mpr fun _ _ => rfl
  have h2 : ((ns.map PV.int).map pvToV).all L2.flatV = true := by rw [List.map_map, List.all_map]; exact List.all_eq_true.mpr fun _ _ => rfl
  show (if (flatP (.int 0) && (ns.map PV.int).all flatP && (L2.flatV (pvToV (.int 0)) && ((ns.map PV.int).map pvToV).all L2.flatV)) = true then _ else _) = _
  rw [h1, h2, if_pos (by rfl)]
  congr 1
  clear h1 h2
  induction ns with
  | nil => rfl
  | cons a as ih =>
    show ((a == 0) || L2.inV (pvToV (.int 0)) ((as.map PV.int).map pvToV)) = _
    rw [ih, Bool.beq_eq_decide_eq, ← Bool.decide_or]
    apply decide_eq_decide.mpr
    rw [List.mem_cons]
    constructor
    · rintro (h | h)
      · exact .inl h.symm
      · exact .inr h
    · rintro (h | h)
      · exact .inl h.symm
      · exact .inr h
theorem intsOf_map : ∀ ns : List Int, intsOf (ns.map PV.int) = some ns
  | [] => rfl
  | n :: ns => by show (intsOf (ns.map PV.int)).map (n :: ·) = _; rw [intsOf_map ns]; rfl
theorem sumB_map (M : Mem) (ns : List Int) : sumB M [.lst (ns.map PV.int)] = some (.int ns.sum) := by
  show (intsOf (ns.map PV.int)).map (fun ns => PV.int ns.sum) = _
  rw [intsOf_map]; rfl
theorem allB_map (M : Mem) (p : Int → Bool) (ns : List Int) : allB M [.lst (ns.map fun n => PV.bl (p n))] = some (.bl (ns.all p)) := by
  have e : boolsOf (ns.map fun n => PV.bl (p n)) = some (ns.map p) := by
    induction ns with
    | nil => rfl
    | cons x xs ih =>
      show (boolsOf (xs.map fun x => PV.bl (p x))).map (p x :: ·) = _
      rw [ih]; rfl
  show (boolsOf (ns.map fun n => PV.bl (p n))).map (fun bs => PV.bl (bs.all id)) = _
  rw [e]
  show some (PV.bl ((ns.map p).all id)) = _
  rw [List.all_map]
  rfl
theorem tot_law {ns : List Int} (h : ∀ n ∈ ns, 0 ≤ n) : tot ns = if 0 ∉ ns ∧ ns.sum ≤ 60 then ns.sum else 0 := by
  unfold tot
  have e : (ns.all (fun i => decide (0 < i)) = true) ↔ 0 ∉ ns := by
    rw [List.all_eq_true]
    constructor
    · intro h1 h2
      have := of_decide_eq_true (h1 0 h2)
      omega
    · intro h1 x hx
      have := h x hx
      exact decide_eq_true (by rcases Int.lt_or_eq_of_le this with h3 | h3; exact h3; exact absurd (h3 ▸ hx) h1)
  by_cases h1 : 0 ∈ ns
  · rw [if_neg (by rw [Bool.and_eq_true, e]; exact fun z => z.1 h1), if_neg (fun z => z.1 h1)]
  · by_cases h2 : ns.sum ≤ 60
    · rw [if_pos (by rw [Bool.and_eq_true, e, decide_eq_true_eq]; exact ⟨h1, h2⟩), if_pos ⟨h1, h2⟩]
    · rw [if_neg (by rw [Bool.and_eq_true, decide_eq_true_eq]; exact fun z => h2 z.2), if_neg (fun z => h2 z.2)]
theorem pcP_nn (c : Bool) (v : PV) (d : Int) : 0 ≤ pcP c v d := by
  obtain ⟨h1, h2, h3, h4⟩ := pc_rc c (dpt v) v d (Nat.le_refl _)
  omega
def isTup : PV → Bool
  | .tup _ => true
  | _ => false
def isStr : PV → Bool
  | .str _ => true
  | _ => false
def piC : E := (E.call 14 (.cons (.var 3) (.cons (.bin .sub false (.var 1) (.cst (.int (1)))) .nil)))
def piD : E := (E.cmp .gt (.var 4) (.cst (.int (0))))
theorem cut1 (x : PV) (ys : List PV) : cut (x :: ys) (some 1) none = ys := by
  unfold cut
  have e1 : HT.sIx (x :: ys).length 0 (some 1) = 1 := by
    have := HT.sIx_nat (x :: ys).length 0 1
    simp only [List.length_cons] at *
    rw [show ((1 : Nat) : Int) = 1 from rfl] at this
    rw [this]; omega
  have e2 : HT.sIx (x :: ys).length (x :: ys).length none = ys.length + 1 := rfl
  rw [e1, e2]
  simp
theorem drop1 (x : PV) (ys : List PV) (M : Mem) : slcOp M (.tup (x :: ys)) true false (.int 1) .non = some (.tup ys) := by
  show some (PV.tup (cut (x :: ys) (some 1) none)) = _
  rw [cut1]
theorem dpt_mem : ∀ {L : List PV} {y : PV}, y ∈ L → dpt y ≤ dpts L := fun {L y} => by
  induction L with
  | nil => intro h; cases h
  | cons a l ih =>
    intro h
    rcases List.mem_cons.mp h with rfl | h
    · exact Nat.le_max_left _ _
    · exact Nat.le_trans (ih h) (Nat.le_max_right _ _)
theorem isTy_str {x : PV} (h : hdB x = false) : isTy .str x = false ∨ ∃ s, x = .str s := by
  cases x <;> first | (left; rfl) | (right; exact ⟨_, rfl⟩)
theorem eqD_tc (M : Mem) (x : PV) (ys : List PV) (n : Nat) (h : Vv n (.tup (x :: ys))) (hn : n ≤ 64) : eqD M (.tup (x :: ys)) (.tup []) = some false := by
  have h1 : dpts (x :: ys) + 1 ≤ n := h.d
  exact eqD_t0 M (x :: ys) h.p (by omega)
theorem pieces_ok : ∀ (n : Nat) (v : PV), Vv n v → n ≤ 64 → ∀ (D : Nat), n + 1 ≤ D → ∀ (d : Int) (M : Mem), callN prog W D 14 [v, .int d] M = some (.int (pcP true v d), M)
  | n, v, hv, hn, D, hD, d, M => by
    obtain ⟨k, rfl⟩ : ∃ k, D = k + 1 := ⟨D - 1, by omega⟩
    have ht : v = .tup [] ∨ (∃ x ys, v = .tup (x :: ys)) ∨ (isTy .tuple v = false ∧ pcP true v d = 0) := by
      cases v with
      | tup xs => cases xs with
        | nil => exact .inl rfl
        | cons x ys => exact .inr (.inl ⟨x, ys, rfl⟩)
      | _ => exact .inr (.inr ⟨rfl, by unfold pcP; rfl⟩)
    rcases ht with rfl | ⟨x, ys, rfl⟩ | ⟨h1, h2⟩
    · have f1 : eqD M (.tup []) (.tup []) = some true := rfl
      have f2 : pcP true (.tup []) d = if d < 0 then 0 else 1 := by unfold pcP pcT; rfl
      rw [u_pieces_in, f2]
      unfold m_pieces_in
      clear hv
      by_cases hd : d < 0
      · walk_at "evb"
      · walk_at "evb"
    · have f1 := eqD_tc M x ys n hv hn
      have f2 : pcP true (.tup (x :: ys)) d = if d < 0 then 0 else if (hdB x && decide (2 ≤ ys.length) && decide (ys.length ≤ 60)) = true then tot (pcPs true ys (d - 1)) else 0 := by
        unfold pcP pcT; rfl
      have hw : max (ys.length + 1) _ ≤ 1000 := hv.w
      have z1 : ys.length ≤ 16777216 := by omega
      obtain ⟨m, rfl⟩ : ∃ m, n = m + 1 := ⟨n - 1, by have : dpts (x :: ys) + 1 ≤ n := hv.d; omega⟩
      have L1 : ∀ o2 o3 o4, lcL (.nm 3) [] (fun _ M => some (true, M)) (eval (callN prog W k) piC) [some (.tup (x :: ys)), some (.int d), o2, o3, o4] ys [] M = some ((pcPs true ys (d - 1)).map PV.int, M) := fun o2 o3 o4 => by
        rw [lcL_map (f := fun y => .int (pcP true y (d - 1))) rfl]
        · rw [pcPs_map, List.map_map]; rfl
        · intro y hy
          have ih := pieces_ok m y (hv.mem (List.mem_cons_of_mem _ hy)) (by omega) k (by omega) (d - 1) M
          refine ⟨_, bindT_nm _ _, rfl, ?_⟩
          unfold piC
          clear f1 f2 hv hw z1 hy
          walk_at "evb"
      have L2 : ∀ (ns : List Int) o3 o4, lcL (.nm 4) [] (fun _ M => some (true, M)) (eval (callN prog W k) piD) [some (.tup (x :: ys)), some (.int d), some (.lst (ns.map PV.int)), o3, o4] (ns.map PV.int) [] M = some (ns.map fun i => PV.bl (decide (0 < i)), M) := fun ns o3 o4 => by
        rw [lcL_map (f := fun y => match y with | .int i => .bl (decide (0 < i)) | _ => .non) rfl]
        · rw [List.map_map]; rfl
        · intro y hy
          obtain ⟨i, _, rfl⟩ := List.mem_map.mp hy
          refine ⟨_, bindT_nm _ _, rfl, ?_⟩
          unfold piD
          clear f1 f2 hv hw z1 hy L1
          walk_at "evb"
      have f3 := drop1 x ys M
      have f4 := fun ns => sumB_map M ns
      have f5 := fun ns => allB_map M (fun i => decide (0 < i)) ns
      have lz : (pcPs true ys (d - 1)).length ≤ 16777216 := by rw [pcPs_map, List.length_map]; exact z1
      have lm : ((pcPs true ys (d - 1)).map PV.int).length ≤ 16777216 := by rw [List.length_map]; exact lz
      have lm2 : ((pcPs true ys (d - 1)).map fun i => PV.bl (decide (0 < i))).length ≤ 16777216 := by rw [List.length_map]; exact lz
      rw [u_pieces_in, f2]
      unfold m_pieces_in
      rw [show (E.call 14 (.cons (.var 3) (.cons (.bin .sub false (.var 1) (.cst (.int (1)))) .nil))) = piC from rfl, show (E.cmp .gt (.var 4) (.cst (.int (0)))) = piD from rfl]
      generalize piC = c1 at *
      generalize piD = c2 at *
      generalize pcPs true ys (d - 1) = ns at *
      clear hv hw f2
      by_cases hd : d < 0
      · walk_at "evb"
      · by_cases h3 : ((ys.length + 1 : Nat) : Int) < 3
        · rw [if_neg hd, if_neg (by rw [Bool.and_eq_true, Bool.and_eq_true, decide_eq_true_eq]; omega)]
          walk_at "evb"
        · by_cases h61 : (61 : Int) < ((ys.length + 1 : Nat) : Int)
          · rw [if_neg hd, if_neg (by rw [Bool.and_eq_true, Bool.and_eq_true, decide_eq_true_eq, decide_eq_true_eq]; omega)]
            walk_at "evb"
          · rw [if_neg hd, decide_eq_true (show 2 ≤ ys.length by omega), decide_eq_true (show ys.length ≤ 60 by omega), Bool.and_true, Bool.and_true]
            by_cases hs : ∃ s, x = .str s
            · obtain ⟨s, rfl⟩ := hs
              have f6 := strIn M s
              unfold tot
              by_cases hh : hdB (.str s) = true
              · rw [if_pos hh]
                by_cases ha : (ns.all fun i => decide (0 < i)) = true
                · by_cases h60 : ns.sum ≤ 60
                  · rw [if_pos (by rw [ha, decide_eq_true h60]; rfl)]
                    walk_at "evb"
                  · rw [if_neg (by rw [decide_eq_false h60, Bool.and_false]; decide)]
                    walk_at "evb"
                · have ha : (ns.all fun i => decide (0 < i)) = false := by simpa using ha
                  rw [if_neg (by rw [ha]; simp)]
                  walk_at "evb"
              · have hh : hdB (.str s) = false := by simpa using hh
                rw [hh, if_neg (by decide)]
                walk_at "evb"
            · have f6 : isTy .str x = false := by cases x <;> first | rfl | exact absurd ⟨_, rfl⟩ hs
              have f7 : hdB x = false := by cases x <;> first | rfl | exact absurd ⟨_, rfl⟩ hs
              rw [f7, if_neg (by decide)]
              clear f6 f7
              cases x with
              | str s => exact absurd ⟨_, rfl⟩ hs
              | _ => clear hs; walk_at "evb"
    · rw [u_pieces_in, h2]
      unfold m_pieces_in
      clear hv h2
      cases v with
      | tup xs => cases h1
      | _ => clear h1; walk_at "evb"
  termination_by n => n
/-! the law's own counting -/
def lpC : E := (E.call 33 (.cons (.var 3) (.cons (.bin .add false (.var 1) (.cst (.int (1)))) .nil)))
theorem lpieces_ok : ∀ (n : Nat) (v : PV), Vv n v → n ≤ 64 → ∀ (D : Nat), n + 2 ≤ D → ∀ (e : Int) (M : Mem), callN prog W D 33 [v, .int e] M = some (.int (pcP false v (70 - e)), M)
  | n, v, hv, hn, D, hD, e, M => by
    obtain ⟨k, rfl⟩ : ∃ k, D = k + 1 := ⟨D - 1, by omega⟩
    have ht : v = .tup [] ∨ (∃ x ys, v = .tup (x :: ys)) ∨ (isTy .tuple v = false ∧ pcP false v (70 - e) = 0) := by
      cases v with
      | tup xs => cases xs with
        | nil => exact .inl rfl
        | cons x ys => exact .inr (.inl ⟨x, ys, rfl⟩)
      | _ => exact .inr (.inr ⟨rfl, by unfold pcP; rfl⟩)
    rcases ht with rfl | ⟨x, ys, rfl⟩ | ⟨h1, h2⟩
    · have f1 : eqD M (.tup []) (.tup []) = some true := rfl
      have f2 : pcP false (.tup []) (70 - e) = if 70 - e < 0 then 0 else 1 := by unfold pcP pcT; rfl
      rw [u__law_pieces, f2]
      unfold m__law_pieces
      clear hv
      by_cases hd : 70 < e
      · rw [if_pos (by omega)]
        walk_at "evb"
      · rw [if_neg (by omega)]
        walk_at "evb"
    · have f1 := eqD_tc M x ys n hv hn
      have f2 : pcP false (.tup (x :: ys)) (70 - e) = if 70 - e < 0 then 0 else if (hdB x && decide (2 ≤ ys.length) && true) = true then tot (pcPs false ys (70 - e - 1)) else 0 := by
        unfold pcP pcT; rfl
      have hw : max (ys.length + 1) _ ≤ 1000 := hv.w
      have z1 : ys.length ≤ 16777216 := by omega
      obtain ⟨m, rfl⟩ : ∃ m, n = m + 1 := ⟨n - 1, by have : dpts (x :: ys) + 1 ≤ n := hv.d; omega⟩
      have L1 : ∀ o2 o3, lcL (.nm 3) [] (fun _ M => some (true, M)) (eval (callN prog W k) lpC) [some (.tup (x :: ys)), some (.int e), o2, o3] ys [] M = some ((pcPs false ys (70 - e - 1)).map PV.int, M) := fun o2 o3 => by
        rw [lcL_map (f := fun y => .int (pcP false y (70 - e - 1))) rfl]
        · rw [pcPs_map, List.map_map]; rfl
        · intro y hy
          have ih := lpieces_ok m y (hv.mem (List.mem_cons_of_mem _ hy)) (by omega) k (by omega) (e + 1) M
          rw [show 70 - (e + 1) = 70 - e - 1 by omega] at ih
          refine ⟨_, bindT_nm _ _, rfl, ?_⟩
          unfold lpC
          clear f1 f2 hv hw z1 hy
          walk_at "evb"
      have f3 := drop1 x ys M
      have f4 := fun ns => sumB_map M ns
      have f5 := fun ns => inInts M ns
      have lz : (pcPs false ys (70 - e - 1)).length ≤ 16777216 := by rw [pcPs_map, List.length_map]; exact z1
      have lm : ((pcPs false ys (70 - e - 1)).map PV.int).length ≤ 16777216 := by rw [List.length_map]; exact lz
      have tl : tot (pcPs false ys (70 - e - 1)) = _ := tot_law (ns := pcPs false ys (70 - e - 1)) (fun n hn => by
        rw [pcPs_map] at hn
        obtain ⟨y, _, rfl⟩ := List.mem_map.mp hn
        exact pcP_nn false y _)
      have f6 : ∀ M, callN prog W k 26 [x] M = some (.int (sortP x), M) := fun M => by
        obtain ⟨j, rfl⟩ : ∃ j, k = j + 1 := ⟨k - 1, by omega⟩
        exact sort_ok j x M
      rw [u__law_pieces, f2]
      unfold m__law_pieces
      rw [show (E.call 33 (.cons (.var 3) (.cons (.bin .add false (.var 1) (.cst (.int (1)))) .nil))) = lpC from rfl]
      generalize lpC = c1 at *
      generalize pcPs false ys (70 - e - 1) = ns at *
      clear hv hw f2
      by_cases hd : 70 < e
      · rw [if_pos (by omega)]
        walk_at "evb"
      · by_cases h3 : ((ys.length + 1 : Nat) : Int) < 3
        · rw [if_neg (by omega), if_neg (by rw [Bool.and_eq_true, Bool.and_eq_true, decide_eq_true_eq]; omega)]
          walk_at "evb"
        · rw [if_neg (by omega), decide_eq_true (show 2 ≤ ys.length by omega), Bool.and_true, Bool.and_true]
          by_cases hs : ∃ s, x = .str s
          · obtain ⟨s, rfl⟩ := hs
            have f7 := strIn M s
            have f8 : sortP (.str s) = 3 := rfl
            by_cases hh : hdB (.str s) = true
            · rw [if_pos hh, tl]
              by_cases ha : 0 ∈ ns
              · rw [if_neg (by simp [ha])]
                walk_at "evb"
              · by_cases h60 : ns.sum ≤ 60
                · rw [if_pos ⟨ha, h60⟩]
                  walk_at "evb"
                · rw [if_neg (by simp [h60])]
                  walk_at "evb"
            · have hh : hdB (.str s) = false := by simpa using hh
              rw [hh, if_neg (by decide)]
              walk_at "evb"
          · have f7 : hdB x = false := by cases x <;> first | rfl | exact absurd ⟨_, rfl⟩ hs
            have f8 : ¬ sortP x = 3 := by cases x <;> first | exact absurd ⟨_, rfl⟩ hs | simp [sortP]
            rw [f7, if_neg (by decide)]
            clear hs
            walk_at "evb"
    · rw [u__law_pieces, h2]
      unfold m__law_pieces
      clear hv h2
      cases v with
      | tup xs => cases h1
      | _ => clear h1; walk_at "evb"
  termination_by n => n
theorem fits_build_ok (n : Nat) (v : PV) (hv : Vv n v) (hn : n ≤ 64) (D : Nat) (hD : n + 2 ≤ D) (M : Mem) : callN prog W D 15 [v] M = some (.bl (decide (0 < K60 v)), M) := by
  obtain ⟨k, rfl⟩ : ∃ k, D = k + 1 := ⟨D - 1, by omega⟩
  have f1 := pieces_ok n v hv hn k (by omega) 59 M
  rw [pc_K true v 59 (by decide)] at f1
  rw [u_fits_build]
  unfold m_fits_build
  clear hv
  walk_at "evb"
theorem is_build_ok (n : Nat) (v : PV) (hv : Vv n v) (hn : n ≤ 64) (D : Nat) (hD : n + 3 ≤ D) (M : Mem) : callN prog W D 19 [v] M = some (.bl (decide (0 < K60 v)), M) := by
  obtain ⟨k, rfl⟩ : ∃ k, D = k + 1 := ⟨D - 1, by omega⟩
  have f1 := fits_build_ok n v hv hn k (by omega) M
  rw [u_is_build]
  unfold m_is_build
  clear hv
  walk_at "evb"
theorem l_pieces0 (n : Nat) (v : PV) (hv : Vv n v) (hn : n ≤ 64) (D : Nat) (hD : n + 2 ≤ D) (M : Mem) : callN prog W D 33 [v, .int 0] M = some (.int (K60 v), M) := by
  rw [lpieces_ok n v hv hn D hD 0 M, pc_K false v _ (by decide)]
/-! builds as values -/
mutual
theorem Vv_pvB : ∀ (b : Pb), okB b → cnt b ≤ 900 → Vv (cnt b) (pvB b)
  | .pc, _, _ => ⟨rfl, Nat.le_refl _, Nat.zero_le _⟩
  | .nd r ps, h, hc => by
    have hc' : cnts ps ≤ 900 := hc
    obtain ⟨h1, h2, h3⟩ := Vvs_pvB ps h.2 hc'
    have hl := cnts_len ps h.2
    refine ⟨?_, ?_, ?_⟩
    · show (pl (wrd r) && pls (pvBs ps)) = true
      rw [h1]; cases r <;> decide +kernel
    · show max (dpt (wrd r)) (dpts (pvBs ps)) + 1 ≤ cnts ps
      have : dpt (wrd r) = 0 := by cases r <;> rfl
      have := h2 h.1
      omega
    · show max ((pvBs ps).length + 1) (max (wid (wrd r)) (wids (pvBs ps))) ≤ 1000
      have : wid (wrd r) = 0 := by cases r <;> rfl
      rw [pvBs_len]
      omega
theorem Vvs_pvB : ∀ (ps : List Pb), okBs ps → cnts ps ≤ 900 → pls (pvBs ps) = true ∧ (2 ≤ ps.length → dpts (pvBs ps) + 1 ≤ cnts ps) ∧ wids (pvBs ps) ≤ 1000
  | [], _, _ => ⟨rfl, fun h => by simp at h, Nat.zero_le _⟩
  | b :: bs, h, hc => by
    have hc' : cnt b + cnts bs ≤ 900 := hc
    obtain ⟨h1, h2, h3⟩ := Vv_pvB b h.1 (by omega)
    obtain ⟨h4, h5, h6⟩ := Vvs_pvB bs h.2 (by omega)
    have hp := cnt_pos b h.1
    have hl := cnts_len bs h.2
    refine ⟨?_, fun h2' => ?_, ?_⟩
    · show (pl (pvB b) && pls (pvBs bs)) = true
      rw [h1, h4]; rfl
    · show max (dpt (pvB b)) (dpts (pvBs bs)) + 1 ≤ cnt b + cnts bs
      have hb : 1 ≤ bs.length := by simp at h2'; omega
      by_cases h7 : 2 ≤ bs.length
      · have := h5 h7
        omega
      · match bs, h.2, hb, h7 with
        | [c], hh, _, _ =>
          have h8 : Vv (cnt c) (pvB c) := Vv_pvB c hh.1 (by have : cnt b + (cnt c + 0) ≤ 900 := hc'; omega)
          have h9 := h8.d
          show max (dpt (pvB b)) (max (dpt (pvB c)) 0) + 1 ≤ cnt b + (cnt c + 0)
          have := cnt_pos c hh.1
          omega
        | _ :: _ :: _, _, _, h7 => exact absurd (by simp) h7
    · show max (wid (pvB b)) (wids (pvBs bs)) ≤ 1000
      omega
end
theorem K60_pvB (b : Pb) (h : okB b) (hc : cnt b ≤ 60) : K60 (pvB b) = (cnt b : Int) := by
  unfold K60
  rw [tc_pvB b h, if_pos (by omega)]

/-! ### values of builds, turned ones -/
local macro_rules | `(tactic| walk_at "evb") => `(tactic| simp -implicitDefEqProofs only [execs, exec, eval, evals, evalI, conds, bnd_some, bnd_none, bifb_t, bifb_f, bifb_d, bifb_b, iff_t, iff_d, nxt_nx, nxt_rt, binop, cmpop, addOp_ii, addOp_tt, addOp_ll, subOp_ii, mulOp_ii, fdivOp_ii, modOp_ii, cmpI_ii, tru_bl, tru_int, absB_i, intB_i, asM_int, asM_bl, asM_tup, asM_false, isOp_n, isOp_bb, isNon_non, isNon_tup, isNon_int, isNon_bl, isNon_lst, isNon_ref, isNon_rol, isNon_str, isNon_fr, setAll_nil, setAll_cons, bindT_nm, bindT_tp, fin_rt, fin_nx, leave_same, bltOp, idx_tup0, idx_tup1, idx_tup2, idx_tup3, idx_lst0, idx_lst1, idx_lst2, idx_lst3, eqD_ii, eqD_bb, eqD_fr, Option.map_some, Option.map_none, Option.bind_some, List.getElem?_cons_zero, List.getElem?_cons_succ, List.set_cons_zero, List.set_cons_succ, List.length_cons, List.length_nil, if_true, if_false, decide_true, decide_false, Bool.not_true, Bool.not_false, decide_eq_true_eq, sizeL, Nat.reduceAdd, Nat.reduceLeDiff, Nat.zero_add, beq_self_eq_true, seqG_tup, seqG_lst, lenB_tup, lenB_lst, idx_cup0, idx_cup1, setAt0, setAt1, cup, isTy, Bool.false_eq_true, newL_f, newL_t, fin_rtk, List.nil_append, wipeE, Int.reduceNe, Int.reduceEq, Int.reduceLT, Int.reduceLE, Int.reduceAdd, Int.reduceSub, Int.reduceMul, Int.reduceNeg, Int.reduceGT, cmpop, idx_fr0, idx_fr1, fr_0', fr_1', k_ONE, k_NONE, k_DIGITS, k_PIECES, k_DEEP, k_ROW, k_SIDE, List.append_nil, List.cons_append, not_true_eq_false, not_false_eq_true, ite_true, ite_false, gt_iff_lt, ge_iff_le, *])
theorem eqD_str (M : Mem) (a b : PySem.Str) (ha : PySem.SeqAt.shaped (.str a) = true) (hb : PySem.SeqAt.shaped (.str b) = true) : eqD M (.str a) (.str b) = some (a == b) := by
  show (if (PySem.SeqAt.shaped (.str a) && PySem.SeqAt.shaped (.str b)) = true then some (a == b) else none) = _
  rw [ha, hb, if_pos (by rfl)]
theorem sh_row : PySem.SeqAt.shaped (.str "row") = true := by decide +kernel
theorem sh_side : PySem.SeqAt.shaped (.str "side") = true := by decide +kernel
theorem eqD_wrd (M : Mem) (r : Bool) : eqD M (wrd r) (.str "row") = some r := by
  cases r
  · show eqD M (.str "side") (.str "row") = _
    rw [eqD_str M _ _ sh_side sh_row]
    exact congrArg some (by decide +kernel)
  · show eqD M (.str "row") (.str "row") = _
    rw [eqD_str M _ _ sh_row sh_row]
    exact congrArg some (by decide +kernel)
def viB : Ss := (Ss.cons (.set 3 (.call 17 (.cons (.var 2) .nil))) (.cons (.set 1 (.call 4 (.cons (.var 1) (.cons (.ite (.cmp .eq (.idx (.var 0) (.cst (.int (0)))) (.cst k_ROW)) (.var 3) (.tup (.cons (.idx (.var 3) (.cst (.int (1)))) (.cons (.idx (.var 3) (.cst (.int (0)))) .nil)))) .nil)))) .nil))
def lwB : Ss := (Ss.cons (.set 3 (.call 32 (.cons (.var 2) .nil))) (.cons (.set 1 (.call 29 (.cons (.var 1) (.cons (.ite (.cmp .eq (.idx (.var 0) (.cst (.int (0)))) (.cst (.str "row"))) (.var 3) (.tup (.cons (.idx (.var 3) (.cst (.int (1)))) (.cons (.idx (.var 3) (.cst (.int (0)))) .nil)))) .nil)))) .nil))
def ad (r : Bool) (q p : Rat) : Rat := q + if r then p else 1 / p
theorem vi_step (k : Nat) (M : Mem) (r : Bool) (L : List PV) {p q : Rat} {n m : Nat} (hq : sm n q) (hp : sm m p) (hi : sm m (1 / p)) (h : n + m ≤ 7000) (h0 : 0 < p) (b : PV) (o : Option PV) (hc : callN prog W (k + 3) 17 [b] M = some (fr p, M)) :
    execs (callN prog W (k + 3)) W viB [some (.tup (wrd r :: L)), some (fr q), some b, o] M = some (.nx [some (.tup (wrd r :: L)), some (fr (ad r q p)), some b, some (fr p)] M) := by
  have f1 := fun k => sum_of_ok k M hq hp (by omega)
  have f2 := fun k => sum_of_ok k M hq hi (by omega)
  have f3 := fr_inv h0
  have f4 := eqD_wrd M r
  unfold viB
  cases r
  · show _ = some (R.nx [_, some (fr (q + 1 / p)), _, _] M)
    clear hq hp hi h0
    walk_at "evb"
  · show _ = some (R.nx [_, some (fr (q + p)), _, _] M)
    clear hq hp hi h0
    walk_at "evb"
theorem lw_step (k : Nat) (M : Mem) (r : Bool) (L : List PV) {p q : Rat} {n m : Nat} (hq : sm n q) (hp : sm m p) (hi : sm m (1 / p)) (h : n + m ≤ 7000) (h0 : 0 < p) (b : PV) (o : Option PV) (hc : callN prog W (k + 3) 32 [b] M = some (fr p, M)) :
    execs (callN prog W (k + 3)) W lwB [some (.tup (wrd r :: L)), some (fr q), some b, o] M = some (.nx [some (.tup (wrd r :: L)), some (fr (ad r q p)), some b, some (fr p)] M) := by
  have f1 := fun k => l_plus_ok k M hq hp (by omega)
  have f2 := fun k => l_plus_ok k M hq hi (by omega)
  have f3 := fr_inv h0
  have f4 := eqD_wrd M r
  unfold lwB
  cases r
  · show _ = some (R.nx [_, some (fr (q + 1 / p)), _, _] M)
    clear hq hp hi h0
    walk_at "evb"
  · show _ = some (R.nx [_, some (fr (q + p)), _, _] M)
    clear hq hp hi h0
    walk_at "evb"
theorem inv_sm {n : Nat} {b : Pb} (h : okB b) (hn : cnt b + 2 ≤ n) : sm n (vl b) ∧ sm n (1 / vl b) :=
  ⟨(vl_Fb b h).sm hn, (Fb_inv (vl_pos b h) (vl_Fb b h)).sm hn⟩
theorem vi_loop (k : Nat) (M : Mem) (r : Bool) (L : List PV) : ∀ (ps : List Pb) (n : Nat) (q : Rat) (o1 o2 : Option PV), okBs ps → Fb n q → n + cnts ps ≤ 900 → (∀ b ∈ ps, callN prog W (k + 3) 17 [pvB b] M = some (fr (vl b), M)) →
    ∃ o1' o2', forL (.nm 2) [] (execs (callN prog W (k + 3)) W viB) (pvBs ps) [some (.tup (wrd r :: L)), some (fr q), o1, o2] M = some (.nx [some (.tup (wrd r :: L)), some (fr (q + sV r ps)), o1', o2'] M)
  | [], n, q, o1, o2, _, _, _, _ => ⟨o1, o2, by show forL _ _ _ [] _ _ = _; rw [forL_n, show sV r [] = 0 from rfl, Rat.add_zero]⟩
  | b :: bs, n, q, o1, o2, h, hq, hn, hc => by
    have hn' : n + (cnt b + cnts bs) ≤ 900 := hn
    obtain ⟨s1, s2⟩ := inv_sm h.1 (Nat.le_refl _)
    have st := vi_step k M r L (hq.sm (Nat.le_refl _)) s1 s2 (by omega) (vl_pos b h.1) (pvB b) o2 (hc b List.mem_cons_self)
    have hq2 : Fb (n + cnt b) (ad r q (vl b)) := by
      refine Fb_add hq ?_
      split
      · exact vl_Fb b h.1
      · exact Fb_inv (vl_pos b h.1) (vl_Fb b h.1)
    obtain ⟨p1, p2, e⟩ := vi_loop k M r L bs (n + cnt b) (ad r q (vl b)) (some (pvB b)) (some (fr (vl b))) h.2 hq2 (by omega) fun c hcm => hc c (List.mem_cons_of_mem _ hcm)
    refine ⟨p1, p2, ?_⟩
    have ea : q + sV r (b :: bs) = ad r q (vl b) + sV r bs := by
      show q + ((if r then vl b else 1 / vl b) + sV r bs) = (q + if r then vl b else 1 / vl b) + sV r bs
      rw [Rat.add_assoc]
    rw [ea]
    show forL _ _ _ (pvB b :: pvBs bs) _ _ = _
    rw [forL_c, bindT_nm, Option.bind_some]
    show nxt (execs _ W viB [some (.tup (wrd r :: L)), some (fr q), some (pvB b), o2] M) _ = _
    rw [st, nxt_nx, e]
theorem lw_loop (k : Nat) (M : Mem) (r : Bool) (L : List PV) : ∀ (ps : List Pb) (n : Nat) (q : Rat) (o1 o2 : Option PV), okBs ps → Fb n q → n + cnts ps ≤ 900 → (∀ b ∈ ps, callN prog W (k + 3) 32 [pvB b] M = some (fr (vl b), M)) →
    ∃ o1' o2', forL (.nm 2) [] (execs (callN prog W (k + 3)) W lwB) (pvBs ps) [some (.tup (wrd r :: L)), some (fr q), o1, o2] M = some (.nx [some (.tup (wrd r :: L)), some (fr (q + sV r ps)), o1', o2'] M)
  | [], n, q, o1, o2, _, _, _, _ => ⟨o1, o2, by show forL _ _ _ [] _ _ = _; rw [forL_n, show sV r [] = 0 from rfl, Rat.add_zero]⟩
  | b :: bs, n, q, o1, o2, h, hq, hn, hc => by
    have hn' : n + (cnt b + cnts bs) ≤ 900 := hn
    obtain ⟨s1, s2⟩ := inv_sm h.1 (Nat.le_refl _)
    have st := lw_step k M r L (hq.sm (Nat.le_refl _)) s1 s2 (by omega) (vl_pos b h.1) (pvB b) o2 (hc b List.mem_cons_self)
    have hq2 : Fb (n + cnt b) (ad r q (vl b)) := by
      refine Fb_add hq ?_
      split
      · exact vl_Fb b h.1
      · exact Fb_inv (vl_pos b h.1) (vl_Fb b h.1)
    obtain ⟨p1, p2, e⟩ := lw_loop k M r L bs (n + cnt b) (ad r q (vl b)) (some (pvB b)) (some (fr (vl b))) h.2 hq2 (by omega) fun c hcm => hc c (List.mem_cons_of_mem _ hcm)
    refine ⟨p1, p2, ?_⟩
    have ea : q + sV r (b :: bs) = ad r q (vl b) + sV r bs := by
      show q + ((if r then vl b else 1 / vl b) + sV r bs) = (q + if r then vl b else 1 / vl b) + sV r bs
      rw [Rat.add_assoc]
    rw [ea]
    show forL _ _ _ (pvB b :: pvBs bs) _ _ = _
    rw [forL_c, bindT_nm, Option.bind_some]
    show nxt (execs _ W lwB [some (.tup (wrd r :: L)), some (fr q), some (pvB b), o2] M) _ = _
    rw [st, nxt_nx, e]
theorem eqD_pb (M : Mem) (r : Bool) (ps : List Pb) (h : okB (.nd r ps)) (hc : cnts ps ≤ 64) : eqD M (.tup (wrd r :: pvBs ps)) (.tup []) = some false := 
  eqD_tc M (wrd r) (pvBs ps) 64 (let v := Vv_pvB (.nd r ps) h (by show cnts ps ≤ 900; omega); ⟨v.p, Nat.le_trans v.d hc, v.w⟩) (Nat.le_refl _)
theorem value_in_ok : ∀ (n : Nat) (b : Pb), okB b → cnt b ≤ n → n ≤ 64 → ∀ (D : Nat), n + 4 ≤ D → ∀ M : Mem, callN prog W D 17 [pvB b] M = some (fr (vl b), M)
  | n, .pc, _, _, _, D, hD, M => by
    obtain ⟨k, rfl⟩ : ∃ k, D = k + 1 := ⟨D - 1, by omega⟩
    show callN prog W (k + 1) _ [.tup []] M = some (fr 1, M)
    have f1 : eqD M (.tup []) (.tup []) = some true := rfl
    rw [u_value_in]
    unfold m_value_in
    walk_at "evb"
  | n, .nd r ps, h, hc, hn, D, hD, M => by
    have hc' : cnts ps ≤ n := hc
    have hl := cnts_len ps h.2
    have h2 := h.1
    obtain ⟨m, rfl⟩ : ∃ m, n = m + 1 := ⟨n - 1, by omega⟩
    obtain ⟨k, rfl⟩ : ∃ k, D = k + 4 := ⟨D - 4, by omega⟩
    obtain ⟨o1, o2, e⟩ := vi_loop k M r (pvBs ps) ps 0 0 none none h.2 Fb_0 (by omega) fun b hb => by
      obtain ⟨g1, g2⟩ := okBs_mem h.2 hb
      exact value_in_ok m b g1 (by omega) (by omega) (k + 3) (by omega) M
    rw [Rat.zero_add] at e
    have hs := sV_pos r ps h.2 (by intro z; rw [z] at h2; simp at h2)
    have f1 := eqD_pb M r ps h (by omega)
    have f2 := drop1 (wrd r) (pvBs ps) M
    have f3 := fr_inv hs
    have f4 := eqD_wrd M r
    show callN prog W (k + 4) _ [.tup (wrd r :: pvBs ps)] M = some (fr (if r then sV r ps else 1 / sV r ps), M)
    rw [u_value_in]
    unfold m_value_in
    rw [show (Ss.cons (.set 3 (.call 17 (.cons (.var 2) .nil))) (.cons (.set 1 (.call 4 (.cons (.var 1) (.cons (.ite (.cmp .eq (.idx (.var 0) (.cst (.int (0)))) (.cst k_ROW)) (.var 3) (.tup (.cons (.idx (.var 3) (.cst (.int (1)))) (.cons (.idx (.var 3) (.cst (.int (0)))) .nil)))) .nil)))) .nil)) = viB from rfl]
    generalize viB = B at *
    clear h hc hs
    cases r
    · walk_at "evb"
      try rfl
    · walk_at "evb"
      try rfl
  termination_by n => n
theorem worth_ok : ∀ (n : Nat) (b : Pb), okB b → cnt b ≤ n → n ≤ 64 → ∀ (D : Nat), n + 4 ≤ D → ∀ M : Mem, callN prog W D 32 [pvB b] M = some (fr (vl b), M)
  | n, .pc, _, _, _, D, hD, M => by
    obtain ⟨k, rfl⟩ : ∃ k, D = k + 1 := ⟨D - 1, by omega⟩
    show callN prog W (k + 1) _ [.tup []] M = some (fr 1, M)
    have f1 : eqD M (.tup []) (.tup []) = some true := rfl
    rw [u__law_worth]
    unfold m__law_worth
    walk_at "evb"
  | n, .nd r ps, h, hc, hn, D, hD, M => by
    have hc' : cnts ps ≤ n := hc
    have hl := cnts_len ps h.2
    have h2 := h.1
    obtain ⟨m, rfl⟩ : ∃ m, n = m + 1 := ⟨n - 1, by omega⟩
    obtain ⟨k, rfl⟩ : ∃ k, D = k + 4 := ⟨D - 4, by omega⟩
    obtain ⟨o1, o2, e⟩ := lw_loop k M r (pvBs ps) ps 0 0 none none h.2 Fb_0 (by omega) fun b hb => by
      obtain ⟨g1, g2⟩ := okBs_mem h.2 hb
      exact worth_ok m b g1 (by omega) (by omega) (k + 3) (by omega) M
    rw [Rat.zero_add] at e
    have hs := sV_pos r ps h.2 (by intro z; rw [z] at h2; simp at h2)
    have f1 := eqD_pb M r ps h (by omega)
    have f2 := drop1 (wrd r) (pvBs ps) M
    have f3 := fr_inv hs
    have f4 := eqD_wrd M r
    show callN prog W (k + 4) _ [.tup (wrd r :: pvBs ps)] M = some (fr (if r then sV r ps else 1 / sV r ps), M)
    rw [u__law_worth]
    unfold m__law_worth
    rw [show (Ss.cons (.set 3 (.call 32 (.cons (.var 2) .nil))) (.cons (.set 1 (.call 29 (.cons (.var 1) (.cons (.ite (.cmp .eq (.idx (.var 0) (.cst (.int (0)))) (.cst (.str "row"))) (.var 3) (.tup (.cons (.idx (.var 3) (.cst (.int (1)))) (.cons (.idx (.var 3) (.cst (.int (0)))) .nil)))) .nil)))) .nil)) = lwB from rfl]
    generalize lwB = B at *
    clear h hc hs
    cases r
    · walk_at "evb"
      try rfl
    · walk_at "evb"
      try rfl
  termination_by n => n
def tiC : E := (E.call 18 (.cons (.var 1) .nil))
def ltC : E := (E.call 34 (.cons (.var 1) .nil))
theorem bOf (v : PV) : (∃ b, v = pvB b) ∨ True := .inr trivial
theorem turned_in_ok : ∀ (n : Nat) (b : Pb), okB b → cnt b ≤ n → n ≤ 64 → ∀ (D : Nat), n + 1 ≤ D → ∀ M : Mem, callN prog W D 18 [pvB b] M = some (pvB (tn b), M)
  | n, .pc, _, _, _, D, hD, M => by
    obtain ⟨k, rfl⟩ : ∃ k, D = k + 1 := ⟨D - 1, by omega⟩
    show callN prog W (k + 1) _ [.tup []] M = some (.tup [], M)
    have f1 : eqD M (.tup []) (.tup []) = some true := rfl
    rw [u_turned_in]
    unfold m_turned_in
    walk_at "evb"
  | n, .nd r ps, h, hc, hn, D, hD, M => by
    have hc' : cnts ps ≤ n := hc
    have hl := cnts_len ps h.2
    have h2 := h.1
    obtain ⟨m, rfl⟩ : ∃ m, n = m + 1 := ⟨n - 1, by omega⟩
    obtain ⟨k, rfl⟩ : ∃ k, D = k + 1 := ⟨D - 1, by omega⟩
    have e : ∀ (qs : List Pb) (acc : List PV) o, (∀ b ∈ qs, okB b ∧ cnt b ≤ m) → lcL (.nm 1) [] (fun _ M => some (true, M)) (eval (callN prog W k) tiC) [some (.tup (wrd r :: pvBs ps)), o] (pvBs qs) acc M = some (acc ++ pvBs (tns qs), M) := fun qs => by
      induction qs with
      | nil => intro acc o _; show lcL _ _ _ _ _ [] _ _ = _; rw [lcL_n]; show _ = some (acc ++ [], M); rw [List.append_nil]
      | cons b bs ih =>
        intro acc o hb
        obtain ⟨g1, g2⟩ := hb b List.mem_cons_self
        have ic := turned_in_ok m b g1 g2 (by omega) k (by omega) M
        have st : eval (callN prog W k) tiC [some (.tup (wrd r :: pvBs ps)), some (pvB b)] M = some (pvB (tn b), M) := by
          unfold tiC
          clear h hc ih hb
          walk_at "evb"
        show lcL _ _ _ _ _ (pvB b :: pvBs bs) _ _ = _
        rw [lcL_c, bindT_nm, Option.bind_some]
        show bnd (eval _ tiC [some (.tup (wrd r :: pvBs ps)), some (pvB b)] M) _ = _
        rw [st, bnd_some, ih _ _ fun c hcm => hb c (List.mem_cons_of_mem _ hcm)]
        show _ = some (acc ++ (pvB (tn b) :: pvBs (tns bs)), M)
        rw [List.append_assoc]; rfl
    have e1 := fun o => e ps [] o fun b hb => by
      obtain ⟨g1, g2⟩ := okBs_mem h.2 hb
      exact ⟨g1, by omega⟩
    rw [List.nil_append] at e1
    have f1 := eqD_pb M r ps h (by omega)
    have f2 := drop1 (wrd r) (pvBs ps) M
    have f4 := eqD_wrd M r
    have f5 := fun xs => tupleB_lst M xs
    have z1 : (pvBs (tns ps)).length ≤ 16777216 := by rw [pvBs_len, tns_map, List.length_map]; omega
    have z2 : 1 + (pvBs (tns ps)).length ≤ 16777216 := by rw [pvBs_len, tns_map, List.length_map]; omega
    show callN prog W (k + 1) _ [.tup (wrd r :: pvBs ps)] M = some (.tup (wrd (!r) :: pvBs (tns ps)), M)
    rw [u_turned_in]
    unfold m_turned_in
    rw [show (E.call 18 (.cons (.var 1) .nil)) = tiC from rfl]
    generalize tiC = C at *
    clear h hc e
    cases r
    · rw [show wrd (!false) = .str "row" from rfl]
      walk_at "evb"
      try rfl
    · rw [show wrd (!true) = .str "side" from rfl]
      walk_at "evb"
      try rfl
  termination_by n => n
theorem turn_ok : ∀ (n : Nat) (b : Pb), okB b → cnt b ≤ n → n ≤ 64 → ∀ (D : Nat), n + 1 ≤ D → ∀ M : Mem, callN prog W D 34 [pvB b] M = some (pvB (tn b), M)
  | n, .pc, _, _, _, D, hD, M => by
    obtain ⟨k, rfl⟩ : ∃ k, D = k + 1 := ⟨D - 1, by omega⟩
    show callN prog W (k + 1) _ [.tup []] M = some (.tup [], M)
    have f1 : eqD M (.tup []) (.tup []) = some true := rfl
    rw [u__law_turn]
    unfold m__law_turn
    walk_at "evb"
  | n, .nd r ps, h, hc, hn, D, hD, M => by
    have hc' : cnts ps ≤ n := hc
    have hl := cnts_len ps h.2
    have h2 := h.1
    obtain ⟨m, rfl⟩ : ∃ m, n = m + 1 := ⟨n - 1, by omega⟩
    obtain ⟨k, rfl⟩ : ∃ k, D = k + 1 := ⟨D - 1, by omega⟩
    have e : ∀ (qs : List Pb) (acc : List PV) o, (∀ b ∈ qs, okB b ∧ cnt b ≤ m) → lcL (.nm 1) [] (fun _ M => some (true, M)) (eval (callN prog W k) ltC) [some (.tup (wrd r :: pvBs ps)), o] (pvBs qs) acc M = some (acc ++ pvBs (tns qs), M) := fun qs => by
      induction qs with
      | nil => intro acc o _; show lcL _ _ _ _ _ [] _ _ = _; rw [lcL_n]; show _ = some (acc ++ [], M); rw [List.append_nil]
      | cons b bs ih =>
        intro acc o hb
        obtain ⟨g1, g2⟩ := hb b List.mem_cons_self
        have ic := turn_ok m b g1 g2 (by omega) k (by omega) M
        have st : eval (callN prog W k) ltC [some (.tup (wrd r :: pvBs ps)), some (pvB b)] M = some (pvB (tn b), M) := by
          unfold ltC
          clear h hc ih hb
          walk_at "evb"
        show lcL _ _ _ _ _ (pvB b :: pvBs bs) _ _ = _
        rw [lcL_c, bindT_nm, Option.bind_some]
        show bnd (eval _ ltC [some (.tup (wrd r :: pvBs ps)), some (pvB b)] M) _ = _
        rw [st, bnd_some, ih _ _ fun c hcm => hb c (List.mem_cons_of_mem _ hcm)]
        show _ = some (acc ++ (pvB (tn b) :: pvBs (tns bs)), M)
        rw [List.append_assoc]; rfl
    have e1 := fun o => e ps [] o fun b hb => by
      obtain ⟨g1, g2⟩ := okBs_mem h.2 hb
      exact ⟨g1, by omega⟩
    rw [List.nil_append] at e1
    have f1 := eqD_pb M r ps h (by omega)
    have f2 := drop1 (wrd r) (pvBs ps) M
    have f4 := eqD_wrd M r
    have f5 := fun xs => tupleB_lst M xs
    have z1 : (pvBs (tns ps)).length ≤ 16777216 := by rw [pvBs_len, tns_map, List.length_map]; omega
    have z2 : 1 + (pvBs (tns ps)).length ≤ 16777216 := by rw [pvBs_len, tns_map, List.length_map]; omega
    show callN prog W (k + 1) _ [.tup (wrd r :: pvBs ps)] M = some (.tup (wrd (!r) :: pvBs (tns ps)), M)
    rw [u__law_turn]
    unfold m__law_turn
    rw [show (E.call 34 (.cons (.var 1) .nil)) = ltC from rfl]
    generalize ltC = C at *
    clear h hc e
    cases r
    · rw [show wrd (!false) = .str "row" from rfl]
      walk_at "evb"
      try rfl
    · rw [show wrd (!true) = .str "side" from rfl]
      walk_at "evb"
      try rfl
  termination_by n => n
/-! the interface -/
theorem Vv64 {b : Pb} (h : okB b) (hc : cnt b ≤ 64) : Vv 64 (pvB b) := by
  have v := Vv_pvB b h (by omega)
  exact ⟨v.p, Nat.le_trans v.d hc, v.w⟩
theorem need_build_ok {b : Pb} (h : okB b) (hc : cnt b ≤ 60) (D : Nat) (hD : 70 ≤ D) (M : Mem) : callN prog W D 16 [pvB b] M = some (.non, M) := by
  obtain ⟨k, rfl⟩ : ∃ k, D = k + 1 := ⟨D - 1, by omega⟩
  have f1 := fits_build_ok 64 (pvB b) (Vv64 h (by omega)) (Nat.le_refl _) k (by omega) M
  have hp := cnt_pos b h
  rw [K60_pvB b h hc, decide_eq_true (by omega)] at f1
  rw [u_need_build]
  unfold m_need_build
  clear h hc hp
  walk_at "evb"
theorem value_ok {b : Pb} (h : okB b) (hc : cnt b ≤ 60) (D : Nat) (hD : 72 ≤ D) (M : Mem) : callN prog W D 20 [pvB b] M = some (fr (vl b), M) := by
  obtain ⟨k, rfl⟩ : ∃ k, D = k + 1 := ⟨D - 1, by omega⟩
  have f1 := need_build_ok h hc k (by omega) M
  have f2 := value_in_ok 60 b h hc (by decide) k (by omega) M
  rw [u_value_of_build]
  unfold m_value_of_build
  clear h hc
  walk_at "evb"
theorem turned_ok {b : Pb} (h : okB b) (hc : cnt b ≤ 60) (D : Nat) (hD : 72 ≤ D) (M : Mem) : callN prog W D 22 [pvB b] M = some (pvB (tn b), M) := by
  obtain ⟨k, rfl⟩ : ∃ k, D = k + 1 := ⟨D - 1, by omega⟩
  have f1 := need_build_ok h hc k (by omega) M
  have f2 := turned_in_ok 60 b h hc (by decide) k (by omega) M
  rw [u_turned_build]
  unfold m_turned_build
  clear h hc
  walk_at "evb"
theorem pib_ok {b : Pb} (h : okB b) (hc : cnt b ≤ 60) (D : Nat) (hD : 72 ≤ D) (M : Mem) : callN prog W D 21 [pvB b] M = some (.int (cnt b : Nat), M) := by
  obtain ⟨k, rfl⟩ : ∃ k, D = k + 1 := ⟨D - 1, by omega⟩
  have f1 := need_build_ok h hc k (by omega) M
  have f2 := pieces_ok 64 (pvB b) (Vv64 h (by omega)) (Nat.le_refl _) k (by omega) 60 M
  rw [pc_K true _ 60 (by decide), K60_pvB b h hc] at f2
  rw [u_pieces_in_build]
  unfold m_pieces_in_build
  clear h hc
  walk_at "evb"
theorem isb_ok {b : Pb} (h : okB b) (hc : cnt b ≤ 60) (D : Nat) (hD : 72 ≤ D) (M : Mem) : callN prog W D 19 [pvB b] M = some (.bl true, M) := by
  have f1 := is_build_ok 64 (pvB b) (Vv64 h (by omega)) (Nat.le_refl _) D (by omega) M
  have hp := cnt_pos b h
  rw [K60_pvB b h hc, decide_eq_true (by omega)] at f1
  exact f1

/-! ### drawn builds -/
local macro_rules | `(tactic| walk_at "evb") => `(tactic| simp -implicitDefEqProofs only [execs, exec, eval, evals, evalI, conds, bnd_some, bnd_none, bifb_t, bifb_f, bifb_d, bifb_b, iff_t, iff_d, nxt_nx, nxt_rt, binop, cmpop, addOp_ii, addOp_tt, addOp_ll, subOp_ii, mulOp_ii, fdivOp_ii, modOp_ii, cmpI_ii, tru_bl, tru_int, absB_i, intB_i, asM_int, asM_bl, asM_tup, asM_false, isOp_n, isOp_bb, isNon_non, isNon_tup, isNon_int, isNon_bl, isNon_lst, isNon_ref, isNon_rol, isNon_str, isNon_fr, setAll_nil, setAll_cons, bindT_nm, bindT_tp, fin_rt, fin_nx, leave_same, bltOp, idx_tup0, idx_tup1, idx_tup2, idx_tup3, idx_lst0, idx_lst1, idx_lst2, idx_lst3, eqD_ii, eqD_bb, eqD_fr, Option.map_some, Option.map_none, Option.bind_some, List.getElem?_cons_zero, List.getElem?_cons_succ, List.set_cons_zero, List.set_cons_succ, List.length_cons, List.length_nil, if_true, if_false, decide_true, decide_false, Bool.not_true, Bool.not_false, decide_eq_true_eq, sizeL, Nat.reduceAdd, Nat.reduceLeDiff, Nat.zero_add, beq_self_eq_true, seqG_tup, seqG_lst, lenB_tup, lenB_lst, idx_cup0, idx_cup1, setAt0, setAt1, cup, isTy, Bool.false_eq_true, newL_f, newL_t, fin_rtk, List.nil_append, wipeE, Int.reduceNe, Int.reduceEq, Int.reduceLT, Int.reduceLE, Int.reduceAdd, Int.reduceSub, Int.reduceMul, Int.reduceNeg, Int.reduceGT, cmpop, idx_fr0, idx_fr1, fr_0', fr_1', k_ONE, k_NONE, k_DIGITS, k_PIECES, k_DEEP, k_ROW, k_SIDE, List.append_nil, List.cons_append, not_true_eq_false, not_false_eq_true, ite_true, ite_false, gt_iff_lt, ge_iff_le, *])
theorem atI_ok {xs : List PV} {i : Int} (h0 : 0 ≤ i) (h1 : i < xs.length) : ∃ v, L2.atI xs i = some v ∧ v ∈ xs := by
  have h2 : i.toNat < xs.length := by omega
  refine ⟨xs[i.toNat], ?_, List.getElem_mem h2⟩
  unfold L2.atI L2.ixN
  rw [if_pos h0, if_pos (by omega)]
  exact List.getElem?_eq_getElem h2
theorem some_ok (D : Nat) (hD : 2 ≤ D) {x y : Int} (T : Mem) (h : CupB x y) (xs : List PV) (h1 : 1 ≤ xs.length) (h2 : xs.length ≤ 100) :
    ∃ v x' y', callN prog W D 25 [.ref 0, .lst xs] (cup x y :: T) = some (v, cup x' y' :: T) ∧ CupB x' y' ∧ v ∈ xs := by
  obtain ⟨k, rfl⟩ : ∃ k, D = k + 2 := ⟨D - 2, by omega⟩
  obtain ⟨r, x1, y1, e1, c1, p1, q1⟩ := roll_ok k (many := xs.length) T h (by omega) (lt2.mono (n := 7) (by unfold lt2; omega) (by decide))
  obtain ⟨v, e2, hm⟩ := atI_ok p1 q1
  refine ⟨v, x1, y1, ?_, c1, hm⟩
  have f1 : idxOp (cup x1 y1 :: T) (.lst xs) (.int r) = some v := e2
  rw [u__law_some]
  unfold m__law_some
  clear h h1 h2 c1 p1 q1 hm e2
  walk_at "evb"
  exact leave_len rfl
def Tok (T : Mem) : Prop := ∀ n, T.all (cellUnder n) = true
mutual
theorem under_pvB (n : Nat) : ∀ b : Pb, under n (pvB b) = true
  | .pc => rfl
  | .nd r ps => by
    show (under n (wrd r) && unders n (pvBs ps)) = true
    rw [unders_pvB n ps]; cases r <;> rfl
theorem unders_pvB (n : Nat) : ∀ ps : List Pb, unders n (pvBs ps) = true
  | [] => rfl
  | b :: bs => by
    show (under n (pvB b) && unders n (pvBs bs)) = true
    rw [under_pvB n b, unders_pvB n bs]; rfl
end
theorem Tok_add {T : Mem} (h : Tok T) (ps : List Pb) : Tok (T ++ [.lst (pvBs ps)]) := fun n => by
  rw [List.all_append, h n]
  show (true && (unders n (pvBs ps) && true)) = true
  rw [unders_pvB]; rfl
theorem get_last (c0 c : Cell) (T : Mem) : (c0 :: (T ++ [c]))[T.length + 1]? = some c := by simp
theorem get_lastT (c : Cell) (T : Mem) : (T ++ [c])[T.length]? = some c := by simp
theorem set_lastT (c c' : Cell) (T : Mem) : (T ++ [c]).set T.length c' = T ++ [c'] := by
  induction T with
  | nil => rfl
  | cons a t ih => show a :: (t ++ [c]).set t.length c' = _; rw [ih]; rfl
theorem leave_build {x y : Int} {T : Mem} (h : Tok T) (c : Cell) {v : PV} (hv : ∀ n, under n v = true) : leave (T.length + 1) v (cup x y :: (T ++ [c])) = some (v, cup x y :: T) := by
  unfold leave
  rw [if_neg (by simp)]
  have e : (cup x y :: (T ++ [c])).take (T.length + 1) = cup x y :: T := by simp
  rw [e, if_pos (by show (true && T.all _) = true; rw [h]; rfl), if_pos (hv _)]
def lbC : E := (E.cmp .gt (.var 3) (.cst (.int (0))))
def lbB : Ss := (Ss.cons (.set 4 (.blt .min false (.cons (.var 3) (.cons (.bin .add false (.cst (.int (1))) (.call 24 (.cons (.var 0) (.cons (.call 25 (.cons (.var 0) (.cons (.lst false (.cons (.cst (.int (1))) (.cons (.cst (.int (3))) (.cons (.bin .sub false (.var 1) (.cst (.int (1)))) .nil)))) .nil))) .nil)))) .nil)))) (.cons (.set 4 (.blt .min false (.cons (.var 4) (.cons (.bin .sub false (.var 1) (.cst (.int (1)))) .nil)))) (.cons (.exp (.app (.var 2) (.call 31 (.cons (.var 0) (.cons (.var 4) .nil))))) (.cons (.set 3 (.bin .sub false (.var 3) (.var 4))) .nil))))
theorem minB_ii (M : Mem) (i j : Int) : minB M [.int i, .int j] = some (.int (if j < i then j else i)) := rfl
theorem tup_last (c0 : Cell) (xs : List PV) (T : Mem) : tupleB (c0 :: (T ++ [.lst xs])) [.ref (T.length + 1)] = some (.tup xs) := by
  have : items (c0 :: (T ++ [.lst xs])) (.ref (T.length + 1)) = some xs := by
    show (match (c0 :: (T ++ [.lst xs]))[T.length + 1]? with | some (.lst xs) => some xs | _ => none) = some xs
    rw [get_last]
  show (items _ _).map PV.tup = _
  rw [this]; rfl
theorem pvBs_snoc : ∀ (ps : List Pb) (b : Pb), pvBs ps ++ [pvB b] = pvBs (ps ++ [b]) := fun ps b => by rw [pvBs_map, pvBs_map, List.map_append]; rfl
theorem cnts_snoc : ∀ (ps : List Pb) (b : Pb), cnts (ps ++ [b]) = cnts ps + cnt b
  | [], b => by show cnt b + 0 = 0 + cnt b; omega
  | p :: ps, b => by show cnt p + cnts (ps ++ [b]) = cnt p + cnts ps + cnt b; rw [cnts_snoc]; omega
theorem okBs_snoc : ∀ {ps : List Pb} {b : Pb}, okBs ps → okB b → okBs (ps ++ [b])
  | [], _, _, h => ⟨h, trivial⟩
  | _ :: _, _, h, h' => ⟨h.1, okBs_snoc h.2 h'⟩
def BOk (n : Nat) : Prop := ∀ many : Nat, 1 ≤ many → many ≤ n → ∀ (D : Nat), n + 4 ≤ D → ∀ (T : Mem) (x y : Int), Tok T → CupB x y →
    ∃ b x' y', callN prog W D 31 [.ref 0, .int many] (cup x y :: T) = some (pvB b, cup x' y' :: T) ∧ CupB x' y' ∧ okB b ∧ cnt b = many
theorem lb_step (n : Nat) (ih : BOk n) (many left : Nat) (hm : many = n + 1) (h2 : 2 ≤ many) (h60 : many ≤ 60) (k : Nat) (hk : n + 4 ≤ k) (T : Mem) (hT : Tok T) {x y : Int} (hc : CupB x y) (ps : List Pb) (hps : okBs ps) (hl : 1 ≤ left) (hs : cnts ps + left = many) (o : Option PV) :
    ∃ b x' y' o', execs (callN prog W k) W lbB [some (.ref 0), some (.int many), some (.ref (T.length + 1)), some (.int left), o] (cup x y :: (T ++ [.lst (pvBs ps)])) =
      some (.nx [some (.ref 0), some (.int many), some (.ref (T.length + 1)), some (.int ((left - cnt b : Nat) : Int)), o'] (cup x' y' :: (T ++ [.lst (pvBs (ps ++ [b]))]))) ∧ CupB x' y' ∧ okB b ∧ 1 ≤ cnt b ∧ cnt b ≤ left ∧ cnt b + 1 ≤ many := by
  have hT2 := Tok_add hT ps
  obtain ⟨v, x1, y1, e1, c1, m1⟩ := some_ok k (by omega) (T ++ [.lst (pvBs ps)]) hc [.int 1, .int 3, .int ((many : Int) - 1)] (by simp) (by simp)
  obtain ⟨s, rfl, hs1, hs2⟩ : ∃ s : Int, v = .int s ∧ 1 ≤ s ∧ s ≤ 60 := by
    simp only [List.mem_cons, List.not_mem_nil, or_false] at m1
    rcases m1 with rfl | rfl | rfl
    · exact ⟨_, rfl, by omega, by omega⟩
    · exact ⟨_, rfl, by omega, by omega⟩
    · exact ⟨_, rfl, by omega, by omega⟩
  obtain ⟨j, rfl⟩ : ∃ j, k = j + 1 := ⟨k - 1, by omega⟩
  obtain ⟨r, x2, y2, e2, c2, p2, q2⟩ := roll_ok j (many := s) (T ++ [.lst (pvBs ps)]) c1 hs1 (lt2.mono (n := 7) (by unfold lt2; omega) (by decide))
  generalize ho1 : (if 1 + r < (left : Int) then 1 + r else (left : Int)) = w1
  generalize ho2 : (if (many : Int) - 1 < w1 then (many : Int) - 1 else w1) = w2
  have hw : 1 ≤ w2 ∧ w2 ≤ left ∧ w2 ≤ (n : Int) := by
    subst hm
    rw [← ho2, ← ho1]
    refine ⟨?_, ?_, ?_⟩
    all_goals (split <;> split <;> omega)
  obtain ⟨b, x3, y3, e3, c3, ok3, cn3⟩ := ih w2.toNat (by omega) (by omega) (j + 1) (by omega) (T ++ [.lst (pvBs ps)]) x2 y2 hT2 c2
  rw [show ((w2.toNat : Nat) : Int) = w2 by omega] at e3
  have ew : ((left - cnt b : Nat) : Int) = (left : Int) - w2 := by omega
  refine ⟨b, x3, y3, some (.int w2), ?_, c3, ok3, by omega, by omega, by omega⟩
  rw [ew, ← pvBs_snoc]
  have f1 := fun i j M => minB_ii M i j
  have f2 := get_lastT (.lst (pvBs ps)) T
  have f3 := fun c' => set_lastT (.lst (pvBs ps)) c' T
  have hz : (pvBs ps).length < 16777216 := by have := cnts_len ps hps; rw [pvBs_len]; omega
  unfold lbB
  clear hT hT2 hc m1 ih hps hs ok3 cn3 ew p2 q2 hw hm h2 h60
  generalize pvBs ps = P at *
  simp -implicitDefEqProofs only [execs, exec, eval, evals, evalI, conds, bnd_some, bnd_none, bifb_t, bifb_f, bifb_d, bifb_b, iff_t, iff_d, nxt_nx, nxt_rt, binop, cmpop, addOp_ii, addOp_tt, addOp_ll, subOp_ii, mulOp_ii, fdivOp_ii, modOp_ii, cmpI_ii, tru_bl, tru_int, absB_i, intB_i, asM_int, asM_bl, asM_tup, asM_false, isOp_n, isOp_bb, isNon_non, isNon_tup, isNon_int, isNon_bl, isNon_lst, isNon_ref, isNon_rol, isNon_str, isNon_fr, setAll_nil, setAll_cons, bindT_nm, bindT_tp, fin_rt, fin_nx, leave_same, bltOp, idx_tup0, idx_tup1, idx_tup2, idx_tup3, idx_lst0, idx_lst1, idx_lst2, idx_lst3, eqD_ii, eqD_bb, eqD_fr, Option.map_some, Option.map_none, Option.bind_some, List.getElem?_cons_zero, List.getElem?_cons_succ, List.set_cons_zero, List.set_cons_succ, List.length_cons, List.length_nil, if_true, if_false, decide_true, decide_false, Bool.not_true, Bool.not_false, decide_eq_true_eq, sizeL, Nat.reduceAdd, Nat.reduceLeDiff, Nat.zero_add, beq_self_eq_true, seqG_tup, seqG_lst, lenB_tup, lenB_lst, idx_cup0, idx_cup1, setAt0, setAt1, cup, isTy, Bool.false_eq_true, newL_f, newL_t, fin_rtk, List.nil_append, wipeE, Int.reduceNe, Int.reduceEq, Int.reduceLT, Int.reduceLE, Int.reduceAdd, Int.reduceSub, Int.reduceMul, Int.reduceNeg, Int.reduceGT, cmpop, List.append_nil, List.cons_append, not_true_eq_false, not_false_eq_true, ite_true, ite_false, gt_iff_lt, ge_iff_le, *]
theorem whl_step {c : Env → Mem → Option (Bool × Mem)} {body : Env → Mem → Option R} {n : Nat} {env env2 : Env} {M M2 : Mem} (h1 : c env M = some (true, M)) (h2 : body env M = some (.nx env2 M2)) : whlL c body (n + 1) env M = whlL c body n env2 M2 := by
  conv => lhs; unfold whlL
  rw [h1]
  show (match body env M with | some (.nx env2 M2) => _ | r => r) = _
  rw [h2]
theorem whl_end {c : Env → Mem → Option (Bool × Mem)} {body : Env → Mem → Option R} {n : Nat} {env : Env} {M : Mem} (h1 : c env M = some (false, M)) : whlL c body (n + 1) env M = some (.nx env M) := by
  unfold whlL
  rw [h1]
theorem lb_loop (n : Nat) (ih : BOk n) (many : Nat) (hm : many = n + 1) (h2 : 2 ≤ many) (h60 : many ≤ 60) (k : Nat) (hk : n + 4 ≤ k) (T : Mem) (hT : Tok T) : ∀ (left fuel : Nat), left + 1 ≤ fuel → ∀ {x y : Int}, CupB x y → ∀ (ps : List Pb), okBs ps → cnts ps + left = many → (∀ b ∈ ps, cnt b + 1 ≤ many) → ∀ (o : Option PV),
    ∃ qs x' y' o', whlL (fun env M => bnd (eval (callN prog W k) lbC env M) fun x M1 => (truthy M1 x).map fun k => (k, M1)) (execs (callN prog W k) W lbB) fuel [some (.ref 0), some (.int many), some (.ref (T.length + 1)), some (.int left), o] (cup x y :: (T ++ [.lst (pvBs ps)])) =
      some (.nx [some (.ref 0), some (.int many), some (.ref (T.length + 1)), some (.int 0), o'] (cup x' y' :: (T ++ [.lst (pvBs qs)]))) ∧ CupB x' y' ∧ okBs qs ∧ cnts qs = many ∧ (∀ b ∈ qs, cnt b + 1 ≤ many)
  | left, 0, hf, _, _, _, _, _, _, _, _ => absurd hf (by omega)
  | left, fuel + 1, hf, x, y, hc, ps, hps, hs, hb, o => by
    have cc : ∀ (z : Int) (o : Option PV) (M : Mem), (bnd (eval (callN prog W k) lbC [some (.ref 0), some (.int many), some (.ref (T.length + 1)), some (.int z), o] M) fun x M1 => (truthy M1 x).map fun k => (k, M1)) = some (decide (0 < z), M) := fun z o M => by
      unfold lbC
      clear ih hT hc hps hb
      walk_at "evb"
    by_cases h0 : left = 0
    · subst h0
      refine ⟨ps, x, y, o, ?_, hc, hps, by omega, hb⟩
      exact whl_end (cc _ _ _)
    · obtain ⟨b, x1, y1, o1, e1, c1, ok1, l1, l2, l3⟩ := lb_step n ih many left hm h2 h60 k hk T hT hc ps hps (by omega) hs o
      obtain ⟨qs, x2, y2, o2, e2, c2, ok2, s2, b2⟩ := lb_loop n ih many hm h2 h60 k hk T hT (left - cnt b) fuel (by omega) c1 (ps ++ [b]) (okBs_snoc hps ok1) (by rw [cnts_snoc]; omega) (fun c hcm => by
        rcases List.mem_append.mp hcm with h | h
        · exact hb c h
        · rw [List.mem_singleton.mp h]; exact l3) o1
      refine ⟨qs, x2, y2, o2, ?_, c2, ok2, s2, b2⟩
      rw [whl_step (by rw [cc, decide_eq_true (by omega)]) e1]
      exact e2
theorem build_ok : ∀ n : Nat, n ≤ 60 → BOk n
  | 0, _ => fun many h1 h2 => absurd h1 (by omega)
  | n + 1, hn => fun many h1 h2 D hD T x y hT hc => by
    have ih := build_ok n (by omega)
    by_cases hle : many ≤ n
    · exact ih many h1 hle D (by omega) T x y hT hc
    · obtain ⟨k, rfl⟩ : ∃ k, D = k + 1 := ⟨D - 1, by omega⟩
      by_cases h1' : many = 1
      · subst h1'
        refine ⟨.pc, x, y, ?_, hc, trivial, rfl⟩
        show _ = some (PV.tup [], _)
        have e1 : ((1 : Nat) : Int) = 1 := rfl
        rw [u__law_build]
        unfold m__law_build
        clear ih hT hc
        walk_at "evb"
        exact leave_len rfl
      · have hm : many = n + 1 := by omega
        obtain ⟨qs, x1, y1, o1, e1, c1, ok1, s1, b1⟩ := lb_loop n ih many hm (by omega) (by omega) k (by omega) T hT many W (by unfold W; omega) hc [] trivial (by show 0 + many = many; omega) (fun b hb => by cases hb) none
        obtain ⟨v, x2, y2, e2, c2, m2⟩ := some_ok k (by omega) (T ++ [.lst (pvBs qs)]) c1 [.str "row", .str "side"] (by simp) (by simp)
        obtain ⟨r, rfl⟩ : ∃ r, v = wrd r := by
          simp only [List.mem_cons, List.not_mem_nil, or_false] at m2
          rcases m2 with rfl | rfl
          · exact ⟨true, rfl⟩
          · exact ⟨false, rfl⟩
        have hq : 2 ≤ qs.length := by
          match qs, s1, b1 with
          | [], s1, _ => exact absurd s1 (by show ¬ 0 = many; omega)
          | [b], s1, b1 =>
            have := b1 b List.mem_cons_self
            have s1' : cnt b + 0 = many := s1
            omega
          | _ :: _ :: _, _, _ => simp
        refine ⟨.nd r qs, x2, y2, ?_, c2, ⟨hq, ok1⟩, s1⟩
        have f1 := tup_last (cup x2 y2) (pvBs qs) T
        have f2 : leave (T.length + 1) (.tup (wrd r :: pvBs qs)) (cup x2 y2 :: (T ++ [.lst (pvBs qs)])) = some (.tup (wrd r :: pvBs qs), cup x2 y2 :: T) := leave_build hT _ fun n => under_pvB n (.nd r qs)
        have hz : 1 + (pvBs qs).length ≤ 16777216 := by have := cnts_len qs ok1; rw [pvBs_len]; omega
        have hne : ¬ ((many : Int) = 1) := by omega
        show _ = some (PV.tup (wrd r :: pvBs qs), _)
        change whlL _ _ _ _ (cup x y :: (T ++ [.lst []])) = _ at e1
        rw [u__law_build]
        unfold m__law_build
        rw [show (E.cmp .gt (.var 3) (.cst (.int (0)))) = lbC from rfl, show (Ss.cons (.set 4 (.blt .min false (.cons (.var 3) (.cons (.bin .add false (.cst (.int (1))) (.call 24 (.cons (.var 0) (.cons (.call 25 (.cons (.var 0) (.cons (.lst false (.cons (.cst (.int (1))) (.cons (.cst (.int (3))) (.cons (.bin .sub false (.var 1) (.cst (.int (1)))) .nil)))) .nil))) .nil)))) .nil)))) (.cons (.set 4 (.blt .min false (.cons (.var 4) (.cons (.bin .sub false (.var 1) (.cst (.int (1)))) .nil)))) (.cons (.exp (.app (.var 2) (.call 31 (.cons (.var 0) (.cons (.var 4) .nil))))) (.cons (.set 3 (.bin .sub false (.var 3) (.var 4))) .nil)))) = lbB from rfl]
        generalize lbC = C at *
        generalize lbB = B at *
        generalize pvBs qs = P at *
        clear ih hT hc ok1 s1 b1 hq hm
        walk_at "evb"
        try rfl

/-! ### bent values -/
local macro_rules | `(tactic| walk_at "evb") => `(tactic| simp -implicitDefEqProofs only [execs, exec, eval, evals, evalI, conds, bnd_some, bnd_none, bifb_t, bifb_f, bifb_d, bifb_b, iff_t, iff_d, nxt_nx, nxt_rt, binop, cmpop, addOp_ii, addOp_tt, addOp_ll, subOp_ii, mulOp_ii, fdivOp_ii, modOp_ii, cmpI_ii, tru_bl, tru_int, absB_i, intB_i, asM_int, asM_bl, asM_tup, asM_false, isOp_n, isOp_bb, isNon_non, isNon_tup, isNon_int, isNon_bl, isNon_lst, isNon_ref, isNon_rol, isNon_str, isNon_fr, setAll_nil, setAll_cons, bindT_nm, bindT_tp, fin_rt, fin_nx, leave_same, bltOp, idx_tup0, idx_tup1, idx_tup2, idx_tup3, idx_lst0, idx_lst1, idx_lst2, idx_lst3, eqD_ii, eqD_bb, eqD_fr, Option.map_some, Option.map_none, Option.bind_some, List.getElem?_cons_zero, List.getElem?_cons_succ, List.set_cons_zero, List.set_cons_succ, List.length_cons, List.length_nil, if_true, if_false, decide_true, decide_false, Bool.not_true, Bool.not_false, decide_eq_true_eq, sizeL, Nat.reduceAdd, Nat.reduceLeDiff, Nat.zero_add, beq_self_eq_true, seqG_tup, seqG_lst, lenB_tup, lenB_lst, idx_cup0, idx_cup1, setAt0, setAt1, cup, isTy, Bool.false_eq_true, newL_f, newL_t, fin_rtk, List.nil_append, wipeE, Int.reduceNe, Int.reduceEq, Int.reduceLT, Int.reduceLE, Int.reduceAdd, Int.reduceSub, Int.reduceMul, Int.reduceNeg, Int.reduceGT, cmpop, idx_fr0, idx_fr1, fr_0', fr_1', k_ONE, k_NONE, k_DIGITS, k_PIECES, k_DEEP, k_ROW, k_SIDE, List.append_nil, List.cons_append, not_true_eq_false, not_false_eq_true, ite_true, ite_false, gt_iff_lt, ge_iff_le, *])
theorem cut_mem {xs : List PV} {l h : Option Int} {v : PV} (hv : v ∈ cut xs l h) : v ∈ xs := List.mem_of_mem_drop (List.mem_of_mem_take hv)
theorem cut_len (xs : List PV) (l h : Option Int) : (cut xs l h).length ≤ xs.length := by
  unfold cut
  rw [List.length_take, List.length_drop]
  omega
theorem slc_hi (M : Mem) (xs : List PV) (h : Int) : slcOp M (.tup xs) false true .non (.int h) = some (.tup (cut xs none (some h))) := rfl
theorem slc_lo (M : Mem) (xs : List PV) (l : Int) : slcOp M (.tup xs) true false (.int l) .non = some (.tup (cut xs (some l) none)) := rfl
theorem revT (M : Mem) (xs : List PV) : revOp M (.tup xs) = some (.tup xs.reverse) := rfl
theorem listB_tup (M : Mem) (xs : List PV) : listB M [.tup xs] = some (.lst xs) := rfl
theorem asM_lstf (xs : List PV) (M : Mem) : asM false (.lst xs) M = (.lst xs, M) := rfl
/-- plain, so deep, so wide -/
structure Pw (n w : Nat) (v : PV) : Prop where
  p : pl v = true
  d : dpt v ≤ n
  w : wid v ≤ w
theorem Pw.mono {n w n' w' : Nat} {v : PV} (h : Pw n w v) (hn : n ≤ n') (hw : w ≤ w') : Pw n' w' v := ⟨h.p, Nat.le_trans h.d hn, Nat.le_trans h.w hw⟩
theorem Pws_of {n w : Nat} : ∀ {xs : List PV}, (∀ x ∈ xs, Pw n w x) → pls xs = true ∧ dpts xs ≤ n ∧ wids xs ≤ w
  | [], _ => ⟨rfl, Nat.zero_le _, Nat.zero_le _⟩
  | x :: xs, h => by
    obtain ⟨h1, h2, h3⟩ := Pws_of (xs := xs) fun y hy => h y (List.mem_cons_of_mem _ hy)
    obtain ⟨a, b, c⟩ := h x List.mem_cons_self
    refine ⟨?_, ?_, ?_⟩
    · show (pl x && pls xs) = true
      rw [a, h1]; rfl
    · show max (dpt x) (dpts xs) ≤ n; omega
    · show max (wid x) (wids xs) ≤ w; omega
theorem Pw_tup {n w : Nat} {xs : List PV} (h : ∀ x ∈ xs, Pw n w x) (hl : xs.length ≤ w) : Pw (n + 1) w (.tup xs) := by
  obtain ⟨h1, h2, h3⟩ := Pws_of h
  exact ⟨h1, by show dpts xs + 1 ≤ n + 1; omega, by show max xs.length (wids xs) ≤ w; omega⟩
theorem Pw_lst {n w : Nat} {xs : List PV} (h : ∀ x ∈ xs, Pw n w x) (hl : xs.length ≤ w) : Pw (n + 1) w (.lst xs) := by
  obtain ⟨h1, h2, h3⟩ := Pws_of h
  exact ⟨h1, by show dpts xs + 1 ≤ n + 1; omega, by show max xs.length (wids xs) ≤ w; omega⟩
theorem Pw.mem {n w : Nat} {xs : List PV} (h : Pw (n + 1) w (.tup xs)) : (∀ x ∈ xs, Pw n w x) ∧ xs.length ≤ w := by
  have h3 : dpts xs + 1 ≤ n + 1 := h.d
  have h4 : max xs.length (wids xs) ≤ w := h.w
  refine ⟨fun x hx => ?_, by omega⟩
  obtain ⟨h1, h2⟩ := pls_mem (xs := xs) h.p hx
  have h5 := wids_mem hx
  exact ⟨h1, by omega, by omega⟩
theorem Pw.Vv {n w : Nat} {v : PV} (h : Pw n w v) (hw : w ≤ 1000) : Vv n v := ⟨h.p, h.d, Nat.le_trans h.w hw⟩
def bentL : List PV := [.tup [], .non, .lst [], .str "row", .str "side", .int 0, .int 1, .bl true, .tup [.str "row"], .tup [.str "row", .tup []], .tup [.str "side", .tup [], .tup []], .tup [.str "rows", .tup [], .tup []], .tup [], .tup [.str "row", .tup [], .non], .tup [.tup [], .tup []], .tup [.str "row", .str "side", .tup []]]
theorem bentL_ok : ∀ v ∈ bentL, Pw 2 3 v := fun v hv => by
  have h : (bentL.all fun v => pl v && decide (dpt v ≤ 2) && decide (wid v ≤ 3)) = true := by decide +kernel
  have h2 := List.all_eq_true.mp h v hv
  rw [Bool.and_eq_true, Bool.and_eq_true, decide_eq_true_eq, decide_eq_true_eq] at h2
  exact ⟨h2.1.1, h2.1.2, h2.2⟩
def BtOk (n : Nat) : Prop := ∀ (w : Nat) (v : PV), Pw n w v → w ≤ 400 → ∀ (D : Nat), n + 3 ≤ D → ∀ (T : Mem) (x y : Int), CupB x y →
  ∃ u x' y', callN prog W D 35 [.ref 0, v] (cup x y :: T) = some (u, cup x' y' :: T) ∧ CupB x' y' ∧ Pw (n + 2) (2 * w + 3) u
theorem bent_leaf {n w : Nat} {u : PV} (h : u ∈ bentL) : Pw (n + 2) (2 * w + 3) u := (bentL_ok u h).mono (by omega) (by omega)
theorem bent_ok : ∀ n : Nat, n ≤ 62 → BtOk n
  | n, hn => fun w v hv hw D hD T x y hc => by
    obtain ⟨k, rfl⟩ : ∃ k, D = k + 2 := ⟨D - 2, by omega⟩
    by_cases ht : isTy .tuple v = true
    · obtain ⟨xs, rfl⟩ : ∃ xs, v = .tup xs := by
        cases v with
        | tup xs => exact ⟨xs, rfl⟩
        | _ => cases ht
      by_cases he : xs = []
      · subst he
        obtain ⟨u, x1, y1, e1, c1, m1⟩ := some_ok (k + 1) (by omega) T hc bentL (by decide) (by decide)
        refine ⟨u, x1, y1, ?_, c1, bent_leaf m1⟩
        have f1 : eqD (cup x y :: T) (.tup []) (.tup []) = some true := rfl
        have f2 : leave (List.length T + 1) u (Cell.lst [.int x1, .int y1] :: T) = some (u, cup x1 y1 :: T) := leave_len rfl
        unfold bentL at e1
        rw [u__law_bent]
        unfold m__law_bent
        clear hv hc c1 m1 ht
        walk_at "evb"
      · obtain ⟨m, rfl⟩ : ∃ m, n = m + 1 := ⟨n - 1, by have : dpts xs + 1 ≤ n := hv.d; omega⟩
        obtain ⟨hx, hl⟩ := hv.mem
        have f1 : ∀ x y, eqD (cup x y :: T) (.tup xs) (.tup []) = some false := fun x y => by
          match xs, he, hv with
          | z :: zs, _, hv => exact eqD_tc _ z zs (m + 1) (hv.Vv (by omega)) (by omega)
        have hlen : 1 ≤ xs.length := by
          cases xs with
          | nil => exact absurd rfl he
          | cons _ _ => simp
        obtain ⟨r0, x0, y0, e0, c0, p0, q0⟩ := roll_ok k (many := 6) T hc (by decide) (by unfold lt2; decide +kernel)
        by_cases h0 : r0 = 0
        · subst h0
          obtain ⟨u, x1, y1, e1, c1, m1⟩ := some_ok (k + 1) (by omega) T c0 bentL (by decide) (by decide)
          refine ⟨u, x1, y1, ?_, c1, bent_leaf m1⟩
          have f2 : leave (List.length T + 1) u (Cell.lst [.int x1, .int y1] :: T) = some (u, cup x1 y1 :: T) := leave_len rfl
          have f3 := f1 x y
          unfold bentL at e1
          rw [u__law_bent]
          unfold m__law_bent
          clear hv hc c1 m1 ht f1 c0 hx he
          walk_at "evb"
        · obtain ⟨at_, x1, y1, e1, c1, p1, q1⟩ := roll_ok k (many := xs.length) T c0 (by omega) (lt2.mono (n := 9) (by unfold lt2; omega) (by decide))
          obtain ⟨way, x2, y2, e2, c2, p2, q2⟩ := roll_ok k (many := 10) T c1 (by decide) (by unfold lt2; decide +kernel)
          obtain ⟨z, ez, mz⟩ := atI_ok p1 q1
          obtain ⟨u, x3, y3, e3, c3, pu⟩ := bent_ok m (by omega) w z (hx z mz) hw (k + 1) (by omega) T x2 y2 c2
          have g3 := f1 x y
          have g4 := fun M h => slc_hi M xs h
          have g5 := fun M l => slc_lo M xs l
          have l1 := cut_len xs none (some at_)
          have l2 := cut_len xs (some (at_ + 1)) none
          have l3 := cut_len xs none (some (at_ + 1))
          have l4 := cut_len xs (some at_) none
          have w1 : (cut xs none (some at_)).length + (cut xs (some (at_ + 1)) none).length ≤ 16777216 := by omega
          have w2 : (cut xs none (some (at_ + 1))).length + (cut xs (some at_) none).length ≤ 16777216 := by omega
          have w3 : (cut xs none (some at_)).length + 1 ≤ 16777216 := by omega
          have w4 : (cut xs none (some at_) ++ [u]).length + (cut xs (some (at_ + 1)) none).length ≤ 16777216 := by
            rw [List.length_append]; simp only [List.length_cons, List.length_nil]; omega
          have g6 : idxOp (cup x2 y2 :: T) (.tup xs) (.int at_) = some z := ez
          have lv : ∀ (v : PV) (a b : Int), leave (List.length T + 1) v (Cell.lst [.int a, .int b] :: T) = some (v, cup a b :: T) := fun v a b => leave_len rfl
          have pm : ∀ l h, ∀ v ∈ cut xs l h, Pw (m + 2) (2 * w + 3) v := fun l h v hv => (hx v (cut_mem hv)).mono (by omega) (by omega)
          have mine : ∀ A B : List PV, (∀ v ∈ A, Pw (m + 2) (2 * w + 3) v) → (∀ v ∈ B, Pw (m + 2) (2 * w + 3) v) → A.length + B.length ≤ 2 * w + 3 → Pw (m + 1 + 2) (2 * w + 3) (.tup (A ++ B)) := fun A B hA hB hl => by
            refine Pw_tup (n := m + 2) (fun v hv => ?_) (by rw [List.length_append]; exact hl)
            rcases List.mem_append.mp hv with h | h
            · exact hA v h
            · exact hB v h
          rw [u__law_bent]
          unfold m__law_bent
          by_cases a0 : way = 0
          · refine ⟨.tup (cut xs none (some at_) ++ cut xs (some (at_ + 1)) none), x2, y2, ?_, c2, mine _ _ (pm _ _) (pm _ _) (by omega)⟩
            clear hv hc ht f1 c0 c1 c2 c3 hx he e3 pu pm mine g6 ez mz p0 q0 p1 q1 p2 q2 l1 l2 l3 l4 w2 w3 w4 hl hlen
            subst a0
            walk_at "evb"
          · by_cases a1 : way = 1
            · refine ⟨.tup (cut xs none (some (at_ + 1)) ++ cut xs (some at_) none), x2, y2, ?_, c2, mine _ _ (pm _ _) (pm _ _) (by omega)⟩
              clear hv hc ht f1 c0 c1 c2 c3 hx he e3 pu pm mine g6 ez mz p0 q0 p1 q1 p2 q2 l1 l2 l3 l4 w1 w3 w4 hl hlen a0
              subst a1
              walk_at "evb"
            · by_cases a2 : way = 2
              · refine ⟨.lst xs, x2, y2, ?_, c2, (Pw_lst hx hl).mono (by omega) (by omega)⟩
                have g7 := fun M => listB_tup M xs
                clear hv hc ht f1 c0 c1 c2 c3 hx he e3 pu pm mine g6 ez mz p0 q0 p1 q1 p2 q2 l1 l2 l3 l4 w1 w2 w3 w4 hl hlen a0 a1
                subst a2
                walk_at "evb"
              · by_cases a3 : way = 3
                · refine ⟨.tup xs.reverse, x2, y2, ?_, c2, (Pw_tup (fun v hv => hx v (List.mem_reverse.mp hv)) (by rw [List.length_reverse]; exact hl)).mono (by omega) (by omega)⟩
                  have g7 := fun M => revT M xs
                  clear hv hc ht f1 c0 c1 c2 c3 hx he e3 pu pm mine g6 ez mz p0 q0 p1 q1 p2 q2 l1 l2 l3 l4 w1 w2 w3 w4 hl hlen a0 a1 a2
                  subst a3
                  walk_at "evb"
                · refine ⟨.tup (cut xs none (some at_) ++ [u] ++ cut xs (some (at_ + 1)) none), x3, y3, ?_, c3, mine _ _ (fun v hv => ?_) (pm _ _) (by rw [List.length_append]; simp only [List.length_cons, List.length_nil]; omega)⟩
                  · clear hv hc ht f1 c0 c1 c2 c3 hx he pu pm mine ez mz p0 q0 p1 q1 p2 q2 l1 l2 l3 l4 w1 w2 hl hlen
                    walk_at "evb"
                  · rcases List.mem_append.mp hv with h | h
                    · exact pm _ _ v h
                    · rw [List.mem_singleton.mp h]; exact pu
    · have ht : isTy .tuple v = false := by simpa using ht
      obtain ⟨u, x1, y1, e1, c1, m1⟩ := some_ok (k + 1) (by omega) T hc bentL (by decide) (by decide)
      refine ⟨u, x1, y1, ?_, c1, bent_leaf m1⟩
      have f2 : leave (List.length T + 1) u (Cell.lst [.int x1, .int y1] :: T) = some (u, cup x1 y1 :: T) := leave_len rfl
      unfold bentL at e1
      rw [u__law_bent]
      unfold m__law_bent
      clear hv hc c1 m1
      cases v with
      | tup xs => cases ht
      | _ => clear ht; walk_at "evb"
  termination_by n => n

/-! ### one drawn build -/
local macro_rules | `(tactic| walk_at "evb") => `(tactic| simp -implicitDefEqProofs only [execs, exec, eval, evals, evalI, conds, bnd_some, bnd_none, bifb_t, bifb_f, bifb_d, bifb_b, iff_t, iff_d, nxt_nx, nxt_rt, binop, cmpop, addOp_ii, addOp_tt, addOp_ll, subOp_ii, mulOp_ii, fdivOp_ii, modOp_ii, cmpI_ii, tru_bl, tru_int, absB_i, intB_i, asM_int, asM_bl, asM_tup, asM_false, isOp_n, isOp_bb, isNon_non, isNon_tup, isNon_int, isNon_bl, isNon_lst, isNon_ref, isNon_rol, isNon_str, isNon_fr, setAll_nil, setAll_cons, bindT_nm, bindT_tp, fin_rt, fin_nx, leave_same, bltOp, idx_tup0, idx_tup1, idx_tup2, idx_tup3, idx_lst0, idx_lst1, idx_lst2, idx_lst3, eqD_ii, eqD_bb, eqD_fr, Option.map_some, Option.map_none, Option.bind_some, List.getElem?_cons_zero, List.getElem?_cons_succ, List.set_cons_zero, List.set_cons_succ, List.length_cons, List.length_nil, if_true, if_false, decide_true, decide_false, Bool.not_true, Bool.not_false, decide_eq_true_eq, sizeL, Nat.reduceAdd, Nat.reduceLeDiff, Nat.zero_add, beq_self_eq_true, seqG_tup, seqG_lst, lenB_tup, lenB_lst, idx_cup0, idx_cup1, setAt0, setAt1, cup, isTy, Bool.false_eq_true, newL_f, newL_t, fin_rtk, List.nil_append, wipeE, Int.reduceNe, Int.reduceEq, Int.reduceLT, Int.reduceLE, Int.reduceAdd, Int.reduceSub, Int.reduceMul, Int.reduceNeg, Int.reduceGT, cmpop, idx_fr0, idx_fr1, fr_0', fr_1', k_ONE, k_NONE, k_DIGITS, k_PIECES, k_DEEP, k_ROW, k_SIDE, List.append_nil, List.cons_append, not_true_eq_false, not_false_eq_true, ite_true, ite_false, gt_iff_lt, ge_iff_le, eq_self, *])
mutual
theorem wid_pvB : ∀ b : Pb, okB b → wid (pvB b) ≤ cnt b + 1
  | .pc, _ => Nat.zero_le _
  | .nd r ps, h => by
    have h1 := wids_pvB ps h.2
    have hl := cnts_len ps h.2
    show max ((pvBs ps).length + 1) (max (wid (wrd r)) (wids (pvBs ps))) ≤ cnts ps + 1
    have : wid (wrd r) = 0 := by cases r <;> rfl
    rw [pvBs_len]
    omega
theorem wids_pvB : ∀ ps : List Pb, okBs ps → wids (pvBs ps) ≤ cnts ps + 1
  | [], _ => Nat.zero_le _
  | b :: bs, h => by
    have h1 := wid_pvB b h.1
    have h2 := wids_pvB bs h.2
    show max (wid (pvB b)) (wids (pvBs bs)) ≤ cnt b + cnts bs + 1
    omega
end
theorem Pw_pvB {b : Pb} (h : okB b) (hc : cnt b ≤ 60) : Pw 60 61 (pvB b) := by
  have v := Vv_pvB b h (by omega)
  have w := wid_pvB b h
  exact ⟨v.p, Nat.le_trans v.d hc, by omega⟩
theorem need_both_ok (D : Nat) (hD : 4 ≤ D) {p q : Rat} (M : Mem) (hp : sm 132 p) (hq : sm 132 q) : callN prog W D 9 [fr p, fr q] M = some (.non, M) := by
  obtain ⟨k, rfl⟩ : ∃ k, D = k + 4 := ⟨D - 4, by omega⟩
  have f1 : ∀ {p : Rat}, sm 132 p → callN prog W (k + 3) 8 [fr p] M = some (.non, M) := fun {p} h => by
    have f2 := fun k => fits_fraction_ok k M h
    rw [u_need_fraction]
    unfold m_need_fraction
    clear h hp hq
    walk_at "evb"
  have f3 := f1 hp
  have f4 := f1 hq
  rw [u_need_both]
  unfold m_need_both
  clear f1 hp hq
  walk_at "evb"
theorem is_fraction_ok (D : Nat) (hD : 4 ≤ D) {p : Rat} (M : Mem) (hp : sm 132 p) : callN prog W D 10 [fr p] M = some (.bl true, M) := by
  obtain ⟨k, rfl⟩ : ∃ k, D = k + 3 := ⟨D - 3, by omega⟩
  have f2 := fun k => fits_fraction_ok k M hp
  rw [u_is_fraction]
  unfold m_is_fraction
  clear hp
  walk_at "evb"
theorem plus_ok (D : Nat) (hD : 6 ≤ D) {p q : Rat} (M : Mem) (hp : sm 132 p) (hq : sm 132 q) : callN prog W D 11 [fr p, fr q] M = some (fr (p + q), M) := by
  obtain ⟨k, rfl⟩ : ∃ k, D = k + 5 := ⟨D - 5, by omega⟩
  have f1 := need_both_ok (k + 4) (by omega) M hp hq
  have f2 := fun k => sum_of_ok k M hp hq (by decide)
  rw [u_plus]
  unfold m_plus
  clear hp hq
  walk_at "evb"
theorem over_ok (D : Nat) (hD : 6 ≤ D) {p q : Rat} (M : Mem) (hp : sm 132 p) (hq : sm 132 q) (h0 : q ≠ 0) : callN prog W D 12 [fr p, fr q] M = some (fr (p / q), M) := by
  obtain ⟨k, rfl⟩ : ∃ k, D = k + 5 := ⟨D - 5, by omega⟩
  have f1 := need_both_ok (k + 4) (by omega) M hp hq
  have f2 := fun k => part_of_ok k M hp hq (by decide) h0
  have f3 : ¬ q = 0 := h0
  rw [u_over]
  unfold m_over
  clear hp hq
  walk_at "evb"
theorem is_less_ok (D : Nat) (hD : 6 ≤ D) {p q : Rat} (M : Mem) (hp : sm 132 p) (hq : sm 132 q) : callN prog W D 13 [fr p, fr q] M = some (.bl (decide (p < q)), M) := by
  obtain ⟨k, rfl⟩ : ∃ k, D = k + 5 := ⟨D - 5, by omega⟩
  have f1 := need_both_ok (k + 4) (by omega) M hp hq
  have f2 := fun k => is_under_ok k M hp hq (by decide)
  rw [u_is_less]
  unfold m_is_less
  clear hp hq
  walk_at "evb"
theorem maxt_fr (M : Mem) (q : Rat) : maxtB M [fr q] = some (.int (max q.num (q.den : Int))) := rfl
theorem nat_fr (n : Nat) : fr (n : Rat) = .tup [.int n, .int 1] := rfl
theorem inv_fr (n : Nat) (h : 1 ≤ n) : PV.tup [.int 1, .int n] = fr (1 / (n : Rat)) := fr_inv (p := (n : Rat)) (by exact_mod_cast h)
def fbB : Ss := (Ss.cons (.par 6 7 (.var 7) (.bin .add false (.var 6) (.var 7))) .nil)
theorem fb_loop (call : Nat → List PV → Mem → Option (PV × Mem)) (M : Mem) (e0 e1 e2 e3 e4 e5 e9 : Option PV) : ∀ (n j : Nat) (a : Int) (o : Option PV), ∃ o', forL (.nm 8) [] (execs call W fbB) (rngI a n) [e0, e1, e2, e3, e4, e5, some (.int (fbo j : Nat)), some (.int (fbo (j + 1) : Nat)), o, e9] M =
    some (.nx [e0, e1, e2, e3, e4, e5, some (.int (fbo (j + n) : Nat)), some (.int (fbo (j + n + 1) : Nat)), o', e9] M)
  | 0, j, a, o => ⟨o, by show forL _ _ _ [] _ _ = _; rw [forL_n]; rfl⟩
  | n + 1, j, a, o => by
    obtain ⟨o', e⟩ := fb_loop call M e0 e1 e2 e3 e4 e5 e9 n (j + 1) (a + 1) (some (.int a))
    refine ⟨o', ?_⟩
    have st : execs call W fbB [e0, e1, e2, e3, e4, e5, some (.int (fbo j : Nat)), some (.int (fbo (j + 1) : Nat)), some (.int a), e9] M = some (.nx [e0, e1, e2, e3, e4, e5, some (.int (fbo (j + 1) : Nat)), some (.int (fbo (j + 1 + 1) : Nat)), some (.int a), e9] M) := by
      have e2 : ((fbo (j + 1 + 1) : Nat) : Int) = (fbo j : Int) + (fbo (j + 1) : Int) := by
        rw [show fbo (j + 1 + 1) = fbo j + fbo (j + 1) from rfl]; omega
      rw [e2]
      unfold fbB
      clear e e2
      generalize ((fbo j : Nat) : Int) = A
      generalize ((fbo (j + 1) : Nat) : Int) = B
      walk_at "evb"
    show forL _ _ _ (.int a :: rngI (a + 1) n) _ _ = _
    rw [forL_c, bindT_nm, Option.bind_some]
    show nxt (execs call W fbB [e0, e1, e2, e3, e4, e5, some (.int (fbo j : Nat)), some (.int (fbo (j + 1) : Nat)), some (.int a), e9] M) _ = _
    rw [st, nxt_nx, e, show j + 1 + n = j + (n + 1) by omega]
def rvB : Ss := (Ss.cons (.ite (.not (.call 27 (.cons (.call 19 (.cons (.var 9) .nil)) (.cons (.cmp .gt (.call 33 (.cons (.var 9) (.cons (.cst (.int (0))) .nil))) (.cst (.int (0)))) .nil)))) (.cons (.ret (.cst (.bl false))) .nil) .nil) .nil)
theorem val_loop (k : Nat) (hk : 70 ≤ k) (M : Mem) (e0 e1 e2 e3 e4 e5 e6 e7 e8 : Option PV) : ∀ (vs : List PV) (o : Option PV), (∀ v ∈ vs, Vv 64 v) → ∃ o', forL (.nm 9) [] (execs (callN prog W k) W rvB) vs [e0, e1, e2, e3, e4, e5, e6, e7, e8, o] M =
    some (.nx [e0, e1, e2, e3, e4, e5, e6, e7, e8, o'] M)
  | [], o, _ => ⟨o, by rw [forL_n]⟩
  | v :: vs, o, h => by
    obtain ⟨o', e⟩ := val_loop k hk M e0 e1 e2 e3 e4 e5 e6 e7 e8 vs (some v) fun u hu => h u (List.mem_cons_of_mem _ hu)
    refine ⟨o', ?_⟩
    have hv := h v List.mem_cons_self
    have f1 := is_build_ok 64 v hv (Nat.le_refl _) k (by omega) M
    have f2 := l_pieces0 64 v hv (Nat.le_refl _) k (by omega) M
    have f3 : callN prog W k 27 [.bl (decide (0 < K60 v)), .bl (decide (0 < K60 v))] M = some (.bl true, M) := by
      obtain ⟨j, rfl⟩ : ∃ j, k = j + 2 := ⟨k - 2, by omega⟩
      exact like_ok j _ M rfl (Nat.zero_le _)
    have st : execs (callN prog W k) W rvB [e0, e1, e2, e3, e4, e5, e6, e7, e8, some v] M = some (.nx [e0, e1, e2, e3, e4, e5, e6, e7, e8, some v] M) := by
      unfold rvB
      clear e hv h hk
      generalize K60 v = K at *
      walk_at "evb"
    rw [forL_c, bindT_nm, Option.bind_some]
    show nxt (execs _ W rvB [e0, e1, e2, e3, e4, e5, e6, e7, e8, some v] M) _ = _
    rw [st, nxt_nx, e]
def btC : E := (E.call 35 (.cons (.var 0) (.cons (.var 2) .nil)))
theorem vl_row1 (b : Pb) : vl (.nd true [b, .pc]) = vl b + 1 := by
  show vl b + (1 + 0) = _
  rw [Rat.add_zero]
theorem vl_side1 (b : Pb) : vl (.nd false [.pc, b]) = 1 / (1 + 1 / vl b) := by
  show 1 / (1 / 1 + (1 / vl b + 0)) = _
  rw [Rat.add_zero, show (1 : Rat) / 1 = 1 by decide +kernel]
theorem right_ok (D : Nat) (hD : 80 ≤ D) {x y : Int} (hc : CupB x y) (many : Nat) (h1 : 1 ≤ many) (h60 : many ≤ 60) :
    ∃ x' y', callN prog W D 36 [.ref 0, .int many] [cup x y] = some (.bl true, [cup x' y']) ∧ CupB x' y' := by
  obtain ⟨k, rfl⟩ : ∃ k, D = k + 1 := ⟨D - 1, by omega⟩
  obtain ⟨b, x1, y1, e1, c1, ok, cn⟩ := build_ok 60 (by decide) many h1 h60 k (by omega) [] x y (fun _ => rfl) hc
  have hp := vl_pos b ok
  have Fv := vl_Fb b ok
  have s0 : sm 100 (vl b) := Fv.sm (by omega)
  have s1 : sm 100 (1 / vl b) := (Fb_inv hp Fv).sm (by omega)
  have okt := okB_tn b ok
  have cnt' : cnt (tn b) ≤ 60 := by rw [cnt_tn]; omega
  have cn60 : cnt b ≤ 60 := by omega
  have T1 := fun M => isb_ok ok cn60 k (by omega) M
  have T2 := fun M => value_ok ok cn60 k (by omega) M
  have T3 := fun M => pib_ok ok cn60 k (by omega) M
  have T4 := fun M => turned_ok ok cn60 k (by omega) M
  have T5 := fun M => value_ok okt cnt' k (by omega) M
  have T6 := fun M => turned_ok okt cnt' k (by omega) M
  have T7 := fun M => pib_ok okt cnt' k (by omega) M
  have T8 := fun M => worth_ok 60 b ok cn60 (by decide) k (by omega) M
  have T9 := fun M => turn_ok 60 b ok cn60 (by decide) k (by omega) M
  rw [vl_tn] at T5
  rw [tn_tn] at T6
  rw [cnt_tn] at T7
  rw [cn] at T3 T7
  have pb := Pw_pvB ok cn60
  have pt := Pw_pvB okt cnt'
  have LK : ∀ M, callN prog W k 27 [.lst [.bl true, fr (vl b), .int many, pvB (tn b), fr (1 / vl b), pvB b, .int many], .lst [.bl true, fr (vl b), .int many, pvB (tn b), fr (1 / vl b), pvB b, .int many]] M = some (.bl true, M) := fun M => by
    obtain ⟨j, rfl⟩ : ∃ j, k = j + 2 := ⟨k - 2, by omega⟩
    refine like_ok j _ M ?_ ?_
    · show (true && (pl (fr (vl b)) && (true && (pl (pvB (tn b)) && (pl (fr (1 / vl b)) && (pl (pvB b) && (true && true))))))) = true
      rw [pb.p, pt.p]; rfl
    · show max 0 (max 1 (max 0 (max (dpt (pvB (tn b))) (max 1 (max (dpt (pvB b)) (max 0 0)))))) + 1 ≤ j
      have := pb.d
      have := pt.d
      omega
  have T10 := fun M => is_fraction_ok k (by omega) M (s0.mono (by decide : 100 ≤ 132))
  have fi := fr_inv hp
  -- sizes
  obtain ⟨b1, b2⟩ := vl_bd b ok
  rw [cn] at b1 b2 Fv
  have nm : 0 < (vl b).num := by
    have := (Rat.lt_iff 0 (vl b)).mp hp
    simpa using this
  generalize hnn : ((many : Int) - 0).toNat = nn
  have hn1 : nn = many := by omega
  have hmax : ¬ ((fbo (1 + nn) : Nat) : Int) < max (vl b).num ((vl b).den : Int) := by
    have := Fv.a
    have := Fv.b
    rw [hn1, Nat.add_comm 1 many]
    omega
  have U1 := fun M => l_under_ok (k - 1) M (p := vl b) (q := 1 / (many : Rat)) s0 (b := 100) (by
    have hz : (0 : Rat) < (many : Rat) := by exact_mod_cast h1
    obtain ⟨i1, i2⟩ := inv_pos_eq hz
    have d1 : ((many : Rat)).den = 1 := rfl
    have n1 : ((many : Rat)).num = many := rfl
    have e100 : (60 : Nat) < 2 ^ 100 := by decide +kernel
    refine ⟨?_, ?_⟩
    · unfold lt2; rw [i1, d1]; show 1 < 2 ^ 100; omega
    · rw [n1] at i2; omega) (by decide)
  have U2 := fun M => l_under_ok (k - 1) M (p := (many : Rat)) (q := vl b) (a := 100) (by
    have e100 : (60 : Nat) < 2 ^ 100 := by decide +kernel
    refine ⟨?_, ?_⟩
    · show (many : Int).natAbs < 2 ^ 100; omega
    · show 1 < 2 ^ 100; omega) s0 (by decide)
  have hmr : (0 : Rat) < (many : Rat) := by exact_mod_cast h1
  have nu1 : ¬ vl b < 1 / (many : Rat) := by
    have := inv_le (show 0 < 1 / vl b by rw [Rat.div_def, Rat.one_mul]; exact Rat.inv_pos.mpr hp) b2
    have e : 1 / (1 / vl b) = vl b := by grind
    rw [e] at this
    exact Rat.not_lt.mpr this
  have nu2 : ¬ (many : Rat) < vl b := Rat.not_lt.mpr b1
  rw [decide_eq_false nu1, show k - 1 + 1 = k by omega] at U1
  rw [decide_eq_false nu2, show k - 1 + 1 = k by omega] at U2
  rw [← inv_fr many h1] at U1
  rw [nat_fr] at U2
  have mx := fun M => maxt_fr M (vl b)
  obtain ⟨o8, FL⟩ := fb_loop (callN prog W k) [cup x1 y1] (some (.ref 0)) (some (.int many)) (some (pvB b)) (some (fr (vl b))) (some (pvB (tn b))) (some (.lst [.bl true, fr (vl b), .int many, pvB (tn b), fr (1 / vl b), pvB b, .int many])) none nn 1 0 none
  change forL _ _ _ _ [_, _, _, _, _, _, some (.int 1), some (.int 1), none, none] _ = _ at FL
  -- bent ones
  have bents : ∀ e3 e4 e5 e6 e7 e9, ∃ vs x' y', lcL (.nm 8) [] (fun _ M => some (true, M)) (eval (callN prog W k) btC) [some (.ref 0), some (.int many), some (pvB b), e3, e4, e5, e6, e7, none, e9] (rngI 0 (8 : Int).toNat) [] [cup x1 y1] = some (vs, [cup x' y']) ∧ vs.length = 8 ∧ (∀ v ∈ vs, Vv 64 v) ∧ CupB x' y' := fun e3 e4 e5 e6 e7 e9 => by
    obtain ⟨vs, M', el, hl, hv, x', y', rfl, hc'⟩ := lcL_draw (t := .nm 8) (cond := fun _ M => some (true, M)) (elt := eval (callN prog W k) btC) (env := [some (.ref 0), some (.int many), some (pvB b), e3, e4, e5, e6, e7, none, e9]) (fun v => Vv 64 v) (fun M => ∃ x y, M = [cup x y] ∧ CupB x y) (rngI 0 (8 : Int).toNat) [] [cup x1 y1] ⟨x1, y1, rfl, c1⟩ (by
      rintro v hv _ ⟨x, y, rfl, hc⟩
      obtain ⟨u, x2, y2, e2, c2, pu⟩ := bent_ok 60 (by decide) 61 (pvB b) pb (by decide) k (by omega) [] x y hc
      refine ⟨_, u, [cup x2 y2], bindT_nm _ _, rfl, ?_, (pu.mono (by decide : 60 + 2 ≤ 64) (Nat.le_refl _)).Vv (by decide), x2, y2, rfl, c2⟩
      unfold btC
      show eval _ _ [some (.ref 0), some (.int many), some (pvB b), e3, e4, e5, e6, e7, some v, e9] _ = _
      clear LK T1 T2 T3 T4 T5 T6 T7 T8 T9 T10 U1 U2 mx FL e1 fi
      walk_at "evb")
    rw [rngI_len] at hl
    exact ⟨vs, x', y', el, hl, hv, hc'⟩
  obtain ⟨xs, hxs⟩ : ∃ xs, pvB b = .tup xs := by cases b <;> exact ⟨_, rfl⟩
  have LB := fun M => listB_tup M xs
  rw [← hxs] at LB
  have own : ∀ v ∈ [PV.lst xs, .non, .str "row", .int 5, .tup [pvB b], .tup [.str "row", pvB b], .tup [.str "side", pvB b, pvB b]], Vv 64 v := by
    have V : ∀ v : PV, Pw 61 61 v → Vv 64 v := fun v h => (h.mono (by decide : 61 ≤ 64) (Nat.le_refl _)).Vv (by decide)
    have srow : Pw 60 61 (.str "row") := ⟨by decide +kernel, Nat.zero_le _, Nat.zero_le _⟩
    have sside : Pw 60 61 (.str "side") := ⟨by decide +kernel, Nat.zero_le _, Nat.zero_le _⟩
    intro v hv
    simp only [List.mem_cons, List.not_mem_nil, or_false] at hv
    rcases hv with rfl | rfl | rfl | rfl | rfl | rfl | rfl
    · have pb' := pb
      rw [hxs] at pb'
      have pb2 : Pw (60 + 1) 61 (.tup xs) := pb'.mono (by decide) (Nat.le_refl _)
      exact V _ (Pw_lst pb2.mem.1 pb2.mem.2)
    · exact V _ ⟨rfl, Nat.zero_le _, Nat.zero_le _⟩
    · exact V _ (srow.mono (by decide) (Nat.le_refl _))
    · exact V _ ⟨rfl, Nat.zero_le _, Nat.zero_le _⟩
    · refine V _ (Pw_tup (n := 60) (fun u hu => ?_) (by simp))
      rw [List.mem_singleton.mp hu]; exact pb
    · refine V _ (Pw_tup (n := 60) (fun u hu => ?_) (by simp))
      simp only [List.mem_cons, List.not_mem_nil, or_false] at hu
      rcases hu with rfl | rfl
      · exact srow
      · exact pb
    · refine V _ (Pw_tup (n := 60) (fun u hu => ?_) (by simp))
      simp only [List.mem_cons, List.not_mem_nil, or_false] at hu
      rcases hu with rfl | rfl | rfl
      · exact sside
      · exact pb
      · exact pb
  have bt : ∀ env, bindT (.tp [6, 7]) (fr 1) env = some ((env.set 6 (some (.int 1))).set 7 (some (.int 1))) := fun env => rfl
  have b8 : (decide (-2 ^ 62 ≤ (0 : Int)) && decide ((0 : Int) < 2 ^ 62) && decide (-2 ^ 62 ≤ (8 : Int)) && decide ((8 : Int) < 2 ^ 62)) = true := by decide
  have bm : (decide (-2 ^ 62 ≤ (0 : Int)) && decide ((0 : Int) < 2 ^ 62) && decide (-2 ^ 62 ≤ (many : Int)) && decide ((many : Int) < 2 ^ 62)) = true := by
    have e : (2 : Int) ^ 62 = 4611686018427387904 := rfl
    rw [e]
    simp only [Bool.and_eq_true, decide_eq_true_eq]
    omega
  by_cases hlt : many < 60
  · have hlt' : (many : Int) < 60 := by omega
    have okr : okB (.nd true [b, .pc]) := ⟨by simp, ok, trivial, trivial⟩
    have oks : okB (.nd false [.pc, b]) := ⟨by simp, trivial, ok, trivial⟩
    have V1 := fun M => value_ok okr (by show cnt b + (1 + 0) ≤ 60; omega) k (by omega) M
    have V2 := fun M => value_ok oks (by show 1 + (cnt b + 0) ≤ 60; omega) k (by omega) M
    rw [vl_row1] at V1
    rw [vl_side1] at V2
    change ∀ M, callN prog W k _ [.tup [.str "row", pvB b, .tup []]] M = _ at V1
    change ∀ M, callN prog W k _ [.tup [.str "side", .tup [], pvB b]] M = _ at V2
    have q1 := fun M => plus_ok k (by omega) M (s0.mono (by decide : 100 ≤ 132)) (sm_1 132 (by decide))
    have q2 := fun M => over_ok k (by omega) M (sm_1 132 (by decide)) (s0.mono (by decide : 100 ≤ 132)) (by intro z; rw [z] at hp; exact absurd hp (by decide))
    have q3 := fun M => plus_ok k (by omega) M (sm_1 132 (by decide)) (s1.mono (by decide : 100 ≤ 132))
    have ip : 0 < 1 / vl b := by rw [Rat.div_def, Rat.one_mul]; exact Rat.inv_pos.mpr hp
    have q4 := fun M => over_ok k (by omega) M (sm_1 132 (by decide)) ((sm_add (sm_1 1 (by decide)) s1).mono (by decide : 1 + 100 + 1 ≤ 132)) (by intro z; grind)
    have LK2 : ∀ M, callN prog W k 27 [.lst [fr (vl b + 1), fr (1 / (1 + 1 / vl b))], .lst [fr (vl b + 1), fr (1 / (1 + 1 / vl b))]] M = some (.bl true, M) := fun M => by
      obtain ⟨j, rfl⟩ : ∃ j, k = j + 2 := ⟨k - 2, by omega⟩
      exact like_ok j _ M rfl (by show 2 ≤ j; omega)
    obtain ⟨vs, x2, y2, e2, hl2, hv2, c2⟩ := bents (some (fr (vl b))) (some (pvB (tn b))) (some (.lst [fr (vl b + 1), fr (1 / (1 + 1 / vl b))])) (some (.int (fbo (1 + nn) : Nat))) (some (.int (fbo (1 + nn + 1) : Nat))) none
    obtain ⟨o9, e9⟩ := val_loop k (by omega) [cup x2 y2] (some (.ref 0)) (some (.int many)) (some (pvB b)) (some (fr (vl b))) (some (pvB (tn b))) (some (.lst [fr (vl b + 1), fr (1 / (1 + 1 / vl b))])) (some (.int (fbo (1 + nn) : Nat))) (some (.int (fbo (1 + nn + 1) : Nat))) o8 (vs ++ [PV.lst xs, .non, .str "row", .int 5, .tup [pvB b], .tup [.str "row", pvB b], .tup [.str "side", pvB b, pvB b]]) none (fun v hv => by
      rcases List.mem_append.mp hv with h | h
      · exact hv2 v h
      · exact own v h)
    refine ⟨x2, y2, ?_, c2⟩
    have hz : vs.length ≤ 16777216 := by omega
    have hz7 : vs.length + 7 ≤ 16777216 := by omega
    have lv : leave 1 (.bl true) [Cell.lst [.int x2, .int y2]] = some (.bl true, [cup x2 y2]) := rfl
    rw [u__law_right]
    unfold m__law_right
    rw [show (Ss.cons (.par 6 7 (.var 7) (.bin .add false (.var 6) (.var 7))) .nil) = fbB from rfl, show (Ss.cons (.ite (.not (.call 27 (.cons (.call 19 (.cons (.var 9) .nil)) (.cons (.cmp .gt (.call 33 (.cons (.var 9) (.cons (.cst (.int (0))) .nil))) (.cst (.int (0)))) .nil)))) (.cons (.ret (.cst (.bl false))) .nil) .nil) .nil) = rvB from rfl, show (E.call 35 (.cons (.var 0) (.cons (.var 2) .nil))) = btC from rfl]
    generalize fbB = B1 at *
    generalize rvB = B2 at *
    generalize btC = C1 at *
    clear bents own hl2 hv2 c2 hc c1 ok cn hp Fv s0 s1 okt cnt' cn60 pb pt b1 b2 nm hmr nu1 nu2 okr oks ip hxs hlt h1 h60 hn1
    generalize pvB b = vb at *
    generalize pvB (tn b) = vt at *
    generalize vl b = vq at *
    generalize ((fbo (1 + nn) : Nat) : Int) = F1 at *
    generalize ((fbo (1 + nn + 1) : Nat) : Int) = F2 at *
    walk_at "evb"
  · have hlt' : ¬ (many : Int) < 60 := by omega
    obtain ⟨vs, x2, y2, e2, hl2, hv2, c2⟩ := bents (some (fr (vl b))) (some (pvB (tn b))) (some (.lst [.bl true, fr (vl b), .int many, pvB (tn b), fr (1 / vl b), pvB b, .int many])) (some (.int (fbo (1 + nn) : Nat))) (some (.int (fbo (1 + nn + 1) : Nat))) none
    obtain ⟨o9, e9⟩ := val_loop k (by omega) [cup x2 y2] (some (.ref 0)) (some (.int many)) (some (pvB b)) (some (fr (vl b))) (some (pvB (tn b))) (some (.lst [.bl true, fr (vl b), .int many, pvB (tn b), fr (1 / vl b), pvB b, .int many])) (some (.int (fbo (1 + nn) : Nat))) (some (.int (fbo (1 + nn + 1) : Nat))) o8 (vs ++ [PV.lst xs, .non, .str "row", .int 5, .tup [pvB b], .tup [.str "row", pvB b], .tup [.str "side", pvB b, pvB b]]) none (fun v hv => by
      rcases List.mem_append.mp hv with h | h
      · exact hv2 v h
      · exact own v h)
    refine ⟨x2, y2, ?_, c2⟩
    have hz : vs.length ≤ 16777216 := by omega
    have hz7 : vs.length + 7 ≤ 16777216 := by omega
    have lv : leave 1 (.bl true) [Cell.lst [.int x2, .int y2]] = some (.bl true, [cup x2 y2]) := rfl
    rw [u__law_right]
    unfold m__law_right
    rw [show (Ss.cons (.par 6 7 (.var 7) (.bin .add false (.var 6) (.var 7))) .nil) = fbB from rfl, show (Ss.cons (.ite (.not (.call 27 (.cons (.call 19 (.cons (.var 9) .nil)) (.cons (.cmp .gt (.call 33 (.cons (.var 9) (.cons (.cst (.int (0))) .nil))) (.cst (.int (0)))) .nil)))) (.cons (.ret (.cst (.bl false))) .nil) .nil) .nil) = rvB from rfl, show (E.call 35 (.cons (.var 0) (.cons (.var 2) .nil))) = btC from rfl]
    generalize fbB = B1 at *
    generalize rvB = B2 at *
    generalize btC = C1 at *
    clear bents own hl2 hv2 c2 hc c1 ok cn hp Fv s0 s1 okt cnt' cn60 pb pt b1 b2 nm hmr nu1 nu2 hxs hlt h1 h60 hn1
    generalize pvB b = vb at *
    generalize pvB (tn b) = vt at *
    generalize vl b = vq at *
    generalize ((fbo (1 + nn) : Nat) : Int) = F1 at *
    generalize ((fbo (1 + nn + 1) : Nat) : Int) = F2 at *
    walk_at "evb"

/-! ### written builds, the law -/
local macro_rules | `(tactic| walk_at "evb") => `(tactic| simp -implicitDefEqProofs only [execs, exec, eval, evals, evalI, conds, bnd_some, bnd_none, bifb_t, bifb_f, bifb_d, bifb_b, iff_t, iff_d, nxt_nx, nxt_rt, binop, cmpop, addOp_ii, addOp_tt, addOp_ll, subOp_ii, mulOp_ii, fdivOp_ii, modOp_ii, cmpI_ii, tru_bl, tru_int, absB_i, intB_i, asM_int, asM_bl, asM_tup, asM_false, isOp_n, isOp_bb, isNon_non, isNon_tup, isNon_int, isNon_bl, isNon_lst, isNon_ref, isNon_rol, isNon_str, isNon_fr, setAll_nil, setAll_cons, bindT_nm, bindT_tp, fin_rt, fin_nx, leave_same, bltOp, idx_tup0, idx_tup1, idx_tup2, idx_tup3, idx_lst0, idx_lst1, idx_lst2, idx_lst3, eqD_ii, eqD_bb, eqD_fr, Option.map_some, Option.map_none, Option.bind_some, List.getElem?_cons_zero, List.getElem?_cons_succ, List.set_cons_zero, List.set_cons_succ, List.length_cons, List.length_nil, if_true, if_false, decide_true, decide_false, Bool.not_true, Bool.not_false, decide_eq_true_eq, sizeL, Nat.reduceAdd, Nat.reduceLeDiff, Nat.zero_add, beq_self_eq_true, seqG_tup, seqG_lst, lenB_tup, lenB_lst, idx_cup0, idx_cup1, setAt0, setAt1, cup, isTy, Bool.false_eq_true, newL_f, newL_t, fin_rtk, List.nil_append, wipeE, Int.reduceNe, Int.reduceEq, Int.reduceLT, Int.reduceLE, Int.reduceAdd, Int.reduceSub, Int.reduceMul, Int.reduceNeg, Int.reduceGT, cmpop, idx_fr0, idx_fr1, fr_0', fr_1', k_ONE, k_NONE, k_DIGITS, k_PIECES, k_DEEP, k_ROW, k_SIDE, List.append_nil, List.cons_append, not_true_eq_false, not_false_eq_true, ite_true, ite_false, gt_iff_lt, ge_iff_le, eq_self, *])
def b0 : Pb := .nd true [.pc, .nd false [.pc, .pc]]
def bS (n : Nat) : Pb := .nd false (List.replicate n .pc)
def bR (n : Nat) : Pb := .nd true (List.replicate n .pc)
theorem pcs_rep : ∀ n : Nat, pvBs (List.replicate n .pc) = List.replicate n (.tup []) ∧ cnts (List.replicate n .pc) = n ∧ okBs (List.replicate n .pc) ∧ ∀ r, sV r (List.replicate n .pc) = (n : Rat)
  | 0 => ⟨rfl, rfl, trivial, fun _ => rfl⟩
  | n + 1 => by
    obtain ⟨h1, h2, h3, h4⟩ := pcs_rep n
    rw [List.replicate_succ, List.replicate_succ]
    refine ⟨?_, ?_, ⟨trivial, h3⟩, fun r => ?_⟩
    · show PV.tup [] :: pvBs _ = _; rw [h1]
    · show 1 + cnts _ = _; rw [h2]; omega
    · show (if r then (1 : Rat) else 1 / 1) + sV r _ = _
      rw [h4, show (1 : Rat) / 1 = 1 by decide +kernel, ite_self, show ((n + 1 : Nat) : Rat) = (n : Rat) + 1 by rw [Rat.natCast_add]; rfl, Rat.add_comm]
theorem okR {n : Nat} (r : Bool) (h : 2 ≤ n) : okB (.nd r (List.replicate n .pc)) := ⟨by rw [List.length_replicate]; exact h, (pcs_rep n).2.2.1⟩
theorem cntR (r : Bool) (n : Nat) : cnt (.nd r (List.replicate n .pc)) = n := (pcs_rep n).2.1
theorem pvR (r : Bool) (n : Nat) : pvB (.nd r (List.replicate n .pc)) = .tup (wrd r :: List.replicate n (.tup [])) := by
  show PV.tup (wrd r :: pvBs _) = _
  rw [(pcs_rep n).1]
theorem vlR (n : Nat) : vl (.nd true (List.replicate n .pc)) = (n : Rat) := (pcs_rep n).2.2.2 true
theorem vlS (n : Nat) : vl (.nd false (List.replicate n .pc)) = 1 / (n : Rat) := by
  show 1 / sV false _ = _
  rw [(pcs_rep n).2.2.2 false]
theorem mul_pc (M : Mem) (n : Int) (h : 2 ≤ n) (h2 : n ≤ 1000) : mulOp M (.tup [.tup []]) (.int n) = some (.tup (List.replicate n.toNat (.tup []))) := by
  show (if (decide (2 ≤ n) && decide (n ≤ 1000) && decide (1 ≤ 1000)) = true then some (PV.tup (List.replicate n.toNat [PV.tup []]).flatten) else none) = _
  rw [decide_eq_true h, decide_eq_true h2, if_pos (by rfl)]
  congr 2
  generalize n.toNat = m
  induction m with
  | zero => rfl
  | succ m ih => rw [List.replicate_succ, List.replicate_succ, List.flatten_cons, ih]; rfl
theorem fr_lit {q : Rat} {a b : Int} (h1 : q.num = a) (h2 : (q.den : Int) = b) : fr q = .tup [.int a, .int b] := by unfold fr; rw [h1, h2]
theorem lk (k : Nat) (hk : 70 ≤ k) (v : PV) (M : Mem) (hp : pl v = true) (hd : dpt v ≤ 66) : callN prog W k 27 [v, v] M = some (.bl true, M) := by
  obtain ⟨j, rfl⟩ : ∃ j, k = j + 2 := ⟨k - 2, by omega⟩
  exact like_ok j v M hp (by omega)
def fX : List PV := [.bl true, .bl false, .tup [.int 3, .int 2], .int 3, .tup [.str "side", .tup [], .tup [.str "row", .tup [], .tup []]], .tup [.int 2, .int 3]]
theorem first_ok (D : Nat) (hD : 80 ≤ D) : callN prog W D 37 [] [] = some (.bl true, []) := by
  obtain ⟨k, rfl⟩ : ∃ k, D = k + 1 := ⟨D - 1, by omega⟩
  have ok0 : okB b0 := ⟨by decide, trivial, ⟨by decide, trivial, trivial, trivial⟩, trivial⟩
  have c0 : cnt b0 ≤ 60 := by decide
  have okt := okB_tn b0 ok0
  have ct : cnt (tn b0) ≤ 60 := by decide
  have h1 := value_ok (okR false (n := 5) (by decide)) (by rw [cntR]; decide) k (by omega) []
  rw [pvR, vlS] at h1
  have h2 := isb_ok ok0 c0 k (by omega) []
  have h3 := value_ok ok0 c0 k (by omega) []
  have h4 := pib_ok ok0 c0 k (by omega) []
  have h5 := turned_ok ok0 c0 k (by omega) []
  have h6 := value_ok okt ct k (by omega) []
  have h7 := is_build_ok 64 (.tup [.str "row", .tup []]) ⟨by decide +kernel, by decide +kernel, by decide +kernel⟩ (Nat.le_refl _) k (by omega) []
  rw [show K60 (.tup [.str "row", .tup []]) = 0 by decide +kernel, decide_eq_false (by decide)] at h7
  have v0 : vl b0 = 3 / 2 := by
    show (1 : Rat) + (1 / (1 / 1 + (1 / 1 + 0)) + 0) = 3 / 2
    decide +kernel
  rw [v0, fr_lit (q := 3 / 2) (a := 3) (b := 2) (by decide +kernel) (by decide +kernel)] at h3
  rw [vl_tn, v0, fr_lit (q := 1 / (3 / 2)) (a := 2) (b := 3) (by decide +kernel) (by decide +kernel)] at h6
  rw [fr_lit (q := 1 / ((5 : Nat) : Rat)) (a := 1) (b := 5) (by decide +kernel) (by decide +kernel)] at h1
  change callN prog W k _ [.tup [.str "side", .tup [], .tup [], .tup [], .tup [], .tup []]] [] = _ at h1
  change callN prog W k _ [.tup [.str "row", .tup [], .tup [.str "side", .tup [], .tup []]]] [] = _ at h2
  change callN prog W k _ [.tup [.str "row", .tup [], .tup [.str "side", .tup [], .tup []]]] [] = _ at h3
  change callN prog W k _ [.tup [.str "row", .tup [], .tup [.str "side", .tup [], .tup []]]] [] = some (.int 3, []) at h4
  change callN prog W k _ [.tup [.str "row", .tup [], .tup [.str "side", .tup [], .tup []]]] [] = some (.tup [.str "side", .tup [], .tup [.str "row", .tup [], .tup []]], []) at h5
  change callN prog W k _ [.tup [.str "side", .tup [], .tup [.str "row", .tup [], .tup []]]] [] = _ at h6
  have m5 : mulOp [] (.tup [.tup []]) (.int 5) = some (.tup [.tup [], .tup [], .tup [], .tup [], .tup []]) := rfl
  have l1 := lk k (by omega) (.tup [.int 1, .int 5]) [] (by decide +kernel) (by decide +kernel)
  have l2 := lk k (by omega) (.lst fX) [] (by decide +kernel) (by decide +kernel)
  unfold fX at l2
  have z : leave 0 (.bl true) [] = some (.bl true, []) := rfl
  rw [u__law_first_right]
  unfold m__law_first_right
  clear ok0 c0 okt ct v0
  walk_at "evb"
/-! by turns -/
def nst : Nat → Pb
  | 0 => .pc
  | n + 1 => if n % 2 = 0 then .nd true [.pc, nst n] else .nd false [nst n, .pc]
theorem nst_s (n : Nat) : nst (n + 1) = if n % 2 = 0 then .nd true [.pc, nst n] else .nd false [nst n, .pc] := rfl
theorem nst_ok : ∀ n : Nat, okB (nst n) ∧ cnt (nst n) = n + 1
  | 0 => ⟨trivial, rfl⟩
  | n + 1 => by
    obtain ⟨h1, h2⟩ := nst_ok n
    rw [nst_s]
    split
    · refine ⟨⟨by simp, trivial, h1, trivial⟩, ?_⟩
      show 1 + (cnt (nst n) + 0) = _; omega
    · refine ⟨⟨by simp, h1, trivial, trivial⟩, ?_⟩
      show cnt (nst n) + (1 + 0) = _; omega
theorem add_one (q : Rat) : (1 + q).num = q.num + q.den ∧ (1 + q).den = q.den := by
  have hr : (q.num + q.den : Int).natAbs.Coprime q.den := by
    have := q.reduced
    unfold Nat.Coprime at *
    have e : Int.gcd (q.num + q.den) (q.den : Int) = Int.gcd q.num (q.den : Int) := by
      have := Int.gcd_add_mul_right_left (m := q.num) (n := (q.den : Int)) (k := 1)
      simpa using this
    unfold Int.gcd at e
    rw [Int.natAbs_natCast] at e
    rw [e]; exact this
  have e : 1 + q = ⟨q.num + q.den, q.den, q.den_nz, hr⟩ := by
    rw [← Rat.num_divInt_den ⟨q.num + q.den, q.den, q.den_nz, hr⟩, ← add_low 1 q]
    show Rat.divInt (1 * (q.den : Int) + q.num * 1) (1 * (q.den : Int)) = Rat.divInt (q.num + q.den) q.den
    congr 1 <;> omega
  rw [e]
  exact ⟨rfl, rfl⟩
theorem nst_vl : ∀ n : Nat, (n % 2 = 0 → (vl (nst n)).num = (fbo (n + 1) : Nat) ∧ ((vl (nst n)).den : Int) = (fbo (n + 2) : Nat)) ∧ (n % 2 = 1 → (vl (nst n)).num = (fbo (n + 2) : Nat) ∧ ((vl (nst n)).den : Int) = (fbo (n + 1) : Nat))
  | 0 => ⟨fun _ => ⟨rfl, rfl⟩, fun h => by cases h⟩
  | n + 1 => by
    obtain ⟨h1, h2⟩ := nst_vl n
    have hp := vl_pos _ (nst_ok n).1
    have e : fbo (n + 1 + 2) = fbo (n + 1) + fbo (n + 2) := rfl
    refine ⟨fun h => ?_, fun h => ?_⟩
    · obtain ⟨a1, a2⟩ := h2 (by omega)
      have ev : vl (nst (n + 1)) = 1 / (1 + 1 / vl (nst n)) := by
        rw [nst_s, if_neg (by omega)]
        show 1 / (1 / vl (nst n) + (1 / 1 + 0)) = _
        rw [Rat.add_zero, show (1 : Rat) / 1 = 1 by decide +kernel, Rat.add_comm]
      obtain ⟨i1, i2⟩ := inv_pos_eq hp
      obtain ⟨b1, b2⟩ := add_one (1 / vl (nst n))
      have hq : 0 < 1 + 1 / vl (nst n) := by
        have : 0 < 1 / vl (nst n) := by rw [Rat.div_def, Rat.one_mul]; exact Rat.inv_pos.mpr hp
        grind
      obtain ⟨j1, j2⟩ := inv_pos_eq hq
      rw [ev]
      show _ = ((fbo (n + 2) : Nat) : Int) ∧ _ = ((fbo (n + 1 + 2) : Nat) : Int)
      constructor
      · omega
      · omega
    · obtain ⟨a1, a2⟩ := h1 (by omega)
      have ev : vl (nst (n + 1)) = 1 + vl (nst n) := by
        rw [nst_s, if_pos (by omega)]
        show 1 + (vl (nst n) + 0) = _
        rw [Rat.add_zero]
      obtain ⟨b1, b2⟩ := add_one (vl (nst n))
      rw [ev]
      show _ = ((fbo (n + 1 + 2) : Nat) : Int) ∧ _ = ((fbo (n + 2) : Nat) : Int)
      constructor
      · omega
      · omega
def nsB : Ss := (Ss.cons (.par3 3 4 5 (.ite (.cmp .eq (.bin .mod false (.blt .int false (.cons (.var 6) .nil)) (.cst (.int (2)))) (.cst (.int (0)))) (.tup (.cons (.cst (.str "row")) (.cons (.tup .nil) (.cons (.var 3) .nil)))) (.tup (.cons (.cst (.str "side")) (.cons (.var 3) (.cons (.tup .nil) .nil))))) (.var 5) (.bin .add false (.var 4) (.var 5))) .nil)
theorem ns_loop (call : Nat → List PV → Mem → Option (PV × Mem)) (M : Mem) (e0 e1 e2 : Option PV) : ∀ (n j : Nat) (o : Option PV), ∃ o', forL (.nm 6) [] (execs call W nsB) (rngI j n) [e0, e1, e2, some (pvB (nst j)), some (.int (fbo (j + 1) : Nat)), some (.int (fbo (j + 2) : Nat)), o] M =
    some (.nx [e0, e1, e2, some (pvB (nst (j + n))), some (.int (fbo (j + n + 1) : Nat)), some (.int (fbo (j + n + 2) : Nat)), o'] M)
  | 0, j, o => ⟨o, by show forL _ _ _ [] _ _ = _; rw [forL_n]; rfl⟩
  | n + 1, j, o => by
    obtain ⟨o', e⟩ := ns_loop call M e0 e1 e2 n (j + 1) (some (.int j))
    refine ⟨o', ?_⟩
    have st : execs call W nsB [e0, e1, e2, some (pvB (nst j)), some (.int (fbo (j + 1) : Nat)), some (.int (fbo (j + 2) : Nat)), some (.int j)] M = some (.nx [e0, e1, e2, some (pvB (nst (j + 1))), some (.int (fbo (j + 2) : Nat)), some (.int (fbo (j + 1 + 2) : Nat)), some (.int j)] M) := by
      have e2 : ((fbo (j + 1 + 2) : Nat) : Int) = (fbo (j + 1) : Int) + (fbo (j + 2) : Int) := by
        rw [show fbo (j + 1 + 2) = fbo (j + 1) + fbo (j + 2) from rfl]; omega
      rw [e2]
      have em : (j : Int).fmod 2 = ((j % 2 : Nat) : Int) := by
        rw [Int.fmod_eq_emod_of_nonneg _ (by decide)]; rfl
      rw [nst_s]
      unfold nsB
      clear e e2
      generalize ((fbo (j + 1) : Nat) : Int) = A
      generalize ((fbo (j + 2) : Nat) : Int) = B
      by_cases h : j % 2 = 0
      · rw [if_pos h]
        have h' : (j : Int).fmod 2 = 0 := by rw [em, h]; rfl
        clear em h
        show _ = some (R.nx [_, _, _, some (.tup [.str "row", .tup [], pvB (nst j)]), _, _, _] M)
        generalize pvB (nst j) = N
        walk_at "evb"
      · rw [if_neg h]
        have h' : ¬ (j : Int).fmod 2 = 0 := by rw [em]; omega
        clear em h
        show _ = some (R.nx [_, _, _, some (.tup [.str "side", pvB (nst j), .tup []]), _, _, _] M)
        generalize pvB (nst j) = N
        walk_at "evb"
    show forL _ _ _ (.int (j : Int) :: rngI ((j : Int) + 1) n) _ _ = _
    rw [forL_c, bindT_nm, Option.bind_some]
    show nxt (execs call W nsB [e0, e1, e2, some (pvB (nst j)), some (.int (fbo (j + 1) : Nat)), some (.int (fbo (j + 2) : Nat)), some (.int j)] M) _ = _
    rw [st, nxt_nx]
    have ec : ((j + 1 : Nat) : Int) = (j : Int) + 1 := by omega
    rw [ec] at e
    have e4 : j + 1 + n = j + (n + 1) := by omega
    rw [e4] at e
    exact e
theorem srt_pair {a b : Int} (h : a ≤ b) (M : Mem) : srtB M [.tup [.int b, .int a]] = some (.lst [.int a, .int b]) := by
  have e : srtI [b, a] = [a, b] := by
    have := srt_uniq (ms := [a, b]) (ns := [b, a]) (List.Perm.swap b a []) (by simp [h])
    exact this.symm
  show some (PV.lst ((srtI [b, a]).map PV.int)) = _
  rw [e]; rfl
theorem eqD_l2 (M : Mem) (a b : Int) : eqD M (.lst [.int a, .int b]) (.lst [.int a, .int b]) = some true := by
  show some ((a == a) && ((b == b) && true)) = _
  rw [beq_self_eq_true, beq_self_eq_true]; rfl
theorem written_ok (D : Nat) (hD : 80 ≤ D) {x y : Int} (hc : CupB x y) : ∃ x' y', callN prog W D 38 [.ref 0] [cup x y] = some (.bl true, [cup x' y']) := by
  obtain ⟨k, rfl⟩ : ∃ k, D = k + 1 := ⟨D - 1, by omega⟩
  obtain ⟨r, x1, y1, e1, c1, p1, q1⟩ := roll_ok (k - 1) (many := 59) [] hc (by decide) (by unfold lt2; decide +kernel)
  rw [show k - 1 + 1 = k by omega] at e1
  refine ⟨x1, y1, ?_⟩
  obtain ⟨n, hn⟩ : ∃ n : Nat, 2 + r = (n : Int) := ⟨(2 + r).toNat, by omega⟩
  have hm2 : 2 ≤ n := by omega
  have hm60 : n ≤ 60 := by omega
  have h1 := fun M => value_ok (okR true hm2) (by rw [cntR]; exact hm60) k (by omega) M
  have h2 := fun M => value_ok (okR false hm2) (by rw [cntR]; exact hm60) k (by omega) M
  have h3 := fun M => isb_ok (okR true (n := 60) (by decide)) (by rw [cntR]; decide) k (by omega) M
  have h4 := fun M => is_build_ok 64 (pvB (.nd true (List.replicate 61 .pc))) (Vv64 (okR true (by decide)) (by rw [cntR]; decide)) (Nat.le_refl _) k (by omega) M
  have K61 : K60 (pvB (.nd true (List.replicate 61 .pc))) = 0 := by
    unfold K60
    rw [tc_pvB _ (okR true (by decide)), cntR, if_neg (by decide)]
  rw [K61, decide_eq_false (by decide)] at h4
  rw [pvR] at h1 h2 h3 h4
  rw [vlR, nat_fr] at h1
  rw [vlS, ← inv_fr n (by omega)] at h2
  have h5 := fun M => value_ok (b := .pc) trivial (by decide) k (by omega) M
  change ∀ M, callN prog W k _ [.tup []] M = some (fr 1, M) at h5
  have m1 := fun M => mul_pc M n (by omega) (by omega)
  have m2 := fun M => mul_pc M 60 (by decide) (by decide)
  have m3 := fun M => mul_pc M 61 (by decide) (by decide)
  rw [show ((n : Int)).toNat = n by omega] at m1
  rw [show (60 : Int).toNat = 60 from rfl] at m2
  rw [show (61 : Int).toNat = 61 from rfl] at m3
  have z1 : 1 + (List.replicate n (PV.tup [])).length ≤ 16777216 := by rw [List.length_replicate]; omega
  have z2 : 1 + (List.replicate 60 (PV.tup [])).length ≤ 16777216 := by rw [List.length_replicate]; omega
  have z3 : 1 + (List.replicate 61 (PV.tup [])).length ≤ 16777216 := by rw [List.length_replicate]; omega
  have l1 := fun M => lk k (by omega) (.lst [.tup [.int n, .int 1], .tup [.int 1, .int n], .bl true, .bl false, fr 1]) M rfl (by show 2 ≤ 66; decide)
  obtain ⟨o6, e6⟩ := ns_loop (callN prog W k) [cup x1 y1] (some (.ref 0)) (some (.int n)) (some (.lst [.tup [.int n, .int 1], .tup [.int 1, .int n], .bl true, .bl false, fr 1])) 59 0 none
  change forL _ _ _ (rngI 0 (Int.toNat 59)) [_, _, _, some (.tup []), some (.int 1), some (.int 1), none] _ = some (.nx [_, _, _, some (pvB (nst 59)), some (.int (fbo 60 : Nat)), some (.int (fbo 61 : Nat)), o6] _) at e6
  obtain ⟨nk, nc⟩ := nst_ok 59
  have g1 := fun M => value_ok nk (by omega) k (by omega) M
  have g2 := fun M => pib_ok nk (by omega) k (by omega) M
  have g3 := fun M => worth_ok 60 _ nk (by omega) (by decide) k (by omega) M
  rw [nc] at g2
  change ∀ M, callN prog W k _ [pvB (nst 59)] M = some (.int 60, M) at g2
  obtain ⟨v1, v2⟩ := (nst_vl 59).2 (by decide)
  have g4 := fun M => srt_pair (a := (fbo 60 : Nat)) (b := (fbo 61 : Nat)) (by have h : fbo 60 ≤ fbo 61 := (fbo_le 60).2.2; omega) M
  have g4' : ∀ M, srtB M [fr (vl (nst 59))] = some (.lst [.int (fbo 60 : Nat), .int (fbo 61 : Nat)]) := fun M => by
    rw [fr_lit v1 v2]
    exact g4 M
  have g5 := fun M => eqD_l2 M (fbo 60 : Nat) (fbo 61 : Nat)
  have l2 := fun M => lk k (by omega) (.lst [fr (vl (nst 59)), .int 60]) M rfl (by show 2 ≤ 66; decide)
  have ok2 : okB (.nd true [.pc, nst 59]) := ⟨by simp, trivial, nk, trivial⟩
  have cn2 : cnt (.nd true [.pc, nst 59]) = 61 := by show 1 + (cnt (nst 59) + 0) = 61; omega
  have g6 := fun M => is_build_ok 64 (pvB (.nd true [.pc, nst 59])) (Vv64 ok2 (by omega)) (Nat.le_refl _) k (by omega) M
  have K62 : K60 (pvB (.nd true [.pc, nst 59])) = 0 := by
    unfold K60
    rw [tc_pvB _ ok2, cn2, if_neg (by decide)]
  rw [K62, decide_eq_false (by decide)] at g6
  change ∀ M, callN prog W k _ [.tup [.str "row", .tup [], pvB (nst 59)]] M = _ at g6
  have g7 := fun M => value_ok (b := .nd false [.pc, .pc]) ⟨by simp, trivial, trivial, trivial⟩ (by decide) k (by omega) M
  rw [show vl (.nd false [.pc, .pc]) = 1 / 2 by show (1 : Rat) / (1 / 1 + (1 / 1 + 0)) = 1 / 2; decide +kernel] at g7
  change ∀ M, callN prog W k _ [.tup [.str "side", .tup [], .tup []]] M = _ at g7
  have g8 := fun M => is_less_ok k (by omega) M (p := 1 / 2) (q := 1) ⟨by unfold lt2; decide +kernel, by decide +kernel⟩ (sm_1 132 (by decide))
  rw [decide_eq_true (show (1 / 2 : Rat) < 1 by decide +kernel)] at g8
  have b59 : (decide (-2 ^ 62 ≤ (0 : Int)) && decide ((0 : Int) < 2 ^ 62) && decide (-2 ^ 62 ≤ (59 : Int)) && decide ((59 : Int) < 2 ^ 62)) = true := by decide
  have lv : leave 1 (.bl true) [Cell.lst [.int x1, .int y1]] = some (.bl true, [cup x1 y1]) := rfl
  rw [u__law_written]
  unfold m__law_written
  rw [show (Ss.cons (.par3 3 4 5 (.ite (.cmp .eq (.bin .mod false (.blt .int false (.cons (.var 6) .nil)) (.cst (.int (2)))) (.cst (.int (0)))) (.tup (.cons (.cst (.str "row")) (.cons (.tup .nil) (.cons (.var 3) .nil)))) (.tup (.cons (.cst (.str "side")) (.cons (.var 3) (.cons (.tup .nil) .nil))))) (.var 5) (.bin .add false (.var 4) (.var 5))) .nil) = nsB from rfl]
  clear g4 v1 v2 nk nc ok2 cn2 K62 K61 hm2 hm60 p1 q1 hc c1
  rw [show wrd true = .str "row" from rfl] at h1 h3 h4
  rw [show wrd false = .str "side" from rfl] at h2
  generalize List.replicate n (PV.tup []) = R1 at *
  generalize List.replicate 60 (PV.tup []) = R2 at *
  generalize List.replicate 61 (PV.tup []) = R3 at *
  generalize nsB = B at *
  generalize vl (nst 59) = v59 at *
  generalize pvB (nst 59) = N at *
  generalize ((fbo 60 : Nat) : Int) = F1 at *
  generalize ((fbo 61 : Nat) : Int) = F2 at *
  generalize (1 / 2 : Rat) = hlf at *
  walk_at "evb"
theorem law_ok (k : Nat) (ns : List Int) (hl : ns.length ≤ 63) : ∃ M', callN prog W (k + 90) 39 [.rol (ns.map PV.int)] [] = some (.bl true, M') := by
  have f0 := first_ok (k + 89) (by omega)
  obtain ⟨x0, y0, e0, c0⟩ := cup_ok (k + 88) ns hl
  obtain ⟨r1, x1, y1, e1, c1, p1, q1⟩ := roll_ok (k + 88) (many := 3) [] c0 (by decide) (by unfold lt2; decide +kernel)
  obtain ⟨r2, x2, y2, e2, c2, p2, q2⟩ := roll_ok (k + 88) (many := 6) [] c1 (by decide) (by unfold lt2; decide +kernel)
  obtain ⟨r3, x3, y3, e3, c3, p3, q3⟩ := roll_ok (k + 88) (many := 20) [] c2 (by decide) (by unfold lt2; decide +kernel)
  obtain ⟨r4, x4, y4, e4, c4, p4, q4⟩ := roll_ok (k + 88) (many := 31) [] c3 (by decide) (by unfold lt2; decide +kernel)
  obtain ⟨x5, y5, e5, c5⟩ := right_ok (k + 89) (by omega) c4 (1 + r1).toNat (by omega) (by omega)
  obtain ⟨x6, y6, e6, c6⟩ := right_ok (k + 89) (by omega) c5 (3 + r2).toNat (by omega) (by omega)
  obtain ⟨x7, y7, e7, c7⟩ := right_ok (k + 89) (by omega) c6 (9 + r3).toNat (by omega) (by omega)
  obtain ⟨x8, y8, e8, c8⟩ := right_ok (k + 89) (by omega) c7 (30 + r4).toNat (by omega) (by omega)
  obtain ⟨x9, y9, e9⟩ := written_ok (k + 89) (by omega) c8
  rw [show (((1 + r1).toNat : Nat) : Int) = 1 + r1 by omega] at e5
  rw [show (((3 + r2).toNat : Nat) : Int) = 3 + r2 by omega] at e6
  rw [show (((9 + r3).toNat : Nat) : Int) = 9 + r3 by omega] at e7
  rw [show (((30 + r4).toNat : Nat) : Int) = 30 + r4 by omega] at e8
  refine ⟨[], ?_⟩
  have lv : leave 0 (.bl true) [Cell.lst [.int x9, .int y9]] = some (.bl true, []) := rfl
  rw [u_law]
  unfold m_law
  clear c0 c1 c2 c3 c4 c5 c6 c7 c8 p1 q1 p2 q2 p3 q3 p4 q4 hl
  simp -implicitDefEqProofs only [execs, exec, eval, evals, evalI, conds, bnd_some, bnd_none, bifb_t, bifb_f, bifb_d, bifb_b, iff_t, iff_d, nxt_nx, nxt_rt, binop, cmpop, addOp_ii, addOp_tt, addOp_ll, subOp_ii, mulOp_ii, fdivOp_ii, modOp_ii, cmpI_ii, tru_bl, tru_int, absB_i, intB_i, asM_int, asM_bl, asM_tup, asM_false, isOp_n, isOp_bb, isNon_non, isNon_tup, isNon_int, isNon_bl, isNon_lst, isNon_ref, isNon_rol, isNon_str, isNon_fr, setAll_nil, setAll_cons, bindT_nm, bindT_tp, fin_rt, fin_nx, leave_same, bltOp, idx_tup0, idx_tup1, idx_tup2, idx_tup3, idx_lst0, idx_lst1, idx_lst2, idx_lst3, eqD_ii, eqD_bb, eqD_fr, Option.map_some, Option.map_none, Option.bind_some, List.getElem?_cons_zero, List.getElem?_cons_succ, List.set_cons_zero, List.set_cons_succ, List.length_cons, List.length_nil, if_true, if_false, decide_true, decide_false, Bool.not_true, Bool.not_false, decide_eq_true_eq, sizeL, Nat.reduceAdd, Nat.reduceLeDiff, Nat.zero_add, beq_self_eq_true, seqG_tup, seqG_lst, lenB_tup, lenB_lst, idx_cup0, idx_cup1, setAt0, setAt1, cup, isTy, Bool.false_eq_true, newL_f, newL_t, fin_rtk, List.nil_append, wipeE, Int.reduceNe, Int.reduceEq, Int.reduceLT, Int.reduceLE, Int.reduceAdd, Int.reduceSub, Int.reduceMul, Int.reduceNeg, Int.reduceGT, cmpop, List.append_nil, List.cons_append, not_true_eq_false, not_false_eq_true, ite_true, ite_false, gt_iff_lt, ge_iff_le, eq_self, forL_n, forL_c, *]

end Lw

namespace Lw
open Ev
theorem pure {P : Prop} (ns : List Int) (hl : ns.length ≤ 63) (_ : P) : ∃ M', callN prog W 90 39 [.rol (ns.map PV.int)] [] = some (.bl true, M') := law_ok 0 ns hl
end Lw
namespace Lw
open PySem PySem.Spec PyProof.Rows L2 Ev
theorem law_end {P : Program} {w : World} {K : PySem.W.Frag} {mg : Str → Option Value} {fa : Addr} {W : Nat} (hfa : mg "law" = some (.ref fa)) (d_is_integer : DefOf K mg "is_integer" s_is_integer) (d_is_tuple_of : DefOf K mg "is_tuple_of" s_is_tuple_of) (d_divisor_of : DefOf K mg "divisor_of" s_divisor_of) (d_lowest : DefOf K mg "lowest" s_lowest) (d_sum_of : DefOf K mg "sum_of" s_sum_of) (d_part_of : DefOf K mg "part_of" s_part_of) (d_is_under : DefOf K mg "is_under" s_is_under) (d_fits_fraction : DefOf K mg "fits_fraction" s_fits_fraction) (d_need_fraction : DefOf K mg "need_fraction" s_need_fraction) (d_need_both : DefOf K mg "need_both" s_need_both) (d_is_fraction : DefOf K mg "is_fraction" s_is_fraction) (d_plus : DefOf K mg "plus" s_plus) (d_over : DefOf K mg "over" s_over) (d_is_less : DefOf K mg "is_less" s_is_less) (d_pieces_in : DefOf K mg "pieces_in" s_pieces_in) (d_fits_build : DefOf K mg "fits_build" s_fits_build) (d_need_build : DefOf K mg "need_build" s_need_build) (d_value_in : DefOf K mg "value_in" s_value_in) (d_turned_in : DefOf K mg "turned_in" s_turned_in) (d_is_build : DefOf K mg "is_build" s_is_build) (d_value_of_build : DefOf K mg "value_of_build" s_value_of_build) (d_pieces_in_build : DefOf K mg "pieces_in_build" s_pieces_in_build) (d_turned_build : DefOf K mg "turned_build" s_turned_build) (d__law_cup : DefOf K mg "_law_cup" s__law_cup) (d__law_roll : DefOf K mg "_law_roll" s__law_roll) (d__law_some : DefOf K mg "_law_some" s__law_some) (d__law_sort : DefOf K mg "_law_sort" s__law_sort) (d__law_like : DefOf K mg "_law_like" s__law_like) (d__law_least : DefOf K mg "_law_least" s__law_least) (d__law_plus : DefOf K mg "_law_plus" s__law_plus) (d__law_under : DefOf K mg "_law_under" s__law_under) (d__law_build : DefOf K mg "_law_build" s__law_build) (d__law_worth : DefOf K mg "_law_worth" s__law_worth) (d__law_pieces : DefOf K mg "_law_pieces" s__law_pieces) (d__law_turn : DefOf K mg "_law_turn" s__law_turn) (d__law_bent : DefOf K mg "_law_bent" s__law_bent) (d__law_right : DefOf K mg "_law_right" s__law_right) (d__law_first_right : DefOf K mg "_law_first_right" s__law_first_right) (d__law_written : DefOf K mg "_law_written" s__law_written) (d_law : DefOf K mg "law" s_law) (c_DIGITS : ∃ z u, mg "DIGITS" = some u ∧ RelV z u ∧ Con K k_DIGITS z) (c_NONE : ∃ z u, mg "NONE" = some u ∧ RelV z u ∧ Con K k_NONE z) (c_PIECES : ∃ z u, mg "PIECES" = some u ∧ RelV z u ∧ Con K k_PIECES z) (c_SIDE : ∃ z u, mg "SIDE" = some u ∧ RelV z u ∧ Con K k_SIDE z) (c_ROW : ∃ z u, mg "ROW" = some u ∧ RelV z u ∧ Con K k_ROW z) (c_DEEP : ∃ z u, mg "DEEP" = some u ∧ RelV z u ∧ Con K k_DEEP z) (c_ONE : ∃ z u, mg "ONE" = some u ∧ RelV z u ∧ Con K k_ONE z) (z_isinstance : mg "isinstance" = none) (z_bool : mg "bool" = none) (z_int : mg "int" = none) (z_len : mg "len" = none) (z_tuple : mg "tuple" = none) (z_abs : mg "abs" = none) (z_all : mg "all" = none) (z_sum : mg "sum" = none) (z_str : mg "str" = none) (z_list : mg "list" = none) (z_zip : mg "zip" = none) (z_min : mg "min" = none) (z_range : mg "range" = none) (z_max : mg "max" = none) (z_sorted : mg "sorted" = none)  :
    ∃ fd : FuncData, (∀ (s : Shared) (v : Value), BindsTo s fd ⟨[v], []⟩ [("script", v)]) ∧ ∀ base : Heap, K.In base → base.Ns mainGlobals mg → FnOk P w K mg base CX0 90 fa fd ["script"] (spC K (callN prog W 90) 39) := by
  obtain ⟨f, fd, e1, F⟩ := id d_law
  obtain rfl : fa = f := by rw [hfa] at e1; cases e1; rfl
  refine ⟨fd, fun s v => ?_, fun base _ _ => fn_ok F sc_law rfl rfl rfl (b_law (tops (P := P) (w := w) (base := base) (W := W) d_is_integer d_is_tuple_of d_divisor_of d_lowest d_sum_of d_part_of d_is_under d_fits_fraction d_need_fraction d_need_both d_is_fraction d_plus d_over d_is_less d_pieces_in d_fits_build d_need_build d_value_in d_turned_in d_is_build d_value_of_build d_pieces_in_build d_turned_build d__law_cup d__law_roll d__law_some d__law_sort d__law_like d__law_least d__law_plus d__law_under d__law_build d__law_worth d__law_pieces d__law_turn d__law_bent d__law_right d__law_first_right d__law_written d_law c_DIGITS c_NONE c_PIECES c_SIDE c_ROW c_DEEP c_ONE z_isinstance z_bool z_int z_len z_tuple z_abs z_all z_sum z_str z_list z_zip z_min z_range z_max z_sorted 89) fa)⟩
  obtain ⟨oc, od, kV, doc, pm, an, cdv, ct, osl, rfl, lk, hcd⟩ := F.ex
  exact .of_eq (bi_law _ _ _ _ _ _ [v] rfl)
end Lw
open PySem PySem.W PyProof.Rows L2 Ev
set_option maxHeartbeats 0 in
theorem PySem.Challenge.cw_endsmeasured_k52_whole_builds_holds : PySem.Challenge.rw_endsmeasured_k52_whole_builds.Holds := by
  w_on; o_law; k_head; (case hw => w_witness2)
  k_fill
  refine L2.walk_ofB (l := PySem.Challenge.rw_endsmeasured_k52_whole_builds) (n := 63) (k := 90) (x := "script") (CX := fun _ => L2.CX0) (sp := fun w => spC _ (callN Lw.prog Lw.W 90) 39) rfl (by decide) rfl ⟨rfl, by decide, by decide⟩ (fun w h Y => PySem.W.kIn_of Y) ?F (fun _ _ a ns hl hb _ hS => let ⟨_, h⟩ := Lw.pure ns hl hb; law_sp hS h) (fun _ _ _ _ _ h => h)
  case F =>
    intro w mg fa h KX G hmg
    refine' Lw.law_end hmg (def_mk (x := "is_integer") (st := Lw.s_is_integer) KX G ?a0 ?l1 ?c2 ?k3)
      (def_mk (x := "is_tuple_of") (st := Lw.s_is_tuple_of) KX G ?a4 ?l5 ?c6 ?k7)
      (def_mk (x := "divisor_of") (st := Lw.s_divisor_of) KX G ?a8 ?l9 ?c10 ?k11)
      (def_mk (x := "lowest") (st := Lw.s_lowest) KX G ?a12 ?l13 ?c14 ?k15)
      (def_mk (x := "sum_of") (st := Lw.s_sum_of) KX G ?a16 ?l17 ?c18 ?k19)
      (def_mk (x := "part_of") (st := Lw.s_part_of) KX G ?a20 ?l21 ?c22 ?k23)
      (def_mk (x := "is_under") (st := Lw.s_is_under) KX G ?a24 ?l25 ?c26 ?k27)
      (def_mk (x := "fits_fraction") (st := Lw.s_fits_fraction) KX G ?a28 ?l29 ?c30 ?k31)
      (def_mk (x := "need_fraction") (st := Lw.s_need_fraction) KX G ?a32 ?l33 ?c34 ?k35)
      (def_mk (x := "need_both") (st := Lw.s_need_both) KX G ?a36 ?l37 ?c38 ?k39)
      (def_mk (x := "is_fraction") (st := Lw.s_is_fraction) KX G ?a40 ?l41 ?c42 ?k43)
      (def_mk (x := "plus") (st := Lw.s_plus) KX G ?a44 ?l45 ?c46 ?k47)
      (def_mk (x := "over") (st := Lw.s_over) KX G ?a48 ?l49 ?c50 ?k51)
      (def_mk (x := "is_less") (st := Lw.s_is_less) KX G ?a52 ?l53 ?c54 ?k55)
      (def_mk (x := "pieces_in") (st := Lw.s_pieces_in) KX G ?a56 ?l57 ?c58 ?k59)
      (def_mk (x := "fits_build") (st := Lw.s_fits_build) KX G ?a60 ?l61 ?c62 ?k63)
      (def_mk (x := "need_build") (st := Lw.s_need_build) KX G ?a64 ?l65 ?c66 ?k67)
      (def_mk (x := "value_in") (st := Lw.s_value_in) KX G ?a68 ?l69 ?c70 ?k71)
      (def_mk (x := "turned_in") (st := Lw.s_turned_in) KX G ?a72 ?l73 ?c74 ?k75)
      (def_mk (x := "is_build") (st := Lw.s_is_build) KX G ?a76 ?l77 ?c78 ?k79)
      (def_mk (x := "value_of_build") (st := Lw.s_value_of_build) KX G ?a80 ?l81 ?c82 ?k83)
      (def_mk (x := "pieces_in_build") (st := Lw.s_pieces_in_build) KX G ?a84 ?l85 ?c86 ?k87)
      (def_mk (x := "turned_build") (st := Lw.s_turned_build) KX G ?a88 ?l89 ?c90 ?k91)
      (def_mk (x := "_law_cup") (st := Lw.s__law_cup) KX G ?a92 ?l93 ?c94 ?k95)
      (def_mk (x := "_law_roll") (st := Lw.s__law_roll) KX G ?a96 ?l97 ?c98 ?k99)
      (def_mk (x := "_law_some") (st := Lw.s__law_some) KX G ?a100 ?l101 ?c102 ?k103)
      (def_mk (x := "_law_sort") (st := Lw.s__law_sort) KX G ?a104 ?l105 ?c106 ?k107)
      (def_mk (x := "_law_like") (st := Lw.s__law_like) KX G ?a108 ?l109 ?c110 ?k111)
      (def_mk (x := "_law_least") (st := Lw.s__law_least) KX G ?a112 ?l113 ?c114 ?k115)
      (def_mk (x := "_law_plus") (st := Lw.s__law_plus) KX G ?a116 ?l117 ?c118 ?k119)
      (def_mk (x := "_law_under") (st := Lw.s__law_under) KX G ?a120 ?l121 ?c122 ?k123)
      (def_mk (x := "_law_build") (st := Lw.s__law_build) KX G ?a124 ?l125 ?c126 ?k127)
      (def_mk (x := "_law_worth") (st := Lw.s__law_worth) KX G ?a128 ?l129 ?c130 ?k131)
      (def_mk (x := "_law_pieces") (st := Lw.s__law_pieces) KX G ?a132 ?l133 ?c134 ?k135)
      (def_mk (x := "_law_turn") (st := Lw.s__law_turn) KX G ?a136 ?l137 ?c138 ?k139)
      (def_mk (x := "_law_bent") (st := Lw.s__law_bent) KX G ?a140 ?l141 ?c142 ?k143)
      (def_mk (x := "_law_right") (st := Lw.s__law_right) KX G ?a144 ?l145 ?c146 ?k147)
      (def_mk (x := "_law_first_right") (st := Lw.s__law_first_right) KX G ?a148 ?l149 ?c150 ?k151)
      (def_mk (x := "_law_written") (st := Lw.s__law_written) KX G ?a152 ?l153 ?c154 ?k155)
      (def_mk (x := "law") (st := Lw.s_law) KX G ?a156 ?l157 ?c158 ?k159)
      (con_ofI KX G ?v160)
      (con_of (z := .ref _) KX G ?v161 rfl (con_tupA ?l162 ?e163 ?y164))
      (con_ofI KX G ?v165)
      (con_ofS KX G ?v166)
      (con_ofS KX G ?v167)
      (con_ofI KX G ?v168)
      (con_of (z := .ref _) KX G ?v169 rfl (con_tupA ?l170 ?e171 ?y172))
      (PySem.W.mg_none_of KX G ?z173)
      (PySem.W.mg_none_of KX G ?z174)
      (PySem.W.mg_none_of KX G ?z175)
      (PySem.W.mg_none_of KX G ?z176)
      (PySem.W.mg_none_of KX G ?z177)
      (PySem.W.mg_none_of KX G ?z178)
      (PySem.W.mg_none_of KX G ?z179)
      (PySem.W.mg_none_of KX G ?z180)
      (PySem.W.mg_none_of KX G ?z181)
      (PySem.W.mg_none_of KX G ?z182)
      (PySem.W.mg_none_of KX G ?z183)
      (PySem.W.mg_none_of KX G ?z184)
      (PySem.W.mg_none_of KX G ?z185)
      (PySem.W.mg_none_of KX G ?z186)
      (PySem.W.mg_none_of KX G ?z187)
    (case a0 => k_is)
    (case l1 => k_is)
    (case c2 => k_is)
    (case k3 => k_is)
    (case a4 => k_is)
    (case l5 => k_is)
    (case c6 => k_is)
    (case k7 => k_is)
    (case a8 => k_is)
    (case l9 => k_is)
    (case c10 => k_is)
    (case k11 => k_is)
    (case a12 => k_is)
    (case l13 => k_is)
    (case c14 => k_is)
    (case k15 => k_is)
    (case a16 => k_is)
    (case l17 => k_is)
    (case c18 => k_is)
    (case k19 => k_is)
    (case a20 => k_is)
    (case l21 => k_is)
    (case c22 => k_is)
    (case k23 => k_is)
    (case a24 => k_is)
    (case l25 => k_is)
    (case c26 => k_is)
    (case k27 => k_is)
    (case a28 => k_is)
    (case l29 => k_is)
    (case c30 => k_is)
    (case k31 => k_is)
    (case a32 => k_is)
    (case l33 => k_is)
    (case c34 => k_is)
    (case k35 => k_is)
    (case a36 => k_is)
    (case l37 => k_is)
    (case c38 => k_is)
    (case k39 => k_is)
    (case a40 => k_is)
    (case l41 => k_is)
    (case c42 => k_is)
    (case k43 => k_is)
    (case a44 => k_is)
    (case l45 => k_is)
    (case c46 => k_is)
    (case k47 => k_is)
    (case a48 => k_is)
    (case l49 => k_is)
    (case c50 => k_is)
    (case k51 => k_is)
    (case a52 => k_is)
    (case l53 => k_is)
    (case c54 => k_is)
    (case k55 => k_is)
    (case a56 => k_is)
    (case l57 => k_is)
    (case c58 => k_is)
    (case k59 => k_is)
    (case a60 => k_is)
    (case l61 => k_is)
    (case c62 => k_is)
    (case k63 => k_is)
    (case a64 => k_is)
    (case l65 => k_is)
    (case c66 => k_is)
    (case k67 => k_is)
    (case a68 => k_is)
    (case l69 => k_is)
    (case c70 => k_is)
    (case k71 => k_is)
    (case a72 => k_is)
    (case l73 => k_is)
    (case c74 => k_is)
    (case k75 => k_is)
    (case a76 => k_is)
    (case l77 => k_is)
    (case c78 => k_is)
    (case k79 => k_is)
    (case a80 => k_is)
    (case l81 => k_is)
    (case c82 => k_is)
    (case k83 => k_is)
    (case a84 => k_is)
    (case l85 => k_is)
    (case c86 => k_is)
    (case k87 => k_is)
    (case a88 => k_is)
    (case l89 => k_is)
    (case c90 => k_is)
    (case k91 => k_is)
    (case a92 => k_is)
    (case l93 => k_is)
    (case c94 => k_is)
    (case k95 => k_is)
    (case a96 => k_is)
    (case l97 => k_is)
    (case c98 => k_is)
    (case k99 => k_is)
    (case a100 => k_is)
    (case l101 => k_is)
    (case c102 => k_is)
    (case k103 => k_is)
    (case a104 => k_is)
    (case l105 => k_is)
    (case c106 => k_is)
    (case k107 => k_is)
    (case a108 => k_is)
    (case l109 => k_is)
    (case c110 => k_is)
    (case k111 => k_is)
    (case a112 => k_is)
    (case l113 => k_is)
    (case c114 => k_is)
    (case k115 => k_is)
    (case a116 => k_is)
    (case l117 => k_is)
    (case c118 => k_is)
    (case k119 => k_is)
    (case a120 => k_is)
    (case l121 => k_is)
    (case c122 => k_is)
    (case k123 => k_is)
    (case a124 => k_is)
    (case l125 => k_is)
    (case c126 => k_is)
    (case k127 => k_is)
    (case a128 => k_is)
    (case l129 => k_is)
    (case c130 => k_is)
    (case k131 => k_is)
    (case a132 => k_is)
    (case l133 => k_is)
    (case c134 => k_is)
    (case k135 => k_is)
    (case a136 => k_is)
    (case l137 => k_is)
    (case c138 => k_is)
    (case k139 => k_is)
    (case a140 => k_is)
    (case l141 => k_is)
    (case c142 => k_is)
    (case k143 => k_is)
    (case a144 => k_is)
    (case l145 => k_is)
    (case c146 => k_is)
    (case k147 => k_is)
    (case a148 => k_is)
    (case l149 => k_is)
    (case c150 => k_is)
    (case k151 => k_is)
    (case a152 => k_is)
    (case l153 => k_is)
    (case c154 => k_is)
    (case k155 => k_is)
    (case a156 => k_is)
    (case l157 => k_is)
    (case c158 => k_is)
    (case k159 => k_is)
    (case v160 => k_is)
    (case v161 => k_is)
    (case l162 => k_is)
    (case e163 => rfl)
    (case y164 => decide)
    (case v165 => k_is)
    (case v166 => k_is)
    (case v167 => k_is)
    (case v168 => k_is)
    (case v169 => k_is)
    (case l170 => k_is)
    (case e171 => rfl)
    (case y172 => decide)
    (case z173 => k_is)
    (case z174 => k_is)
    (case z175 => k_is)
    (case z176 => k_is)
    (case z177 => k_is)
    (case z178 => k_is)
    (case z179 => k_is)
    (case z180 => k_is)
    (case z181 => k_is)
    (case z182 => k_is)
    (case z183 => k_is)
    (case z184 => k_is)
    (case z185 => k_is)
    (case z186 => k_is)
    (case z187 => k_is)
