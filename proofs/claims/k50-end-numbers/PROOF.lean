import PyProof.Rows.All
import HandS.ForMost
import PyProof.MaxThree
import HandS.IsInst
import HandS.TupAny
import HandS.Zip
import HandS.Wide
import HandS.Flow
import HandS.Sort
import HandS.Style
import HandS.Codes
import HandS.TupMul
import HandS.Dict
import HandS.Iter
import HandS.NoneIn
import HandS.SortInts
import PyProof.WalkInts
import PyProof.WalksMore
import KE.KDictZip
import HandS.Words
import PySem.Challenge.RW_endsmeasured_k50_whole_end_numbers
import HandS.EndBits
set_option Elab.async false
set_option linter.all false
set_option maxRecDepth 100000
namespace Ev
open PySem PySem.Spec PyProof.Rows L2
theorem args_max4 (a b c d : Value) : argsOk "max" ⟨[a, b, c, d], []⟩ := by unfold argsOk; kernel_rfl
section
variable {prog : Program} {w : World} {A : Around} {E : Value → Shared → Prop} {s : Shared}
theorem call_max_four {a b c d : Value} {Q : Value → Shared → Prop}
    (h : wpAny (model prog w) A.in1 (pyIter (.ref s.heap.objs.size)) (fun it s₂ => ∃ I fp wr n P St bt, it = .ref I ∧ Walks prog w A.in1 I fp wr n P St ∧ St 0 s₂.heap ∧ (∀ b ∈ fp, b < s₂.heap.objs.size) ∧ 0 < n ∧ CmpOf prog w A.in1 .Gt P bt ∧
      ∀ v h' tk, P (argBest bt (n - 1)) v → (∀ b o, b ∉ wr → s₂.heap.get? b = some o → h'.get? b = some o) → Q v { s₂ with heap := h', toks := tk }) E
      { s with heap := s.heap.push { cls := .type "tuple", data := .seq #[a, b, c, d] } }) :
    wpAny (model prog w) A (call (.builtin "max") [a, b, c, d]) Q E s := by
  have hname : (toString "max" ++ toString ".loop" : String) = "max.loop" := by decide
  refine call_function_tree F.kind_max F.plain_max F.entry_max (args_max4 _ _ _ _) ?_
  show wpAny _ A.in1 (Builtin.Builtins.bindParams "max" ["key", "default"] 0 ⟨[], []⟩ >>= _) _ _ s
  refine wpAny_bind (wpAny_of_eq (show Builtin.Builtins.bindParams "max" ["key", "default"] 0 ⟨[], []⟩ = pure [none, none] from rfl) ?_)
  show wpAny _ A.in1 (newTuple [a, b, c, d] >>= _) _ _ s
  refine wpAny_bind (wpAny_newObj_type ?_)
  refine wpAny_bind (wpAny_mono h (fun it s₂ h₂ => ?_) fun _ _ e => e)
  obtain ⟨I, fp, wr, n, P, St, bt, rfl, W, hst, hfp, hn, hcmp, hQ⟩ := h₂
  refine wpAny_bind (wpAny_newObj_type ?_)
  have hSf : s₂.heap.objs.size ∉ fp := fun hm => Nat.lt_irrefl _ (hfp _ hm)
  rw [hname]
  refine wpAny_pure ⟨plainId_quiet F.plain_max_loop _, codeAny_max_loop_first W bt hcmp s₂.heap.objs.size hSf hn (W.frame _ _ _ hst fun b _ o e => Heap.get?_push_of_some _ e) (Heap.get?_push_size _ rfl) fun v h' tk hP hk => ?_⟩
  exact hQ v h' tk hP fun b o hbw e => hk b o hbw (Nat.ne_of_lt (Heap.lt_size e)) (Heap.get?_push_of_some _ e)
theorem max_four_ints {a b c d : Int} {t u x y : Tok} {Q : Value → Shared → Prop} (hh : A.handled = none)
    (h : ∀ h' tk m t', (∀ d o, s.heap.get? d = some o → h'.get? d = some o) → m ∈ [a, b, c, d] → (∀ z ∈ [a, b, c, d], z ≤ m) → Q (.int m t') { s with heap := h', toks := tk }) :
    wpAny (model prog w) A (call (.builtin "max") [.int a t, .int b u, .int c x, .int d y]) Q E s := by
  have hT : (s.heap.push { cls := .type "tuple", data := .seq #[.int a t, .int b u, .int c x, .int d y] }).IsTuple s.heap.objs.size (intItems #[(a, t), (b, u), (c, x), (d, y)]) := ⟨_, Heap.get?_push_size _ rfl, rfl, 0, by simp [intItems]⟩
  refine call_max_four (wpAny_pyIter_tuple hT ?_)
  have hsz : (s.heap.push { cls := .type "tuple", data := .seq #[.int a t, .int b u, .int c x, .int d y] }).objs.size = s.heap.objs.size + 1 := Heap.size_push ..
  refine ⟨_, [_, s.heap.objs.size], [_], _, _, _, _, rfl, Walks.tuple (A := A.in1) hh _ s.heap.objs.size (by rw [hsz]; exact Nat.ne_of_lt (Nat.lt_succ_self _)) (intItems #[(a, t), (b, u), (c, x), (d, y)]),
    ⟨⟨_, Heap.get?_push_size _ rfl, rfl, rfl⟩, hT.push _⟩, fun d hd => ?_, by simp [intItems], CmpOf.ints_gt (numAt #[(a, t), (b, u), (c, x), (d, y)]) (fun _ _ => intItems_at), fun v h' tk hP hk => ?_⟩
  · show d < ((s.heap.push _).push _).objs.size
    rw [Heap.size_push, hsz]
    rcases List.mem_cons.mp hd with rfl | hd
    · rw [hsz]; exact Nat.lt_succ_self _
    · rcases List.mem_cons.mp hd with rfl | hd
      · exact Nat.lt_succ_of_lt (Nat.lt_succ_self _)
      · cases hd
  · have hold : ∀ d o, s.heap.get? d = some o → h'.get? d = some o := fun d o e => by
      refine hk d o (fun hm => ?_) (Heap.get?_push_of_some _ (Heap.get?_push_of_some _ e))
      rcases List.mem_cons.mp hm with e1 | hm
      · have := Heap.lt_size e; rw [e1, hsz] at this; exact Nat.lt_irrefl _ (Nat.lt_of_succ_lt this)
      · cases hm
    have hsz2 : (intItems #[(a, t), (b, u), (c, x), (d, y)]).size - 1 = 3 := by simp [intItems]
    rw [hsz2] at hP
    obtain ⟨t', rfl⟩ := intItems_at hP
    obtain ⟨h1, h2⟩ := argBest_gt (numAt #[(a, t), (b, u), (c, x), (d, y)]) 3
    refine h h' tk _ t' hold ?_ fun z hz => ?_
    · generalize argBest _ 3 = j at h1
      rcases (show j = 0 ∨ j = 1 ∨ j = 2 ∨ j = 3 by omega) with rfl | rfl | rfl | rfl <;> simp [numAt]
    · simp only [List.mem_cons, List.not_mem_nil, or_false] at hz
      rcases hz with rfl | rfl | rfl | rfl
      · exact h2 0 (by omega)
      · exact h2 1 (by omega)
      · exact h2 2 (by omega)
      · exact h2 3 (by omega)
end
theorem call_max4 {X : Cx} (hc : X.calm = true) : CallR X (.builtin "max") (fun xs H Q => ∃ i j k l, xs = [.int i, .int j, .int k, .int l] ∧ ∀ m, m ∈ [i, j, k, l] → (∀ z ∈ [i, j, k, l], z ≤ m) → Q (.int m) H) := by
  intro pins s σ H xs us Q I r h
  obtain ⟨i, j, k, l, rfl, q⟩ := h
  cases r with
  | cons r1 r =>
  cases r with
  | cons r2 r =>
  cases r with
  | cons r3 r =>
  cases r with
  | cons r4 r =>
  cases r
  obtain ⟨t1, rfl⟩ := r1
  obtain ⟨t2, rfl⟩ := r2
  obtain ⟨t3, rfl⟩ := r3
  obtain ⟨t4, rfl⟩ := r4
  exact max_four_ints (I.ok.hd hc) fun h' tk m t' kp h1 h2 => ⟨.int m, H, I.kept kp, ⟨_, rfl⟩, q m h1 h2⟩
end Ev

/-! A pure interpreter for the programs' common subset: values, expressions, statements. -/
namespace Ev
open PySem L2

/-- values: tuples and read-only lists by value; `ref n` is the n-th mutable cell; `rol` a list that is only read -/
inductive PV where
  | non | bl (b : Bool) | int (i : Int) | str (s : Str)
  | tup (xs : List PV) | lst (xs : List PV) | rol (xs : List PV) | ref (n : Nat)
  | dct (kvs : List (Str × Str))
deriving Inhabited

inductive Cell where
  | lst (xs : List PV)
  | dic (kvs : List (PV × PV))
deriving Inhabited

abbrev Mem := List Cell
abbrev Env := List (Option PV)

inductive Bop where | add | sub | mul | fdiv | mod | pow
inductive Cm where | eq | ne | lt | le | gt | ge | is | isn | isin | notin
inductive Ty where | int | bool | str | tuple | list
inductive Bl where | abs | int | list | tuple | len | sum | all | any | max | min | ztup | srt | maxt

/-- a part of a nested target -/
inductive Tp1 where | n (i : Nat) | t (is : List Nat)
mutual
inductive E where
  | var (i : Nat) | cst (v : PV)
  | bin (o : Bop) (f : Bool) (a b : E) | neg (a : E) | not (a : E) | and (a b : E) | or (a b : E)
  | cmp (o : Cm) (a b : E) | chn (o o' : Cm) (a b c : E) | ite (c a b : E)
  | tup (es : Es) | lst (m : Bool) (es : Es)
  | idx (a b : E) | slc (a : E) (bl bh : Bool) (lo hi : E) | rev (a : E)
  | call (f : Nat) (es : Es) | blt (b : Bl) (m : Bool) (es : Es) | isi (a : E) (t : Ty)
  | app (a e : E) | dsp (kvs : List (Str × Str)) | dget (a b : E) | din (n : Bool) (a b : E) | tab (kvs : List (Int × PV)) (e : E)
  | lc (m : Bool) (w : List Nat) (t : T) (it : I) (cs : Es) (e : E)
inductive Es where | nil | cons (e : E) (es : Es)
inductive I where | seq (e : E) | rng (a b : E) | zip (a b : E) | enm (e : E)
inductive T where | nm (i : Nat) | tp (is : List Nat) | ls (is : List Nat) | t2 (ps : List Tp1)
end

mutual
inductive S where
  | set (i : Nat) (e : E) | par (i j : Nat) (a b : E) | par3 (i j l : Nat) (a b c : E) | asg (t : T) (e : E) | seti (o i e : E)
  | exp (e : E) | ite (c : E) (a b : Ss) | whl (c : E) (b : Ss) | for_ (t : T) (it : I) (b : Ss)
  | ret (e : E) | rais
inductive Ss where | nil | cons (s : S) (ss : Ss)
end

/-! ### the operations -/
def items (M : Mem) : PV → Option (List PV)
  | .lst xs | .rol xs => some xs
  | .ref n => match M[n]? with | some (.lst xs) => some xs | _ => none
  | _ => none
def itemsT (M : Mem) : PV → Option (List PV)
  | .tup xs => some xs
  | v => items M v

mutual
def toD : PV → Option PyData
  | .non => some .none
  | .bl b => some (.bool b)
  | .int i => some (.int i)
  | .str s => some (.str s)
  | .tup xs => (toDs xs).map .tuple
  | .lst xs | .rol xs => (toDs xs).map .list
  | .ref _ | .dct _ => none
def toDs : List PV → Option (List PyData)
  | [] => some []
  | x :: xs => match toD x, toDs xs with
    | some d, some ds => some (d :: ds)
    | _, _ => none
end
def toDM (M : Mem) : PV → Option PyData
  | .ref n => match M[n]? with | some (.lst xs) => (toDs xs).map .list | _ => none
  | v => toD v

def truthy (M : Mem) : PV → Option Bool
  | .non => some false
  | .bl b => some b
  | .int i => some (i != 0)
  | .str s => if s.length ≤ sizeLine then some ((s.length : Int) != 0) else none
  | .tup xs | .lst xs | .rol xs => some (!xs.isEmpty)
  | .ref n => match M[n]? with | some (.lst xs) => some (!xs.isEmpty) | _ => none
  | .dct _ => none

def iff' {α : Type} (b : Bool) (x : α) : Option α := match b with
  | true => some x
  | false => none
def mulOk (i j : Int) : Bool := decide ((-(2 ^ 64) < i ∧ i < 2 ^ 64) ∨ (-(2 ^ 64) < j ∧ j < 2 ^ 64)) || decide (i.natAbs.log2 + j.natAbs.log2 < 1000000)
def divOk (_i j : Int) : Bool := decide (j ≠ 0) && decide (j.natAbs.log2 < 9000)

/-- lists that may be joined: not the read-only ones -/
def itemsW (M : Mem) : PV → Option (List PV)
  | .lst xs => some xs
  | .ref n => match M[n]? with | some (.lst xs) => some xs | _ => none
  | _ => none

def addOp (M : Mem) (a b : PV) : Option PV := match a, b with
  | .int i, .int j => some (.int (i + j))
  | .tup xs, .tup ys => if decide (xs.length + ys.length ≤ sizeLine) then some (.tup (xs ++ ys)) else none
  | .str x, .str y => if decide (x.length + y.length ≤ sizeLine) then some (.str (x ++ y)) else none
  | a, b => match itemsW M a, itemsW M b with
    | some xs, some ys => if decide (xs.length + ys.length ≤ sizeLine) then some (.lst (xs ++ ys)) else none
    | _, _ => none
def subOp (a b : PV) : Option PV := match a, b with
  | .int i, .int j => some (.int (i - j))
  | .bl a, .bl b => some (.int ((if a then 1 else 0) - (if b then 1 else 0)))
  | _, _ => none
def mulOp (M : Mem) (a b : PV) : Option PV := match a, b with
  | .int i, .int j => if mulOk i j then some (.int (i * j)) else none
  | .tup [], .int k => if decide (-(2 ^ 63) ≤ k) && decide (k < 2 ^ 63) then some (.tup []) else none
  | .tup (x :: xs), .int k => if decide (2 ≤ k) && decide (k ≤ 1000) && decide ((x :: xs).length ≤ 1000) then some (.tup (List.replicate k.toNat (x :: xs)).flatten) else none
  | a, .int k => match itemsW M a with
    | some xs => if decide (-(2 ^ 63) ≤ k) && decide (k < 2 ^ 63) && decide (xs.length * k.toNat ≤ sizeLine) then some (.lst (List.replicate k.toNat xs).flatten) else none
    | _ => none
  | _, _ => none
def fdivOp (a b : PV) : Option PV := match a, b with
  | .int i, .int j => if divOk i j then some (.int (i.fdiv j)) else none
  | _, _ => none
def modOp (a b : PV) : Option PV := match a, b with
  | .int i, .int j => if decide (j ≠ 0) then some (.int (i.fmod j)) else none
  | _, _ => none
def powOp (a b : PV) : Option PV := match a, b with
  | .int i, .int j => if decide (0 ≤ j) && decide (j ≤ 1000000) && decide (i.natAbs < 2 ^ 64) then some (.int (i ^ j.toNat)) else none
  | _, _ => none
def binop (M : Mem) : Bop → PV → PV → Option PV
  | .add => addOp M
  | .sub => subOp
  | .mul => mulOp M
  | .fdiv => fdivOp
  | .mod => modOp
  | .pow => powOp

def eqD (M : Mem) (a b : PV) : Option Bool :=
  match toDM M a, toDM M b with
  | some d, some e => if SeqAt.shaped d && SeqAt.shaped e then some (PyData.eqv d e) else none
  | _, _ => none
/-- x in a list or a tuple of plain values -/
def flatP : PV → Bool
  | .non | .bl _ | .int _ | .str _ => true
  | _ => false
def pvToV : PV → V
  | .non => .non
  | .bl b => .bl b
  | .int i => .int i
  | .str s => .str s
  | _ => .non
def inOp (M : Mem) (a b : PV) : Option Bool :=
  match itemsT M b with
  | some xs => if flatP a && xs.all flatP && (flatV (pvToV a) && (xs.map pvToV).all flatV) then some (inV (pvToV a) (xs.map pvToV)) else none
  | none => none

def cmpI (p : Int → Int → Bool) (a b : PV) : Option Bool := match a, b with
  | .int i, .int j => some (p i j)
  | _, _ => none
def isNon : PV → Bool
  | .non => true
  | _ => false
def isOp (a b : PV) : Option Bool := match a, b with
  | a, .non => some (isNon a)
  | .bl a, .bl b => some (decide (a = b))
  | _, _ => none
def cmpop (M : Mem) : Cm → PV → PV → Option Bool
  | .eq => eqD M
  | .ne => fun a b => (eqD M a b).map (!·)
  | .lt => cmpI fun i j => decide (i < j)
  | .le => cmpI fun i j => decide (i ≤ j)
  | .gt => cmpI fun i j => decide (j < i)
  | .ge => cmpI fun i j => decide (j ≤ i)
  | .is => isOp
  | .isn => fun a b => (isOp a b).map (!·)
  | .isin => inOp M
  | .notin => fun a b => (inOp M a b).map (!·)

def idxOp (M : Mem) (a b : PV) : Option PV :=
  match b, itemsT M a with
  | .int i, some xs => atI xs i
  | _, _ => none
def cut (xs : List PV) (lo hi : Option Int) : List PV := (xs.drop (HT.sIx xs.length 0 lo)).take (HT.sIx xs.length xs.length hi - HT.sIx xs.length 0 lo)
def part : Bool → PV → Option (Option Int)
  | false, _ => some none
  | true, .int i => some (some i)
  | true, _ => none
def slcV (M : Mem) (a : PV) (l h : Option Int) : Option PV := match a with
  | .tup xs => some (.tup (cut xs l h))
  | _ => (items M a).map fun xs => .lst (cut xs l h)
def slcOp (M : Mem) (a : PV) (bl bh : Bool) (lo hi : PV) : Option PV :=
  (part bl lo).bind fun l => (part bh hi).bind fun h => slcV M a l h
def revOp (M : Mem) (a : PV) : Option PV :=
  match a with
  | .tup xs => some (.tup xs.reverse)
  | _ => (items M a).map fun xs => .lst xs.reverse

def intsOf : List PV → Option (List Int)
  | [] => some []
  | .int i :: xs => (intsOf xs).map (i :: ·)
  | _ :: _ => none
def boolsOf : List PV → Option (List Bool)
  | [] => some []
  | .bl b :: xs => (boolsOf xs).map (b :: ·)
  | _ :: _ => none

def absB (vs : List PV) : Option PV := match vs with
  | [.int i] => some (.int (if i < 0 then -i else i))
  | _ => none
def intB (vs : List PV) : Option PV := match vs with
  | [.int i] => some (.int i)
  | [.bl b] => some (.int (if b then 1 else 0))
  | _ => none
def listB (M : Mem) (vs : List PV) : Option PV := match vs with
  | [a] => (itemsT M a).map .lst
  | _ => none
def tupleB (M : Mem) (vs : List PV) : Option PV := match vs with
  | [.tup xs] => some (.tup xs)
  | [a] => (items M a).map .tup
  | _ => none
def lenB (M : Mem) (vs : List PV) : Option PV := match vs with
  | [.str s] => iff' (decide (s.length ≤ sizeLine)) (.int s.length)
  | [a] => (itemsT M a).map fun xs => .int xs.length
  | _ => none
def sumB (M : Mem) (vs : List PV) : Option PV := match vs with
  | [a] => (items M a).bind fun xs => (intsOf xs).map fun ns => .int ns.sum
  | _ => none
def allB (M : Mem) (vs : List PV) : Option PV := match vs with
  | [a] => (items M a).bind fun xs => (boolsOf xs).map fun bs => .bl (bs.all id)
  | _ => none
def anyB (M : Mem) (vs : List PV) : Option PV := match vs with
  | [a] => (items M a).bind fun xs => (boolsOf xs).map fun bs => .bl (bs.any id)
  | _ => none
def maxI : List Int → Option Int
  | [] => none
  | x :: xs => some (xs.foldl max x)
def minI : List Int → Option Int
  | [] => none
  | x :: xs => some (xs.foldl min x)
def maxB (M : Mem) (vs : List PV) : Option PV := match vs with
  | [.int i, .int j] => some (.int (if j > i then j else i))
  | [.int i, .int j, .int k, .int l] => some (.int (max (max (max i j) k) l))
  | [a] => (items M a).bind fun xs => (intsOf xs).bind fun ns => (maxI ns).map .int
  | _ => none
def minB (M : Mem) (vs : List PV) : Option PV := match vs with
  | [.int i, .int j] => some (.int (if j < i then j else i))
  | [a] => (items M a).bind fun xs => (intsOf xs).bind fun ns => (minI ns).map .int
  | _ => none
def pairP (x y : PV) : PV := .tup [x, y]
/-- tuple(zip(a, b)) of two lists -/
def ztupB (M : Mem) (vs : List PV) : Option PV := match vs with
  | [a, b] => (items M a).bind fun xs => (items M b).map fun ys => .tup (List.zipWith pairP xs ys)
  | _ => none
/-- sorted ints -/
def srtI (ns : List Int) : List Int := ns.mergeSort fun a b => decide (a ≤ b)
def srtB (M : Mem) (vs : List PV) : Option PV := match vs with
  | [a] => (itemsT M a).bind fun xs => (intsOf xs).map fun ns => .lst ((srtI ns).map .int)
  | _ => none
/-- max of a tuple of ints -/
def maxtB (_M : Mem) (vs : List PV) : Option PV := match vs with
  | [.tup xs] => (intsOf xs).bind fun ns => (maxI ns).map .int
  | _ => none
def bltOp (M : Mem) : Bl → List PV → Option PV
  | .abs => absB
  | .int => intB
  | .list => listB M
  | .tuple => tupleB M
  | .len => lenB M
  | .sum => sumB M
  | .all => allB M
  | .any => anyB M
  | .max => maxB M
  | .min => minB M
  | .ztup => ztupB M
  | .srt => srtB M
  | .maxt => maxtB M

def isTy : Ty → PV → Bool
  | .int, .int _ | .int, .bl _ | .bool, .bl _ | .str, .str _ | .tuple, .tup _ => true
  | .list, .lst _ | .list, .rol _ | .list, .ref _ => true
  | _, _ => false

/-- dicts of texts, only read: their pairs as the display lays them -/
def dkv (kvs : List (Str × Str)) : List (Key × V) := mergeK [] (kvs.map fun p => (Sum.inr p.1, V.str p.2))
def vStr : V → Option PV
  | .str s => some (.str s)
  | _ => none
def dgetOp (a b : PV) : Option PV := match a, b with
  | .dct kvs, .str k => (valV (dkv kvs) (Sum.inr k)).bind vStr
  | _, _ => none
def dinOp (n : Bool) (a b : PV) : Option PV := match a, b with
  | .str k, .dct kvs => some (.bl (if n then !(valV (dkv kvs) (Sum.inr k)).isSome else (valV (dkv kvs) (Sum.inr k)).isSome))
  | _, _ => none
def setAt (xs : List PV) (i : Int) (v : PV) : Option (List PV) := (ixN xs.length i).map fun j => xs.set j v

mutual
def pbeq : PV → PV → Bool
  | .non, .non => true
  | .bl a, .bl b => a == b
  | .int a, .int b => decide (a = b)
  | .str a, .str b => decide (a = b)
  | .tup a, .tup b => pbeqs a b
  | .lst a, .lst b => pbeqs a b
  | .rol a, .rol b => pbeqs a b
  | .ref a, .ref b => Nat.beq a b
  | .dct a, .dct b => decide (a = b)
  | _, _ => false
def pbeqs : List PV → List PV → Bool
  | [], [] => true
  | x :: xs, y :: ys => pbeq x y && pbeqs xs ys
  | _, _ => false
end
mutual
theorem pbeq_eq : ∀ {a b : PV}, pbeq a b = true → a = b
  | .non, .non, _ => rfl
  | .bl a, .bl b, h => by rw [show a = b from eq_of_beq h]
  | .int a, .int b, h => by rw [show a = b from of_decide_eq_true h]
  | .str a, .str b, h => by rw [show a = b from of_decide_eq_true h]
  | .tup a, .tup b, h => by rw [pbeqs_eq (a := a) (b := b) h]
  | .lst a, .lst b, h => by rw [pbeqs_eq (a := a) (b := b) h]
  | .rol a, .rol b, h => by rw [pbeqs_eq (a := a) (b := b) h]
  | .ref a, .ref b, h => by rw [Nat.eq_of_beq_eq_true h]
  | .dct a, .dct b, h => by rw [show a = b from of_decide_eq_true h]
theorem pbeqs_eq : ∀ {a b : List PV}, pbeqs a b = true → a = b
  | [], [], _ => rfl
  | x :: xs, y :: ys, h => by
    have h' : (pbeq x y && pbeqs xs ys) = true := h
    rw [Bool.and_eq_true] at h'
    rw [pbeq_eq h'.1, pbeqs_eq h'.2]
end
mutual
theorem pbeq_self : ∀ a : PV, pbeq a a = true
  | .non => rfl
  | .bl a => beq_self_eq_true a
  | .int a => decide_eq_true rfl
  | .str a => decide_eq_true rfl
  | .tup a => pbeqs_self a
  | .lst a => pbeqs_self a
  | .rol a => pbeqs_self a
  | .ref a => Nat.beq_refl a
  | .dct a => decide_eq_true rfl
theorem pbeqs_self : ∀ a : List PV, pbeqs a a = true
  | [] => rfl
  | x :: xs => by
    show (pbeq x x && pbeqs xs xs) = true
    rw [pbeq_self x, pbeqs_self xs]
    rfl
end
/-- mutable lists that are walked: they must stay -/
abbrev Gd := List (Nat × List PV)
def gOk : Gd → Mem → Bool
  | [], _ => true
  | (n, xs) :: g, M => (match M[n]? with
    | some (.lst ys) => pbeqs ys xs
    | _ => false) && gOk g M
/-- the items of a sequence that is walked: is it a tuple? the items, what must stay -/
def seqG (M : Mem) : PV → Option (Bool × List PV × Gd)
  | .tup xs => some (true, xs, [])
  | .lst xs => some (false, xs, [])
  | .rol xs => some (false, xs, [])
  | .ref n => match M[n]? with
    | some (.lst xs) => some (false, xs, [(n, xs)])
    | _ => none
  | _ => none

/-- bind a target -/
def setAll (env : Env) : List Nat → List PV → Env
  | i :: is, v :: vs => setAll (env.set i (some v)) is vs
  | _, _ => env
def bindP (p : Tp1) (v : PV) (env : Env) : Option Env :=
  match p with
  | .n i => some (env.set i (some v))
  | .t is => match v with
    | .tup vs => if decide (vs.length = is.length) then some (setAll env is vs) else none
    | _ => none
def bindPs : List Tp1 → List PV → Env → Option Env
  | [], [], env => some env
  | p :: ps, v :: vs, env => (bindP p v env).bind fun env1 => bindPs ps vs env1
  | _, _, _ => none
def bindT (t : T) (v : PV) (env : Env) : Option Env :=
  match t with
  | .nm i => some (env.set i (some v))
  | .tp is => match v with
    | .tup vs => if decide (vs.length = is.length) then some (setAll env is vs) else none
    | _ => none
  | .ls is => match v with
    | .lst vs => if decide (vs.length = is.length) then some (setAll env is vs) else none
    | _ => none
  | .t2 ps => match v with
    | .tup vs => bindPs ps vs env
    | _ => none

def wipeE (env : Env) : List Nat → Env
  | [] => env
  | v :: vs => (wipeE env vs).set v none

/-- a loop over items; the body may end the def -/
inductive R where | nx (env : Env) (M : Mem) | rt (v : PV) (M : Mem)
def forL (t : T) (g : Gd) (body : Env → Mem → Option R) : List PV → Env → Mem → Option R
  | [], env, M => match gOk g M with
    | true => some (.nx env M)
    | false => none
  | x :: xs, env, M => match gOk g M with
    | true => (match bindT t x env with
      | some env1 => (match body env1 M with
        | some (.nx env2 M2) => forL t g body xs env2 M2
        | r => r)
      | none => none)
    | false => none
def whlL (c : Env → Mem → Option (Bool × Mem)) (body : Env → Mem → Option R) : Nat → Env → Mem → Option R
  | 0, _, _ => none
  | n + 1, env, M => match c env M with
    | some (true, M1) => (match body env M1 with
      | some (.nx env2 M2) => whlL c body n env2 M2
      | r => r)
    | some (false, M1) => some (.nx env M1)
    | none => none
/-- a table of the module: ints to plain values -/
def tabV (kvs : List (Int × PV)) (x : PV) : Option PV := match x with
  | .int i => (kvs.find? fun kv => decide (kv.1 = i)).map (·.2)
  | _ => none
/-- a comprehension: acc in order -/
def lcL (t : T) (g : Gd) (cond : Env → Mem → Option (Bool × Mem)) (elt : Env → Mem → Option (PV × Mem)) (env : Env) : List PV → List PV → Mem → Option (List PV × Mem)
  | [], acc, M => match gOk g M with
    | true => some (acc, M)
    | false => none
  | x :: xs, acc, M => match gOk g M with
    | true => (match bindT t x env with
      | some env1 => (match cond env1 M with
        | some (true, M1) => (match elt env1 M1 with
          | some (v, M2) => lcL t g cond elt env xs (acc ++ [v]) M2
          | none => none)
        | some (false, M1) => lcL t g cond elt env xs acc M1
        | none => none)
      | none => none)
    | false => none
def rngI (a : Int) : Nat → List PV
  | 0 => []
  | n + 1 => .int a :: rngI (a + 1) n
def zipP : List PV → List PV → List PV
  | x :: xs, y :: ys => .tup [x, y] :: zipP xs ys
  | _, _ => []
def enmP : Nat → List PV → List PV
  | _, [] => []
  | n, x :: xs => .tup [.int n, x] :: enmP (n + 1) xs

/-- a new list: a mutable cell, or by value -/
def newL (m : Bool) (xs : List PV) (M : Mem) : PV × Mem := if m then (.ref M.length, M ++ [.lst xs]) else (.lst xs, M)
def asM (m : Bool) (v : PV) (M : Mem) : PV × Mem := match m, v with
  | true, .lst xs => (.ref M.length, M ++ [.lst xs])
  | _, _ => (v, M)

/-- a step, then the next with its value and the memory behind it -/
def bnd {α β : Type} (x : Option (α × Mem)) (f : α → Mem → Option β) : Option β := match x with
  | some (a, M) => f a M
  | none => none
def bifb {β : Type} (b : Option Bool) (x y : Option β) : Option β := match b with
  | some true => x
  | some false => y
  | none => none
def iff_ {β : Type} (b : Bool) (x : Option β) : Option β := match b with
  | true => x
  | false => none
def nxt (r : Option R) (f : Env → Mem → Option R) : Option R := match r with
  | some (.nx env M) => f env M
  | r => r
section
variable (call : Nat → List PV → Mem → Option (PV × Mem)) (W : Nat)
mutual
def eval : E → Env → Mem → Option (PV × Mem)
  | .var i, env, M => match env[i]? with | some (some v) => some (v, M) | _ => none
  | .cst v, _, M => some (v, M)
  | .bin o f a b, env, M => bnd (eval a env M) fun x M1 => bnd (eval b env M1) fun y M2 => (binop M2 o x y).map fun z => asM f z M2
  | .neg a, env, M => bnd (eval a env M) fun x M1 => match x with | .int i => some (.int (-i), M1) | _ => none
  | .not a, env, M => bnd (eval a env M) fun x M1 => (truthy M1 x).map fun b => (.bl (!b), M1)
  | .and a b, env, M => bnd (eval a env M) fun x M1 => bifb (truthy M1 x) (eval b env M1) (some (x, M1))
  | .or a b, env, M => bnd (eval a env M) fun x M1 => bifb (truthy M1 x) (some (x, M1)) (eval b env M1)
  | .cmp o a b, env, M => bnd (eval a env M) fun x M1 => bnd (eval b env M1) fun y M2 => (cmpop M2 o x y).map fun z => (.bl z, M2)
  | .chn o o' a b c, env, M => bnd (eval a env M) fun x M1 => bnd (eval b env M1) fun y M2 =>
      bifb (cmpop M2 o x y) (bnd (eval c env M2) fun z M3 => (cmpop M3 o' y z).map fun r => (.bl r, M3)) (some (.bl false, M2))
  | .ite c a b, env, M => bnd (eval c env M) fun x M1 => bifb (truthy M1 x) (eval a env M1) (eval b env M1)
  | .tup es, env, M => bnd (evals es env M) fun vs M1 => iff_ (decide (vs.length ≤ sizeLine)) (some (.tup vs, M1))
  | .lst m es, env, M => bnd (evals es env M) fun vs M1 => iff_ (decide (vs.length ≤ sizeLine)) (some (newL m vs M1))
  | .idx a b, env, M => bnd (eval a env M) fun x M1 => bnd (eval b env M1) fun y M2 => (idxOp M2 x y).map fun z => (z, M2)
  | .slc a bl bh lo hi, env, M => bnd (eval a env M) fun x M1 => bnd (eval lo env M1) fun l M2 => bnd (eval hi env M2) fun h M3 => (slcOp M3 x bl bh l h).map fun z => (z, M3)
  | .rev a, env, M => bnd (eval a env M) fun x M1 => (revOp M1 x).map fun z => (z, M1)
  | .call f es, env, M => bnd (evals es env M) fun vs M1 => call f vs M1
  | .blt b m es, env, M => bnd (evals es env M) fun vs M1 => (bltOp M1 b vs).map fun z => asM m z M1
  | .isi a t, env, M => bnd (eval a env M) fun x M1 => some (.bl (isTy t x), M1)
  | .app a e, env, M => bnd (eval a env M) fun x M1 => match x with
    | .ref n => bnd (eval e env M1) fun v M2 => (match M2[n]? with
        | some (.lst xs) => iff_ (decide (xs.length < sizeLine)) (some (.non, M2.set n (.lst (xs ++ [v]))))
        | _ => none)
    | _ => none
  | .dsp kvs, _, M => iff_ (decide (kvs.length ≤ 15)) (some (.dct kvs, M))
  | .dget a b, env, M => bnd (eval a env M) fun x M1 => bnd (eval b env M1) fun y M2 => (dgetOp x y).map fun z => (z, M2)
  | .din n a b, env, M => bnd (eval a env M) fun x M1 => bnd (eval b env M1) fun y M2 => (dinOp n x y).map fun z => (z, M2)
  | .tab kvs e, env, M => bnd (eval e env M) fun x M1 => (tabV kvs x).map fun z => (z, M1)
  | .lc m w t it cs e, env, M => bnd (evalI it env M) fun xg M1 => bnd (lcL t xg.2 (conds cs) (eval e) (wipeE env w) xg.1 [] M1) fun vs M2 => iff_ (decide (vs.length ≤ sizeLine)) (some (newL m vs M2))
def evals : Es → Env → Mem → Option (List PV × Mem)
  | .nil, _, M => some ([], M)
  | .cons e es, env, M => bnd (eval e env M) fun v M1 => bnd (evals es env M1) fun vs M2 => some (v :: vs, M2)
def conds : Es → Env → Mem → Option (Bool × Mem)
  | .nil, _, M => some (true, M)
  | .cons e es, env, M => bnd (eval e env M) fun v M1 => bifb (truthy M1 v) (conds es env M1) (some (false, M1))
def evalI : I → Env → Mem → Option ((List PV × Gd) × Mem)
  | .seq e, env, M => bnd (eval e env M) fun x M1 => (seqG M1 x).map fun s => (s.2, M1)
  | .rng a b, env, M => bnd (eval a env M) fun x M1 => bnd (eval b env M1) fun y M2 => match x, y with
    | .int i, .int j => iff_ (decide (-(2 ^ 62) ≤ i) && decide (i < 2 ^ 62) && decide (-(2 ^ 62) ≤ j) && decide (j < 2 ^ 62)) (some ((rngI i (j - i).toNat, []), M2))
    | _, _ => none
  | .zip a b, env, M => bnd (eval a env M) fun x M1 => bnd (eval b env M1) fun y M2 => match seqG M2 x, seqG M2 y with
    | some (k, xs, g), some (k', ys, g') => iff_ (k == k') (some ((zipP xs ys, g ++ g'), M2))
    | _, _ => none
  | .enm e, env, M => bnd (eval e env M) fun x M1 => match seqG M1 x with
    | some (k, xs, g) => iff_ (!k) (some ((enmP 0 xs, g), M1))
    | _ => none
end

mutual
def exec : S → Env → Mem → Option R
  | .set i e, env, M => bnd (eval call e env M) fun v M1 => some (.nx (env.set i (some v)) M1)
  | .par i j a b, env, M => bnd (eval call a env M) fun x M1 => bnd (eval call b env M1) fun y M2 => some (.nx ((env.set i (some x)).set j (some y)) M2)
  | .par3 i j l a b c, env, M => bnd (eval call a env M) fun x M1 => bnd (eval call b env M1) fun y M2 => bnd (eval call c env M2) fun z M3 => some (.nx (((env.set i (some x)).set j (some y)).set l (some z)) M3)
  | .asg t e, env, M => bnd (eval call e env M) fun v M1 => (bindT t v env).map fun env1 => .nx env1 M1
  | .seti o i e, env, M => bnd (eval call e env M) fun v M1 => bnd (eval call o env M1) fun x M2 => match x with
    | .ref n => bnd (eval call i env M2) fun y M3 => (match y with
      | .int k => (match M3[n]? with
          | some (.lst xs) => (setAt xs k v).map fun ys => .nx env (M3.set n (.lst ys))
          | _ => none)
      | _ => none)
    | _ => none
  | .exp e, env, M => bnd (eval call e env M) fun _ M1 => some (.nx env M1)
  | .ite c a b, env, M => bnd (eval call c env M) fun x M1 => bifb (truthy M1 x) (execs a env M1) (execs b env M1)
  | .whl c b, env, M => whlL (fun env M => bnd (eval call c env M) fun x M1 => (truthy M1 x).map fun k => (k, M1)) (execs b) W env M
  | .for_ t it b, env, M => bnd (evalI call it env M) fun xg M1 => forL t xg.2 (execs b) xg.1 env M1
  | .ret e, env, M => bnd (eval call e env M) fun v M1 => some (.rt v M1)
  | .rais, _, _ => none
def execs : Ss → Env → Mem → Option R
  | .nil, env, M => some (.nx env M)
  | .cons s ss, env, M => nxt (exec s env M) fun env1 M1 => execs ss env1 M1
end
end

/-! ### calls: a def's new cells go when it is left, unless what it hands back is one (kept) -/
mutual
/-- no reference at or above n -/
def under (n : Nat) : PV → Bool
  | .tup xs | .lst xs | .rol xs => unders n xs
  | .ref k => decide (k < n)
  | _ => true
def unders (n : Nat) : List PV → Bool
  | [] => true
  | x :: xs => under n x && unders n xs
end
def cellUnder (n : Nat) : Cell → Bool
  | .lst xs => unders n xs
  | .dic kvs => unders n (kvs.map (·.1)) && unders n (kvs.map (·.2))
/-- behind a call from memory M0 -/
def leave (n : Nat) (v : PV) (M : Mem) : Option (PV × Mem) :=
  if M.length = n then some (v, M) else
  if (M.take n).all (cellUnder n) then
    (if under n v then some (v, M.take n) else match v with
      | .ref k => (match M[k]? with
        | some (.lst xs) => if unders n xs then some (.lst xs, M.take n) else none
        | _ => none)
      | _ => none)
  else none

structure Fn where
  slots : Nat        -- how many names
  params : Nat
  keep : Bool        -- the new cells stay (what is handed back is one)
  body : Ss

def runFn (call : Nat → List PV → Mem → Option (PV × Mem)) (W : Nat) (f : Fn) (vs : List PV) (M : Mem) : Option (PV × Mem) :=
  if vs.length = f.params then
    match execs call W f.body (vs.map some ++ List.replicate (f.slots - f.params) none) M with
    | some (.rt v M1) => if f.keep then some (v, M1) else leave M.length v M1
    | some (.nx _ M1) => if f.keep then some (.non, M1) else leave M.length .non M1
    | none => none
  else none

def callN (prog : List Fn) (W : Nat) : Nat → Nat → List PV → Mem → Option (PV × Mem)
  | 0, _, _, _ => none
  | k + 1, f, vs, M => match prog[f]? with
    | some fn => runFn (callN prog W k) W fn vs M
    | none => none
end Ev

/-! How the interpreter's values lie in the heap; what a step keeps. -/
namespace Ev
open PySem PySem.Spec PyProof.Rows L2

/-- the cells, by index; and lists that are being made -/
structure Ph where
  c : List Addr
  r : List Addr
def RolAt (K : PySem.W.Frag) (φ : Ph) (H : Hp) (a : Addr) (vs : List V) : Prop :=
  (∃ o, H a = some (.frz o (.lst vs))) ∨ (H a = some (.lst vs) ∧ a ∉ φ.c ∧ a ∉ φ.r) ∨
    ∃ (o : Obj) (its : Array Value) (n : Nat), K.lookup a = some o ∧ o.cls = .type "list" ∧ o.dict = none ∧ o.data = .seq its n ∧ its.size ≤ sizeLine ∧ Vals vs its.toList
theorem RolAt.sq {K : PySem.W.Frag} {φ : Ph} {H : Hp} {a : Addr} {vs : List V} (h : RolAt K φ H a vs) : SqL K H a vs := by
  rcases h with ⟨o, h⟩ | ⟨h, _⟩ | h
  · exact .inl (.inr ⟨o, h⟩)
  · exact .inl (.inl h)
  · exact .inr h
mutual
inductive Rp (K : PySem.W.Frag) (φ : Ph) (H : Hp) : PV → V → Prop
  | non : Rp K φ H .non .non
  | bl (b : Bool) : Rp K φ H (.bl b) (.bl b)
  | int (i : Int) : Rp K φ H (.int i) (.int i)
  | str (s : Str) : Rp K φ H (.str s) (.str s)
  | tup {a : Addr} {vs : List V} {xs : List PV} (h : SqT K H a vs) (r : Rps K φ H xs vs) : Rp K φ H (.tup xs) (.ref a)
  | lst {a : Addr} {vs : List V} {xs : List PV} (h : H a = some (.lst vs)) (n : a ∉ φ.c ∧ a ∉ φ.r) (r : Rps K φ H xs vs) : Rp K φ H (.lst xs) (.ref a)
  | rol {a : Addr} {vs : List V} {xs : List PV} (h : RolAt K φ H a vs) (r : Rps K φ H xs vs) : Rp K φ H (.rol xs) (.ref a)
  | ref {n : Nat} {a : Addr} (h : φ.c[n]? = some a) : Rp K φ H (.ref n) (.ref a)
  | dct {a : Addr} {kvs : List (Str × Str)} (h : H a = some (.dK (dkv kvs))) (n : a ∉ φ.c ∧ a ∉ φ.r) : Rp K φ H (.dct kvs) (.ref a)
inductive Rps (K : PySem.W.Frag) (φ : Ph) (H : Hp) : List PV → List V → Prop
  | nil : Rps K φ H [] []
  | cons {x : PV} {v : V} {xs : List PV} {vs : List V} (h : Rp K φ H x v) (r : Rps K φ H xs vs) : Rps K φ H (x :: xs) (v :: vs)
end

def isCell : HO → Bool
  | .lst _ | .dK _ | .dT _ => true
  | _ => false
structure Xt (φ : Ph) (H : Hp) (φ' : Ph) (H' : Hp) : Prop where
  pre : ∃ e, φ'.c = φ.c ++ e
  res : ∀ a, a ∈ φ.r → a ∈ φ'.r
  keep : ∀ a o, H a = some o → (a ∈ φ.c → isCell o = false) → H' a = some o
  fresh : ∀ a, a ∈ φ'.c → a ∉ φ.c → H a = none
  freshr : ∀ a, a ∈ φ'.r → a ∉ φ.r → H a = none
  there : ∀ a o, H a = some o → ∃ o', H' a = some o'
def CellOk (K : PySem.W.Frag) (φ : Ph) (H : Hp) (a : Addr) : Cell → Prop
  | .lst xs => ∃ vs, H a = some (.lst vs) ∧ Rps K φ H xs vs
  | .dic _ => False
structure RM (K : PySem.W.Frag) (φ : Ph) (H : Hp) (M : Mem) : Prop where
  len : φ.c.length = M.length
  nd : φ.c.Nodup
  res : ∀ a, a ∈ φ.r → ∃ o, H a = some o
  cells : ∀ (n : Nat) (a : Addr) (c : Cell), φ.c[n]? = some a → M[n]? = some c → CellOk K φ H a c
structure RE (K : PySem.W.Frag) (φ : Ph) (H : Hp) (env : Env) (σ : L2.St) : Prop where
  len : env.length ≤ σ.length
  at_ : ∀ (i : Nat) (v : PV), env[i]? = some (some v) → ∃ u, σ[i]? = some (some u) ∧ Rp K φ H v u

section
variable {K : PySem.W.Frag} {φ φ' φ2 : Ph} {H H' H2 : Hp} {M M' : Mem} {env : Env} {σ : L2.St}
theorem Xt.refl : Xt φ H φ H := ⟨⟨[], by simp⟩, fun _ h => h, fun _ _ h _ => h, fun _ h n => absurd h n, fun _ h n => absurd h n, fun _ o h => ⟨o, h⟩⟩
theorem Xt.back (x : Xt φ H φ' H') {a : Addr} (h : H' a = none) : H a = none := by
  cases e : H a with
  | none => rfl
  | some o =>
    obtain ⟨o', e'⟩ := x.there a o e
    rw [h] at e'; cases e'
theorem Xt.sub (x : Xt φ H φ' H') {a : Addr} (h : a ∈ φ.c) : a ∈ φ'.c := by
  obtain ⟨e, h2⟩ := x.pre
  rw [h2]
  exact List.mem_append_left _ h
theorem Xt.trans (x : Xt φ H φ' H') (y : Xt φ' H' φ2 H2) : Xt φ H φ2 H2 := by
  refine ⟨?_, fun a h => y.res a (x.res a h), fun a o h hc => ?_, fun a h n => ?_, fun a h n => ?_, fun a o h => ?_⟩
  · obtain ⟨e, h1⟩ := x.pre
    obtain ⟨e2, h2⟩ := y.pre
    exact ⟨e ++ e2, by rw [h2, h1, List.append_assoc]⟩
  · refine y.keep a o (x.keep a o h hc) fun h' => ?_
    by_cases k : a ∈ φ.c
    · exact hc k
    · have := x.fresh a h' k
      rw [h] at this; cases this
  · by_cases k : a ∈ φ'.c
    · exact x.fresh a k n
    · exact x.back (y.fresh a h k)
  · by_cases k : a ∈ φ'.r
    · exact x.freshr a k n
    · exact x.back (y.freshr a h k)
  · obtain ⟨o', h'⟩ := x.there a o h
    exact y.there a o' h'
theorem Xt.get (x : Xt φ H φ' H') {n : Nat} {a : Addr} (h : φ.c[n]? = some a) : φ'.c[n]? = some a := by
  obtain ⟨e, h2⟩ := x.pre
  have hl : n < φ.c.length := (List.getElem?_eq_some_iff.mp h).1
  rw [h2, List.getElem?_append_left hl]
  exact h
theorem Xt.tup (x : Xt φ H φ' H') {a : Addr} {vs : List V} (h : SqT K H a vs) : SqT K H' a vs := by
  rcases h with (h | ⟨o, h⟩) | h
  · exact .inl (.inl (x.keep _ _ h fun _ => rfl))
  · exact .inl (.inr ⟨o, x.keep _ _ h fun _ => rfl⟩)
  · exact .inr h
theorem Xt.notin (x : Xt φ H φ' H') {a : Addr} {o : HO} (h : H a = some o) (n : a ∉ φ.c) : a ∉ φ'.c := fun k => by
  have := x.fresh a k n
  rw [h] at this; cases this
theorem Xt.notin2 (x : Xt φ H φ' H') {a : Addr} {o : HO} (h : H a = some o) (n : a ∉ φ.c ∧ a ∉ φ.r) : a ∉ φ'.c ∧ a ∉ φ'.r := ⟨x.notin h n.1, fun k => by
  have := x.freshr a k n.2
  rw [h] at this; cases this⟩
theorem Xt.rol (x : Xt φ H φ' H') {a : Addr} {vs : List V} (h : RolAt K φ H a vs) : RolAt K φ' H' a vs := by
  rcases h with ⟨o, h⟩ | ⟨h, n⟩ | h
  · exact .inl ⟨o, x.keep _ _ h fun _ => rfl⟩
  · exact .inr (.inl ⟨x.keep _ _ h fun z => absurd z n.1, x.notin2 h n⟩)
  · exact .inr (.inr h)
mutual
theorem Rp.mono (x : Xt φ H φ' H') : ∀ {v : PV} {u : V}, Rp K φ H v u → Rp K φ' H' v u
  | _, _, .non => .non
  | _, _, .bl b => .bl b
  | _, _, .int i => .int i
  | _, _, .str s => .str s
  | _, _, .tup h r => .tup (x.tup h) (Rps.mono x r)
  | _, _, .lst h n r => .lst (x.keep _ _ h fun z => absurd z n.1) (x.notin2 h n) (Rps.mono x r)
  | _, _, .rol h r => .rol (x.rol h) (Rps.mono x r)
  | _, _, .ref h => .ref (x.get h)
  | _, _, .dct h n => .dct (x.keep _ _ h fun z => absurd z n.1) (x.notin2 h n)
theorem Rps.mono (x : Xt φ H φ' H') : ∀ {v : List PV} {u : List V}, Rps K φ H v u → Rps K φ' H' v u
  | _, _, .nil => .nil
  | _, _, .cons h r => .cons (Rp.mono x h) (Rps.mono x r)
end
theorem RE.mono (x : Xt φ H φ' H') (r : RE K φ H env σ) : RE K φ' H' env σ := ⟨r.len, fun i v h => by
  obtain ⟨u, h1, h2⟩ := r.at_ i v h
  exact ⟨u, h1, h2.mono x⟩⟩
theorem RE.set (r : RE K φ H env σ) {v : PV} {u : V} (h : Rp K φ H v u) (i : Nat) : RE K φ H (env.set i (some v)) (σ.set i (some u)) := by
  refine ⟨by simpa using r.len, fun j w e => ?_⟩
  by_cases k : i = j
  · subst k
    have hi : i < env.length := by
      have := (List.getElem?_eq_some_iff.mp e).1
      simpa using this
    rw [List.getElem?_set_self hi] at e
    cases e
    exact ⟨u, List.getElem?_set_self (Nat.lt_of_lt_of_le hi r.len), h⟩
  · rw [List.getElem?_set_ne k] at e
    obtain ⟨u', h1, h2⟩ := r.at_ j w e
    exact ⟨u', by rw [List.getElem?_set_ne k]; exact h1, h2⟩
theorem RM.at_ (r : RM K φ H M) {n : Nat} {c : Cell} (h : M[n]? = some c) : ∃ a, φ.c[n]? = some a ∧ CellOk K φ H a c := by
  have hn : n < φ.c.length := by rw [r.len]; exact (List.getElem?_eq_some_iff.mp h).1
  exact ⟨φ.c[n], List.getElem?_eq_getElem hn, r.cells n _ c (List.getElem?_eq_getElem hn) h⟩
theorem CellOk.some_ {a : Addr} {c : Cell} (h : CellOk K φ H a c) : ∃ o, H a = some o ∧ isCell o = true := by
  cases c with
  | lst xs => obtain ⟨vs, h, _⟩ := h; exact ⟨_, h, rfl⟩
  | dic k => exact h.elim
theorem RM.some_ (r : RM K φ H M) {a : Addr} (h : a ∈ φ.c) : ∃ o, H a = some o ∧ isCell o = true := by
  obtain ⟨n, hn, e⟩ := List.getElem_of_mem h
  have hm : n < M.length := by rw [← r.len]; exact hn
  exact (r.cells n a M[n] (by rw [List.getElem?_eq_getElem hn, e]) (List.getElem?_eq_getElem hm)).some_
theorem RM.notin (r : RM K φ H M) {p : Addr} (h : H p = none) : p ∉ φ.c := fun k => by
  obtain ⟨o, e, _⟩ := r.some_ k
  rw [h] at e; cases e
theorem RM.notin2 (r : RM K φ H M) {p : Addr} (h : H p = none) : p ∉ φ.c ∧ p ∉ φ.r := ⟨r.notin h, fun k => by
  obtain ⟨o, e⟩ := r.res p k
  rw [h] at e; cases e⟩
theorem xt_new {p : Addr} {o : HO} (h : H p = none) : Xt φ H φ (upd H p o) :=
  ⟨⟨[], by simp⟩, fun _ h => h, fun a u e _ => by rw [upd_ne (ne_of_none e h)]; exact e, fun _ a n => absurd a n, fun _ a n => absurd a n, fun a u e => ⟨u, by rw [upd_ne (ne_of_none e h)]; exact e⟩⟩
theorem CellOk.mono_same {a : Addr} {c : Cell} (x : Xt φ H φ' H') (k : ∀ o, H a = some o → H' a = some o) (h : CellOk K φ H a c) : CellOk K φ' H' a c := by
  cases c with
  | lst xs => obtain ⟨vs, h, r⟩ := h; exact ⟨vs, k _ h, r.mono x⟩
  | dic _ => exact h
theorem res_upd {p : Addr} {o : HO} (r : ∀ a, a ∈ φ.r → ∃ o, H a = some o) : ∀ a, a ∈ φ.r → ∃ o', upd H p o a = some o' := fun a h => by
  by_cases e : a = p
  · subst e; exact ⟨_, upd_same⟩
  · rw [upd_ne e]; exact r a h
theorem RM.new (r : RM K φ H M) {p : Addr} {o : HO} (h : H p = none) : RM K φ (upd H p o) M :=
  ⟨r.len, r.nd, res_upd r.res, fun n a c h1 h2 => (r.cells n a c h1 h2).mono_same (xt_new h) fun u e => by rw [upd_ne (ne_of_none e h)]; exact e⟩
/-- one cell more -/
def Ph.add (φ : Ph) (p : Addr) : Ph := ⟨φ.c ++ [p], φ.r⟩
theorem xt_cell {p : Addr} {o : HO} (h : H p = none) : Xt φ H (φ.add p) (upd H p o) :=
  ⟨⟨[p], rfl⟩, fun _ h => h, fun a u e _ => by rw [upd_ne (ne_of_none e h)]; exact e, fun a k n => by
    rcases List.mem_append.mp k with k | k
    · exact absurd k n
    · have : a = p := by simpa using k
      rw [this]; exact h, fun _ a n => absurd a n, fun a u e => ⟨u, by rw [upd_ne (ne_of_none e h)]; exact e⟩⟩
theorem RM.cell (r : RM K φ H M) {p : Addr} {xs : List PV} {vs : List V} (h : H p = none) (q : Rps K φ H xs vs) : RM K (φ.add p) (upd H p (.lst vs)) (M ++ [.lst xs]) := by
  refine ⟨by simp [r.len, Ph.add], ?_, res_upd r.res, fun n a c h1 h2 => ?_⟩
  · show (φ.c ++ [p]).Nodup
    rw [List.nodup_append]
    refine ⟨r.nd, by simp, fun a ha b hb e => ?_⟩
    have : b = p := by simpa using hb
    subst this
    exact r.notin h (e ▸ ha)
  · change (φ.c ++ [p])[n]? = some a at h1
    by_cases k : n < φ.c.length
    · rw [List.getElem?_append_left k] at h1
      rw [List.getElem?_append_left (by rw [← r.len]; exact k)] at h2
      exact (r.cells n a c h1 h2).mono_same (xt_cell h) fun u e => by rw [upd_ne (ne_of_none e h)]; exact e
    · have k2 : n = φ.c.length := by
        have := (List.getElem?_eq_some_iff.mp h1).1
        simp at this
        omega
      subst k2
      rw [List.getElem?_append_right (Nat.le_refl _)] at h1
      rw [r.len, List.getElem?_append_right (Nat.le_refl _)] at h2
      simp at h1 h2
      subst h1 h2
      exact ⟨vs, upd_same, q.mono (xt_cell h)⟩
theorem RM.eq_of (r : RM K φ H M) {m n : Nat} {a : Addr} (h : φ.c[m]? = some a) (h' : φ.c[n]? = some a) : m = n := by
  obtain ⟨h1, e1⟩ := List.getElem?_eq_some_iff.mp h
  obtain ⟨h2, e2⟩ := List.getElem?_eq_some_iff.mp h'
  exact (List.getElem_inj r.nd).mp (e1.trans e2.symm)
theorem xt_set (r : RM K φ H M) {n : Nat} {a : Addr} {o : HO} (h : φ.c[n]? = some a) : Xt φ H φ (upd H a o) := by
  refine ⟨⟨[], by simp⟩, fun _ h => h, fun b u e k => ?_, fun _ k n => absurd k n, fun _ k n => absurd k n, fun b u e => ?_⟩
  rotate_left
  · by_cases z : b = a
    · subst z; exact ⟨_, upd_same⟩
    · exact ⟨u, by rw [upd_ne z]; exact e⟩
  have hm : a ∈ φ.c := List.mem_of_getElem? h
  have ne : b ≠ a := fun z => by
    subst z
    obtain ⟨o', e', c⟩ := r.some_ hm
    rw [e] at e'; cases e'
    rw [k hm] at c; cases c
  rw [upd_ne ne]; exact e
theorem RM.set (r : RM K φ H M) {n : Nat} {a : Addr} {xs : List PV} {vs : List V} (h : φ.c[n]? = some a) (q : Rps K φ H xs vs) : RM K φ (upd H a (.lst vs)) (M.set n (.lst xs)) := by
  refine ⟨by simp [r.len], r.nd, res_upd r.res, fun m b c h1 h2 => ?_⟩
  by_cases k : n = m
  · subst k
    have hn : n < M.length := by rw [← r.len]; exact (List.getElem?_eq_some_iff.mp h).1
    rw [List.getElem?_set_self hn] at h2
    rw [h] at h1
    cases h1; cases h2
    exact ⟨vs, upd_same, q.mono (xt_set r h)⟩
  · rw [List.getElem?_set_ne k] at h2
    have ne : b ≠ a := fun z => by
      subst z
      exact k (r.eq_of h h1)
    exact (r.cells m b c h1 h2).mono_same (xt_set r h) fun u e => by rw [upd_ne ne]; exact e
/-! ### a list that is being made at D -/
theorem ne_mem {l : List Addr} {a D : Addr} (h : D ∈ l) (n : a ∉ l) : a ≠ D := fun z => n (by rw [z]; exact h)
def Ph.hide (φ : Ph) (D : Addr) : Ph := ⟨φ.c, D :: φ.r⟩
theorem xt_hide {D : Addr} {o : HO} (h : H D = none) : Xt φ H (φ.hide D) (upd H D o) :=
  ⟨⟨[], by simp [Ph.hide]⟩, fun _ k => List.mem_cons_of_mem _ k, fun a u e _ => by rw [upd_ne (ne_of_none e h)]; exact e, fun _ a n => absurd a n, fun a k n => by
    rcases List.mem_cons.mp k with k | k
    · rw [k]; exact h
    · exact absurd k n, fun a u e => ⟨u, by rw [upd_ne (ne_of_none e h)]; exact e⟩⟩
mutual
/-- what lies at a hidden place changes -/
theorem Rp.under {D : Addr} {ws : List V} {o : HO} (h : H D = some (.lst ws)) (hd : D ∈ φ.r) : ∀ {v : PV} {u : V}, Rp K φ H v u → Rp K φ (upd H D o) v u
  | _, _, .non => .non
  | _, _, .bl b => .bl b
  | _, _, .int i => .int i
  | _, _, .str s => .str s
  | _, _, .tup k r => .tup (by
      rcases k with (k | ⟨o, k⟩) | k
      · exact .inl (.inl (by rw [upd_ne (ne_of k h (by intro z; cases z))]; exact k))
      · exact .inl (.inr ⟨o, by rw [upd_ne (ne_of k h (by intro z; cases z))]; exact k⟩)
      · exact .inr k) (Rps.under h hd r)
  | _, _, .lst k n r => .lst (by rw [upd_ne (ne_mem hd n.2)]; exact k) n (Rps.under h hd r)
  | _, _, .rol k r => .rol (by
      rcases k with ⟨o, k⟩ | ⟨k, n⟩ | k
      · exact .inl ⟨o, by rw [upd_ne (ne_of k h (by intro z; cases z))]; exact k⟩
      · exact .inr (.inl ⟨by rw [upd_ne (ne_mem hd n.2)]; exact k, n⟩)
      · exact .inr (.inr k)) (Rps.under h hd r)
  | _, _, .ref k => .ref k
  | _, _, .dct k n => .dct (by rw [upd_ne (ne_mem hd n.2)]; exact k) n
theorem Rps.under {D : Addr} {ws : List V} {o : HO} (h : H D = some (.lst ws)) (hd : D ∈ φ.r) : ∀ {v : List PV} {u : List V}, Rps K φ H v u → Rps K φ (upd H D o) v u
  | _, _, .nil => .nil
  | _, _, .cons k r => .cons (Rp.under h hd k) (Rps.under h hd r)
end
mutual
theorem Rp.less {l : List Addr} (s : ∀ a, a ∈ l → a ∈ φ.r) : ∀ {v : PV} {u : V}, Rp K φ H v u → Rp K ⟨φ.c, l⟩ H v u
  | _, _, .non => .non
  | _, _, .bl b => .bl b
  | _, _, .int i => .int i
  | _, _, .str s => .str s
  | _, _, .tup k r => .tup k (Rps.less s r)
  | _, _, .lst k n r => .lst k ⟨n.1, fun z => n.2 (s _ z)⟩ (Rps.less s r)
  | _, _, .rol k r => .rol (by
      rcases k with ⟨o, k⟩ | ⟨k, n⟩ | k
      · exact .inl ⟨o, k⟩
      · exact .inr (.inl ⟨k, n.1, fun z => n.2 (s _ z)⟩)
      · exact .inr (.inr k)) (Rps.less s r)
  | _, _, .ref k => .ref k
  | _, _, .dct k n => .dct k ⟨n.1, fun z => n.2 (s _ z)⟩
theorem Rps.less {l : List Addr} (s : ∀ a, a ∈ l → a ∈ φ.r) : ∀ {v : List PV} {u : List V}, Rps K φ H v u → Rps K ⟨φ.c, l⟩ H v u
  | _, _, .nil => .nil
  | _, _, .cons k r => .cons (Rp.less s k) (Rps.less s r)
end
mutual
/-- a hidden place becomes a cell -/
theorem Rp.shift {l : List Addr} {D : Addr} (s : ∀ a, a ∈ l → a ∈ φ.r) (hd : D ∈ φ.r) : ∀ {v : PV} {u : V}, Rp K φ H v u → Rp K (Ph.add ⟨φ.c, l⟩ D) H v u
  | _, _, .non => .non
  | _, _, .bl b => .bl b
  | _, _, .int i => .int i
  | _, _, .str s => .str s
  | _, _, .tup k r => .tup k (Rps.shift s hd r)
  | _, _, .lst k n r => .lst k ⟨fun z => (List.mem_append.mp z).elim n.1 fun z => n.2 (by rw [List.mem_singleton.mp z]; exact hd), fun z => n.2 (s _ z)⟩ (Rps.shift s hd r)
  | _, _, .rol k r => .rol (by
      rcases k with ⟨o, k⟩ | ⟨k, n⟩ | k
      · exact .inl ⟨o, k⟩
      · exact .inr (.inl ⟨k, fun z => (List.mem_append.mp z).elim n.1 fun z => n.2 (by rw [List.mem_singleton.mp z]; exact hd), fun z => n.2 (s _ z)⟩)
      · exact .inr (.inr k)) (Rps.shift s hd r)
  | _, _, .ref k => .ref (by
      have hl := (List.getElem?_eq_some_iff.mp k).1
      show (φ.c ++ [D])[_]? = _
      rw [List.getElem?_append_left hl]; exact k)
  | _, _, .dct k n => .dct k ⟨fun z => (List.mem_append.mp z).elim n.1 fun z => n.2 (by rw [List.mem_singleton.mp z]; exact hd), fun z => n.2 (s _ z)⟩
theorem Rps.shift {l : List Addr} {D : Addr} (s : ∀ a, a ∈ l → a ∈ φ.r) (hd : D ∈ φ.r) : ∀ {v : List PV} {u : List V}, Rps K φ H v u → Rps K (Ph.add ⟨φ.c, l⟩ D) H v u
  | _, _, .nil => .nil
  | _, _, .cons k r => .cons (Rp.shift s hd k) (Rps.shift s hd r)
end
theorem RM.enter (m : RM K φ H M) {D : Addr} {o : HO} (h : H D = none) : RM K (φ.hide D) (upd H D o) M :=
  ⟨m.len, m.nd, fun a k => by
    by_cases e : a = D
    · subst e; exact ⟨_, upd_same⟩
    · rw [upd_ne e]
      exact m.res a ((List.mem_cons.mp k).resolve_left e), fun n a c h1 h2 =>
    (m.cells n a c h1 h2).mono_same (xt_hide h) fun u e => by rw [upd_ne (ne_of_none e h)]; exact e⟩
theorem RM.under (m : RM K φ H M) {D : Addr} {ws : List V} {o : HO} (h : H D = some (.lst ws)) (hd : D ∈ φ.r) (hc : D ∉ φ.c) : RM K φ (upd H D o) M :=
  ⟨m.len, m.nd, res_upd m.res, fun n a c h1 h2 => by
    have k := m.cells n a c h1 h2
    have ne : a ≠ D := fun z => hc (z ▸ List.mem_of_getElem? h1)
    cases c with
    | lst xs =>
      obtain ⟨vs, h3, h4⟩ := k
      exact ⟨vs, by rw [upd_ne ne]; exact h3, h4.under h hd⟩
    | dic _ => exact k⟩
theorem RM.less (m : RM K φ H M) {l : List Addr} (s : ∀ a, a ∈ l → a ∈ φ.r) : RM K ⟨φ.c, l⟩ H M :=
  ⟨m.len, m.nd, fun a k => m.res a (s a k), fun n a c h1 h2 => by
    have k := m.cells n a c h1 h2
    cases c with
    | lst xs =>
      obtain ⟨vs, h3, h4⟩ := k
      exact ⟨vs, h3, h4.less s⟩
    | dic _ => exact k⟩

/-! ### lists of values -/
theorem Rps.length : ∀ {xs : List PV} {vs : List V}, Rps K φ H xs vs → xs.length = vs.length
  | _, _, .nil => rfl
  | _, _, .cons _ r => by simp [Rps.length r]
theorem Rps.append : ∀ {xs ys : List PV} {vs ws : List V}, Rps K φ H xs vs → Rps K φ H ys ws → Rps K φ H (xs ++ ys) (vs ++ ws)
  | _, _, _, _, .nil, q => q
  | _, _, _, _, .cons h r, q => .cons h (Rps.append r q)
theorem Rps.get : ∀ {xs : List PV} {vs : List V} {i : Nat} {x : PV}, Rps K φ H xs vs → xs[i]? = some x → ∃ v, vs[i]? = some v ∧ Rp K φ H x v
  | _, _, _, _, .nil, e => by simp at e
  | _, _, 0, _, .cons h _, e => by simp at e; subst e; exact ⟨_, rfl, h⟩
  | _, _, i + 1, _, .cons _ r, e => by
    obtain ⟨v, h1, h2⟩ := Rps.get (i := i) r (by simpa using e)
    exact ⟨v, by simpa using h1, h2⟩
theorem Rps.set : ∀ {xs : List PV} {vs : List V} (i : Nat) {x : PV} {v : V}, Rps K φ H xs vs → Rp K φ H x v → Rps K φ H (xs.set i x) (vs.set i v)
  | _, _, _, _, _, .nil, _ => .nil
  | _, _, 0, _, _, .cons _ r, q => .cons q r
  | _, _, i + 1, _, _, .cons h r, q => .cons h (Rps.set i r q)
theorem Rps.take : ∀ {xs : List PV} {vs : List V} (n : Nat), Rps K φ H xs vs → Rps K φ H (xs.take n) (vs.take n)
  | _, _, 0, _ => .nil
  | _, _, _ + 1, .nil => .nil
  | _, _, n + 1, .cons h r => .cons h (Rps.take n r)
theorem Rps.drop : ∀ {xs : List PV} {vs : List V} (n : Nat), Rps K φ H xs vs → Rps K φ H (xs.drop n) (vs.drop n)
  | _, _, 0, r => r
  | _, _, _ + 1, .nil => .nil
  | _, _, n + 1, .cons _ r => Rps.drop n r
theorem Rps.rev : ∀ {xs : List PV} {vs : List V}, Rps K φ H xs vs → Rps K φ H xs.reverse vs.reverse
  | _, _, .nil => .nil
  | _, _, .cons h r => by
    rw [List.reverse_cons, List.reverse_cons]
    exact (Rps.rev r).append (.cons h .nil)
theorem Rps.rep {xs : List PV} {vs : List V} (r : Rps K φ H xs vs) : ∀ n : Nat, Rps K φ H (List.replicate n xs).flatten (List.replicate n vs).flatten
  | 0 => .nil
  | n + 1 => by
    rw [List.replicate_succ, List.replicate_succ, List.flatten_cons, List.flatten_cons]
    exact r.append (Rps.rep r n)
theorem Rps.atI {xs : List PV} {vs : List V} {i : Int} {x : PV} (r : Rps K φ H xs vs) (h : atI xs i = some x) : ∃ v, L2.atI vs i = some v ∧ Rp K φ H x v := by
  unfold L2.atI at h ⊢
  rw [← r.length]
  cases e : ixN xs.length i with
  | none => rw [e] at h; cases h
  | some j =>
    rw [e] at h
    exact r.get (i := j) h
theorem Rps.isEmpty {xs : List PV} {vs : List V} (r : Rps K φ H xs vs) : xs.isEmpty = vs.isEmpty := by
  cases r <;> rfl
/-- the items of a list -/
theorem items_sq (m : RM K φ H M) {v : PV} {u : V} {xs : List PV} (r : Rp K φ H v u) (h : items M v = some xs) : ∃ a vs, u = .ref a ∧ SqL K H a vs ∧ Rps K φ H xs vs := by
  cases r with
  | lst h1 n r1 => cases h; exact ⟨_, _, rfl, .inl (.inl h1), r1⟩
  | rol h1 r1 => cases h; exact ⟨_, _, rfl, h1.sq, r1⟩
  | @ref n a h1 =>
    unfold items at h
    simp only at h
    split at h
    · rename_i ys e
      cases h
      obtain ⟨b, h2, vs, h3, h4⟩ := m.at_ e
      rw [h1] at h2; cases h2
      exact ⟨_, _, rfl, .inl (.inl h3), h4⟩
    · cases h
  | non | bl | int | str | tup | dct => cases h
theorem itemsW_sq (m : RM K φ H M) {v : PV} {u : V} {xs : List PV} (r : Rp K φ H v u) (h : itemsW M v = some xs) : ∃ a vs, u = .ref a ∧ H a = some (.lst vs) ∧ Rps K φ H xs vs := by
  cases r with
  | lst h1 n r1 => cases h; exact ⟨_, _, rfl, h1, r1⟩
  | @ref n a h1 =>
    unfold itemsW at h
    simp only at h
    split at h
    · rename_i ys e
      cases h
      obtain ⟨b, h2, vs, h3, h4⟩ := m.at_ e
      rw [h1] at h2; cases h2
      exact ⟨_, _, rfl, h3, h4⟩
    · cases h
  | non | bl | int | str | tup | rol | dct => cases h
theorem itemsT_sq (m : RM K φ H M) {v : PV} {u : V} {xs : List PV} (r : Rp K φ H v u) (h : itemsT M v = some xs) : ∃ a vs, u = .ref a ∧ (SqL K H a vs ∨ SqT K H a vs) ∧ Rps K φ H xs vs := by
  cases r with
  | tup h1 r1 => cases h; exact ⟨_, _, rfl, .inr h1, r1⟩
  | lst h1 n r1 =>
    obtain ⟨a, vs, e, h2, h3⟩ := items_sq m (.lst h1 n r1) h
    exact ⟨a, vs, e, .inl h2, h3⟩
  | rol h1 r1 =>
    obtain ⟨a, vs, e, h2, h3⟩ := items_sq m (.rol h1 r1) h
    exact ⟨a, vs, e, .inl h2, h3⟩
  | ref h1 =>
    obtain ⟨a, vs, e, h2, h3⟩ := items_sq m (.ref h1) h
    exact ⟨a, vs, e, .inl h2, h3⟩
  | non | bl | int | str | dct => cases h
/-! ### data -/
mutual
theorem toD_dp : ∀ {v : PV} {u : V} {d : PyData}, Rp K φ H v u → toD v = some d → Dp K H u d
  | .non, _, _, .non, e => by cases e; exact .non
  | .bl b, _, _, .bl _, e => by cases e; exact .bl b
  | .int i, _, _, .int _, e => by cases e; exact .int i
  | .str s, _, _, .str _, e => by cases e; exact .str s
  | .tup xs, _, d, .tup h r, e => by
    unfold toD at e
    cases k : toDs xs with
    | none => rw [k] at e; cases e
    | some ds => rw [k] at e; cases e; exact .tup h (toDs_dp r k)
  | .lst xs, _, d, .lst h n r, e => by
    unfold toD at e
    cases k : toDs xs with
    | none => rw [k] at e; cases e
    | some ds => rw [k] at e; cases e; exact .lst (.inl (.inl h)) (toDs_dp r k)
  | .rol xs, _, d, .rol h r, e => by
    unfold toD at e
    cases k : toDs xs with
    | none => rw [k] at e; cases e
    | some ds => rw [k] at e; cases e; exact .lst h.sq (toDs_dp r k)
  | .ref n, _, _, .ref h, e => by cases e
  | .dct n, _, _, .dct h _, e => by cases e
theorem toDs_dp : ∀ {v : List PV} {u : List V} {d : List PyData}, Rps K φ H v u → toDs v = some d → DpAll K H u d
  | [], _, _, .nil, e => by cases e; exact .nil
  | x :: xs, _, d, .cons h r, e => by
    unfold toDs at e
    cases k1 : toD x with
    | none => rw [k1] at e; cases e
    | some d1 =>
      cases k2 : toDs xs with
      | none => rw [k1, k2] at e; cases e
      | some ds => rw [k1, k2] at e; cases e; exact .cons (toD_dp h k1) (toDs_dp r k2)
end
theorem toDM_dp (m : RM K φ H M) {v : PV} {u : V} {d : PyData} (r : Rp K φ H v u) (e : toDM M v = some d) : Dp K H u d := by
  cases r with
  | ref h1 =>
    unfold toDM at e
    simp only at e
    split at e
    · rename_i xs e1
      obtain ⟨b, h2, vs, h3, h4⟩ := m.at_ e1
      rw [h1] at h2; cases h2
      cases k : toDs xs with
      | none => rw [k] at e; cases e
      | some ds => rw [k] at e; cases e; exact .lst (.inl (.inl h3)) (toDs_dp h4 k)
    · cases e
  | non => exact toD_dp (φ := φ) .non e
  | bl b => exact toD_dp (φ := φ) (.bl b) e
  | int i => exact toD_dp (φ := φ) (.int i) e
  | str i => exact toD_dp (φ := φ) (.str i) e
  | tup h r => exact toD_dp (.tup h r) e
  | lst h n r => exact toD_dp (.lst h n r) e
  | rol h r => exact toD_dp (.rol h r) e
  | dct h n => cases e
theorem truthy_tru (m : RM K φ H M) {v : PV} {u : V} {b : Bool} (r : Rp K φ H v u) (e : truthy M v = some b) : TruV K u H b := by
  cases r with
  | non => cases e; rfl
  | bl b => cases e; rfl
  | int i => cases e; rfl
  | str s =>
    unfold truthy at e
    simp only at e
    split at e
    · rename_i h; cases e; exact ⟨h, rfl⟩
    · cases e
  | tup h r => cases e; exact .inr (.inl ⟨_, h, by rw [r.isEmpty]⟩)
  | lst h n r => cases e; exact .inl ⟨_, .inl (.inl h), by rw [r.isEmpty]⟩
  | rol h r => cases e; exact .inl ⟨_, h.sq, by rw [r.isEmpty]⟩
  | ref h1 =>
    unfold truthy at e
    simp only at e
    split at e
    · rename_i xs e1
      cases e
      obtain ⟨b, h2, vs, h3, h4⟩ := m.at_ e1
      rw [h1] at h2; cases h2
      exact .inl ⟨_, .inl (.inl h3), by rw [h4.isEmpty]⟩
    · cases e
  | dct h n => cases e
end
end Ev

/-! The operations on values, over the interpreter's. -/
namespace Ev
section
open PySem PySem.Spec PyProof.Rows L2
theorem tuple_mulE (l : Addr) (n : Nat) (dd : Option Addr) (sl : Array (Option Value)) (x : Int) (u : Tok) (c0 : (decide (x < -(2 ^ 63)) || decide (x ≥ 2 ^ 63)) = false) :
    Meets (Builtin.«tuple.__mul__» ⟨[.ref l, .int x u], []⟩) (fun _ R s => s.heap.get? l = some { cls := .type "tuple", dict := dd, data := .seq #[] n, slots := sl } ∧ R (.ok (.ret (.ref l))) s) :=
  .of_wp fun prog w A R s h => by
    obtain ⟨hp, g, d, tk, os⟩ := s
    obtain ⟨hl, h⟩ := h
    have f1 := AutoSeq1.idx_int
    have hT : Shared.TypeIs ⟨hp, g, d, tk, os⟩ (.ref l) "tuple" := ⟨_, hl, rfl⟩
    have c1 : ((#[] : Array Value).isEmpty || x == 1) = true := by simp
    wp_walk using wpAny_loadPart' hl, wpAny_typeOf hT
    repeat (first
      | (refine wpAny_ite_false (decide_eq_false (by rw [c0]; exact Bool.false_ne_true)) ?_; wp_walk using wpAny_loadPart' hl, wpAny_typeOf hT)
      | (refine wpAny_ite_true (decide_eq_true (by first | exact c1 | rfl)) ?_; wp_walk using wpAny_loadPart' hl, wpAny_typeOf hT))
    exact ⟨_, rfl, h⟩
def rRepT0 (K : PySem.W.Frag) : R2 := fun x y H Q => ∃ l k, x = .ref l ∧ y = .int k ∧ SqT K H l [] ∧ -(2 ^ 63) ≤ k ∧ k < 2 ^ 63 ∧ Q (.ref l) H
theorem op_repT0 {X : Cx} : OpR X (binaryOp .Mult) (rRepT0 X.K) := by
  intro pins s σ H x y v u Q I rx ry h
  obtain ⟨l, k, rfl, rfl, hT, h1, h2, q⟩ := h
  cases rx
  obtain ⟨t, rfl⟩ := ry
  obtain ⟨its, r, ⟨⟨cls, dd, data, sl⟩, ho, hc, n, hd⟩, hs⟩ := I.tuple hT
  simp only at hc hd
  subst hc hd
  cases r
  have c0 : (decide (k < -(2 ^ 63)) || decide (k ≥ 2 ^ 63)) = false := by
    rw [decide_eq_false (by omega), decide_eq_false (by omega)] <;> rfl
  exact wpAny_binaryOp_repeat_ref (T := "tuple") (U := "int") (by decide) ⟨_, ho, rfl⟩ (fun s' => typeIs_int s' k t) noFill_tuple_mul F.fills_int_mul F.slot_int_rmul repeat_tuple F.slot_int_index.lookup
    (call_meets F.slot_int_rmul (typeIs_int s k t) F.entry_int_rmul (F.args_int_rmul_2 _ _) (int_rmul_tuple k t l #[] n dd sl)
      ⟨ho, rfl, ⟨_, ho, rfl⟩, call_meets F.slot_tuple_mul ⟨_, ho, rfl⟩ F.entry_tuple_mul (F.args_tuple_mul_2 _ _) (tuple_mulE l n dd sl k t c0) ⟨ho, ⟨.ref l, H, I, rfl, q⟩⟩⟩)
end
open PySem PySem.Spec PyProof.Rows L2
section
variable {K : PySem.W.Frag} {φ φ' φ2 : Ph} {H H' H2 : Hp} {M M' : Mem}
/-- what is wanted behind a step -/
def Pst (K : PySem.W.Frag) (φ : Ph) (H : Hp) (M : Mem) (z : PV) (Q : VK) : Prop := ∀ φ' H' u, Xt φ H φ' H' → RM K φ' H' M → Rp K φ' H' z u → Q u H'
theorem Pst.here {z : PV} {u : V} {Q : VK} (k : Pst K φ H M z Q) (m : RM K φ H M) (r : Rp K φ H z u) : Q u H := k φ H u .refl m r
theorem Pst.tup {xs : List PV} {vs : List V} {Q : VK} (k : Pst K φ H M (.tup xs) Q) (m : RM K φ H M) (r : Rps K φ H xs vs) {p : Addr} (h : H p = none) : Q (.ref p) (upd H p (.tup vs)) :=
  k φ _ _ (xt_new h) (m.new h) (.tup (.inl (.inl upd_same)) (r.mono (xt_new h)))
theorem Pst.lst {xs : List PV} {vs : List V} {Q : VK} (k : Pst K φ H M (.lst xs) Q) (m : RM K φ H M) (r : Rps K φ H xs vs) {p : Addr} (h : H p = none) : Q (.ref p) (upd H p (.lst vs)) :=
  k φ _ _ (xt_new h) (m.new h) (.lst upd_same (m.notin2 h) (r.mono (xt_new h)))
theorem Pst.cell {xs : List PV} {vs : List V} {Q : VK} (k : Pst K φ H (M ++ [.lst xs]) (.ref M.length) Q) (m : RM K φ H M) (r : Rps K φ H xs vs) {p : Addr} (h : H p = none) : Q (.ref p) (upd H p (.lst vs)) :=
  k (φ.add p) _ _ (xt_cell h) (m.cell h r) (.ref (by show (φ.c ++ [p])[M.length]? = some p; rw [← m.len, List.getElem?_append_right (Nat.le_refl _)]; simp))
theorem Pst.newL {b : Bool} {xs : List PV} {vs : List V} {Q : VK} (k : Pst K φ H (newL b xs M).2 (newL b xs M).1 Q) (m : RM K φ H M) (r : Rps K φ H xs vs) {p : Addr} (h : H p = none) : Q (.ref p) (upd H p (.lst vs)) := by
  cases b with
  | true => exact Pst.cell k m r h
  | false => exact Pst.lst k m r h
theorem Pst.asM {z : PV} {u : V} {Q : VK} {f : Bool} (k : Pst K φ H (Ev.asM f z M).2 (Ev.asM f z M).1 Q) (m : RM K φ H M) (r : Rp K φ H z u) (h : ∀ xs, z ≠ .lst xs := by intro _ h; cases h) : Q u H := by
  cases f with
  | false => exact k.here m r
  | true => cases z <;> first | exact k.here m r | exact absurd rfl (h _)
theorem Pst.asT {xs : List PV} {vs : List V} {Q : VK} {f : Bool} (k : Pst K φ H (Ev.asM f (.tup xs) M).2 (Ev.asM f (.tup xs) M).1 Q) (m : RM K φ H M) (r : Rps K φ H xs vs) {p : Addr} (h : H p = none) : Q (.ref p) (upd H p (.tup vs)) := by
  have k1 : Pst K φ H M (.tup xs) Q := by cases f <;> exact k
  exact k1.tup m r h
theorem Pst.asL {xs : List PV} {vs : List V} {Q : VK} {f : Bool} (k : Pst K φ H (Ev.asM f (.lst xs) M).2 (Ev.asM f (.lst xs) M).1 Q) (m : RM K φ H M) (r : Rps K φ H xs vs) {p : Addr} (h : H p = none) : Q (.ref p) (upd H p (.lst vs)) := by
  cases f with
  | false => exact Pst.lst k m r h
  | true => exact Pst.cell k m r h
def rB (K : PySem.W.Frag) (g : Bool) (f : Mem → PV → PV → Option PV) : R2 := fun x y H Q => ∃ φ M v w z, RM K φ H M ∧ Rp K φ H v x ∧ Rp K φ H w y ∧ f M v w = some z ∧ Pst K φ H (asM g z M).2 (asM g z M).1 Q
end
section
variable {X : Cx}
theorem op_fdivG : OpR X (binaryOp .FloorDiv) (L2.rI (fun i j => j ≠ 0 ∧ j.natAbs.log2 < 9000) fun i j => .int (i.fdiv j)) := opI fun i j _ _ _ _ _ hc q =>
  floordiv_int hc.1 q (.inl (PyProof.noPylong_of_log2 hc.2))
/-- () + t -/
theorem op_catT0 : OpR X (binaryOp .Add) (fun x y H Q => ∃ a b ys, x = .ref a ∧ y = .ref b ∧ SqT X.K H a [] ∧ SqT X.K H b ys ∧ Q (.ref b) H) := by
  intro pins s σ H x y v u Q I rx ry h
  obtain ⟨a, b, ys, rfl, rfl, ha, hb, q⟩ := h
  cases rx
  cases ry
  obtain ⟨its, r1, p1, _⟩ := I.tuple ha
  obtain ⟨its2, r2, p2, _⟩ := I.tuple hb
  cases r1
  obtain ⟨⟨cls, dd, data, sl⟩, ho, hc, n, hd⟩ := _root_.id p1
  obtain ⟨⟨cls2, dd2, data2, sl2⟩, ho2, hc2, n2, hd2⟩ := _root_.id p2
  simp only at hc hd hc2 hd2
  subst hc hd hc2 hd2
  exact concat_meets ⟨_, ho, rfl⟩ ⟨_, ho2, rfl⟩ noFill_tuple_add seq_tuple_add PySem.F.slot_tuple_add PySem.F.entry_tuple_add (PySem.F.args_tuple_add_2 _ _)
      (tuple_addW0 a b _ _ n n2 dd dd2 sl sl2 (by simp)) ⟨ho, ho2, ⟨.ref b, H, I, rfl, q⟩⟩
theorem orR {f : Value → Value → Sem Value} {r r' : R2} (h : OpR X f r) (h' : OpR X f r') : OpR X f (fun x y H Q => r x y H Q ∨ r' x y H Q) := OpR.or h h'
/-- a rule by another -/
theorem OpR.imp {f : Value → Value → Sem Value} {r r' : R2} (h : OpR X f r) (k : ∀ x y H Q, r' x y H Q → r x y H Q) : OpR X f r' :=
  fun pins s σ H x y v u Q I rx ry q => h pins s σ H x y v u Q I rx ry (k _ _ _ _ q)

theorem o_add {g : Bool} : OpR X (binaryOp .Add) (rB X.K g fun M => binop M .add) := by
  refine OpR.imp (orR op_add (orR op_catT (orR op_catT0 (orR op_add_str op_cat)))) fun x y H Q h => ?_
  obtain ⟨φ, M, v, w, z, m, r1, r2, e, k⟩ := h
  change addOp M v w = some z at e
  unfold addOp at e
  split at e
  · cases e; cases r1; cases r2
    exact .inl ⟨_, _, rfl, rfl, k.asM m (.int _)⟩
  · split at e
    · rename_i hz
      have hz := of_decide_eq_true hz
      cases e
      cases r1 with
      | tup h1 q1 =>
      cases r2 with
      | tup h2 q2 =>
      rename_i xs ys a vs b ws
      by_cases e0 : vs = []
      · subst e0
        cases q1
        exact .inr (.inr (.inl ⟨_, _, _, rfl, rfl, h1, h2, k.asM m (.tup h2 q2)⟩))
      · refine .inr (.inl ⟨_, _, _, _, rfl, rfl, h1, h2, e0, by rw [← q1.length, ← q2.length]; exact hz, fun e1 => ?_, fun _ p hp => k.asT m (q1.append q2) hp⟩)
        subst e1
        cases q2
        refine k.asM m (.tup h1 ?_)
        rw [List.append_nil]; exact q1
    · cases e
  · split at e
    · rename_i hz
      have hz := of_decide_eq_true hz
      cases e; cases r1; cases r2
      exact .inr (.inr (.inr (.inl ⟨_, _, rfl, rfl, hz, k.asM m (.str _)⟩)))
    · cases e
  · split at e
    · rename_i xs ys h1 h2
      split at e
      · rename_i hz
        have hz := of_decide_eq_true hz
        cases e
        obtain ⟨a, vs, rfl, ha, q1⟩ := itemsW_sq m r1 h1
        obtain ⟨b, ws, rfl, hb, q2⟩ := itemsW_sq m r2 h2
        exact .inr (.inr (.inr (.inr ⟨_, _, _, _, rfl, rfl, ha, hb, by rw [← q1.length, ← q2.length]; exact hz, fun p hp => k.asL m (q1.append q2) hp⟩)))
      · cases e
    · cases e
theorem op_subB : OpR X (binaryOp .Sub) (fun x y H Q => ∃ i k, x = .bl i ∧ y = .bl k ∧ Q (.int ((if i then 1 else 0) - (if k then 1 else 0))) H) := by
  intro pins s σ H x y v u Q I rx ry h
  obtain ⟨i, k, rfl, rfl, q⟩ := h
  cases rx
  cases ry
  exact PyProof.Rows.sub_bool ⟨.int ((if i then 1 else 0) - (if k then 1 else 0)), H, I.tok _, ⟨_, rfl⟩, q⟩
theorem o_sub {g : Bool} : OpR X (binaryOp .Sub) (rB X.K g fun M => binop M .sub) := by
  refine OpR.imp (orR op_sub op_subB) fun x y H Q h => ?_
  obtain ⟨φ, M, v, w, z, m, r1, r2, e, k⟩ := h
  change subOp v w = some z at e
  unfold subOp at e
  split at e
  · cases e; cases r1; cases r2
    exact .inl ⟨_, _, rfl, rfl, k.asM m (.int _)⟩
  · cases e; cases r1; cases r2
    exact .inr ⟨_, _, rfl, rfl, k.asM m (.int _)⟩
  · cases e
theorem o_fdiv {g : Bool} : OpR X (binaryOp .FloorDiv) (rB X.K g fun M => binop M .fdiv) := by
  refine OpR.imp op_fdivG fun x y H Q h => ?_
  obtain ⟨φ, M, v, w, z, m, r1, r2, e, k⟩ := h
  change fdivOp v w = some z at e
  unfold fdivOp at e
  split at e
  · split at e
    · rename_i hz
      unfold divOk at hz
      rw [Bool.and_eq_true] at hz
      cases e; cases r1; cases r2
      exact ⟨_, _, rfl, rfl, ⟨of_decide_eq_true hz.1, of_decide_eq_true hz.2⟩, k.asM m (.int _)⟩
    · cases e
  · cases e
theorem o_mod {g : Bool} : OpR X (binaryOp .Mod) (rB X.K g fun M => binop M .mod) := by
  refine OpR.imp op_modN fun x y H Q h => ?_
  obtain ⟨φ, M, v, w, z, m, r1, r2, e, k⟩ := h
  change modOp v w = some z at e
  unfold modOp at e
  split at e
  · split at e
    · rename_i hz
      cases e; cases r1; cases r2
      exact ⟨_, _, rfl, rfl, of_decide_eq_true hz, k.asM m (.int _)⟩
    · cases e
  · cases e
theorem o_pow {g : Bool} : OpR X (binaryOp .Pow) (rB X.K g fun M => binop M .pow) := by
  refine OpR.imp op_pow fun x y H Q h => ?_
  obtain ⟨φ, M, v, w, z, m, r1, r2, e, k⟩ := h
  change powOp v w = some z at e
  unfold powOp at e
  split at e
  · split at e
    · rename_i hz
      rw [Bool.and_eq_true, Bool.and_eq_true] at hz
      cases e; cases r1; cases r2
      exact ⟨_, _, rfl, rfl, ⟨of_decide_eq_true hz.1.1, of_decide_eq_true hz.1.2, of_decide_eq_true hz.2⟩, k.asM m (.int _)⟩
    · cases e
  · cases e
theorem o_mul {g : Bool} : OpR X (binaryOp .Mult) (rB X.K g fun M => binop M .mul) := by
  refine OpR.imp (orR op_mul (orR op_mulW (orR op_repT0 (orR op_repT op_rep)))) fun x y H Q h => ?_
  obtain ⟨φ, M, v, w, z, m, r1, r2, e, k⟩ := h
  change mulOp M v w = some z at e
  unfold mulOp at e
  split at e
  · split at e
    · rename_i hz
      unfold mulOk at hz
      rw [Bool.or_eq_true] at hz
      cases e; cases r1; cases r2
      rcases hz with hz | hz
      · have hz' := of_decide_eq_true hz
        exact .inl ⟨_, _, rfl, rfl, hz', k.asM m (.int _)⟩
      · have hz' := of_decide_eq_true hz
        exact .inr (.inl ⟨_, _, rfl, rfl, hz', k.asM m (.int _)⟩)
    · cases e
  · split at e
    · rename_i hz
      rw [Bool.and_eq_true] at hz
      cases e
      cases r2
      cases r1 with
      | tup ha q1 =>
      cases q1
      exact .inr (.inr (.inl ⟨_, _, rfl, rfl, ha, of_decide_eq_true hz.1, of_decide_eq_true hz.2, k.asM m (.tup ha .nil)⟩))
    · cases e
  · split at e
    · rename_i hz
      rw [Bool.and_eq_true, Bool.and_eq_true] at hz
      obtain ⟨⟨h2, h3⟩, h4⟩ := hz
      cases e
      cases r2
      cases r1 with
      | tup ha q1 =>
      refine .inr (.inr (.inr (.inl ⟨_, _, _, rfl, rfl, ha, fun z => ?_, of_decide_eq_true h2, of_decide_eq_true h3, by rw [← q1.length]; exact of_decide_eq_true h4, fun p hp => k.asT m (q1.rep _) hp⟩)))
      subst z
      cases q1
    · cases e
  · split at e
    · rename_i xs h1
      split at e
      · rename_i hz
        rw [Bool.and_eq_true, Bool.and_eq_true] at hz
        cases e
        cases r2
        obtain ⟨a, vs, rfl, ha, q1⟩ := itemsW_sq m r1 h1
        exact .inr (.inr (.inr (.inr ⟨_, _, _, rfl, rfl, ha, of_decide_eq_true hz.1.1, of_decide_eq_true hz.1.2, by rw [← q1.length]; exact of_decide_eq_true hz.2, fun p hp => k.asL m (q1.rep _) hp⟩)))
      · cases e
    · cases e
  · cases e
/-! ### comparisons -/
def rC (K : PySem.W.Frag) (f : Mem → PV → PV → Option Bool) : R2 := rB K false fun M v w => (f M v w).map .bl
theorem rC_get {f : Mem → PV → PV → Option Bool} {K : PySem.W.Frag} {x y : V} {H : Hp} {Q : VK} (h : rC K f x y H Q) : ∃ φ M v w b, RM K φ H M ∧ Rp K φ H v x ∧ Rp K φ H w y ∧ f M v w = some b ∧ Q (.bl b) H := by
  obtain ⟨φ, M, v, w, z, m, r1, r2, e, k⟩ := h
  cases e1 : f M v w with
  | none => simp only [e1] at e; cases e
  | some b =>
    simp only [e1] at e
    cases e
    exact ⟨φ, M, v, w, b, m, r1, r2, e1, k.here m (.bl b)⟩
theorem o_cmpI {op : CmpOp} {p : Int → Int → Bool} (h : OpR X (compareOp op) (rI0 fun i j => .bl (p i j))) : OpR X (compareOp op) (rC X.K fun _ => cmpI p) := by
  refine OpR.imp h fun x y H Q h => ?_
  obtain ⟨φ, M, v, w, b, m, r1, r2, e, k⟩ := rC_get h
  unfold cmpI at e
  split at e
  · cases e; cases r1; cases r2
    exact ⟨_, _, rfl, rfl, k⟩
  · cases e
theorem o_lt : OpR X (compareOp .Lt) (rC X.K fun M => cmpop M .lt) := o_cmpI op_lt
theorem o_le : OpR X (compareOp .LtE) (rC X.K fun M => cmpop M .le) := o_cmpI op_le
theorem o_gt : OpR X (compareOp .Gt) (rC X.K fun M => cmpop M .gt) := o_cmpI op_gt
theorem o_ge : OpR X (compareOp .GtE) (rC X.K fun M => cmpop M .ge) := o_cmpI op_ge
theorem eqD_get {K : PySem.W.Frag} {φ : Ph} {H : Hp} {M : Mem} {v w : PV} {x y : V} {b : Bool} (m : RM K φ H M) (r1 : Rp K φ H v x) (r2 : Rp K φ H w y) (e : eqD M v w = some b) :
    ∃ d f, Dp K H x d ∧ Dp K H y f ∧ SeqAt.shaped d = true ∧ SeqAt.shaped f = true ∧ PyData.eqv d f = b := by
  unfold eqD at e
  split at e
  · rename_i d f h1 h2
    split at e
    · rename_i hz
      rw [Bool.and_eq_true] at hz
      cases e
      exact ⟨d, f, toDM_dp m r1 h1, toDM_dp m r2 h2, hz.1, hz.2, rfl⟩
    · cases e
  · cases e
theorem o_eq (hu : X.A.units + 64 < cLine) : OpR X (compareOp .Eq) (rC X.K fun M => cmpop M .eq) := by
  refine OpR.imp (op_eqD hu) fun x y H Q h => ?_
  obtain ⟨φ, M, v, w, b, m, r1, r2, e, k⟩ := rC_get h
  obtain ⟨d, f, h1, h2, h3, h4, e⟩ := eqD_get m r1 r2 e
  subst e
  exact ⟨d, f, h1, h2, h3, h4, k⟩
theorem o_ne (hu : X.A.units + 64 < cLine) : OpR X (compareOp .NotEq) (rC X.K fun M => cmpop M .ne) := by
  refine OpR.imp (op_neD hu) fun x y H Q h => ?_
  obtain ⟨φ, M, v, w, b, m, r1, r2, e, k⟩ := rC_get h
  change (eqD M v w).map (!·) = some b at e
  cases e1 : eqD M v w with
  | none => rw [e1] at e; cases e
  | some b1 =>
    rw [e1] at e
    cases e
    obtain ⟨d, f, h1, h2, h3, h4, e⟩ := eqD_get m r1 r2 e1
    subst e
    exact ⟨d, f, h1, h2, h3, h4, k⟩
theorem isNon_eq {K : PySem.W.Frag} {φ : Ph} {H : Hp} {v : PV} {x : V} (r : Rp K φ H v x) : isNon v = decide (x = .non) := by
  cases r <;> rfl
theorem isOp_get {K : PySem.W.Frag} {φ : Ph} {H : Hp} {v w : PV} {x y : V} {b : Bool} (r1 : Rp K φ H v x) (r2 : Rp K φ H w y) (e : isOp v w = some b) :
    (y = .non ∧ b = decide (x = .non)) ∨ ∃ p q : Bool, x = .bl p ∧ y = .bl q ∧ b = decide (p = q) := by
  unfold isOp at e
  split at e
  · cases e; cases r2; exact .inl ⟨rfl, isNon_eq r1⟩
  · cases e; cases r1; cases r2; exact .inr ⟨_, _, rfl, rfl, rfl⟩
  · cases e
theorem o_is : OpR X (compareOp .Is) (rC X.K fun M => cmpop M .is) := by
  refine OpR.imp (orR op_isN op_isBl) fun x y H Q h => ?_
  obtain ⟨φ, M, v, w, b, m, r1, r2, e, k⟩ := rC_get h
  rcases isOp_get r1 r2 e with ⟨h1, rfl⟩ | ⟨p, q, h1, h2, rfl⟩
  · exact .inl ⟨h1, k⟩
  · exact .inr ⟨p, q, h1, h2, k⟩
theorem o_isn : OpR X (compareOp .IsNot) (rC X.K fun M => cmpop M .isn) := by
  refine OpR.imp (orR op_notN op_notBl) fun x y H Q h => ?_
  obtain ⟨φ, M, v, w, b, m, r1, r2, e, k⟩ := rC_get h
  change (isOp v w).map (!·) = some b at e
  cases e1 : isOp v w with
  | none => rw [e1] at e; cases e
  | some b1 =>
    rw [e1] at e
    cases e
    rcases isOp_get r1 r2 e1 with ⟨h1, rfl⟩ | ⟨p, q, h1, h2, rfl⟩
    · exact .inl ⟨h1, k⟩
    · exact .inr ⟨p, q, h1, h2, k⟩
theorem flat_pv {K : PySem.W.Frag} {φ : Ph} {H : Hp} {v : PV} {x : V} (r : Rp K φ H v x) (h : flatP v = true) : x = pvToV v := by
  cases r <;> first | rfl | cases h
theorem flat_pvs {K : PySem.W.Frag} {φ : Ph} {H : Hp} : ∀ {v : List PV} {x : List V}, Rps K φ H v x → v.all flatP = true → x = v.map pvToV
  | _, _, .nil, _ => rfl
  | _, _, .cons h r, e => by
    rw [List.all_cons, Bool.and_eq_true] at e
    rw [List.map_cons, flat_pv h e.1, flat_pvs r e.2]
theorem inOp_get {K : PySem.W.Frag} {φ : Ph} {H : Hp} {M : Mem} {v w : PV} {x y : V} {b : Bool} (m : RM K φ H M) (r1 : Rp K φ H v x) (r2 : Rp K φ H w y) (e : inOp M v w = some b) :
    ∃ p xs, y = .ref p ∧ (SqL K H p xs ∨ SqT K H p xs) ∧ flatV x = true ∧ xs.all flatV = true ∧ b = inV x xs := by
  unfold inOp at e
  split at e
  · rename_i xs h1
    split at e
    · rename_i hz
      cases e
      rw [Bool.and_eq_true, Bool.and_eq_true, Bool.and_eq_true] at hz
      obtain ⟨⟨h3, h4⟩, h5, h6⟩ := hz
      obtain ⟨a, vs, rfl, h7, h8⟩ := itemsT_sq m r2 h1
      have e1 := flat_pv r1 h3
      have e2 := flat_pvs h8 h4
      subst e1 e2
      exact ⟨a, _, rfl, h7, h5, h6, rfl⟩
    · cases e
  · cases e
theorem o_in : OpR X (compareOp .In) (rC X.K fun M => cmpop M .isin) := by
  refine OpR.imp op_in_seq fun x y H Q h => ?_
  obtain ⟨φ, M, v, w, b, m, r1, r2, e, k⟩ := rC_get h
  obtain ⟨p, xs, h1, h2, h3, h4, rfl⟩ := inOp_get m r1 r2 e
  exact ⟨p, xs, h1, h2, h3, h4, k⟩
theorem o_nin : OpR X (compareOp .NotIn) (rC X.K fun M => cmpop M .notin) := by
  refine OpR.imp op_notIn_seq fun x y H Q h => ?_
  obtain ⟨φ, M, v, w, b, m, r1, r2, e, k⟩ := rC_get h
  change (inOp M v w).map (!·) = some b at e
  cases e1 : inOp M v w with
  | none => rw [e1] at e; cases e
  | some b1 =>
    rw [e1] at e
    cases e
    obtain ⟨p, xs, h1, h2, h3, h4, rfl⟩ := inOp_get m r1 r2 e1
    exact ⟨p, xs, h1, h2, h3, h4, k⟩
end
end Ev

/-! Expressions: each construct's reading is the interpreter's. -/
namespace Ev
open PySem PySem.Spec PyProof.Rows L2
abbrev Cl := Nat → List PV → Mem → Option (PV × Mem)
section
variable (K : PySem.W.Frag) (call : Cl)
def tI (m : E) : TE := fun σ H Q => ∃ φ M env v M', RM K φ H M ∧ RE K φ H env σ ∧ Ev.eval call m env M = some (v, M') ∧ Pst K φ H M' v Q
def tIs (m : Es) : TA := fun σ H Q => ∃ φ M env vs M', RM K φ H M ∧ RE K φ H env σ ∧ Ev.evals call m env M = some (vs, M') ∧ ∀ φ' H' us, Xt φ H φ' H' → RM K φ' H' M' → Rps K φ' H' vs us → Q us H'
/-- as a test -/
def tT (m : E) : TT := fun σ H Q => ∃ φ M env v M' b, RM K φ H M ∧ RE K φ H env σ ∧ Ev.eval call m env M = some (v, M') ∧ truthy M' v = some b ∧ ∀ φ' H', Xt φ H φ' H' → RM K φ' H' M' → Q b H'
end
theorem _root_.L2.PE.imp {X : Cx} {e : Expr} {t t' : TE} (h : PE X e t) (k : ∀ σ H Q, t' σ H Q → t σ H Q) : PE X e t' := ⟨fun pins s σ H Q I q => h.run pins s σ H Q I (k _ _ _ q)⟩
theorem _root_.L2.PT.imp {X : Cx} {e : Expr} {t t' : TT} (h : PT X e t) (k : ∀ σ H Q, t' σ H Q → t σ H Q) : PT X e t' := ⟨fun pins s σ H Q I q => h.run pins s σ H Q I (k _ _ _ q)⟩
theorem _root_.L2.PW.imp {X : Cx} {e : Expr} {t t' : TT} (h : PW X e t) (k : ∀ σ H Q, t' σ H Q → t σ H Q) : PW X e t' := ⟨fun wh pins s σ H Q I q => h.run wh pins s σ H Q I (k _ _ _ q)⟩
theorem _root_.L2.PA.imp {X : Cx} {e : List Expr} {t t' : TA} (h : PA X e t) (k : ∀ σ H Q, t' σ H Q → t σ H Q) : PA X e t' := ⟨fun pos pins s σ H Q I q => h.run pos pins s σ H Q I (k _ _ _ q)⟩
section
variable {K : PySem.W.Frag} {call : Cl} {φ φ' φ1 : Ph} {H H' H1 : Hp} {M M' M1 : Mem} {env : Env} {σ : L2.St}
theorem Pst.mono {z : PV} {Q : VK} (x : Xt φ H φ1 H1) (k : Pst K φ H M z Q) : Pst K φ1 H1 M z Q := fun φ' H' u y => k φ' H' u (x.trans y)
/-- one part is run, then the rest -/
theorem tI.then_ {a : E} {v : PV} {Q : VK} (m : RM K φ H M) (r : RE K φ H env σ) (e : Ev.eval call a env M = some (v, M1))
    (k : ∀ φ1 H1 u, Xt φ H φ1 H1 → RM K φ1 H1 M1 → RE K φ1 H1 env σ → Rp K φ1 H1 v u → Q u H1) : tI K call a σ H Q :=
  ⟨φ, M, env, v, M1, m, r, e, fun φ' H' u x m' q => k φ' H' u x m' (r.mono x) q⟩
theorem tIs.then_ {a : Es} {v : List PV} {Q : List V → Hp → Prop} (m : RM K φ H M) (r : RE K φ H env σ) (e : Ev.evals call a env M = some (v, M1))
    (k : ∀ φ1 H1 u, Xt φ H φ1 H1 → RM K φ1 H1 M1 → RE K φ1 H1 env σ → Rps K φ1 H1 v u → Q u H1) : tIs K call a σ H Q :=
  ⟨φ, M, env, v, M1, m, r, e, fun φ' H' u x m' q => k φ' H' u x m' (r.mono x) q⟩
theorem tT.then_ {a : E} {v : PV} {b : Bool} {Q : Bool → Hp → Prop} (m : RM K φ H M) (r : RE K φ H env σ) (e : Ev.eval call a env M = some (v, M1)) (t : truthy M1 v = some b)
    (k : ∀ φ1 H1, Xt φ H φ1 H1 → RM K φ1 H1 M1 → RE K φ1 H1 env σ → Q b H1) : tT K call a σ H Q :=
  ⟨φ, M, env, v, M1, b, m, r, e, t, fun φ' H' x m' => k φ' H' x m' (r.mono x)⟩
/-- how an evaluation in two steps comes apart -/
theorem bindE {α β : Type} {x : Option (α × Mem)} {f : α → Mem → Option β} {y : β} (h : bnd x f = some y) : ∃ a, x = some a ∧ f a.1 a.2 = some y := by
  cases x with
  | none => cases h
  | some a => exact ⟨a, rfl, h⟩
theorem ifE {β : Type} {b : Bool} {x : Option β} {y : β} (h : iff_ b x = some y) : b = true ∧ x = some y := by
  cases b with
  | true => exact ⟨rfl, h⟩
  | false => cases h
theorem bifE {β : Type} {b : Option Bool} {x z : Option β} {y : β} (h : bifb b x z = some y) : (b = some true ∧ x = some y) ∨ (b = some false ∧ z = some y) := by
  cases b with
  | none => cases h
  | some b =>
    cases b with
    | true => exact .inl ⟨rfl, h⟩
    | false => exact .inr ⟨rfl, h⟩
theorem mapE {α β : Type} {x : Option α} {f : α → β} {y : β} (h : x.map f = some y) : ∃ a, x = some a ∧ f a = y := by
  cases x with
  | none => cases h
  | some a => exact ⟨a, rfl, Option.some.inj h⟩
end
section
variable {X : Cx} {call : Cl} {a b c : Expr} {ma mb mc : E} {pos : Pos}
theorem i_var {x : Str} (i : Nat) (hN : X.N[i]? = some x := by rfl) (hv : Vis X.env.scope x := by first | exact Or.inl rfl | exact Or.inr (Or.inl rfl) | exact Or.inr (Or.inr rfl)) (hd : (x == ("__debug__" : Str)) = false := by decide)
    (hcd : (x == ("__classdict__" : Str)) = false := by decide) : PE X (.Name x pos) (tI X.K call (.var i)) :=
  (pe_var hN hv hd hcd).imp fun σ H Q ⟨φ, M, env, v, M', m, r, e, k⟩ => by
    unfold Ev.eval at e
    split at e
    · rename_i w h
      cases e
      obtain ⟨u, h1, h2⟩ := r.at_ i _ h
      exact ⟨u, h1, k.here m h2⟩
    · cases e
theorem cst_of {v : PV} {t : TE} {e : Expr} (h : PE X e t) (k : ∀ σ H Q φ M, RM X.K φ H M → Pst X.K φ H M v Q → t σ H Q) : PE X e (tI X.K call (.cst v)) :=
  h.imp fun σ H Q ⟨φ, M, env, w, M', m, r, e, q⟩ => by
    unfold Ev.eval at e
    cases e
    exact k σ H Q φ M m q
theorem i_int {i : Int} {j} : PE X (.Constant (.int i) j pos) (tI X.K call (.cst (.int i))) := cst_of pe_int fun _ _ _ _ _ m k => k.here m (.int i)
theorem i_bl {b : Bool} {j} : PE X (.Constant (.bool b) j pos) (tI X.K call (.cst (.bl b))) := cst_of pe_bl fun _ _ _ _ _ m k => k.here m (.bl b)
theorem i_non {j} : PE X (.Constant .none j pos) (tI X.K call (.cst .non)) := cst_of pe_non fun _ _ _ _ _ m k => k.here m .non
theorem i_str {x : Str} {j} : PE X (.Constant (.str x) j pos) (tI X.K call (.cst (.str x))) := cst_of pe_str fun _ _ _ _ _ m k => k.here m (.str x)
/-- a module's constant -/
def Con (K : PySem.W.Frag) (v : PV) (u : V) : Prop := ∀ φ H, Rp K φ H v u
theorem i_glob {x : Str} {v : PV} {z : V} {u : Value} (hg : Gl X x) (hm : X.mg x = some u) (r : RelV z u) (c : Con X.K v z) (hd : (x == ("__debug__" : Str)) = false := by decide) : PE X (.Name x pos) (tI X.K call (.cst v)) :=
  cst_of (pe_glob hg hm r hd) fun _ _ _ _ _ m k => k.here m (c _ _)
theorem i_bin {op : Operator} {o : Bop} (g : Bool) (ho : OpR X (binaryOp op) (rB X.K g fun M => binop M o)) (ha : PE X a (tI X.K call ma)) (hb : PE X b (tI X.K call mb)) : PE X (.BinOp a op b pos) (tI X.K call (.bin o g ma mb)) :=
  (pe_op ho ha hb).imp fun σ H Q ⟨φ, M, env, v, M', m, r, e, k⟩ => by
    unfold Ev.eval at e
    obtain ⟨⟨x, M1⟩, e1, e⟩ := bindE e
    obtain ⟨⟨y, M2⟩, e2, e⟩ := bindE e
    obtain ⟨z, e3, e⟩ := mapE e
    refine tI.then_ m r e1 fun φ1 H1 u x1 m1 r1 q1 => tI.then_ m1 r1 e2 fun φ2 H2 w x2 m2 r2 q2 => ?_
    refine ⟨φ2, M2, x, y, z, m2, q1.mono x2, q2, e3, ?_⟩
    simp only at e
    rw [e]
    exact k.mono (x1.trans x2)
theorem i_neg (ha : PE X a (tI X.K call ma)) : PE X (.UnaryOp .USub a pos) (tI X.K call (.neg ma)) :=
  (pe_un un_neg ha).imp fun σ H Q ⟨φ, M, env, v, M', m, r, e, k⟩ => by
    unfold Ev.eval at e
    obtain ⟨⟨x, M1⟩, e1, e⟩ := bindE e
    simp only at e
    split at e
    · rename_i i
      cases e
      refine tI.then_ m r e1 fun φ1 H1 u x1 m1 r1 q1 => ?_
      cases q1
      exact ⟨i, rfl, k _ _ _ x1 m1 (.int _)⟩
    · cases e
/-! ### tests -/
theorem t_of (ha : PE X a (tI X.K call ma)) (he : ∀ whole, isTrue a X.env whole = (do let v ← whole; standAt a.pos; holding [v] (PySem.truthy v)) := by intro _; rfl) : PT X a (tT X.K call ma) :=
  (pt_truth ha he).imp fun σ H Q ⟨φ, M, env, v, M', b, m, r, e, t, k⟩ =>
    tI.then_ m r e fun φ1 H1 u x1 m1 r1 q1 => ⟨b, truthy_tru m1 q1 t, k _ _ x1 m1⟩
theorem t_not (ha : PT X a (tT X.K call ma)) : PT X (.UnaryOp .Not a pos) (tT X.K call (.not ma)) :=
  (pt_not ha).imp fun σ H Q ⟨φ, M, env, v, M', b, m, r, e, t, k⟩ => by
    unfold Ev.eval at e
    obtain ⟨⟨x, M1⟩, e1, e⟩ := bindE e
    obtain ⟨c, e2, e⟩ := mapE e
    cases e
    cases t
    exact tT.then_ m r e1 e2 fun φ1 H1 x1 m1 r1 => k _ _ x1 m1
theorem i_not (ha : PE X a (tI X.K call ma)) : PE X (.UnaryOp .Not a pos) (tI X.K call (.not ma)) :=
  (pe_notT ha).imp fun σ H Q ⟨φ, M, env, v, M', m, r, e, k⟩ => by
    unfold Ev.eval at e
    obtain ⟨⟨x, M1⟩, e1, e⟩ := bindE e
    obtain ⟨c, e2, e⟩ := mapE e
    cases e
    exact tI.then_ m r e1 fun φ1 H1 u x1 m1 r1 q1 => ⟨c, truthy_tru m1 q1 e2, k _ _ _ x1 m1 (.bl _)⟩
theorem i_and {rest : List Expr} (ha : PE X a (tI X.K call ma)) (hb : PE X (.BoolOp .And (b :: rest) pos) (tI X.K call mb)) : PE X (.BoolOp .And (a :: b :: rest) pos) (tI X.K call (.and ma mb)) :=
  (pe_andT ha hb).imp fun σ H Q ⟨φ, M, env, v, M', m, r, e, k⟩ => by
    unfold Ev.eval at e
    obtain ⟨⟨x, M1⟩, e1, e⟩ := bindE e
    refine tI.then_ m r e1 fun φ1 H1 u x1 m1 r1 q1 => ?_
    rcases bifE e with ⟨t, e⟩ | ⟨t, e⟩
    · exact ⟨true, truthy_tru m1 q1 t, by rw [if_pos rfl]; exact tI.then_ m1 r1 e fun φ2 H2 w x2 m2 r2 q2 => k _ _ _ (x1.trans x2) m2 q2⟩
    · cases e
      exact ⟨false, truthy_tru m1 q1 t, by rw [if_neg Bool.false_ne_true]; exact k _ _ _ x1 m1 q1⟩
theorem i_or {rest : List Expr} (ha : PE X a (tI X.K call ma)) (hb : PE X (.BoolOp .Or (b :: rest) pos) (tI X.K call mb)) : PE X (.BoolOp .Or (a :: b :: rest) pos) (tI X.K call (.or ma mb)) :=
  (pe_orT ha hb).imp fun σ H Q ⟨φ, M, env, v, M', m, r, e, k⟩ => by
    unfold Ev.eval at e
    obtain ⟨⟨x, M1⟩, e1, e⟩ := bindE e
    refine tI.then_ m r e1 fun φ1 H1 u x1 m1 r1 q1 => ?_
    rcases bifE e with ⟨t, e⟩ | ⟨t, e⟩
    · cases e
      exact ⟨true, truthy_tru m1 q1 t, by rw [if_pos rfl]; exact k _ _ _ x1 m1 q1⟩
    · exact ⟨false, truthy_tru m1 q1 t, by rw [if_neg Bool.false_ne_true]; exact tI.then_ m1 r1 e fun φ2 H2 w x2 m2 r2 q2 => k _ _ _ (x1.trans x2) m2 q2⟩
theorem i_one {op} (ha : PE X a (tI X.K call ma)) : PE X (.BoolOp op [a] pos) (tI X.K call ma) := pe_one ha
theorem w_and1 (ha : PT X a (tT X.K call ma)) : PW X (.BoolOp .And [a] pos) (tT X.K call ma) := pw_and1 ha
theorem w_or1 (ha : PT X a (tT X.K call ma)) : PW X (.BoolOp .Or [a] pos) (tT X.K call ma) := pw_or1 ha
theorem w_and {rest : List Expr} (ha : PT X a (tT X.K call ma)) (hb : PW X (.BoolOp .And (b :: rest) pos) (tT X.K call mb)) : PW X (.BoolOp .And (a :: b :: rest) pos) (tT X.K call (.and ma mb)) :=
  (pw_and ha hb).imp fun σ H Q ⟨φ, M, env, v, M', d, m, r, e, t, k⟩ => by
    unfold Ev.eval at e
    obtain ⟨⟨x, M1⟩, e1, e⟩ := bindE e
    rcases bifE e with ⟨t1, e⟩ | ⟨t1, e⟩
    · exact tT.then_ m r e1 t1 fun φ1 H1 x1 m1 r1 => by rw [if_pos rfl]; exact tT.then_ m1 r1 e t fun φ2 H2 x2 m2 r2 => k _ _ (x1.trans x2) m2
    · cases e
      rw [t1] at t
      cases t
      exact tT.then_ m r e1 t1 fun φ1 H1 x1 m1 r1 => by rw [if_neg Bool.false_ne_true]; exact k _ _ x1 m1
theorem w_or {rest : List Expr} (ha : PT X a (tT X.K call ma)) (hb : PW X (.BoolOp .Or (b :: rest) pos) (tT X.K call mb)) : PW X (.BoolOp .Or (a :: b :: rest) pos) (tT X.K call (.or ma mb)) :=
  (pw_or ha hb).imp fun σ H Q ⟨φ, M, env, v, M', d, m, r, e, t, k⟩ => by
    unfold Ev.eval at e
    obtain ⟨⟨x, M1⟩, e1, e⟩ := bindE e
    rcases bifE e with ⟨t1, e⟩ | ⟨t1, e⟩
    · cases e
      rw [t1] at t
      cases t
      exact tT.then_ m r e1 t1 fun φ1 H1 x1 m1 r1 => by rw [if_pos rfl]; exact k _ _ x1 m1
    · exact tT.then_ m r e1 t1 fun φ1 H1 x1 m1 r1 => by rw [if_neg Bool.false_ne_true]; exact tT.then_ m1 r1 e t fun φ2 H2 x2 m2 r2 => k _ _ (x1.trans x2) m2
theorem t_w (h : PW X a (tT X.K call ma)) : PT X a (tT X.K call ma) := h.pt
theorem cmp_rd {o : Cm} {σ : L2.St} {H : Hp} {Q : VK} (h : tI X.K call (.cmp o ma mb) σ H Q) : tOp (rC X.K fun M => cmpop M o) (tI X.K call ma) (tI X.K call mb) σ H Q := by
  obtain ⟨φ, M, env, v, M', m, r, e, k⟩ := h
  unfold Ev.eval at e
  obtain ⟨⟨x, M1⟩, e1, e⟩ := bindE e
  obtain ⟨⟨y, M2⟩, e2, e⟩ := bindE e
  obtain ⟨z, e3, e⟩ := mapE e
  cases e
  refine tI.then_ m r e1 fun φ1 H1 u x1 m1 r1 q1 => tI.then_ m1 r1 e2 fun φ2 H2 w x2 m2 r2 q2 => ?_
  exact ⟨φ2, M2, x, y, .bl z, m2, q1.mono x2, q2, by simp only [e3]; rfl, k.mono (x1.trans x2)⟩
theorem i_cmp {op : CmpOp} {o : Cm} (ho : OpR X (compareOp op) (rC X.K fun M => cmpop M o)) (ha : PE X a (tI X.K call ma)) (hb : PE X b (tI X.K call mb)) (hm : behindInMarks op b = false) :
    PE X (.Compare a [op] [b] pos) (tI X.K call (.cmp o ma mb)) :=
  (pe_cmpR ho ha hb hm).imp fun σ H Q h => cmp_rd h
theorem cmp_bl {o : Cm} {env : Env} {M M' : Mem} {v : PV} (e : Ev.eval call (.cmp o ma mb) env M = some (v, M')) : ∃ z, v = .bl z := by
  unfold Ev.eval at e
  obtain ⟨⟨x, M1⟩, e1, e⟩ := bindE e
  obtain ⟨⟨y, M2⟩, e2, e⟩ := bindE e
  obtain ⟨z, e3, e⟩ := mapE e
  cases e
  exact ⟨z, rfl⟩
theorem t_cmp {op : CmpOp} {o : Cm} (ho : OpR X (compareOp op) (rC X.K fun M => cmpop M o)) (ha : PE X a (tI X.K call ma)) (hb : PE X b (tI X.K call mb)) (hm : behindInMarks op b = false) :
    PT X (.Compare a [op] [b] pos) (tT X.K call (.cmp o ma mb)) :=
  (pt_cmpR ho ha hb hm).imp fun σ H Q ⟨φ, M, env, v, M', d, m, r, e, t, k⟩ => by
    obtain ⟨z, rfl⟩ := cmp_bl e
    obtain rfl : z = d := Option.some.inj t
    refine cmp_rd ⟨φ, M, env, .bl z, M', m, r, e, fun φ' H' u x m' q => ?_⟩
    cases q
    exact ⟨z, rfl, k _ _ x m'⟩
theorem chn_rd {o o' : Cm} {σ : L2.St} {H : Hp} {Q : VK} (h : tI X.K call (.chn o o' ma mb mc) σ H Q) :
    tChain (rC X.K fun M => cmpop M o) (rC X.K fun M => cmpop M o') (tI X.K call ma) (tI X.K call mb) (tI X.K call mc) σ H Q := by
  obtain ⟨φ, M, env, v, M', m, r, e, k⟩ := h
  unfold Ev.eval at e
  obtain ⟨⟨x, M1⟩, e1, e⟩ := bindE e
  obtain ⟨⟨y, M2⟩, e2, e⟩ := bindE e
  refine tI.then_ m r e1 fun φ1 H1 u x1 m1 r1 q1 => tI.then_ m1 r1 e2 fun φ2 H2 w x2 m2 r2 q2 => ?_
  rcases bifE e with ⟨e3, e⟩ | ⟨e3, e⟩
  · obtain ⟨⟨z, M3⟩, e4, e⟩ := bindE e
    obtain ⟨t, e5, e⟩ := mapE e
    cases e
    refine ⟨φ2, M2, x, y, .bl true, m2, q1.mono x2, q2, by simp only [e3]; rfl, fun φ3 H3 u3 x3 m3 q3 => ?_⟩
    cases q3
    refine ⟨true, rfl, ?_⟩
    rw [if_pos rfl]
    refine tI.then_ m3 (r2.mono x3) e4 fun φ4 H4 w4 x4 m4 r4 q4 => ?_
    exact ⟨φ4, M3, y, z, .bl t, m4, q2.mono (x3.trans x4), q4, by simp only [e5]; rfl, k.mono (x1.trans (x2.trans (x3.trans x4)))⟩
  · cases e
    refine ⟨φ2, M2, x, y, .bl false, m2, q1.mono x2, q2, by simp only [e3]; rfl, fun φ3 H3 u3 x3 m3 q3 => ?_⟩
    cases q3
    refine ⟨false, rfl, ?_⟩
    rw [if_neg Bool.false_ne_true]
    exact k _ _ _ (x1.trans (x2.trans x3)) m3 (.bl false)
theorem i_chn {op op' : CmpOp} {o o' : Cm} (ho : OpR X (compareOp op) (rC X.K fun M => cmpop M o)) (ho' : OpR X (compareOp op') (rC X.K fun M => cmpop M o')) (ha : PE X a (tI X.K call ma)) (hb : PE X b (tI X.K call mb)) (hc : PE X c (tI X.K call mc))
    (hm : lastMarks [op, op'] [b, c] = false := by with_unfolding_all rfl) : PE X (.Compare a [op, op'] [b, c] pos) (tI X.K call (.chn o o' ma mb mc)) :=
  (pe_chain ho ho' ha hb hc hm).imp fun σ H Q h => chn_rd h
theorem chn_bl {o o' : Cm} {env : Env} {M M' : Mem} {v : PV} (e : Ev.eval call (.chn o o' ma mb mc) env M = some (v, M')) : ∃ z, v = .bl z := by
  unfold Ev.eval at e
  obtain ⟨⟨x, M1⟩, e1, e⟩ := bindE e
  obtain ⟨⟨y, M2⟩, e2, e⟩ := bindE e
  rcases bifE e with ⟨e3, e⟩ | ⟨e3, e⟩
  · obtain ⟨⟨z, M3⟩, e4, e⟩ := bindE e
    obtain ⟨t, e5, e⟩ := mapE e
    cases e
    exact ⟨t, rfl⟩
  · cases e; exact ⟨false, rfl⟩
theorem t_chn {op op' : CmpOp} {o o' : Cm} (ho : OpR X (compareOp op) (rC X.K fun M => cmpop M o)) (ho' : OpR X (compareOp op') (rC X.K fun M => cmpop M o')) (ha : PE X a (tI X.K call ma)) (hb : PE X b (tI X.K call mb)) (hc : PE X c (tI X.K call mc))
    (hm : lastMarks [op, op'] [b, c] = false := by with_unfolding_all rfl) : PT X (.Compare a [op, op'] [b, c] pos) (tT X.K call (.chn o o' ma mb mc)) :=
  (pt_chain ho ho' ha hb hc hm).imp fun σ H Q ⟨φ, M, env, v, M', d, m, r, e, t, k⟩ => by
    obtain ⟨z, rfl⟩ := chn_bl e
    obtain rfl : z = d := Option.some.inj t
    refine chn_rd ⟨φ, M, env, .bl z, M', m, r, e, fun φ' H' u x m' q => ?_⟩
    cases q
    exact ⟨z, rfl, k _ _ x m'⟩
theorem i_ite (hc : PT X c (tT X.K call mc)) (ha : PE X a (tI X.K call ma)) (hb : PE X b (tI X.K call mb)) : PE X (.IfExp c a b pos) (tI X.K call (.ite mc ma mb)) :=
  (pe_ifExp hc ha hb).imp fun σ H Q ⟨φ, M, env, v, M', m, r, e, k⟩ => by
    unfold Ev.eval at e
    obtain ⟨⟨x, M1⟩, e1, e⟩ := bindE e
    rcases bifE e with ⟨t1, e⟩ | ⟨t1, e⟩
    · exact tT.then_ m r e1 t1 fun φ1 H1 x1 m1 r1 => by rw [if_pos rfl]; exact tI.then_ m1 r1 e fun φ2 H2 w x2 m2 r2 q2 => k _ _ _ (x1.trans x2) m2 q2
    · exact tT.then_ m r e1 t1 fun φ1 H1 x1 m1 r1 => by rw [if_neg Bool.false_ne_true]; exact tI.then_ m1 r1 e fun φ2 H2 w x2 m2 r2 q2 => k _ _ _ (x1.trans x2) m2 q2
/-! ### lists of expressions, displays -/
theorem is_nil : PA X [] (tIs X.K call .nil) := pa_nil.imp fun σ H Q ⟨φ, M, env, vs, M', m, r, e, k⟩ => by
  unfold Ev.evals at e
  cases e
  exact k _ _ _ .refl m .nil
theorem is_cons {es : List Expr} {ms : Es} (ha : PE X a (tI X.K call ma)) (hr : PA X es (tIs X.K call ms)) (hs : starEach (a :: es) X.env = (false, PySem.eval a X.env) :: starEach es X.env := by rfl) : PA X (a :: es) (tIs X.K call (.cons ma ms)) :=
  (pa_cons ha hr hs).imp fun σ H Q ⟨φ, M, env, vs, M', m, r, e, k⟩ => by
    unfold Ev.evals at e
    obtain ⟨⟨x, M1⟩, e1, e⟩ := bindE e
    obtain ⟨⟨y, M2⟩, e2, e⟩ := bindE e
    cases e
    refine tI.then_ m r e1 fun φ1 H1 u x1 m1 r1 q1 => tIs.then_ m1 r1 e2 fun φ2 H2 w x2 m2 r2 q2 => ?_
    exact k _ _ _ (x1.trans x2) m2 (.cons (q1.mono x2) q2)
theorem i_tup {es : List Expr} {ms : Es} {x1} (h : PA X es (tIs X.K call ms)) : PE X (.Tuple es x1 pos) (tI X.K call (.tup ms)) :=
  (pe_tup h).imp fun σ H Q ⟨φ, M, env, v, M', m, r, e, k⟩ => by
    unfold Ev.eval at e
    obtain ⟨⟨vs, M1⟩, e1, e⟩ := bindE e
    obtain ⟨hz, e⟩ := ifE e
    have hz := of_decide_eq_true hz
    cases e
    refine tIs.then_ m r e1 fun φ1 H1 u x1 m1 r1 q1 => ⟨by rw [← q1.length]; exact hz, fun p hp => ?_⟩
    exact (k.mono x1).tup m1 q1 hp
theorem i_lst {es : List Expr} {ms : Es} (b : Bool) (h : PA X es (tIs X.K call ms)) : PE X (.List es pos) (tI X.K call (.lst b ms)) :=
  (pe_lst h).imp fun σ H Q ⟨φ, M, env, v, M', m, r, e, k⟩ => by
    unfold Ev.eval at e
    obtain ⟨⟨vs, M1⟩, e1, e⟩ := bindE e
    obtain ⟨hz, e⟩ := ifE e
    have hz := of_decide_eq_true hz
    have e := Option.some.inj e
    refine tIs.then_ m r e1 fun φ1 H1 u x1 m1 r1 q1 => ⟨by rw [← q1.length]; exact hz, fun p hp => ?_⟩
    have k1 : Pst X.K φ1 H1 (newL b vs M1).2 (newL b vs M1).1 Q := by rw [e]; exact k.mono x1
    exact k1.newL m1 q1 hp
end
end Ev

/-! Subscripts, slices, calls, built-ins, targets, what a for walks. -/
namespace Ev
open PySem PySem.Spec PyProof.Rows L2
section
variable {prog : Program} {w : World} {A : Around} {E : Value → Shared → Prop} {s : Shared}
theorem places_back (n : Nat) : Builtin.Slice.sliceAdjust none none (-1) (n : Int) = ((n : Int) - 1, -1) := by
  unfold Builtin.Slice.sliceAdjust
  simp
theorem count_back (n : Nat) : Builtin.Slice.slicePlaces ((n : Int) - 1) (-1) (-1) = n := by
  unfold Builtin.Slice.slicePlaces
  have h1 : ¬ ((-1 : Int) > 0) := by omega
  have e : (- -1 : Int) = 1 := by decide
  simp only [h1, if_false, e, Int.ediv_one]
  split <;> omega
theorem fm_congr {α : Type} {f g : Nat → Option α} : ∀ (l : List Nat), (∀ m ∈ l, f m = g m) → l.filterMap f = l.filterMap g
  | [], _ => rfl
  | x :: xs, h => by
    rw [List.filterMap_cons, List.filterMap_cons, h x List.mem_cons_self, fm_congr xs fun m hm => h m (List.mem_cons_of_mem _ hm)]
theorem pick_back (items : Array Value) : ((List.range items.size).filterMap fun (m : Nat) => items[(((items.size : Int) - 1) + (m : Int) * (-1)).toNat]?).toArray = items.toList.reverse.toArray := by
  rw [← PySem.W.krv_pick]
  unfold PySem.slicePick
  rw [PySem.W.krv_bounds]
  show _ = ((PySem.sliceRange ((items.size : Int) - 1) (-1) (-1)).filterMap (items[·]?)).toArray
  rw [PySem.W.krv_sliceRange, List.filterMap_map]
  congr 1
  refine fm_congr _ fun m hm => ?_
  have := List.mem_range.mp hm
  have e : (((items.size : Int) - 1) + (m : Int) * (-1)).toNat = items.size - 1 - m := by omega
  rw [e]
  rfl
theorem getItem_tuple_rev {t sl : Addr} {items : Array Value} {k : Tok} {Q : Value → Shared → Prop} (ht : IsTup s.heap t items) (hs : s.heap.IsSliceOf sl .none .none (.int (-1) k))
    (h : Q (.ref s.heap.objs.size) { s with heap := s.heap.push { cls := .type "tuple", data := .seq items.toList.reverse.toArray } })
    (hsz : items.size ≤ sizeLine) : wpAny (model prog w) A (getItem (.ref t) (.ref sl)) Q E s := by
  have htake : sizeOk (.seq items.toList.reverse.toArray) := by
    show items.toList.reverse.toArray.size ≤ sizeLine
    rw [List.size_toArray, List.length_reverse, Array.length_toList]
    exact hsz
  obtain ⟨os, hos, hcs, hds⟩ := _root_.id hs
  have hTs : s.TypeIs (.ref sl) "slice" := ⟨os, hos, hcs⟩
  unfold getItem
  try with_reducible refine wpAny_holding ?_
  first | refine wpAny_bind (wpAny_pure ?_) | skip
  refine wpAny_bind (wpAny_sequenceKey ht.typeIs (by decide) ?_)
  refine wpAny_bind (wpAny_callSpecial?_slot (name := Str.ofString "__getitem__") ht.typeIs PyProof.Rows.slot_tuple_getitem
    (wpAny_call_entry PyProof.Rows.slot_tuple_getitem ht.typeIs entry_tuple_getitem ?_ (args_tuple_getitem _ _)))
  show wpAny _ _ (Builtin.Tuple.tupleItemsOf (.ref t) >>= _) _ _ s
  refine wpAny_bind (tupleItemsOf_ ht ?_)
  refine wpAny_bind (wpAny_typeOf hTs ?_)
  rw [if_pos (by decide)]
  refine wpAny_bind (m := Builtin.Slice.sliceApplied (.ref sl) (pure (items.size : Int))) ?_
  unfold Builtin.Slice.sliceApplied Builtin.Slice.sliceFields
  refine wpAny_bind (wpAny_bind (wpAny_field hos hds (x := .none) rfl (wpAny_bind (wpAny_field hos hds (x := .none) rfl (wpAny_bind (wpAny_field hos hds (x := .int (-1) k) rfl (wpAny_pure ?_)))))))
  refine wpAny_bind (slicePart_int ?_)
  show wpAny _ _ (if ((-1 : Int) == 0) = true then _ else _) _ _ s
  rw [if_neg (by decide)]
  refine wpAny_bind (HT.slicePart_ .none (wpAny_bind (HT.slicePart_ .none (wpAny_bind (wpAny_pure ?_)))))
  show wpAny _ _ (match Builtin.Slice.sliceAdjust none none (-1) (items.size : Int) with | (lo, hi) => pure (lo, (-1 : Int), Builtin.Slice.slicePlaces lo hi (-1))) _ _ s
  rw [places_back]
  show wpAny _ _ (pure (((items.size : Int) - 1), (-1 : Int), Builtin.Slice.slicePlaces ((items.size : Int) - 1) (-1) (-1))) _ _ s
  rw [count_back]
  refine wpAny_pure ?_
  show wpAny _ _ (if (((items.size : Int) - 1) == 0 && (-1 : Int) == 1 && items.size == items.size) = true then _ else _) _ _ s
  rw [if_neg (by rw [show ((-1 : Int) == 1) = false from rfl, Bool.and_false, Bool.false_and]; exact Bool.false_ne_true), pick_back]
  first
    | exact wpAny_bind (m := Builtin.Tuple.tupleExact _) (wpAny_newObj_type (wpAny_pure ⟨_, rfl, wpAny_pure h⟩) htake)
    | exact wpAny_bind (m := Builtin.Tuple.tupleExact _) (wpAny_newObj_type (wpAny_bind (wpAny_pure (wpAny_pure ⟨_, rfl, wpAny_pure h⟩))) htake)
    | exact wpAny_bind (wpAny_bind (m := Builtin.Tuple.tupleExact _) (wpAny_newObj_type (wpAny_pure (wpAny_pure ⟨_, rfl, wpAny_pure h⟩)) htake))
    | exact wpAny_bind (wpAny_bind (m := Builtin.Tuple.tupleExact _) (wpAny_newObj_type (wpAny_pure ⟨_, rfl, wpAny_pure h⟩) htake))
end
section
variable {X : Cx}
def tRevT (K : PySem.W.Frag) (te : TE) : TE := fun σ H Q => te σ H fun x H1 => ∃ a xs, x = .ref a ∧ SqT K H1 a xs ∧ ∀ p, H1 p = none → Q (.ref p) (upd H1 p (.tup xs.reverse))
theorem pe_revT {e : Expr} {te : TE} {k : Nat} {p1 p2 p3 pos : Pos} (he : PE X e te) : PE X (.Subscript e (.Slice none none (some (.UnaryOp .USub (.Constant (.int 1) k p1) p2)) p3) pos) (tRevT X.K te) := by
  refine ⟨fun pins s σ H Q I h => ?_⟩
  refine Subscript_ (thn (he.run pins s σ H _ I h) fun v s1 ⟨x, H1, I1, r1, q1⟩ => ?_)
  obtain ⟨a, xs, ex, hx, q⟩ := q1
  subst ex
  cases r1
  have hst : PO X (some (.UnaryOp .USub (.Constant (.int 1) k p1) p2)) (tPart (tUn (rU fun i => .int (-i)) (tC (.int 1)))) := po_some (pe_un un_neg pe_int)
  refine wpAny_Slice (thn (po_none.run pins s1 σ H1 (fun o H2 => o = none ∧ H2 = H1) I1 ⟨rfl, rfl⟩) fun vl s2 ⟨l, H2, I2, pl, el, e2⟩ => ?_)
  subst el e2
  refine thn (po_none.run pins s2 σ H2 (fun o H3 => o = none ∧ H3 = H2) I2 ⟨rfl, rfl⟩) fun vu s3 ⟨u, H3, I3, pu, eu, e3⟩ => ?_
  subst eu e3
  refine thn (hst.run pins s3 σ H3 (fun o H4 => o = some (-1) ∧ H4 = H3) I3 ⟨1, rfl, -1, rfl, rfl, rfl⟩) fun vs s4 ⟨o, H4, I4, ps, eo, e4⟩ => ?_
  subst eo e4
  cases pl
  cases pu
  cases ps with
  | int i tk =>
  have I5 : Inv X pins σ H4 { s4 with heap := s4.heap.push { cls := .type "slice", data := .fields #[.none, .none, .int (-1) tk] } } := I4.kept (t' := s4.toks) fun b ob q => Heap.get?_push_of_some _ q
  obtain ⟨its, r, ht, hz⟩ := I5.tuple hx
  have hlen := r.length
  show wpAny (model X.prog X.w) X.A (subscriptTail e (.Slice none none (some (.UnaryOp .USub (.Constant (.int 1) k p1) p2)) p3) (.ref a) (.ref s4.heap.objs.size)) (EP X pins σ Q) X.xe { s4 with heap := s4.heap.push { cls := .type "slice", data := .fields #[.none, .none, .int (-1) tk] } }
  refine tail_any (ops := [.ref a, .ref s4.heap.objs.size]) ht.typeIs (PyProof.Rows.slot_tuple_getitem.lookup) ?_ (by with_unfolding_all rfl)
  refine getItem_tuple_rev ht (Heap.IsSliceOf.new _ .none .none (.int (-1) tk)) ?_ (by rw [List.size_toArray]; omega)
  refine ⟨.ref _, _, I5.laid (t' := s4.toks) (o := .tup xs.reverse) (fun b ob q => Heap.get?_push_of_some _ q) (Nat.le_refl _) ?_, rfl, q _ (I5.hok.fresh (Nat.le_refl _))⟩
  exact ⟨by rw [List.length_reverse]; exact hz, _, r.reverse, IsTup.new _ _⟩
end
section
variable {X : Cx} {call : Cl} {a b c : Expr} {ma mb mc : E} {pos : Pos}
theorem revOp_get {M : Mem} {a z : PV} (e : revOp M a = some z) : (∃ xs, a = .tup xs ∧ z = .tup xs.reverse) ∨ ∃ xs, items M a = some xs ∧ z = .lst xs.reverse := by
  unfold revOp at e
  split at e
  · cases e; exact .inl ⟨_, rfl, rfl⟩
  · obtain ⟨xs, e5, e6⟩ := mapE e
    exact .inr ⟨xs, e5, e6.symm⟩
theorem i_rev {k : Nat} {p1 p2 p3 : Pos} (ha : PE X a (tI X.K call ma)) : PE X (.Subscript a (.Slice none none (some (.UnaryOp .USub (.Constant (.int 1) k p1) p2)) p3) pos) (tI X.K call (.rev ma)) := by
  refine ⟨fun pins s σ H Q I ⟨φ, M, env, v, M', m, r, e, k⟩ => ?_⟩
  unfold Ev.eval at e
  obtain ⟨⟨x, M1⟩, e1, e⟩ := bindE e
  obtain ⟨z, e2, e⟩ := mapE e
  cases e
  rcases revOp_get e2 with ⟨xs, rfl, rfl⟩ | ⟨xs, e3, rfl⟩
  · refine (pe_revT ha).run pins s σ H Q I (tI.then_ m r e1 fun φ1 H1 u x1 m1 r1 q1 => ?_)
    cases q1 with
    | tup h q =>
    exact ⟨_, _, rfl, h, fun p hp => (k.mono x1).tup m1 q.rev hp⟩
  · refine (pe_revL ha).run pins s σ H Q I (tI.then_ m r e1 fun φ1 H1 u x1 m1 r1 q1 => ?_)
    obtain ⟨a, vs, rfl, h, q⟩ := items_sq m1 q1 e3
    exact ⟨_, _, rfl, h, fun p hp => (k.mono x1).lst m1 q.rev hp⟩
theorem idxOp_get {M : Mem} {x y z : PV} (e : idxOp M x y = some z) : ∃ i xs, y = .int i ∧ itemsT M x = some xs ∧ L2.atI xs i = some z := by
  unfold idxOp at e
  split at e
  · rename_i i xs h
    exact ⟨_, _, rfl, h, e⟩
  · cases e
theorem i_idx (ha : PE X a (tI X.K call ma)) (hb : PE X b (tI X.K call mb)) (hs : PlainIx b := by intro _ _; rfl) : PE X (.Subscript a b pos) (tI X.K call (.idx ma mb)) :=
  (pe_ix (IxR.or ix_list ix_tup) ha hb hs).imp fun σ H Q ⟨φ, M, env, v, M', m, r, e, k⟩ => by
    unfold Ev.eval at e
    obtain ⟨⟨x, M1⟩, e1, e⟩ := bindE e
    obtain ⟨⟨y, M2⟩, e2, e⟩ := bindE e
    obtain ⟨z, e3, e⟩ := mapE e
    cases e
    refine tI.then_ m r e1 fun φ1 H1 u x1 m1 r1 q1 => tI.then_ m1 r1 e2 fun φ2 H2 w x2 m2 r2 q2 => ?_
    obtain ⟨i, xs, rfl, e4, e5⟩ := idxOp_get e3
    cases q2
    obtain ⟨p, vs, rfl, h, q⟩ := itemsT_sq m2 (q1.mono x2) e4
    obtain ⟨t, h1, h2⟩ := q.atI e5
    rcases h with h | h
    · exact .inl ⟨p, vs, _, t, rfl, rfl, h, h1, k _ _ _ (x1.trans x2) m2 h2⟩
    · exact .inr ⟨p, vs, _, t, rfl, rfl, h, h1, k _ _ _ (x1.trans x2) m2 h2⟩
/-- a slice's part -/
def tO (K : PySem.W.Frag) (call : Cl) (f : Bool) (m : E) : TO := fun σ H Q => ∃ φ M env v M' o, RM K φ H M ∧ RE K φ H env σ ∧ Ev.eval call m env M = some (v, M') ∧ part f v = some o ∧ ∀ φ' H', Xt φ H φ' H' → RM K φ' H' M' → Q o H'
theorem _root_.L2.PO.imp {X : Cx} {e : Option Expr} {t t' : TO} (h : PO X e t) (k : ∀ σ H Q, t' σ H Q → t σ H Q) : PO X e t' := ⟨fun pins s σ H Q I q => h.run pins s σ H Q I (k _ _ _ q)⟩
theorem o_none : PO X none (tO X.K call false (.cst .non)) := po_none.imp fun σ H Q ⟨φ, M, env, v, M', o, m, r, e, p, k⟩ => by
  unfold Ev.eval at e
  cases e; cases p
  exact k _ _ .refl m
theorem o_some (h : PE X a (tI X.K call ma)) : PO X (some a) (tO X.K call true ma) := (po_some h).imp fun σ H Q ⟨φ, M, env, v, M', o, m, r, e, p, k⟩ => by
  refine tI.then_ m r e fun φ1 H1 u x1 m1 r1 q1 => ?_
  cases q1 <;> try (cases p; done)
  cases p
  exact ⟨_, rfl, k _ _ x1 m1⟩
theorem cut_rps {K : PySem.W.Frag} {φ : Ph} {H : Hp} {xs : List PV} {vs : List V} (r : Rps K φ H xs vs) (l h : Option Int) : Rps K φ H (cut xs l h) (cutV vs l h) := by
  unfold cut cutV
  rw [r.length]
  exact (r.drop _).take _
theorem slcV_get {M : Mem} {a z : PV} {l h : Option Int} (e : slcV M a l h = some z) : (∃ xs, a = .tup xs ∧ z = .tup (cut xs l h)) ∨ ∃ xs, items M a = some xs ∧ z = .lst (cut xs l h) := by
  unfold slcV at e
  split at e
  · cases e; exact .inl ⟨_, rfl, rfl⟩
  · obtain ⟨xs, e5, e6⟩ := mapE e
    exact .inr ⟨xs, e5, e6.symm⟩
theorem i_slc {lo hi : Option Expr} {bl bh : Bool} {p2 : Pos} (ha : PE X a (tI X.K call ma)) (hl : PO X lo (tO X.K call bl mb)) (hh : PO X hi (tO X.K call bh mc)) : PE X (.Subscript a (.Slice lo hi none p2) pos) (tI X.K call (.slc ma bl bh mb mc)) :=
  (pe_slice (SlR.or sl_list sl_tupA) ha hl hh).imp fun σ H Q ⟨φ, M, env, v, M', m, r, e, k⟩ => by
    unfold Ev.eval at e
    obtain ⟨⟨x, M1⟩, e1, e⟩ := bindE e
    obtain ⟨⟨y, M2⟩, e2, e⟩ := bindE e
    obtain ⟨⟨y3, M3⟩, e3, e⟩ := bindE e
    obtain ⟨z, e4, e⟩ := mapE e
    cases e
    unfold slcOp at e4
    simp only at e4
    cases p1 : part bl y with
    | none => rw [p1] at e4; cases e4
    | some l =>
    cases p2 : part bh y3 with
    | none => rw [p1, p2] at e4; cases e4
    | some h =>
    rw [p1, p2] at e4
    change slcV M3 x l h = some _ at e4
    refine tI.then_ m r e1 fun φ1 H1 u x1 m1 r1 q1 => ⟨φ1, M1, env, y, M2, l, m1, r1, e2, p1, fun φ2 H2 x2 m2 => ⟨φ2, M2, env, y3, M3, h, m2, r1.mono x2, e3, p2, fun φ3 H3 x3 m3 => ?_⟩⟩
    have q3 := q1.mono (x2.trans x3)
    have k3 := k.mono (x1.trans (x2.trans x3))
    rcases slcV_get e4 with ⟨xs, rfl, rfl⟩ | ⟨xs, e5, rfl⟩
    · cases q3 with
      | tup h1 q =>
      refine .inr ⟨_, _, rfl, h1, fun ⟨w1, w2⟩ => ?_, fun _ p hp => k3.tup m3 (cut_rps q l h) hp⟩
      refine k3.here m3 (.tup h1 ?_)
      have := cut_rps q l h
      unfold cutV at this
      rw [w1, w2] at this
      simpa using this
    · obtain ⟨a, vs, rfl, h1, q⟩ := items_sq m3 q3 e5
      exact .inl ⟨_, _, rfl, h1, fun p hp => k3.lst m3 (cut_rps q l h) hp⟩
/-! ### calls -/
/-- a def that may be called by its name -/
structure Cal (P : Program) (w : World) (K : PySem.W.Frag) (mg : Str → Option Value) (base : Heap) (k : Nat) (x : Str) (sp : Sp) : Prop where
  ex : ∃ (f : Addr) (fd : FuncData) (ps : List Str), FnOk P w K mg base CX0 k f fd ps sp ∧ mg x = some (.ref f) ∧ PySem.W.keepIn K (.ref f) = true ∧ Binds K fd ps []
def spC (K : PySem.W.Frag) (call : Cl) (f : Nat) : Sp := fun vs H Q _ => ∃ φ M args v M', RM K φ H M ∧ Rps K φ H args vs ∧ call f args M = some (v, M') ∧ Pst K φ H M' v Q
theorem i_call {x : Str} {p : Pos} {k f : Nat} {es : List Expr} {ms : Es} (c : Cal X.prog X.w X.K X.mg X.base k x (spC X.K call f)) (hr : Room k X.A) (hg : Gl X x) (ha : PA X (a :: es) (tIs X.K call ms))
    (hdb : (x == ("__debug__" : Str)) = false := by decide) (he : starEach (a :: es) X.env = (false, PySem.eval a X.env) :: starEach es X.env := by rfl) (hpl : (backTo pos (starEach es X.env)).any (·.1) = false := by rfl) :
    PE X (.Call (.Name x p) (a :: es) [] pos) (tI X.K call (.call f ms)) := by
  obtain ⟨fa, fd, ps, F, hm, kp, b⟩ := c.ex
  refine (pe_call F hr hg hm kp b .nil (E := fun _ _ _ => False) pass0 ha hdb he hpl).imp fun σ H Q ⟨φ, M, env, v, M', m, r, e, k⟩ => ?_
  unfold Ev.eval at e
  obtain ⟨⟨vs, M1⟩, e1, e⟩ := bindE e
  refine tIs.then_ m r e1 fun φ1 H1 u x1 m1 r1 q1 => ?_
  rw [List.append_nil]
  exact ⟨φ1, M1, vs, v, M', m1, q1, e, k.mono x1⟩
theorem i_call0 {x : Str} {p : Pos} {k f : Nat} (c : Cal X.prog X.w X.K X.mg X.base k x (spC X.K call f)) (hr : Room k X.A) (hg : Gl X x)
    (hdb : (x == ("__debug__" : Str)) = false := by decide) : PE X (.Call (.Name x p) [] [] pos) (tI X.K call (.call f .nil)) := by
  obtain ⟨fa, fd, ps, F, hm, kp, b⟩ := c.ex
  refine (pe_call0 F hr hg hm kp b .nil (E := fun _ _ _ => False) pass0 hdb).imp fun σ H Q ⟨φ, M, env, v, M', m, r, e, k⟩ => ?_
  unfold Ev.eval at e
  obtain ⟨⟨vs, M1⟩, e1, e⟩ := bindE e
  unfold Ev.evals at e1
  cases e1
  exact ⟨φ, M, [], v, M', m, .nil, e, k⟩
/-! ### built-ins -/
def rBl (K : PySem.W.Frag) (b : Bl) (f : Bool) : List V → Hp → VK → Prop := fun xs H Q => ∃ φ M vs z, RM K φ H M ∧ Rps K φ H vs xs ∧ bltOp M b vs = some z ∧ Pst K φ H (asM f z M).2 (asM f z M).1 Q
theorem _root_.L2.CallR.imp {X : Cx} {f : Value} {r r' : List V → Hp → VK → Prop} (h : CallR X f r) (k : ∀ xs H Q, r' xs H Q → r xs H Q) : CallR X f r' := fun pins s σ H xs us Q I v q => h pins s σ H xs us Q I v (k _ _ _ q)
theorem blt_rd {bl : Bl} {f : Bool} {ms : Es} {σ : L2.St} {H : Hp} {Q : VK} (h : tI X.K call (.blt bl f ms) σ H Q) : tCB (rBl X.K bl f) (tIs X.K call ms) σ H Q := by
  obtain ⟨φ, M, env, v, M', m, r, e, k⟩ := h
  unfold Ev.eval at e
  obtain ⟨⟨vs, M1⟩, e1, e⟩ := bindE e
  obtain ⟨z, e2, e⟩ := mapE e
  refine tIs.then_ m r e1 fun φ1 H1 u x1 m1 r1 q1 => ⟨φ1, M1, vs, z, m1, q1, e2, ?_⟩
  simp only at e
  rw [e]
  exact k.mono x1
theorem i_bltB {x : Str} {p : Pos} {id : String} {bl : Bl} {f : Bool} {es : List Expr} {ms : Es} (hc : CallR X (.builtin id) (rBl X.K bl f)) (hg : Gl X x) (hm : X.mg x = none) (hv : bootBuiltins x = some (.builtin id)) (ha : PA X (a :: es) (tIs X.K call ms))
    (hn : x ≠ "__name__" := by decide) (hdb : (x == ("__debug__" : Str)) = false := by decide) (he : starEach (a :: es) X.env = (false, PySem.eval a X.env) :: starEach es X.env := by rfl) (hpl : (backTo pos (starEach es X.env)).any (·.1) = false := by rfl) :
    PE X (.Call (.Name x p) (a :: es) [] pos) (tI X.K call (.blt bl f ms)) := (pe_callB hc hg hm hv ha hn hdb he hpl).imp fun _ _ _ h => blt_rd h
theorem i_bltT {x : Str} {p : Pos} {T : String} {bl : Bl} {f : Bool} {es : List Expr} {ms : Es} (hc : CallR X (.type T) (rBl X.K bl f)) (hg : Gl X x) (hm : X.mg x = none) (hv : bootBuiltins x = some (.type T)) (ha : PA X (a :: es) (tIs X.K call ms))
    (hn : x ≠ "__name__" := by decide) (hdb : (x == ("__debug__" : Str)) = false := by decide) (he : starEach (a :: es) X.env = (false, PySem.eval a X.env) :: starEach es X.env := by rfl) (hpl : (backTo pos (starEach es X.env)).any (·.1) = false := by rfl) :
    PE X (.Call (.Name x p) (a :: es) [] pos) (tI X.K call (.blt bl f ms)) := (pe_callTy hc hg hm hv ha hn hdb he hpl).imp fun _ _ _ h => blt_rd h
theorem one_of {K : PySem.W.Frag} {φ : Ph} {H : Hp} {v : PV} {xs : List V} (r : Rps K φ H [v] xs) : ∃ u, xs = [u] ∧ Rp K φ H v u := by
  cases r with
  | cons h r => cases r; exact ⟨_, rfl, h⟩
theorem two_of {K : PySem.W.Frag} {φ : Ph} {H : Hp} {v w : PV} {xs : List V} (r : Rps K φ H [v, w] xs) : ∃ u t, xs = [u, t] ∧ Rp K φ H v u ∧ Rp K φ H w t := by
  cases r with
  | cons h r =>
    obtain ⟨t, rfl, h2⟩ := one_of r
    exact ⟨_, _, rfl, h, h2⟩
theorem c_abs {f : Bool} : CallR X (.builtin "abs") (rBl X.K .abs f) := call_abs.imp fun xs H Q ⟨φ, M, vs, z, m, r, e, k⟩ => by
  change absB vs = some z at e
  unfold absB at e
  split at e
  · cases e
    obtain ⟨u, rfl, h⟩ := one_of r
    cases h
    exact ⟨_, rfl, k.asM m (.int _) fun _ h => nomatch h⟩
  · cases e
theorem c_int {f : Bool} : CallR X (.type "int") (rBl X.K .int f) := call_int1.imp fun xs H Q ⟨φ, M, vs, z, m, r, e, k⟩ => by
  change intB vs = some z at e
  unfold intB at e
  split at e
  · cases e
    obtain ⟨u, rfl, h⟩ := one_of r
    cases h
    exact .inl ⟨_, rfl, k.asM m (.int _) fun _ h => nomatch h⟩
  · cases e
    obtain ⟨u, rfl, h⟩ := one_of r
    cases h
    exact .inr ⟨_, rfl, k.asM m (.int _) fun _ h => nomatch h⟩
  · cases e
theorem c_list {f : Bool} : CallR X (.type "list") (rBl X.K .list f) := call_list_of.imp fun xs H Q ⟨φ, M, vs, z, m, r, e, k⟩ => by
  change listB M vs = some z at e
  unfold listB at e
  split at e
  · obtain ⟨ys, e1, rfl⟩ := mapE e
    obtain ⟨u, rfl, h⟩ := one_of r
    obtain ⟨a, ws, rfl, h1, h2⟩ := itemsT_sq m h e1
    exact ⟨a, ws, rfl, h1, fun l hl => k.asL m h2 hl⟩
  · cases e
theorem c_tuple {f : Bool} : CallR X (.type "tuple") (rBl X.K .tuple f) := call_tuple_of.imp fun xs H Q ⟨φ, M, vs, z, m, r, e, k⟩ => by
  change tupleB M vs = some z at e
  unfold tupleB at e
  split at e
  · cases e
    obtain ⟨u, rfl, h⟩ := one_of r
    cases h with
    | tup h q => exact ⟨_, _, rfl, .inr ⟨h, k.asM m (.tup h q) fun _ h => nomatch h⟩⟩
  · obtain ⟨ys, e1, rfl⟩ := mapE e
    obtain ⟨u, rfl, h⟩ := one_of r
    obtain ⟨a, ws, rfl, h1, h2⟩ := items_sq m h e1
    refine ⟨a, ws, rfl, .inl ⟨h1, fun l hl => ?_⟩⟩
    have k1 : Pst X.K φ H M (.tup ys) Q := by cases f <;> exact k
    exact k1.tup m h2 hl
  · cases e
theorem c_len {f : Bool} : CallR X (.builtin "len") (rBl X.K .len f) := (CallR.or call_len_seq call_len_str).imp fun xs H Q ⟨φ, M, vs, z, m, r, e, k⟩ => by
  change lenB M vs = some z at e
  unfold lenB at e
  split at e
  · obtain ⟨u, rfl, h⟩ := one_of r
    cases h
    unfold iff' at e
    split at e
    · rename_i hz
      cases e
      exact .inr ⟨_, rfl, of_decide_eq_true hz, k.asM m (.int _) fun _ h => nomatch h⟩
    · cases e
  · obtain ⟨ys, e1, rfl⟩ := mapE e
    obtain ⟨u, rfl, h⟩ := one_of r
    obtain ⟨a, ws, rfl, h1, h2⟩ := itemsT_sq m h e1
    exact .inl ⟨a, ws, rfl, h1, by rw [← h2.length]; exact k.asM m (.int _) fun _ h => nomatch h⟩
  · cases e
theorem ints_rps {K : PySem.W.Frag} {φ : Ph} {H : Hp} : ∀ {xs : List PV} {vs : List V} {ns : List Int}, Rps K φ H xs vs → intsOf xs = some ns → vs = ns.map V.int
  | [], _, _, .nil, e => by cases e; rfl
  | x :: xs, _, ns, .cons h r, e => by
    cases h <;> first | (cases e; done) | skip
    obtain ⟨ms, e1, e2⟩ := mapE e
    subst e2
    rw [List.map_cons, ints_rps r e1]
theorem bools_rps {K : PySem.W.Frag} {φ : Ph} {H : Hp} : ∀ {xs : List PV} {vs : List V} {ns : List Bool}, Rps K φ H xs vs → boolsOf xs = some ns → vs = ns.map V.bl
  | [], _, _, .nil, e => by cases e; rfl
  | x :: xs, _, ns, .cons h r, e => by
    cases h <;> first | (cases e; done) | skip
    obtain ⟨ms, e1, e2⟩ := mapE e
    subst e2
    rw [List.map_cons, bools_rps r e1]
theorem obind {α β : Type} {x : Option α} {f : α → Option β} {y : β} (h : x.bind f = some y) : ∃ a, x = some a ∧ f a = some y := by
  cases x with
  | none => cases h
  | some a => exact ⟨a, rfl, h⟩
theorem c_sum (hc : X.calm = true) {f : Bool} : CallR X (.builtin "sum") (rBl X.K .sum f) := (cr_sum hc).imp fun xs H Q ⟨φ, M, vs, z, m, r, e, k⟩ => by
  change sumB M vs = some z at e
  unfold sumB at e
  split at e
  · obtain ⟨ys, e1, e⟩ := obind e
    obtain ⟨ns, e2, rfl⟩ := mapE e
    obtain ⟨u, rfl, h⟩ := one_of r
    obtain ⟨a, ws, rfl, h1, h2⟩ := items_sq m h e1
    exact ⟨a, ns, rfl, by rw [← ints_rps h2 e2]; exact h1, k.asM m (.int _) fun _ h => nomatch h⟩
  · cases e
theorem c_all (hc : X.calm = true) {f : Bool} : CallR X (.builtin "all") (rBl X.K .all f) := (cr_all hc).imp fun xs H Q ⟨φ, M, vs, z, m, r, e, k⟩ => by
  change allB M vs = some z at e
  unfold allB at e
  split at e
  · obtain ⟨ys, e1, e⟩ := obind e
    obtain ⟨ns, e2, rfl⟩ := mapE e
    obtain ⟨u, rfl, h⟩ := one_of r
    obtain ⟨a, ws, rfl, h1, h2⟩ := items_sq m h e1
    exact ⟨a, ns, rfl, by rw [← bools_rps h2 e2]; exact h1, k.asM m (.bl _) fun _ h => nomatch h⟩
  · cases e
theorem c_any (hc : X.calm = true) {f : Bool} : CallR X (.builtin "any") (rBl X.K .any f) := (cr_any hc).imp fun xs H Q ⟨φ, M, vs, z, m, r, e, k⟩ => by
  change anyB M vs = some z at e
  unfold anyB at e
  split at e
  · obtain ⟨ys, e1, e⟩ := obind e
    obtain ⟨ns, e2, rfl⟩ := mapE e
    obtain ⟨u, rfl, h⟩ := one_of r
    obtain ⟨a, ws, rfl, h1, h2⟩ := items_sq m h e1
    exact ⟨a, ns, rfl, by rw [← bools_rps h2 e2]; exact h1, k.asM m (.bl _) fun _ h => nomatch h⟩
  · cases e
theorem maxI_ok : ∀ {ns : List Int} {m n : Int}, maxI ns = some n → m ∈ ns → (∀ y, y ∈ ns → y ≤ m) → m = n := fun {ns m n} h hm hy => by
  cases ns with
  | nil => cases h
  | cons x xs =>
    have h' := Option.some.inj h
    have e : ∀ (l : List Int) (a : Int), (l.foldl max a = a ∨ l.foldl max a ∈ l) ∧ (a ≤ l.foldl max a) ∧ ∀ y ∈ l, y ≤ l.foldl max a := by
      intro l
      induction l with
      | nil => intro a; exact ⟨.inl rfl, Int.le_refl _, fun _ h => nomatch h⟩
      | cons b l ih =>
        intro a
        obtain ⟨h1, h2, h3⟩ := ih (max a b)
        rw [List.foldl_cons]
        refine ⟨?_, by omega, fun y hy => ?_⟩
        · rcases h1 with h1 | h1
          · rw [h1]
            rcases Int.le_total a b with k | k
            · first | (right; rw [Int.max_eq_right k]; exact List.mem_cons_self) | (left; exact Int.min_eq_left k)
            · first | (left; exact Int.max_eq_left k) | (right; rw [Int.min_eq_right k]; exact List.mem_cons_self)
          · exact .inr (List.mem_cons_of_mem _ h1)
        · rcases List.mem_cons.mp hy with rfl | hy
          · omega
          · exact h3 y hy
    obtain ⟨h1, h2, h3⟩ := e xs x
    rw [h'] at h1 h2 h3
    have a1 := hy n (by rcases h1 with h1 | h1; (rw [h1]; exact List.mem_cons_self); exact List.mem_cons_of_mem _ h1)
    rcases List.mem_cons.mp hm with q | q
    · subst q; omega
    · have := h3 m q; omega
theorem c_max (hc : X.calm = true) {f : Bool} : CallR X (.builtin "max") (rBl X.K .max f) := (CallR.or (call_max2 hc) (CallR.or (cr_max hc) (call_max4 hc))).imp fun xs H Q ⟨φ, M, vs, z, m, r, e, k⟩ => by
  change maxB M vs = some z at e
  unfold maxB at e
  split at e
  · cases e
    obtain ⟨u, t, rfl, h, h'⟩ := two_of r
    cases h; cases h'
    exact .inl ⟨_, _, rfl, k.asM m (.int _) fun _ h => nomatch h⟩
  · rename_i i1 i2 i3 i4
    cases e
    cases r with
    | cons h1 r =>
    cases r with
    | cons h2 r =>
    cases r with
    | cons h3 r =>
    cases r with
    | cons h4 r =>
    cases r
    cases h1; cases h2; cases h3; cases h4
    refine .inr (.inr ⟨_, _, _, _, rfl, fun m' hm hz => ?_⟩)
    have e : m' = max (max (max i1 i2) i3) i4 := by
      simp only [List.mem_cons, List.not_mem_nil, or_false] at hm
      have z1 := hz i1 (by simp)
      have z2 := hz i2 (by simp)
      have z3 := hz i3 (by simp)
      have z4 := hz i4 (by simp)
      omega
    rw [e]
    exact k.asM m (.int _) fun _ h => nomatch h
  · rename_i a
    cases h1 : items M a with
    | none => rw [h1] at e; cases e
    | some xs1 =>
    rw [h1] at e
    cases h2 : intsOf xs1 with
    | none => change (intsOf xs1).bind _ = _ at e; rw [h2] at e; cases e
    | some ns =>
    change (intsOf xs1).bind _ = _ at e
    rw [h2] at e
    obtain ⟨n, h3, rfl⟩ := mapE e
    obtain ⟨u, rfl, h⟩ := one_of r
    obtain ⟨p, ws, rfl, h4, h5⟩ := items_sq m h h1
    have e4 := ints_rps h5 h2
    subst e4
    refine .inr (.inl ⟨p, ns, rfl, h4, ?_, fun m' hm hy => ?_⟩)
    · cases ns with
      | nil => cases h3
      | cons _ _ => exact Nat.succ_pos _
    · rw [maxI_ok h3 hm hy]
      exact k.asM m (.int _) fun _ h => nomatch h
  · cases e
theorem minI_ok : ∀ {ns : List Int} {m n : Int}, minI ns = some n → m ∈ ns → (∀ y, y ∈ ns → m ≤ y) → m = n := fun {ns m n} h hm hy => by
  cases ns with
  | nil => cases h
  | cons x xs =>
    have h' := Option.some.inj h
    have e : ∀ (l : List Int) (a : Int), (l.foldl min a = a ∨ l.foldl min a ∈ l) ∧ (l.foldl min a ≤ a) ∧ ∀ y ∈ l, l.foldl min a ≤ y := by
      intro l
      induction l with
      | nil => intro a; exact ⟨.inl rfl, Int.le_refl _, fun _ h => nomatch h⟩
      | cons b l ih =>
        intro a
        obtain ⟨h1, h2, h3⟩ := ih (min a b)
        rw [List.foldl_cons]
        refine ⟨?_, by omega, fun y hy => ?_⟩
        · rcases h1 with h1 | h1
          · rw [h1]
            rcases Int.le_total a b with k | k
            · first | (right; rw [Int.max_eq_right k]; exact List.mem_cons_self) | (left; exact Int.min_eq_left k)
            · first | (left; exact Int.max_eq_left k) | (right; rw [Int.min_eq_right k]; exact List.mem_cons_self)
          · exact .inr (List.mem_cons_of_mem _ h1)
        · rcases List.mem_cons.mp hy with rfl | hy
          · omega
          · exact h3 y hy
    obtain ⟨h1, h2, h3⟩ := e xs x
    rw [h'] at h1 h2 h3
    have a1 := hy n (by rcases h1 with h1 | h1; (rw [h1]; exact List.mem_cons_self); exact List.mem_cons_of_mem _ h1)
    rcases List.mem_cons.mp hm with q | q
    · subst q; omega
    · have := h3 m q; omega
theorem c_min (hc : X.calm = true) {f : Bool} : CallR X (.builtin "min") (rBl X.K .min f) := (CallR.or (call_min2 hc) (cr_min hc)).imp fun xs H Q ⟨φ, M, vs, z, m, r, e, k⟩ => by
  change minB M vs = some z at e
  unfold minB at e
  split at e
  · cases e
    obtain ⟨u, t, rfl, h, h'⟩ := two_of r
    cases h; cases h'
    exact .inl ⟨_, _, rfl, k.asM m (.int _) fun _ h => nomatch h⟩
  · rename_i a
    cases h1 : items M a with
    | none => rw [h1] at e; cases e
    | some xs1 =>
    rw [h1] at e
    cases h2 : intsOf xs1 with
    | none => change (intsOf xs1).bind _ = _ at e; rw [h2] at e; cases e
    | some ns =>
    change (intsOf xs1).bind _ = _ at e
    rw [h2] at e
    obtain ⟨n, h3, rfl⟩ := mapE e
    obtain ⟨u, rfl, h⟩ := one_of r
    obtain ⟨p, ws, rfl, h4, h5⟩ := items_sq m h h1
    have e4 := ints_rps h5 h2
    subst e4
    refine .inr ⟨p, ns, rfl, h4, ?_, fun m' hm hy => ?_⟩
    · cases ns with
      | nil => cases h3
      | cons _ _ => exact Nat.succ_pos _
    · rw [minI_ok h3 hm hy]
      exact k.asM m (.int _) fun _ h => nomatch h
  · cases e
/-! ### isinstance -/
def tyS : Ty → String
  | .int => "int" | .bool => "bool" | .str => "str" | .tuple => "tuple" | .list => "list"
theorem kt_non (t : Ty) : kitB "NoneType" (tyS t) = some false := by cases t <;> decide +kernel
theorem kt_bl (t : Ty) : kitB "bool" (tyS t) = some (match t with | .int => true | .bool => true | _ => false) := by cases t <;> decide +kernel
theorem kt_int (t : Ty) : kitB "int" (tyS t) = some (match t with | .int => true | _ => false) := by cases t <;> decide +kernel
theorem kt_str (t : Ty) : kitB "str" (tyS t) = some (match t with | .str => true | _ => false) := by cases t <;> decide +kernel
theorem kt_tup (t : Ty) : kitB "tuple" (tyS t) = some (match t with | .tuple => true | _ => false) := by cases t <;> decide +kernel
theorem kt_lst (t : Ty) : kitB "list" (tyS t) = some (match t with | .list => true | _ => false) := by cases t <;> decide +kernel
theorem kt_dct (t : Ty) : kitB "dict" (tyS t) = some false := by cases t <;> decide +kernel
theorem ty_of {K : PySem.W.Frag} {φ : Ph} {H : Hp} {M : Mem} {v : PV} {u : V} (m : RM K φ H M) (r : Rp K φ H v u) (t : Ty) : ∃ s : String, TyX K H u (.type s) ∧ kitB s (tyS t) = some (isTy t v) := by
  cases r with
  | non => exact ⟨_, .base .non, (kt_non t).trans (by cases t <;> rfl)⟩
  | bl b => exact ⟨_, .base (.bl b), (kt_bl t).trans (by cases t <;> rfl)⟩
  | int i => exact ⟨_, .base (.int i), (kt_int t).trans (by cases t <;> rfl)⟩
  | str i => exact ⟨_, .base (.str i), (kt_str t).trans (by cases t <;> rfl)⟩
  | @tup a _ _ h q =>
    have : TyX K H (.ref a) (.type "tuple") := by
      rcases h with (h | ⟨o, h⟩) | ⟨o, its, n, h1, h2, h3⟩
      · exact .base (.tup h)
      · exact .fTuple h
      · exact .kTuple h1 h2
    exact ⟨_, this, (kt_tup t).trans (by cases t <;> rfl)⟩
  | lst h n q => exact ⟨_, .base (.lst h), (kt_lst t).trans (by cases t <;> rfl)⟩
  | @rol a _ _ h q =>
    have : TyX K H (.ref a) (.type "list") := by
      rcases h with ⟨o, h⟩ | ⟨h, _⟩ | ⟨o, its, n, h1, h2, h3⟩
      · exact .base (.frz h)
      · exact .base (.lst h)
      · exact .kList h1 h2
    exact ⟨_, this, (kt_lst t).trans (by cases t <;> rfl)⟩
  | @ref n a h1 =>
    have hn : n < M.length := by rw [← m.len]; exact (List.getElem?_eq_some_iff.mp h1).1
    have h3 := m.cells n a M[n] h1 (List.getElem?_eq_getElem hn)
    cases hc : M[n] with
    | lst xs =>
      rw [hc] at h3
      obtain ⟨vs, h4, _⟩ := h3
      exact ⟨_, .base (.lst h4), (kt_lst t).trans (by cases t <;> rfl)⟩
    | dic xs => rw [hc] at h3; exact h3.elim
  | dct h n => exact ⟨_, .base (.dK h), (kt_dct t).trans (by cases t <;> rfl)⟩
theorem i_isi {p p2 : Pos} {x : Str} {T : Ty} (hg : Gl X "isinstance") (hm : X.mg "isinstance" = none) (hgT : Gl X x) (hmT : X.mg x = none) (hv : bootBuiltins x = some (.type (tyS T))) (ha : PE X a (tI X.K call ma))
    (hn : x ≠ "__name__" := by decide) (hd : (x == ("__debug__" : Str)) = false := by decide) (he : starEach [a, .Name x p2] X.env = (false, PySem.eval a X.env) :: starEach [.Name x p2] X.env := by rfl) (hpl : (backTo pos (starEach [.Name x p2] X.env)).any (·.1) = false := by rfl) :
    PE X (.Call (.Name "isinstance" p) [a, .Name x p2] [] pos) (tI X.K call (.isi ma T)) :=
  (pe_callB call_isi hg hm (by decide +kernel) (pa_cons ha (pa_cons (pe_bltn hgT hmT hv (v := .ty (tyS T)) rfl hn hd) pa_nil) he) (by decide) (by decide) he hpl).imp fun σ H Q ⟨φ, M, env, v, M', m, r, e, k⟩ => by
    unfold Ev.eval at e
    obtain ⟨⟨y, M1⟩, e1, e⟩ := bindE e
    cases e
    refine tI.then_ m r e1 fun φ1 H1 u x1 m1 r1 q1 => ?_
    obtain ⟨s, h1, h2⟩ := ty_of m1 q1 T
    exact ⟨u, .ty (tyS T), .type s, .type (tyS T), _, rfl, .ty _, h1, kit_ty h2, k _ _ _ x1 m1 (.bl _)⟩
/-! ### l.append(e) -/
theorem i_app {apos cpos : Pos} (ha : PE X a (tI X.K call ma)) (hb : PA X [b] (tIs X.K call (.cons mb .nil)))
    (hbase : attributeBase a "append" X.env (PySem.eval a X.env) = PySem.eval a X.env := by rfl)
    (hfew : ((backTo cpos (starEach [b] X.env)).all (fun x => !x.1) && (backToKw cpos (keywordEach [] X.env)).all (fun x => x.1.isSome)
      && decide (([b] : List Expr).length + ([] : List Keyword).length + (if ([] : List Keyword).isEmpty then 0 else 1) < 30)) = true := by rfl)
    (hline : (apos.endLine == cpos.line) = true := by rfl) (hs : starEach [b] X.env = (false, PySem.eval b X.env) :: starEach [] X.env := by rfl) (hplain : (backTo cpos (starEach [] X.env)).any (·.1) = false := by rfl) :
    PE X (.Call (.Attribute a "append" apos) [b] [] cpos) (tI X.K call (.app ma mb)) :=
  (pe_bm PySem.F.plainAttrs_list PySem.F.slot_list_append PySem.F.type_list_append mt_append ha hb hbase hfew hline hs hplain).imp fun σ H Q ⟨φ, M, env, v, M', m, r, e, k⟩ => by
    unfold Ev.eval at e
    obtain ⟨⟨y, M1⟩, e1, e⟩ := bindE e
    simp only at e
    split at e
    · rename_i n
      obtain ⟨⟨t, M2⟩, e2, e⟩ := bindE e
      simp only at e
      split at e
      · rename_i xs e3
        obtain ⟨hz, e⟩ := ifE e
        cases e
        refine tI.then_ m r e1 fun φ1 H1 u x1 m1 r1 q1 => ?_
        cases q1 with
        | @ref _ ad h1 =>
        have hn : n < M1.length := by rw [← m1.len]; exact (List.getElem?_eq_some_iff.mp h1).1
        have h3 := m1.cells n _ M1[n] h1 (List.getElem?_eq_getElem hn)
        have h4 : ∃ ys, H1 ad = some (.lst ys) := by
          cases hc : M1[n] with
          | lst xs => rw [hc] at h3; obtain ⟨vs, h4, _⟩ := h3; exact ⟨vs, h4⟩
          | dic xs => rw [hc] at h3; exact h3.elim
        obtain ⟨ys, h4⟩ := h4
        have ev : Ev.evals call (.cons mb .nil) env M1 = some ([t], M2) := by
          unfold Ev.evals
          rw [e2]
          unfold Ev.evals
          rfl
        refine ⟨.inl ⟨rfl, ys, .inl (.inl h4)⟩, tIs.then_ m1 r1 ev fun φ2 H2 w x2 m2 r2 q2 => ?_⟩
        obtain ⟨z, rfl, q3⟩ := one_of q2
        have h5 := x2.get h1
        obtain ⟨b, h6, vs, h7, h8⟩ := m2.at_ e3
        rw [h5] at h6
        cases h6
        refine ⟨_, vs, z, rfl, rfl, h7, by rw [← h8.length]; exact of_decide_eq_true hz, ?_⟩
        exact k _ _ _ (x1.trans (x2.trans (xt_set m2 h5))) (m2.set h5 (h8.append (.cons q3 .nil))) .non
      · cases e
    · cases e
end
end Ev

/-! Targets, what a for walks, comprehensions. -/
namespace Ev
open PySem PySem.Spec PyProof.Rows L2
section
variable {K : PySem.W.Frag} {φ φ' φ1 : Ph} {H H' H1 : Hp} {M M' M1 : Mem} {env : Env} {σ : L2.St}
def gNames : List Nat → TGs
  | [] => gNil
  | i :: is => gCons (gName i) (gNames is)
def gP (K : PySem.W.Frag) : Tp1 → TG
  | .n i => gName i
  | .t is => gTup K is.length (gNames is)
def gPs (K : PySem.W.Frag) : List Tp1 → TGs
  | [] => gNil
  | p :: ps => gCons (gP K p) (gPs K ps)
def Tp1.ids : Tp1 → List Nat
  | .n i => [i]
  | .t is => is
def gT (K : PySem.W.Frag) : T → TG
  | .nm i => gName i
  | .tp is => gTup K is.length (gNames is)
  | .ls is => gUnl K is.length (gNames is)
  | .t2 ps => gTup K ps.length (gPs K ps)
def T.ids : T → List Nat
  | .nm i => [i]
  | .tp is => is
  | .ls is => is
  | .t2 ps => ps.flatMap Tp1.ids
theorem wipe_get (σ : L2.St) (j : Nat) : ∀ vs : List Nat, (wipe σ vs)[j]? = if j ∈ vs then (if j < σ.length then some none else none) else σ[j]?
  | [] => by simp [wipe]
  | v :: vs => by
    unfold wipe
    by_cases e : v = j
    · subst e
      rw [if_pos (by simp), List.getElem?_set]
      simp [wipe_length]
    · rw [List.getElem?_set_ne e, wipe_get σ j vs]
      have : (j ∈ v :: vs) ↔ j ∈ vs := by
        constructor
        · intro h
          rcases List.mem_cons.mp h with h | h
          · exact absurd h.symm e
          · exact h
        · exact List.mem_cons_of_mem _
      by_cases k : j ∈ vs
      · rw [if_pos k, if_pos (this.mpr k)]
      · rw [if_neg k, if_neg fun z => k (this.mp z)]
theorem wipe_set {σ : L2.St} {i : Nat} {x : Option V} {vs : List Nat} (h : i ∈ vs) : wipe (σ.set i x) vs = wipe σ vs := by
  apply List.ext_getElem?
  intro j
  rw [wipe_get, wipe_get, List.length_set]
  by_cases k : j ∈ vs
  · rw [if_pos k, if_pos k]
  · rw [if_neg k, if_neg k, List.getElem?_set_ne (fun e => k (by rw [← e]; exact h))]
theorem wipeE_get (env : Env) (j : Nat) : ∀ vs : List Nat, ∀ v, (wipeE env vs)[j]? = some (some v) → j ∉ vs ∧ env[j]? = some (some v)
  | [], v, h => ⟨by simp, h⟩
  | w :: vs, v, h => by
    unfold wipeE at h
    by_cases e : w = j
    · subst e
      rw [List.getElem?_set] at h
      simp at h
    · rw [List.getElem?_set_ne e] at h
      obtain ⟨h1, h2⟩ := wipeE_get env j vs v h
      refine ⟨fun z => ?_, h2⟩
      rcases List.mem_cons.mp z with z | z
      · exact e z.symm
      · exact h1 z
theorem wipeE_len (env : Env) : ∀ vs : List Nat, (wipeE env vs).length = env.length
  | [] => rfl
  | _ :: vs => by unfold wipeE; rw [List.length_set, wipeE_len env vs]
theorem RE.wipe (r : RE K φ H env σ) (vs : List Nat) : RE K φ H (wipeE env vs) (L2.wipe σ vs) := by
  refine ⟨by rw [wipeE_len, wipe_length]; exact r.len, fun i v h => ?_⟩
  obtain ⟨h1, h2⟩ := wipeE_get env i vs v h
  obtain ⟨u, h3, h4⟩ := r.at_ i v h2
  exact ⟨u, by rw [wipe_get, if_neg h1]; exact h3, h4⟩
/-- the target's reading, from the interpreter's binding -/
theorem names_rd {Q : L2.St → Hp → Prop} (sub : List Nat) : ∀ (is : List Nat) (xs : List PV) (vs : List V) (env : Env) (σ : L2.St), Rps K φ H xs vs → xs.length = is.length → RE K φ H env σ → (∀ i ∈ is, i ∈ sub) →
    (∀ σ', RE K φ H (setAll env is xs) σ' → L2.wipe σ' sub = L2.wipe σ sub → Q σ' H) → gNames is vs σ H Q
  | [], xs, vs, env, σ, r, hl, re, hs, k => by
    cases r with
    | nil => exact ⟨rfl, k σ re rfl⟩
    | cons _ _ => cases hl
  | i :: is, xs, vs, env, σ, r, hl, re, hs, k => by
    cases r with
    | nil => cases hl
    | @cons x v xs vs h r =>
    refine ⟨v, vs, rfl, ?_⟩
    refine names_rd sub is xs vs (env.set i (some x)) (σ.set i (some v)) r (by simpa using hl) (re.set h i) (fun j hj => hs j (List.mem_cons_of_mem _ hj)) fun σ' r' e => k σ' r' ?_
    rw [e, wipe_set (hs i List.mem_cons_self)]
theorem parts_rd {Q : L2.St → Hp → Prop} (sub : List Nat) : ∀ (ps : List Tp1) (xs : List PV) (vs : List V) (env env1 : Env) (σ : L2.St), Rps K φ H xs vs → bindPs ps xs env = some env1 → RE K φ H env σ → (∀ p ∈ ps, ∀ i ∈ p.ids, i ∈ sub) →
    (∀ σ', RE K φ H env1 σ' → L2.wipe σ' sub = L2.wipe σ sub → Q σ' H) → gPs K ps vs σ H Q
  | [], xs, vs, env, env1, σ, r, e, re, hs, k => by
    cases r with
    | nil => cases e; exact ⟨rfl, k σ re rfl⟩
    | cons _ _ => cases e
  | p :: ps, xs, vs, env, env1, σ, r, e, re, hs, k => by
    cases r with
    | nil => cases e
    | @cons x v xs vs h r =>
    have e' : (bindP p x env).bind (fun env1 => bindPs ps xs env1) = some env1 := e
    obtain ⟨env2, e1, e2⟩ := Option.bind_eq_some_iff.mp e'
    refine ⟨v, vs, rfl, ?_⟩
    have hs1 := hs p List.mem_cons_self
    have next : ∀ σ2, RE K φ H env2 σ2 → L2.wipe σ2 sub = L2.wipe σ sub → gPs K ps vs σ2 H Q := fun σ2 r2 w2 =>
      parts_rd sub ps xs vs env2 env1 σ2 r e2 r2 (fun q hq => hs q (List.mem_cons_of_mem _ hq)) fun σ' r' w' => k σ' r' (w'.trans w2)
    cases p with
    | n i =>
      cases e1
      exact next _ (re.set h i) (wipe_set (hs1 i (by simp [Tp1.ids])))
    | t is =>
      unfold bindP at e1
      simp only at e1
      split at e1
      · split at e1
        · rename_i hz
          have hz := of_decide_eq_true hz
          cases e1
          cases h with
          | tup h q =>
          exact ⟨_, _, rfl, h, by rw [← q.length]; exact hz, names_rd sub is _ _ _ _ q hz re hs1 next⟩
        · cases e1
      · cases e1
theorem bindPs_len : ∀ {ps : List Tp1} {xs : List PV} {env env1 : Env}, bindPs ps xs env = some env1 → xs.length = ps.length
  | [], [], _, _, _ => rfl
  | [], _ :: _, _, _, e => by cases e
  | _ :: _, [], _, _, e => by cases e
  | p :: ps, x :: xs, env, env1, e => by
    have e' : (bindP p x env).bind (fun env1 => bindPs ps xs env1) = some env1 := e
    obtain ⟨env2, _, e2⟩ := Option.bind_eq_some_iff.mp e'
    rw [List.length_cons, List.length_cons, bindPs_len e2]
theorem gT_rd {t : T} {v : PV} {u : V} {env1 : Env} {Q : L2.St → Hp → Prop} (r : Rp K φ H v u) (re : RE K φ H env σ) (e : bindT t v env = some env1)
    (k : ∀ σ', RE K φ H env1 σ' → L2.wipe σ' t.ids = L2.wipe σ t.ids → Q σ' H) : gT K t u σ H Q := by
  cases t with
  | nm i =>
    cases e
    exact k _ (re.set r i) (wipe_set (by simp [T.ids]))
  | tp is =>
    unfold bindT at e
    simp only at e
    split at e
    · rename_i xs
      split at e
      · rename_i hz
        have hz := of_decide_eq_true hz
        cases e
        cases r with
        | tup h q =>
        exact ⟨_, _, rfl, h, by rw [← q.length]; exact hz, names_rd is is _ _ _ _ q hz re (fun _ h => h) k⟩
      · cases e
    · cases e
  | ls is =>
    unfold bindT at e
    simp only at e
    split at e
    · rename_i xs
      split at e
      · rename_i hz
        have hz := of_decide_eq_true hz
        cases e
        cases r with
        | lst h n q =>
        exact ⟨_, _, rfl, .inl (.inl h), by rw [← q.length]; exact hz, names_rd is is _ _ _ _ q hz re (fun _ h => h) k⟩
      · cases e
    · cases e
  | t2 ps =>
    unfold bindT at e
    simp only at e
    split at e
    · rename_i xs
      cases r with
      | tup h q =>
      exact ⟨_, _, rfl, h, by rw [← q.length]; exact bindPs_len e, parts_rd _ ps _ _ _ _ _ q e re (fun p hp i hi => List.mem_flatMap.mpr ⟨p, hp, hi⟩) k⟩
    · cases e
theorem wipe_more {σ σ' : L2.St} {a b : List Nat} (h : L2.wipe σ' a = L2.wipe σ a) (hs : ∀ i ∈ a, i ∈ b) (hl : σ'.length = σ.length) : L2.wipe σ' b = L2.wipe σ b := by
  apply List.ext_getElem?
  intro j
  rw [wipe_get, wipe_get, hl]
  by_cases k : j ∈ b
  · rw [if_pos k, if_pos k]
  · rw [if_neg k, if_neg k]
    have := congrArg (·[j]?) h
    simp only [wipe_get] at this
    rw [if_neg fun z => k (hs j z), if_neg fun z => k (hs j z)] at this
    exact this
theorem wipe_len_eq {σ σ' : L2.St} {a : List Nat} (h : L2.wipe σ' a = L2.wipe σ a) : σ'.length = σ.length := by
  have := congrArg List.length h
  rw [wipe_length, wipe_length] at this
  exact this

/-! ### what a for walks -/
/-- an iterator that gives the items xs, from any later heap -/
def ItOk (K : PySem.W.Frag) (φ : Ph) (H : Hp) (J : It) (g : Gd) (xs : List PV) : Prop := ∀ φ2 H2 M2, Xt φ H φ2 H2 → RM K φ2 H2 M2 → gOk g M2 = true →
  (∀ i, i < xs.length → J.go i H2) ∧ (∀ i, xs.length ≤ i → J.stop i H2) ∧
  ∀ i x H3, i < xs.length → J.yld i H2 x H3 → ∃ v, xs[i]? = some v ∧ Rp K φ2 H3 v x ∧ Xt φ2 H2 φ2 H3 ∧ ∀ M, RM K φ2 H2 M → RM K φ2 H3 M
def tIt (K : PySem.W.Frag) (call : Cl) (it : I) : TI := fun σ H R => ∃ φ M env xs M', RM K φ H M ∧ RE K φ H env σ ∧ Ev.evalI call it env M = some (xs, M') ∧
  ∀ φ' H' J, Xt φ H φ' H' → RM K φ' H' M' → ItOk K φ' H' J xs.2 xs.1 → R J H'
/-- the items of a tuple or of a list, as they lie -/
def SqK (K : PySem.W.Frag) (k : Bool) (H : Hp) (a : Addr) (vs : List V) : Prop := match k with
  | true => SqT K H a vs
  | false => SqL K H a vs
/-- they stay, while what must stay stays -/
def SAt (K : PySem.W.Frag) (k : Bool) (φ : Ph) (H : Hp) (g : Gd) (a : Addr) (xs : List PV) : Prop := ∀ φ2 H2 M2, Xt φ H φ2 H2 → RM K φ2 H2 M2 → gOk g M2 = true → ∃ vs, SqK K k H2 a vs ∧ Rps K φ2 H2 xs vs
theorem seq_at {v : PV} {u : V} {k : Bool} {xs : List PV} {g : Gd} (m : RM K φ H M) (r : Rp K φ H v u) (e : seqG M v = some (k, xs, g)) : ∃ a vs, u = .ref a ∧ SqK K k H a vs ∧ SAt K k φ H g a xs := by
  cases r with
  | tup h q => cases e; exact ⟨_, _, rfl, h, fun φ2 H2 M2 x _ _ => ⟨_, x.tup h, q.mono x⟩⟩
  | lst h n q => cases e; exact ⟨_, _, rfl, .inl (.inl h), fun φ2 H2 M2 x _ _ => ⟨_, .inl (.inl (x.keep _ _ h fun z => absurd z n.1)), q.mono x⟩⟩
  | rol h q => cases e; exact ⟨_, _, rfl, h.sq, fun φ2 H2 M2 x _ _ => ⟨_, (x.rol h).sq, q.mono x⟩⟩
  | @ref n a h =>
    unfold seqG at e
    simp only at e
    split at e
    · rename_i ys e1
      cases e
      obtain ⟨b, h2, vs, h3, h4⟩ := m.at_ e1
      rw [h] at h2
      cases h2
      refine ⟨_, vs, rfl, .inl (.inl h3), fun φ2 H2 M2 x m2 hg => ?_⟩
      unfold gOk at hg
      rw [Bool.and_eq_true] at hg
      have hg1 := hg.1
      split at hg1
      · rename_i zs e2
        have := pbeqs_eq hg1
        subst this
        obtain ⟨b, h5, ws, h6, h7⟩ := m2.at_ e2
        rw [x.get h] at h5
        cases h5
        exact ⟨ws, .inl (.inl h6), h7⟩
      · cases hg1
    · cases e
  | non | bl | int | str | dct => cases e
theorem it_tup {a : Addr} {g : Gd} {xs : List PV} (h : SAt K true φ H g a xs) : ItOk K φ H (Itt K a) g xs := fun φ2 H2 M2 x m2 hg => by
  obtain ⟨vs, h2, q2⟩ := h φ2 H2 M2 x m2 hg
  change SqT K H2 a vs at h2
  refine ⟨fun i hi => ?_, fun i hi => ⟨vs, h2, by rw [← q2.length]; exact hi⟩, fun i y H3 hi ⟨e, f⟩ => ?_⟩
  · obtain ⟨v, e, _⟩ := q2.get (List.getElem?_eq_getElem hi)
    exact ⟨vs, v, h2, e⟩
  · subst e
    obtain ⟨v, e, r⟩ := q2.get (List.getElem?_eq_getElem hi)
    have e2 := (f vs h2).symm.trans e
    cases e2
    exact ⟨_, List.getElem?_eq_getElem hi, r, .refl, fun _ m => m⟩
theorem it_lst {a : Addr} {g : Gd} {xs : List PV} (h : SAt K false φ H g a xs) : ItOk K φ H (Itl K a) g xs := fun φ2 H2 M2 x m2 hg => by
  obtain ⟨vs, h2, q2⟩ := h φ2 H2 M2 x m2 hg
  change SqL K H2 a vs at h2
  refine ⟨fun i hi => ?_, fun i hi => ⟨vs, h2, by rw [← q2.length]; exact hi⟩, fun i y H3 hi ⟨e, f⟩ => ?_⟩
  · obtain ⟨v, e, _⟩ := q2.get (List.getElem?_eq_getElem hi)
    exact ⟨vs, v, h2, e⟩
  · subst e
    obtain ⟨v, e, r⟩ := q2.get (List.getElem?_eq_getElem hi)
    have e2 := (f vs h2).symm.trans e
    cases e2
    exact ⟨_, List.getElem?_eq_getElem hi, r, .refl, fun _ m => m⟩
theorem rng_len : ∀ (n : Nat) (a : Int), (rngI a n).length = n
  | 0, _ => rfl
  | n + 1, a => by unfold rngI; rw [List.length_cons, rng_len n]
theorem rng_get : ∀ (n : Nat) (a : Int) (i : Nat), i < n → (rngI a n)[i]? = some (.int (a + i))
  | 0, _, _, h => absurd h (by omega)
  | n + 1, a, 0, _ => by unfold rngI; simp
  | n + 1, a, i + 1, h => by
    unfold rngI
    rw [List.getElem?_cons_succ, rng_get n (a + 1) i (by omega)]
    congr 2
    omega
theorem it_rng (lo : Int) (n : Nat) : ItOk K φ H (Itr lo n) [] (rngI lo n) := fun φ2 H2 M2 x m2 hg => by
  refine ⟨fun i hi => by rw [rng_len] at hi; exact hi, fun i hi => by rw [rng_len] at hi; exact hi, fun i y H3 hi ⟨e, f⟩ => ?_⟩
  subst e f
  rw [rng_len] at hi
  exact ⟨_, rng_get n lo i hi, .int _, .refl, fun _ m => m⟩
theorem zip_get : ∀ (xs ys : List PV) (i : Nat) (x y : PV), xs[i]? = some x → ys[i]? = some y → (zipP xs ys)[i]? = some (.tup [x, y])
  | [], _, _, _, _, h, _ => by simp at h
  | _ :: _, [], _, _, _, _, h => by simp at h
  | a :: xs, b :: ys, 0, x, y, h1, h2 => by simp at h1 h2; subst h1 h2; rfl
  | a :: xs, b :: ys, i + 1, x, y, h1, h2 => by
    unfold zipP
    rw [List.getElem?_cons_succ]
    exact zip_get xs ys i x y (by simpa using h1) (by simpa using h2)
theorem zip_len : ∀ (xs ys : List PV), (zipP xs ys).length = min xs.length ys.length
  | [], _ => by simp [zipP]
  | _ :: _, [] => by simp [zipP]
  | a :: xs, b :: ys => by
    unfold zipP
    rw [List.length_cons, zip_len xs ys, List.length_cons, List.length_cons]
    omega
theorem gOk_app : ∀ {g g' : Gd} {M : Mem}, gOk (g ++ g') M = true → gOk g M = true ∧ gOk g' M = true
  | [], _, _, h => ⟨rfl, h⟩
  | (n, xs) :: g, g', M, h => by
    have h' : ((match M[n]? with | some (.lst ys) => pbeqs ys xs | _ => false) && gOk (g ++ g') M) = true := h
    rw [Bool.and_eq_true] at h'
    obtain ⟨h1, h2⟩ := gOk_app h'.2
    refine ⟨?_, h2⟩
    show ((match M[n]? with | some (.lst ys) => pbeqs ys xs | _ => false) && gOk g M) = true
    rw [Bool.and_eq_true]
    exact ⟨h'.1, h1⟩
theorem it_zipT {a b : Addr} {g g' : Gd} {xs ys : List PV} (h : SAt K true φ H g a xs) (h' : SAt K true φ H g' b ys) : ItOk K φ H (RZ.ItzT K a b) (g ++ g') (zipP xs ys) := fun φ2 H2 M2 x m2 hg => by
  obtain ⟨vs, h2, q2⟩ := h φ2 H2 M2 x m2 (gOk_app hg).1
  obtain ⟨ws, h2', q2'⟩ := h' φ2 H2 M2 x m2 (gOk_app hg).2
  change SqT K H2 a vs at h2
  change SqT K H2 b ws at h2'
  refine ⟨fun i hi => ?_, fun i hi => ⟨vs, ws, h2, h2', ?_⟩, fun i y H3 hi ⟨T, v1, v2, e, nT, eH, f1, f2⟩ => ?_⟩
  · rw [zip_len] at hi
    obtain ⟨v, e, _⟩ := q2.get (List.getElem?_eq_getElem (show i < xs.length by omega))
    obtain ⟨v', e', _⟩ := q2'.get (List.getElem?_eq_getElem (show i < ys.length by omega))
    exact ⟨vs, ws, v, v', h2, h2', e, e'⟩
  · rw [zip_len] at hi
    rw [← q2.length, ← q2'.length]
    omega
  · subst e eH
    rw [zip_len] at hi
    have k1 := List.getElem?_eq_getElem (show i < xs.length by omega)
    have k2 := List.getElem?_eq_getElem (show i < ys.length by omega)
    obtain ⟨v, e, r⟩ := q2.get k1
    obtain ⟨v', e', r'⟩ := q2'.get k2
    have z1 := (f1 vs h2).symm.trans e
    have z2 := (f2 ws h2').symm.trans e'
    cases z1; cases z2
    exact ⟨_, zip_get xs ys i _ _ k1 k2, .tup (.inl (.inl upd_same)) (.cons (r.mono (xt_new nT)) (.cons (r'.mono (xt_new nT)) .nil)), xt_new nT, fun _ m => m.new nT⟩
theorem it_zipL {a b : Addr} {g g' : Gd} {xs ys : List PV} (h : SAt K false φ H g a xs) (h' : SAt K false φ H g' b ys) : ItOk K φ H (Itz K a b) (g ++ g') (zipP xs ys) := fun φ2 H2 M2 x m2 hg => by
  obtain ⟨vs, h2, q2⟩ := h φ2 H2 M2 x m2 (gOk_app hg).1
  obtain ⟨ws, h2', q2'⟩ := h' φ2 H2 M2 x m2 (gOk_app hg).2
  change SqL K H2 a vs at h2
  change SqL K H2 b ws at h2'
  refine ⟨fun i hi => ?_, fun i hi => ⟨vs, ws, h2, h2', ?_⟩, fun i y H3 hi ⟨T, v1, v2, e, nT, eH, f1, f2⟩ => ?_⟩
  · rw [zip_len] at hi
    obtain ⟨v, e, _⟩ := q2.get (List.getElem?_eq_getElem (show i < xs.length by omega))
    obtain ⟨v', e', _⟩ := q2'.get (List.getElem?_eq_getElem (show i < ys.length by omega))
    exact ⟨vs, ws, v, v', h2, h2', e, e'⟩
  · rw [zip_len] at hi
    rw [← q2.length, ← q2'.length]
    omega
  · subst e eH
    rw [zip_len] at hi
    have k1 := List.getElem?_eq_getElem (show i < xs.length by omega)
    have k2 := List.getElem?_eq_getElem (show i < ys.length by omega)
    obtain ⟨v, e, r⟩ := q2.get k1
    obtain ⟨v', e', r'⟩ := q2'.get k2
    have z1 := (f1 vs h2).symm.trans e
    have z2 := (f2 ws h2').symm.trans e'
    cases z1; cases z2
    exact ⟨_, zip_get xs ys i _ _ k1 k2, .tup (.inl (.inl upd_same)) (.cons (r.mono (xt_new nT)) (.cons (r'.mono (xt_new nT)) .nil)), xt_new nT, fun _ m => m.new nT⟩
end
section
variable {X : Cx} {call : Cl} {a b c : Expr} {ma mb mc : E} {pos : Pos}
theorem it_seq {tg : Expr} (ha : PE X a (tI X.K call ma)) : PI X tg a (tIt X.K call (.seq ma)) := by
  refine ⟨fun pins s σ H R I ⟨φ, M, env, xs, M', m, r, e, k⟩ => ?_⟩
  unfold Ev.evalI at e
  obtain ⟨⟨y, M1⟩, e1, e⟩ := bindE e
  obtain ⟨⟨kd, ys, g⟩, e2, e⟩ := mapE e
  cases e
  cases kd with
  | true =>
    refine (pi_tup ha).run pins s σ H R I (tI.then_ m r e1 fun φ1 H1 u x1 m1 r1 q1 => ?_)
    obtain ⟨ad, vs, rfl, h, st⟩ := seq_at m1 q1 e2
    exact ⟨ad, rfl, ⟨vs, h⟩, k _ _ _ x1 m1 (it_tup st)⟩
  | false =>
    refine (pi_list ha).run pins s σ H R I (tI.then_ m r e1 fun φ1 H1 u x1 m1 r1 q1 => ?_)
    obtain ⟨ad, vs, rfl, h, st⟩ := seq_at m1 q1 e2
    exact ⟨ad, rfl, ⟨vs, h⟩, k _ _ _ x1 m1 (it_lst st)⟩
theorem rng_get2 {x y : PV} {M : Mem} {xs : List PV × Gd} {M' : Mem} (e : (match x, y with
    | .int i, .int j => iff_ (decide (-(2 ^ 62) ≤ i) && decide (i < 2 ^ 62) && decide (-(2 ^ 62) ≤ j) && decide (j < 2 ^ 62)) (some ((rngI i (j - i).toNat, []), M))
    | _, _ => none) = some (xs, M')) : ∃ i j : Int, x = .int i ∧ y = .int j ∧ -(2 ^ 62) ≤ i ∧ i < 2 ^ 62 ∧ -(2 ^ 62) ≤ j ∧ j < 2 ^ 62 ∧ xs = (rngI i (j - i).toNat, []) ∧ M' = M := by
  cases x <;> first | (cases e; done) | skip
  cases y <;> first | (cases e; done) | skip
  obtain ⟨hz, e⟩ := ifE e
  rw [Bool.and_eq_true, Bool.and_eq_true, Bool.and_eq_true] at hz
  cases e
  exact ⟨_, _, rfl, rfl, of_decide_eq_true hz.1.1.1, of_decide_eq_true hz.1.1.2, of_decide_eq_true hz.1.2, of_decide_eq_true hz.2, rfl, rfl⟩
theorem evs1 {env : Env} {M M1 : Mem} {v : PV} (e : Ev.eval call ma env M = some (v, M1)) : Ev.evals call (.cons ma .nil) env M = some (([v] : List PV), M1) := by
  unfold Ev.evals
  rw [e]
  unfold Ev.evals
  rfl
theorem evs2 {env : Env} {M M1 M2 : Mem} {v w : PV} (e : Ev.eval call ma env M = some (v, M1)) (e2 : Ev.eval call mb env M1 = some (w, M2)) : Ev.evals call (.cons ma (.cons mb .nil)) env M = some (([v, w] : List PV), M2) := by
  unfold Ev.evals
  rw [e]
  show bnd (Ev.evals call (.cons mb .nil) env M1) _ = _
  rw [evs1 e2]
  rfl
theorem it_rng1 {tg : Expr} {p : Pos} (hg : Gl X "range") (hm : X.mg "range" = none) (ha : PA X [a] (tIs X.K call (.cons ma .nil)))
    (hs : starEach [a] X.env = (false, PySem.eval a X.env) :: starEach [] X.env := by rfl) (hpl : (backTo pos (starEach [] X.env)).any (·.1) = false := by rfl) :
    PI X tg (.Call (.Name "range" p) [a] [] pos) (tIt X.K call (.rng (.cst (.int 0)) ma)) := by
  refine ⟨fun pins s σ H R I ⟨φ, M, env, xs, M', m, r, e, k⟩ => ?_⟩
  unfold Ev.evalI at e
  obtain ⟨⟨y, M1⟩, e1, e⟩ := bindE e
  unfold Ev.eval at e1
  cases e1
  obtain ⟨⟨y2, M2⟩, e2, e⟩ := bindE e
  obtain ⟨i, j, h1, h2, a1, a2, a3, a4, rfl, rfl⟩ := rng_get2 e
  cases h1
  cases h2
  refine (pi_range1 hg hm ha hs).run pins s σ H R I (tIs.then_ m r (evs1 e2) fun φ1 H1 u x1 m1 r1 q1 => ?_)
  obtain ⟨z, rfl, q⟩ := one_of q1
  cases q
  refine ⟨j, rfl, a3, a4, k _ _ _ x1 m1 ?_⟩
  show ItOk _ _ _ _ [] (rngI 0 (j - 0).toNat)
  rw [show j - 0 = j by omega]
  exact it_rng 0 _
theorem it_rng2 {tg : Expr} {p : Pos} (hg : Gl X "range") (hm : X.mg "range" = none) (ha : PA X [a, b] (tIs X.K call (.cons ma (.cons mb .nil))))
    (hs : starEach [a, b] X.env = (false, PySem.eval a X.env) :: starEach [b] X.env := by rfl) (hs2 : starEach [b] X.env = (false, PySem.eval b X.env) :: starEach [] X.env := by rfl) :
    PI X tg (.Call (.Name "range" p) [a, b] [] pos) (tIt X.K call (.rng ma mb)) := by
  refine ⟨fun pins s σ H R I ⟨φ, M, env, xs, M', m, r, e, k⟩ => ?_⟩
  unfold Ev.evalI at e
  obtain ⟨⟨y, M1⟩, e1, e⟩ := bindE e
  obtain ⟨⟨y2, M2⟩, e2, e⟩ := bindE e
  obtain ⟨i, j, h1, h2, a1, a2, a3, a4, rfl, rfl⟩ := rng_get2 e
  cases h1
  cases h2
  refine (pi_range2 hg hm ha (by rw [hs, hs2]; rfl) hs2).run pins s σ H R I (tIs.then_ m r (evs2 e1 e2) fun φ1 H1 u x1 m1 r1 q1 => ?_)
  obtain ⟨z, t, rfl, q, q'⟩ := two_of q1
  cases q; cases q'
  exact ⟨i, j, rfl, ⟨a1, a2, a3, a4⟩, k _ _ _ x1 m1 (it_rng _ _)⟩
theorem it_zip {elts : List Expr} {kk : Nat} {tpos p : Pos} (hg : Gl X "zip") (hm : X.mg "zip" = none) (ha : PA X [a, b] (tIs X.K call (.cons ma (.cons mb .nil))))
    (hs : starEach [a, b] X.env = (false, PySem.eval a X.env) :: starEach [b] X.env := by rfl) (hpl : (backTo pos (starEach [b] X.env)).any (·.1) = false := by rfl) :
    PI X (.Tuple elts kk tpos) (.Call (.Name "zip" p) [a, b] [] pos) (tIt X.K call (.zip ma mb)) := by
  refine ⟨fun pins s σ H R I ⟨φ, M, env, xs, M', m, r, e, k⟩ => ?_⟩
  unfold Ev.evalI at e
  obtain ⟨⟨y, M1⟩, e1, e⟩ := bindE e
  obtain ⟨⟨y2, M2⟩, e2, e⟩ := bindE e
  simp only at e
  cases s1 : seqG M2 y with
  | none => rw [s1] at e; cases e
  | some t1 =>
  cases s2 : seqG M2 y2 with
  | none => rw [s1, s2] at e; cases e
  | some t2 =>
  obtain ⟨k1, xs1, g1⟩ := t1
  obtain ⟨k2, xs2, g2⟩ := t2
  rw [s1, s2] at e
  obtain ⟨hk, e'⟩ := ifE e
  clear e
  have hk := eq_of_beq hk
  subst hk
  cases e'
  refine (RZ.pi_zipA hg hm ha hs hpl).run pins s σ H R I (tIs.then_ m r (evs2 e1 e2) fun φ1 H1 u x1 m1 r1 q1 => ?_)
  obtain ⟨z, t, rfl, q, q'⟩ := two_of q1
  obtain ⟨a1, v1, rfl, h1, t1⟩ := seq_at m1 q s1
  obtain ⟨a2, v2, rfl, h2, t2⟩ := seq_at m1 q' s2
  cases k1 with
  | true => exact ⟨_, _, _, _, rfl, .inr ⟨h1, h2, k _ _ _ x1 m1 (it_zipT t1 t2)⟩⟩
  | false => exact ⟨_, _, _, _, rfl, .inl ⟨h1, h2, k _ _ _ x1 m1 (it_zipL t1 t2)⟩⟩
/-! ### targets -/
theorem g_nm {x : Str} (i : Nat) (hN : X.N.Nodup) (hi : X.N[i]? = some x := by rfl) (hx : Loc X.env.scope x := by first | exact .inl rfl | exact .inr rfl) (hf : X.fn x = true ∨ X.env.scope.names.lookup x = some .local := by first | exact .inl rfl | exact .inr rfl | assumption) :
    PG X (.Name x pos) (gT X.K (.nm i)) := pg_name hN hi hx hf
theorem gs_nil : PGs X [] (gNames []) := pgs_nil
theorem gs_cons {x : Str} {es : List Expr} {is : List Nat} (i : Nat) (hN : X.N.Nodup) (h : PGs X es (gNames is)) (hi : X.N[i]? = some x := by rfl) (hx : Loc X.env.scope x := by first | exact .inl rfl | exact .inr rfl) (hf : X.fn x = true ∨ X.env.scope.names.lookup x = some .local := by first | exact .inl rfl | exact .inr rfl | assumption) :
    PGs X (.Name x pos :: es) (gNames (i :: is)) := pgs_cons (pg_name hN hi hx hf) h
theorem g_tp {es : List Expr} {is : List Nat} {kk : Nat} (hc : X.calm = true) (h : PGs X es (gNames is)) (hn : (assignEach es X.env).length = is.length := by rfl) (hst : (assignEach es X.env).findIdx? (·.1) = none := by rfl) :
    PG X (.Tuple es kk pos) (gT X.K (.tp is)) := pg_tup hc h hn hst
theorem gp_nil : PGs X [] (gPs X.K []) := pgs_nil
theorem gp_n {x : Str} {es : List Expr} {ps : List Tp1} (i : Nat) (hN : X.N.Nodup) (h : PGs X es (gPs X.K ps)) (hi : X.N[i]? = some x := by rfl) (hx : Loc X.env.scope x := by first | exact .inl rfl | exact .inr rfl) (hf : X.fn x = true ∨ X.env.scope.names.lookup x = some .local := by first | exact .inl rfl | exact .inr rfl | assumption) :
    PGs X (.Name x pos :: es) (gPs X.K (.n i :: ps)) := pgs_cons (pg_name hN hi hx hf) h
theorem gp_t {fs es : List Expr} {is : List Nat} {ps : List Tp1} {kk : Nat} (hc : X.calm = true) (h1 : PGs X fs (gNames is)) (h : PGs X es (gPs X.K ps)) (hn : (assignEach fs X.env).length = is.length := by rfl) (hst : (assignEach fs X.env).findIdx? (·.1) = none := by rfl) :
    PGs X (.Tuple fs kk pos :: es) (gPs X.K (.t is :: ps)) := pgs_cons (pg_tup hc h1 hn hst) h
theorem g_t2 {es : List Expr} {ps : List Tp1} {kk : Nat} (hc : X.calm = true) (h : PGs X es (gPs X.K ps)) (hn : (assignEach es X.env).length = ps.length := by rfl) (hst : (assignEach es X.env).findIdx? (·.1) = none := by rfl) :
    PG X (.Tuple es kk pos) (gT X.K (.t2 ps)) := pg_tup hc h hn hst
theorem g_ls {es : List Expr} {is : List Nat} {kk : Nat} (hc : X.calm = true) (h : PGs X es (gNames is)) (hn : (assignEach es X.env).length = is.length := by rfl) (hst : (assignEach es X.env).findIdx? (·.1) = none := by rfl) :
    PG X (.Tuple es kk pos) (gT X.K (.ls is)) := pg_unl hc h hn hst
/-! ### comprehensions -/
def tCs (K : PySem.W.Frag) (call : Cl) (cs : Es) : TT := fun σ H Q => ∃ φ M env b M', RM K φ H M ∧ RE K φ H env σ ∧ Ev.conds call cs env M = some (b, M') ∧ ∀ φ' H', Xt φ H φ' H' → RM K φ' H' M' → Q b H'
theorem cs_nil : PTs X [] (tCs X.K call .nil) := ⟨fun pins s σ H Q I ⟨φ, M, env, b, M', m, r, e, k⟩ => pts_nil.run pins s σ H Q I (by
  unfold Ev.conds at e
  cases e
  exact k _ _ .refl m)⟩
theorem cs_one (h : PT X a (tT X.K call ma)) : PTs X [a] (tCs X.K call (.cons ma .nil)) := ⟨fun pins s σ H Q I ⟨φ, M, env, b, M', m, r, e, k⟩ => (pts_one h).run pins s σ H Q I (by
  unfold Ev.conds at e
  obtain ⟨⟨y, M1⟩, e1, e⟩ := bindE e
  rcases bifE e with ⟨t, e⟩ | ⟨t, e⟩
  · unfold Ev.conds at e
    cases e
    exact tT.then_ m r e1 t fun φ1 H1 x1 m1 r1 => k _ _ x1 m1
  · cases e
    exact tT.then_ m r e1 t fun φ1 H1 x1 m1 r1 => k _ _ x1 m1)⟩
theorem lcL_len {t : T} {g : Gd} {cond : Env → Mem → Option (Bool × Mem)} {elt : Env → Mem → Option (PV × Mem)} {env : Env} : ∀ {xs acc : List PV} {M M' : Mem} {vs : List PV}, lcL t g cond elt env xs acc M = some (vs, M') → acc.length ≤ vs.length
  | [], acc, M, M', vs, h => by
    unfold lcL at h
    split at h
    · cases h; exact Nat.le_refl _
    · cases h
  | x :: xs, acc, M, M', vs, h => by
    unfold lcL at h
    split at h
    · split at h
      · split at h
        · split at h
          · have := lcL_len h
            rw [List.length_append] at this
            omega
          · cases h
        · exact lcL_len h
        · cases h
      · cases h
    · cases h
theorem lc_rd {it : I} {t : T} {cs : Es} {w : List Nat} {f : Bool} {σ : L2.St} {H : Hp} {Q : VK} (hw : ∀ i ∈ t.ids, i ∈ w) (h : tI X.K call (.lc f w t it cs ma) σ H Q) :
    tLc (tIt X.K call it) (gT X.K t) (tCs X.K call cs) (tI X.K call ma) w σ H Q := by
  obtain ⟨φ, M, env, v, M', m, r, e, k⟩ := h
  unfold Ev.eval at e
  obtain ⟨⟨⟨xs, g⟩, M1⟩, e1, e⟩ := bindE e
  obtain ⟨⟨vs, M2⟩, e2, e⟩ := bindE e
  obtain ⟨hz, e⟩ := ifE e
  have hz := of_decide_eq_true hz
  have e := Option.some.inj e
  simp only at e2 hz
  refine ⟨φ, M, env, (xs, g), M1, m, r, e1, fun φ1 H1 J x1 m1 ok => fun D hD => ?_⟩
  simp only at ok
  -- ahead of turn i: what is left makes the rest
  refine ⟨fun i n H3 => ∃ (φ3 : Ph) (M3 : Mem) (acc : List PV) (us : List V), i + n = xs.length ∧ Xt φ1 H1 φ3 H3 ∧ RM X.K φ3 H3 M3 ∧ D ∈ φ3.r ∧ D ∉ φ3.c ∧ H3 D = some (.lst us) ∧ Rps X.K φ3 H3 acc us ∧
    lcL t g (Ev.conds call cs) (Ev.eval call ma) (wipeE env w) (xs.drop i) acc M3 = some (vs, M2), ⟨xs.length, φ1.hide D, M1, [], [], by omega, xt_hide hD, m1.enter hD, List.mem_cons_self, m1.notin hD, upd_same, .nil, e2⟩, ?_⟩
  rintro i n H3 ⟨φ3, M3, acc, us, hn, x3, m3, hd, nD, eD, ra, e3⟩
  have hgd : gOk g M3 = true := by
    cases hg : gOk g M3 with
    | true => rfl
    | false =>
      cases hd : xs.drop i with
      | nil => rw [hd] at e3; unfold lcL at e3; rw [hg] at e3; cases e3
      | cons a l => rw [hd] at e3; unfold lcL at e3; rw [hg] at e3; cases e3
  obtain ⟨go, stop, yld⟩ := ok φ3 H3 M3 x3 m3 hgd
  by_cases hi : i < xs.length
  · refine .inr ⟨go i hi, ?_⟩
    rw [List.drop_eq_getElem_cons hi] at e3
    unfold lcL at e3
    rw [hgd] at e3
    simp only at e3
    split at e3
    · rename_i env1 eb
      refine ⟨fun H' => ∃ n', n' < n ∧ ∃ (φ4 : Ph) (M4 : Mem) (acc4 : List PV) (us4 : List V), i + 1 + n' = xs.length ∧ Xt φ1 H1 φ4 H' ∧ RM X.K φ4 H' M4 ∧ D ∈ φ4.r ∧ D ∉ φ4.c ∧ H' D = some (.lst us4) ∧ Rps X.K φ4 H' acc4 us4 ∧
        lcL t g (Ev.conds call cs) (Ev.eval call ma) (wipeE env w) (xs.drop (i + 1)) acc4 M4 = some (vs, M2), fun H' h => ?_, fun x H4 hy => ?_⟩
      · obtain ⟨n', h1, φ4, M4, acc4, us4, h2⟩ := h
        exact ⟨n', h1, φ4, M4, acc4, us4, h2⟩
      · obtain ⟨v0, ev0, rv0, x4, mm⟩ := yld i x H4 hi hy
        rw [List.getElem?_eq_getElem hi] at ev0
        cases ev0
        have m4 := mm M3 m3
        have eD4 : H4 D = some (.lst us) := x4.keep _ _ eD fun z => absurd z nD
        have re4 : RE X.K φ3 H4 (wipeE env w) (L2.wipe σ w) := (r.mono (x1.trans (x3.trans x4))).wipe w
        refine gT_rd rv0 re4 eb fun σ' re' ew => ?_
        have hl := wipe_len_eq ew
        refine ⟨?_, ?_⟩
        · have := wipe_more ew hw hl
          rw [this]
          apply List.ext_getElem?
          intro j
          rw [wipe_get, wipe_get, wipe_length]
          by_cases kj : j ∈ w
          · rw [if_pos kj, if_pos kj]
          · rw [if_neg kj]
        · split at e3
          · rename_i M5 ec
            refine ⟨φ3, M3, env1, true, M5, m4, re', ec, fun φ5 H5 x5 m5 => ?_⟩
            show (if true = true then _ else _)
            rw [if_pos rfl]
            split at e3
            · rename_i v6 M6 ee
              refine tI.then_ m5 (re'.mono x5) ee fun φ6 H6 u6 x6 m6 r6 q6 => ?_
              have x46 : Xt φ3 H4 φ6 H6 := x5.trans x6
              have x36 : Xt φ3 H3 φ6 H6 := x4.trans x46
              have eD6 : H6 D = some (.lst us) := x36.keep _ _ eD fun z => absurd z nD
              have nD6 : D ∉ φ6.c := x36.notin eD nD
              have hd6 : D ∈ φ6.r := x36.res _ hd
              have hlen := lcL_len e3
              rw [List.length_append, List.length_singleton] at hlen
              have xa : Xt φ1 H1 φ6 H6 := x3.trans x36
              refine ⟨us, eD6, by rw [← ra.length]; omega, n - 1, by omega, φ6, M6, acc ++ [v6], us ++ [u6], by omega, ⟨xa.pre, xa.res, fun a o ea hc => ?_, xa.fresh, xa.freshr, fun a o ea => ?_⟩, m6.under eD6 hd6 nD6, hd6, nD6, upd_same, (((ra.mono x36).under eD6 hd6).append (.cons (q6.under eD6 hd6) .nil)), e3⟩
              · rw [upd_ne (ne_of_none ea hD)]
                exact xa.keep a o ea hc
              · obtain ⟨o', e'⟩ := xa.there a o ea
                exact ⟨o', by rw [upd_ne (ne_of_none ea hD)]; exact e'⟩
            · cases e3
          · rename_i M5 ec
            refine ⟨φ3, M3, env1, false, M5, m4, re', ec, fun φ5 H5 x5 m5 => ?_⟩
            show (if false = true then _ else _)
            rw [if_neg Bool.false_ne_true]
            have x35 := x4.trans x5
            exact ⟨n - 1, by omega, φ5, M5, acc, us, by omega, x3.trans x35, m5, x35.res _ hd, x35.notin eD nD, x35.keep _ _ eD fun z => absurd z nD, ra.mono x35, e3⟩
          · cases e3
    · cases e3
  · refine .inl ⟨stop i (by omega), ?_⟩
    rw [List.drop_eq_nil_of_le (by omega)] at e3
    unfold lcL at e3
    rw [hgd] at e3
    cases e3
    have m4 := m3.less (l := φ1.r) x3.res
    have ra4 := ra.less (l := φ1.r) x3.res
    have nD2 : D ∉ φ1.r := (m1.notin2 hD).2
    have x4 : Xt φ1 H1 ⟨φ3.c, φ1.r⟩ H3 := ⟨x3.pre, fun _ h => h, x3.keep, x3.fresh, fun _ h n => absurd h n, x3.there⟩
    cases f with
    | false =>
      cases e
      exact k _ _ _ (x1.trans x4) m4 (.lst eD ⟨nD, nD2⟩ ra4)
    | true =>
      cases e
      -- the list becomes a cell
      have x5 : Xt φ1 H1 (Ph.add ⟨φ3.c, φ1.r⟩ D) H3 := ⟨by
        obtain ⟨e, h⟩ := x3.pre
        exact ⟨e ++ [D], by show φ3.c ++ [D] = _; rw [h, List.append_assoc]⟩, fun _ h => h, x3.keep, fun a h n => by
        rcases List.mem_append.mp h with h | h
        · exact x3.fresh a h n
        · have : a = D := by simpa using h
          rw [this]; exact hD, fun _ h n => absurd h n, x3.there⟩
      have up : ∀ {v : PV} {u : V}, Rp X.K φ3 H3 v u → Rp X.K (Ph.add ⟨φ3.c, φ1.r⟩ D) H3 v u := fun h => h.shift x3.res hd
      refine k (Ph.add ⟨φ3.c, φ1.r⟩ D) H3 _ (x1.trans x5) ?_ (.ref ?_)
      · refine ⟨by simp [Ph.add, m3.len], ?_, m4.res, fun n a c h1 h2 => ?_⟩
        · show (φ3.c ++ [D]).Nodup
          rw [List.nodup_append]
          refine ⟨m3.nd, by simp, fun a ha b hb e => ?_⟩
          have : b = D := by simpa using hb
          subst this
          exact nD (e ▸ ha)
        · change (φ3.c ++ [D])[n]? = some a at h1
          by_cases kk : n < φ3.c.length
          · rw [List.getElem?_append_left kk] at h1
            rw [List.getElem?_append_left (by rw [← m3.len]; exact kk)] at h2
            have h3 := m3.cells n a c h1 h2
            cases c with
            | lst ys =>
              obtain ⟨ws, h4, h5⟩ := h3
              exact ⟨ws, h4, h5.shift x3.res hd⟩
            | dic _ => exact h3
          · have k2 : n = φ3.c.length := by
              have := (List.getElem?_eq_some_iff.mp h1).1
              simp at this
              omega
            subst k2
            rw [List.getElem?_append_right (Nat.le_refl _)] at h1
            rw [m3.len, List.getElem?_append_right (Nat.le_refl _)] at h2
            simp at h1 h2
            subst h1 h2
            exact ⟨us, eD, ra.shift x3.res hd⟩
      · show (φ3.c ++ [D])[M2.length]? = some D
        rw [← m3.len, List.getElem?_append_right (Nat.le_refl _)]
        simp
theorem i_lc {elt tg iter : Expr} {ifs : List Expr} {scope : Scope} {own : List (Str × Nat)} {it : I} {t : T} {cs : Es} (f : Bool) (hc : X.calm = true) (hN : X.N.Nodup) (hi : PI X tg iter (tIt X.K call it)) (ok : blkC X.N X.env.scope scope own = true) (hw : (t.ids.all fun i => (own.map (·.2)).contains i) = true)
    (hg : ∀ (s : Shared) (H : Hp) (C : Addr) (cl : List (Str × Addr)) (fp : List Addr), PG (X.blk s H scope (compEnvC scope cl C X.env) fp) tg (gT X.K t)) (ht : ∀ (s : Shared) (H : Hp) (C : Addr) (cl : List (Str × Addr)) (fp : List Addr), PTs (X.blk s H scope (compEnvC scope cl C X.env) fp) ifs (tCs X.K call cs))
    (he : ∀ (s : Shared) (H : Hp) (C : Addr) (cl : List (Str × Addr)) (fp : List Addr), PE (X.blk s H scope (compEnvC scope cl C X.env) fp) elt (tI X.K call ma)) (hs : ∀ x, foldedSetIterable iter X.env x = pure x := by intro _; rfl) :
    PE X (.ListComp elt [⟨tg, iter, ifs, 0⟩] scope pos) (tI X.K call (.lc f (own.map (·.2)) t it cs ma)) :=
  (pe_lc hc hN hi (blkOk_by ok) hg ht he hs).imp fun _ _ _ h => lc_rd (fun i hi => by
    have := List.all_eq_true.mp hw i hi
    simpa using this) h
end
end Ev

/-! sorted and max of ints in a list or a tuple. -/
namespace Ev
open PySem PySem.Spec PyProof.Rows L2
section
variable {prog : Program} {w : World} {A : Around} {E : Value → Shared → Prop} {s : Shared}
/-- what a tuple holds, gathered -/
theorem gather_tup {t : Addr} {vs : List Value} {Q : List Value → Shared → Prop} (ht : IsTup s.heap t vs.toArray) (hz : vs.length ≤ sizeLine)
    (h : Q vs { s with heap := (s.heap.push (seqObj "list" #[] 0)).update s.heap.objs.size (Obj.mapSeq (· ++ vs.toArray)) }) : wpAny (model prog w) A (collect (.ref t)) Q E s := by
  obtain ⟨o, ho, hc, n, hd⟩ := id ht
  have h0 : (s.heap.push (seqObj "list" #[] 0)).get? s.heap.objs.size = some (seqObj "list" #[] 0) := Heap.get?_push_size _ rfl
  have h1 : (s.heap.push (seqObj "list" #[] 0)).get? t = some o := Heap.get?_push_of_some _ ho
  have h2 : ((s.heap.push (seqObj "list" #[] 0)).update s.heap.objs.size (Obj.mapSeq (· ++ vs.toArray))).get? s.heap.objs.size = _ := get?_update_seq h0 _
  unfold collect
  refine wpAny_bind (wpAny_runValue (codeAny_builtin entry_proto_collect' ?_))
  refine wpAny_bind (m := newList []) (wpAny_newList (wpAny_pure ⟨Code.quiet_builtin _ (by decide +kernel), codeAny_builtin entry_list_iadd' ?_⟩))
  show wpAny _ _ (Builtin.List.listExtendWith (.ref s.heap.objs.size) (.ref t) (.ref s.heap.objs.size)) _ _ _
  unfold Builtin.List.listExtendWith
  refine wpAny_bind (wpAny_typeOf (T := "tuple") ⟨o, h1, hc⟩ ?_)
  have hb : (Value.type "tuple" == Value.type "tuple") = true := by rfl
  rw [hb, Bool.or_true, if_pos rfl]
  refine wpAny_bind (listItems_at h1 hd (wpAny_bind (listItems_at h0 rfl ?_)))
  rw [if_neg (by simp)]
  refine wpAny_bind (listUpdate_at h0 rfl ?_ (Nat.zero_le _) (by simp only [Array.size_append, List.size_toArray, List.length_nil]; omega))
  refine wpAny_pure (wpAny_bind (m := load s.heap.objs.size) (wpAny_load h2 ?_))
  show wpAny _ _ (pure ((#[] : Array Value) ++ vs.toArray).toList) Q E _
  rw [show ((#[] : Array Value) ++ vs.toArray).toList = vs by simp]
  exact wpAny_pure h
theorem sorted_tupI {t : Addr} {vs : List Value} {ns : List Int} {Q : Value → Shared → Prop} (hi : IntsAre vs ns) (ht : IsTup s.heap t vs.toArray) (hz : vs.length ≤ sizeLine)
    (h : ∀ out : List Value, SrtO.Srtd SrtO.ltIv out → SrtO.Stb SrtO.ltIv out vs → Q (.ref (s.heap.objs.size + 1)) { s with heap := sortedAll s.heap vs out.toArray }) :
    wpAny (model prog w) A (call (.builtin "sorted") [.ref t]) Q E s := by
  refine Calls.call_function_entry kind_sorted plain_sorted entry_sorted (args_sorted1 _) ?_
  unfold Builtin.«sorted»
  refine wpAny_bind (m := checkCount "sorted" 1 1 _) (wpAny_pure (wpAny_bind (gather_tup ht hz (wpAny_bind (wpAny_newList ?_ hz)))))
  generalize hG : (s.heap.push (seqObj "list" #[] 0)).update s.heap.objs.size (Obj.mapSeq (· ++ vs.toArray)) = G
  have gs : G.objs.size = s.heap.objs.size + 1 := by rw [← hG, Heap.size_update]; exact size_push' ..
  have ga : (G.push (seqObj "list" vs.toArray 0)).get? (s.heap.objs.size + 1) = some (seqObj "list" vs.toArray 0) := gs ▸ Heap.get?_push_size _ rfl
  refine wpAny_bind (wpAny_holding (wpAny_call_entry slot_list_sort ⟨_, by rw [gs]; exact ga, rfl⟩ entry_list_sort ?_ (args_list_sort _)))
  rw [gs]
  refine SrtO.list_sort_ord SrtO.swo_int ga hz (fun h2 => SrtO.ints_sortable hi h2) fun out hs hb => ⟨_, rfl, wpAny_pure ⟨_, rfl, ?_⟩⟩
  have := h out hs hb
  unfold sortedAll at this
  rw [hG] at this
  exact this
theorem max_tupI {t : Addr} {its : List Value} {ns : List Int} {Q : Value → Shared → Prop} (hh : A.handled = none) (ht : IsTup s.heap t its.toArray) (hi : IntsAre its ns) (h0 : 0 < ns.length)
    (h : ∀ h' tk m t', (∀ b o, s.heap.get? b = some o → h'.get? b = some o) → m ∈ ns → (∀ a, a ∈ ns → a ≤ m) → Q (.int m t') { s with heap := h', toks := tk }) : wpAny (model prog w) A (call (.builtin "max") [.ref t]) Q E s := by
  obtain ⟨xs, e⟩ := hi.allInts.items
  obtain rfl : xs.toList.map (·.1) = ns := by rw [← nums_intItems, ← e]; exact hi.numsOf
  rw [e] at ht
  have hp : 0 < xs.size := by simpa using h0
  have hlt : t < s.heap.objs.size := by obtain ⟨_, q, _⟩ := ht; exact Heap.lt_size q
  have hf : ∀ b ∈ [s.heap.objs.size, t], b < (s.heap.push { cls := .type "tuple_iterator", data := .fields #[.ref t, .int 0 0] }).objs.size := fun b hb => by
    rw [Heap.size_push]
    simp only [List.mem_cons, List.not_mem_nil, or_false] at hb
    rcases hb with rfl | rfl
    · exact Nat.lt_succ_self _
    · exact Nat.lt_succ_of_lt hlt
  have hT : (s.heap.push { cls := .type "tuple_iterator", data := .fields #[.ref t, .int 0 0] }).IsTuple t (intItems xs) := by
    obtain ⟨o, q, r⟩ := ht
    exact ⟨o, Heap.get?_push_of_some _ q, r⟩
  refine call_max_walk (wpAny_pyIter_tuple ht ⟨_, _, _, _, _, _, _, rfl, Walks.tuple (A := A.in1) hh _ t (Nat.ne_of_lt hlt) (intItems xs), ⟨⟨_, Heap.get?_push_size _ rfl, rfl, rfl⟩, hT⟩, hf, by simpa [intItems] using hp,
    CmpOf.ints_gt (numAt xs) (fun _ _ => intItems_at), fun v h' tk hP hk => ?_⟩)
  obtain ⟨t', rfl⟩ := intItems_at hP
  have hz : (intItems xs).size = xs.size := by simp [intItems]
  rw [hz]
  obtain ⟨k1, k2⟩ := argBest_gt (numAt xs) (xs.size - 1)
  refine h h' tk _ t' (fun b o q => hk b o (fun hm => ?_) (Heap.get?_push_of_some _ q)) ?_ fun a ha => ?_
  · have := Heap.lt_size q
    simp only [List.mem_cons, List.not_mem_nil, or_false] at hm
    exact absurd (hm ▸ this) (Nat.lt_irrefl _)
  · rw [numAt_eq]; exact PySem.getD_mem (by rw [List.length_map, Array.length_toList]; exact Nat.lt_of_le_of_lt k1 (by omega))
  · obtain ⟨j, hj, rfl⟩ := mem_getD ha
    rw [List.length_map, Array.length_toList] at hj
    rw [← numAt_eq]; exact k2 j (by omega)
end
section
variable {X : Cx}
def rMaxT (K : PySem.W.Frag) : List V → Hp → VK → Prop := fun vs H Q => ∃ (a : Addr) (ns : List Int), vs = [V.ref a] ∧ SqT K H a (ns.map V.int) ∧ 0 < ns.length ∧ ∀ m, m ∈ ns → (∀ y, y ∈ ns → y ≤ m) → Q (.int m) H
theorem call_maxT (hc : X.calm = true) : CallR X (.builtin "max") (rMaxT X.K) := by
  intro pins s σ H vs us Q I r ⟨a, ns, e, hs, h0, q⟩
  subst e
  obtain ⟨its, rv, pl, _⟩ := I.tuple hs
  rw [Vals.ref1 r]
  exact max_tupI (I.ok.hd hc) pl rv.ints h0 fun h' tk m t' hk k1 k2 => ⟨.int _, H, I.kept hk, ⟨_, rfl⟩, q m k1 k2⟩
def rSrtT (K : PySem.W.Frag) : List V → Hp → VK → Prop := fun vs H Q => ∃ (a : Addr) (ns : List Int), vs = [V.ref a] ∧ SqT K H a (ns.map V.int) ∧
  ∀ (ms : List Int) (p : Addr), ms.Perm ns → ms.Pairwise (· ≤ ·) → H p = none → Q (.ref p) (upd H p (.lst (ms.map V.int)))
theorem call_sortedT : CallR X (.builtin "sorted") (rSrtT X.K) := by
  intro pins s σ H vs us Q I r ⟨a, ns, e, hs, q⟩
  subst e
  obtain ⟨its, rv, pl, hz⟩ := I.tuple hs
  rw [Vals.ref1 r]
  refine sorted_tupI rv.ints pl (by rw [← rv.length]; exact hz) fun out k1 k2 => ?_
  obtain ⟨j1, j2, j3⟩ := SrtO.ints_out rv.ints k1 k2
  obtain ⟨ep, he⟩ := PyProof.Rows.sortedAll_at s.heap its out.toArray
  have hl : ((out.map SrtO.iv).map V.int).length ≤ sizeLine := by
    have := j2.length_eq
    rw [List.length_map] at hz ⊢
    omega
  exact ⟨.ref _, upd H (s.heap.objs.size + 1) (.lst ((out.map SrtO.iv).map V.int)), I.laid (t' := s.toks) (fun _ _ => PyProof.Rows.sortedAll_old) (Nat.le_succ _) ⟨hl, out, ep, vals_of_ints j1, he⟩, rfl, q _ _ j2 j3 (I.hok.fresh (Nat.le_succ _))⟩
theorem srt_uniq {ms ns : List Int} (h : ms.Perm ns) (s : ms.Pairwise (· ≤ ·)) : ms = srtI ns := by
  have p : ms.Perm (srtI ns) := h.trans (List.mergeSort_perm ns _).symm
  refine p.eq_of_pairwise (le := fun a b => a ≤ b) (fun a b _ _ => Int.le_antisymm) s ?_
  have := List.pairwise_mergeSort (le := fun a b : Int => decide (a ≤ b)) (fun a b c => by simp; omega) (fun a b => by simp; omega) ns
  exact this.imp fun h => of_decide_eq_true h
theorem ints_sq {K : PySem.W.Frag} {φ : Ph} {H : Hp} {M : Mem} {v : PV} {u : V} {xs : List PV} {ns : List Int} (m : RM K φ H M) (h : Rp K φ H v u) (e1 : itemsT M v = some xs) (e2 : intsOf xs = some ns) :
    ∃ a, u = .ref a ∧ (SqL K H a (ns.map V.int) ∨ SqT K H a (ns.map V.int)) ∧ Rps K φ H xs (ns.map V.int) := by
  obtain ⟨a, ws, rfl, h1, h2⟩ := itemsT_sq m h e1
  obtain rfl := ints_rps h2 e2
  exact ⟨a, rfl, h1, h2⟩
theorem ints_back {K : PySem.W.Frag} {φ : Ph} {H : Hp} : ∀ ms : List Int, Rps K φ H (ms.map PV.int) (ms.map V.int)
  | [] => .nil
  | x :: xs => .cons (.int x) (ints_back xs)
theorem c_sorted {f : Bool} : CallR X (.builtin "sorted") (rBl X.K .srt f) := (CallR.or cr_sortedI call_sortedT).imp fun xs H Q ⟨φ, M, vs, z, m, r, e, k⟩ => by
  change srtB M vs = some z at e
  unfold srtB at e
  split at e
  · obtain ⟨ys, e1, e⟩ := obind e
    obtain ⟨ns, e2, rfl⟩ := mapE e
    obtain ⟨u, rfl, h⟩ := one_of r
    obtain ⟨a, rfl, h1, h2⟩ := ints_sq m h e1 e2
    have fin : ∀ (ms : List Int) (p : Addr), ms.Perm ns → ms.Pairwise (· ≤ ·) → H p = none → Q (.ref p) (upd H p (.lst (ms.map V.int))) := fun ms p hp hs hn => by
      obtain rfl := srt_uniq hp hs
      exact k.asL m (ints_back _) hn
    exact h1.elim (fun h1 => .inl ⟨a, ns, rfl, h1, fin⟩) fun h1 => .inr ⟨a, ns, rfl, h1, fin⟩
  · cases e
theorem c_maxT (hc : X.calm = true) {f : Bool} : CallR X (.builtin "max") (rBl X.K .maxt f) := (call_maxT hc).imp fun xs H Q ⟨φ, M, vs, z, m, r, e, k⟩ => by
  change maxtB M vs = some z at e
  unfold maxtB at e
  split at e
  · rename_i ys
    obtain ⟨ns, e2, e⟩ := obind e
    obtain ⟨n, e3, rfl⟩ := mapE e
    obtain ⟨u, rfl, h⟩ := one_of r
    cases h with
    | tup h1 h2 =>
    obtain rfl := ints_rps h2 e2
    refine ⟨_, ns, rfl, h1, ?_, fun m' hm hy => ?_⟩
    · cases ns with
      | nil => cases e3
      | cons _ _ => exact Nat.succ_pos _
    · rw [maxI_ok e3 hm hy]
      exact k.asM m (.int _) fun _ h => nomatch h
  · cases e
end
end Ev

/-! tuple(zip(a, b)) of two lists. -/
namespace Ev
open PySem PySem.Spec PyProof.Rows L2
theorem nolen_zip : typeLookup (.type "zip") "__len__" = pure none := by rw [typeLookup_type, builtinLookup_eq_fast]; kernel_rfl
theorem nohint_zip : typeLookup (.type "zip") "__length_hint__" = pure none := by rw [typeLookup_type, builtinLookup_eq_fast]; kernel_rfl

/-- pairs of what is left, each a new tuple -/
inductive Zp : Hp → List V → List V → List V → Hp → Prop
  | nil {H : Hp} {xs ys : List V} (h : xs = [] ∨ ys = []) : Zp H xs ys [] H
  | cons {H H' : Hp} {T : Addr} {x y : V} {xs ys ws : List V} (h : H T = none) (r : Zp (upd H T (.tup [x, y])) xs ys ws H') : Zp H (x :: xs) (y :: ys) (.ref T :: ws) H'

def ZS (z TI TO i1 i2 l1 l2 S : Addr) (xs ys : Array Value) (i : Nat) (h : Heap) : Prop :=
  IsPair h TI (.ref i1) (.ref i2) ∧ h.IsListIter i1 l1 i ∧ h.IsListIter i2 l2 i ∧ h.IsList l1 xs ∧ h.IsList l2 ys ∧ (∃ o, h.get? TO = some o) ∧
    ((IsZip h z TI TO .none ∧ ∃ a b, IsPair h TO a b) ∨ ∃ T f oT, IsZipHeld h z TI TO T f ∧ h.get? T = some oT ∧ T ≠ z ∧ T ≠ i1 ∧ T ≠ i2 ∧ T ≠ S)
theorem ZS.frame {z TI TO i1 i2 l1 l2 S : Addr} {xs ys : Array Value} {i : Nat} {h h' : Heap} (st : ZS z TI TO i1 i2 l1 l2 S xs ys i h)
    (nz : S ≠ z) (nTI : S ≠ TI) (nTO : S ≠ TO) (n1 : S ≠ i1) (n2 : S ≠ i2) (m1 : S ≠ l1) (m2 : S ≠ l2) (hk : ∀ b o, b ≠ S → h.get? b = some o → h'.get? b = some o) : ZS z TI TO i1 i2 l1 l2 S xs ys i h' := by
  obtain ⟨hTI, h1, h2, hl1, hl2, ⟨oo, ho⟩, hz⟩ := st
  refine ⟨hk _ _ (Ne.symm nTI) hTI, h1.at fun o e => hk _ o (Ne.symm n1) e, h2.at fun o e => hk _ o (Ne.symm n2) e, hl1.at fun o e => hk _ o (Ne.symm m1) e, hl2.at fun o e => hk _ o (Ne.symm m2) e, ⟨oo, hk _ _ (Ne.symm nTO) ho⟩, ?_⟩
  rcases hz with ⟨hz, a, b, hTO⟩ | ⟨T, f, oT, hz, hT, r1, r2, r3, r4⟩
  · exact .inl ⟨hk _ _ (Ne.symm nz) hz, a, b, hk _ _ (Ne.symm nTO) hTO⟩
  · exact .inr ⟨T, f, oT, hk _ _ (Ne.symm nz) hz, hk _ _ r4 hT, r1, r2, r3, r4⟩
theorem fpOk_upd {X : Cx} {pins : List (Addr × Obj)} {H : Hp} {b T : Addr} {o : HO} (h : FpOk X pins H b) (n : b ≠ T) : FpOk X pins (upd H T o) b :=
  ⟨by rw [upd_ne n]; exact h.1, h.2⟩
section
variable {X : Cx} {pins : List (Addr × Obj)} {σ : L2.St} {z TI TO i1 i2 l1 l2 S : Addr} {its its2 : List Value} {xs ys : List V} {R : Result → Shared → Prop} {A : Around}
theorem loop_zip (hh : A.handled = none) (D : ZipApart z TI TO i1 i2 l1 l2) (nz : S ≠ z) (nTI : S ≠ TI) (nTO : S ≠ TO) (n1 : S ≠ i1) (n2 : S ≠ i2) (m1 : S ≠ l1) (m2 : S ≠ l2)
    (rx : Vals xs its) (ry : Vals ys its2) (res : Value) (hn : min its.length its2.length ≤ sizeLine) :
    ∀ (k i : Nat) (s : Shared) (acc : Array Value) (c : Nat) (H : Hp) (aV : List V), min its.length its2.length - i = k → i ≤ min its.length its2.length → Inv X pins σ H s → (∀ b ∈ [S, z, TI, TO, i1, i2], FpOk X pins H b) →
      ZS z TI TO i1 i2 l1 l2 S its.toArray its2.toArray i s.heap → s.heap.get? S = some { cls := .type "list", dict := none, data := .seq acc c, slots := #[] } → Vals aV acc.toList → acc.size = i →
      (∀ H' s' acc' c' ws, Inv X pins σ H' s' → Zp H (xs.drop i) (ys.drop i) ws H' → s'.heap.get? S = some { cls := .type "list", dict := none, data := .seq acc' c', slots := #[] } → Vals (aV ++ ws) acc'.toList → acc'.size = min its.length its2.length → H' S = none → R (.ok (.ret res)) s') →
      codeAny (model X.prog X.w) A (.builtin "list.extend.loop" ⟨[.ref S, .ref z, res], []⟩) R s := by
  have lx := rx.length
  have ly := ry.length
  intro k
  induction k with
  | zero =>
    intro i s acc c H aV hk hi I fp st hS ra ha hR
    have hin : i = min its.length its2.length := by omega
    obtain ⟨hTI, h1, h2, hl1, hl2, ⟨oo, ho⟩, hz⟩ := st
    have hend : its.toArray[i]? = none ∨ its2.toArray[i]? = none := by
      rcases Nat.le_total its.length its2.length with h | h
      · exact .inl (by simp; omega)
      · exact .inr (by simp; omega)
    have hd : xs.drop i = [] ∨ ys.drop i = [] := by
      rcases Nat.le_total its.length its2.length with h | h
      · exact .inl (List.drop_eq_nil_of_le (by omega))
      · exact .inr (List.drop_eq_nil_of_le (by omega))
    refine codeAny_builtin F.entry_extend_loop ?_
    rw [Around.under_plainId F.plain_extend_loop _]
    show wpAny _ A.in1 (pyNext (.ref z) >>= _) _ _ s
    have fin : ∀ h' : Heap, (∀ c o, c ≠ z → c ≠ TO → c ≠ i1 → c ≠ i2 → s.heap.get? c = some o → h'.get? c = some o) → R (.ok (.ret res)) { s with heap := h' } := fun h' hk' => by
      have I1 : Inv X pins σ H { s with heap := h' } := I.turnedL (t' := s.toks) (ch := [z, TO, i1, i2]) (fun b o hb e => hk' b o (fun q => hb (by simp [q])) (fun q => hb (by simp [q])) (fun q => hb (by simp [q])) (fun q => hb (by simp [q])) e) (fun b hb => fp b (by simp at hb ⊢; rcases hb with q | q | q | q <;> simp [q]))
      exact hR H _ acc c [] I1 (.nil hd) (hk' S _ nz nTO n1 n2 hS) (by rw [List.append_nil]; exact ra) (by omega) (fp S (by simp)).1
    rcases hz with ⟨hz, a, b, hTO⟩ | ⟨T, f, oT, hz, hT, r1, r2, r3, r4⟩
    · exact wpAny_bind (wpAny_pyNext_zip_end hh D hz hTI hTO h1 h2 hl1 hl2 hend fun h' hk' => wpAny_pure (fin h' hk'))
    · exact wpAny_bind (wpAny_pyNext_zip_end_held hh D hz hT hTI h1 h2 hl1 hl2 hend fun h' hk' => wpAny_pure (fin h' fun c o q1 q2 q3 q4 e => hk' c o q1 q3 q4 e))
  | succ k ih =>
    intro i s acc c H aV hk hi I fp st hS ra ha hR
    obtain ⟨hTI, h1, h2, hl1, hl2, ⟨oo, ho⟩, hz⟩ := st
    have hlt : i < min its.length its2.length := by omega
    have q1 : i < its.length := Nat.lt_of_lt_of_le hlt (Nat.min_le_left ..)
    have q2 : i < its2.length := Nat.lt_of_lt_of_le hlt (Nat.min_le_right ..)
    have p1 : i < xs.length := by omega
    have p2 : i < ys.length := by omega
    obtain ⟨u, eu, ru⟩ := rx.get (i := i) (List.getElem?_eq_getElem p1)
    obtain ⟨u2, eu2, ru2⟩ := ry.get (i := i) (List.getElem?_eq_getElem p2)
    have ex : its.toArray[i]? = some u := by simpa using eu
    have ey : its2.toArray[i]? = some u2 := by simpa using eu2
    have lt : ∀ {c o}, s.heap.get? c = some o → s.heap.objs.size ≠ c := fun e => Nat.ne_of_gt (Heap.lt_size e)
    have N1 : s.heap.objs.size ≠ i1 := let ⟨_, e, _⟩ := h1; lt e
    have N2 : s.heap.objs.size ≠ i2 := let ⟨_, e, _⟩ := h2; lt e
    have NS : s.heap.objs.size ≠ S := lt hS
    have NTI : s.heap.objs.size ≠ TI := lt hTI
    have NTO : s.heap.objs.size ≠ TO := lt ho
    have Nz : s.heap.objs.size ≠ z := by
      rcases hz with ⟨hz, _⟩ | ⟨_, _, _, hz, _⟩
      · exact lt hz
      · exact lt hz
    have Nl1 : s.heap.objs.size ≠ l1 := let ⟨_, e, _⟩ := hl1; lt e
    have Nl2 : s.heap.objs.size ≠ l2 := let ⟨_, e, _⟩ := hl2; lt e
    have dx : xs.drop i = xs[i] :: xs.drop (i + 1) := List.drop_eq_getElem_cons p1
    have dy : ys.drop i = ys[i] :: ys.drop (i + 1) := List.drop_eq_getElem_cons p2
    refine codeAny_builtin F.entry_extend_loop ?_
    rw [Around.under_plainId F.plain_extend_loop _]
    show wpAny _ A.in1 (pyNext (.ref z) >>= _) _ _ s
    have step : ∀ h' : Heap, ZS z TI TO i1 i2 l1 l2 S its.toArray its2.toArray (i + 1) h' → h'.get? s.heap.objs.size = some { cls := .type "tuple", data := .seq #[u, u2] } →
        (∀ c o, c ≠ z → c ≠ TO → c ≠ i1 → c ≠ i2 → s.heap.get? c = some o → h'.get? c = some o) →
        wpAny (model X.prog X.w) A.in1 (updateSeq S (·.push (Value.ref s.heap.objs.size)) >>= fun _ => again (.builtin "list.extend.loop" ⟨[.ref S, .ref z, res], []⟩))
          (fun fin s' => match fin with | .done f => R (.ok f) s' | .again c' => c'.quiet = true ∧ codeAny (model X.prog X.w) A c' R s') (fun e s' => R (.error e) s') { s with heap := h' } := fun h' st' hT hk' => by
      have new : ObjOk X.prog X.w (upd H s.heap.objs.size (.tup [xs[i], ys[i]])) h' s.heap.objs.size (.tup [xs[i], ys[i]]) :=
        ⟨by show 2 ≤ sizeLine; decide, [u, u2], .cons ru (.cons ru2 .nil), ⟨_, hT, rfl, _, rfl⟩⟩
      have I1 : Inv X pins σ (upd H s.heap.objs.size (.tup [xs[i], ys[i]])) { s with heap := h' } :=
        I.turnedNew (t' := s.toks) (ch := [z, TO, i1, i2]) (fun b o hb e => hk' b o (fun q => hb (by simp [q])) (fun q => hb (by simp [q])) (fun q => hb (by simp [q])) (fun q => hb (by simp [q])) e) (fun b hb => fp b (by simp at hb ⊢; rcases hb with q | q | q | q <;> simp [q])) (Nat.le_refl _) new
      have fp1 : ∀ b ∈ [S, z, TI, TO, i1, i2], FpOk X pins (upd H s.heap.objs.size (.tup [xs[i], ys[i]])) b := fun b hb => fpOk_upd (fp b hb) (by
        simp at hb
        rcases hb with q | q | q | q | q | q <;> rw [q]
        · exact Ne.symm NS
        · exact Ne.symm Nz
        · exact Ne.symm NTI
        · exact Ne.symm NTO
        · exact Ne.symm N1
        · exact Ne.symm N2)
      have hS' := hk' S _ nz nTO n1 n2 hS
      obtain ⟨f0, f1, f2, f3, f4, f5⟩ := fp1 S (by simp)
      refine wpAny_bind ?_
      refine wpAny_updateSeq (s := { s with heap := h' }) hS' rfl (wpAny_pure ⟨plainId_quiet F.plain_extend_loop _, ih (i + 1) _ (acc.push (.ref s.heap.objs.size)) _ (upd H s.heap.objs.size (.tup [xs[i], ys[i]])) (aV ++ [.ref s.heap.objs.size]) (by omega) hlt ?_ fp1 ?_ (Heap.get?_update_self _ hS' rfl) ?_ ?_ ?_⟩)
        (by rw [ha]; omega) (by show (acc.push _).size ≤ sizeLine + 1; rw [Array.size_push, ha]; omega)
      · exact I1.turned (t' := s.toks) (it := S) (fun b o hb e => (Heap.get?_update_other _ _ (Ne.symm hb)).trans e) f0 f1 f3 f4 f5
      · exact st'.frame nz nTI nTO n1 n2 m1 m2 fun b o hb e => (Heap.get?_update_other _ _ (Ne.symm hb)).trans e
      · rw [Array.toList_push]; exact ra.append (.cons rfl .nil)
      · rw [Array.size_push, ha]
      · intro H' s' acc' c' ws I' zp e r' l' n'
        refine hR H' s' acc' c' (.ref s.heap.objs.size :: ws) I' ?_ e (by rw [List.append_assoc] at r'; exact r') l' n'
        rw [dx, dy]
        exact .cons (I.hok.fresh (Nat.le_refl _)) zp
    rcases hz with ⟨hz, a, b, hTO⟩ | ⟨T, f, oT, hz, hT, r1, r2, r3, r4⟩
    · refine wpAny_bind (wpAny_pyNext_zip_item D hz hTI hTO h1 h2 hl1 hl2 ex ey fun h' a1 a2 a3 a4 a5 a6 hk' => ?_)
      refine step h' ⟨hk' _ _ D.TIz D.TITO D.TIi1 D.TIi2 hTI, a3, a4, hl1.at fun o e => hk' _ o D.l1z D.l1TO D.l1i1 D.l1i2 e, hl2.at fun o e => hk' _ o D.l2z D.l2TO D.l2i1 D.l2i2 e, ⟨_, a2⟩,
              .inr ⟨s.heap.objs.size, false, _, a1, a5, Nz, N1, N2, NS⟩⟩ a5 hk'
    · refine wpAny_bind (wpAny_pyNext_zip_item_held D hz hT hTI h1 h2 hl1 hl2 ex ey fun h' a1 a3 a4 a5 a6 hk' => ?_)
      have zTO : TO ≠ z := D.TOz
      refine step h' ⟨hk' _ _ D.TIz D.TIi1 D.TIi2 hTI, a3, a4, hl1.at fun o e => hk' _ o D.l1z D.l1i1 D.l1i2 e, hl2.at fun o e => hk' _ o D.l2z D.l2i1 D.l2i2 e, ⟨_, hk' _ _ D.TOz D.TOi1 D.TOi2 ho⟩,
              .inr ⟨T, true, oT, a1, hk' _ _ r1 r2 r3 hT, r1, r2, r3, r4⟩⟩ a5 fun c o q1 _ q3 q4 e => hk' c o q1 q3 q4 e
/-- what stands when a zip of two lists has come -/
structure ZipNew (s : Shared) (z TI TO i1 i2 l1 l2 : Addr) : Prop where
  D : ZipApart z TI TO i1 i2 l1 l2
  hz : IsZip s.heap z TI TO .none
  hTI : IsPair s.heap TI (.ref i1) (.ref i2)
  hTO : ∃ a b, IsPair s.heap TO a b
  h1 : s.heap.IsListIter i1 l1 0
  h2 : s.heap.IsListIter i2 l2 0
theorem collect_zip {s : Shared} {H : Hp} {E : Value → Shared → Prop} {Q : List Value → Shared → Prop} (hh : A.handled = none) (Z : ZipNew s z TI TO i1 i2 l1 l2) (hl1 : s.heap.IsList l1 its.toArray) (hl2 : s.heap.IsList l2 its2.toArray)
    (rx : Vals xs its) (ry : Vals ys its2) (hn : min its.length its2.length ≤ sizeLine) (I : Inv X pins σ H s) (fp : ∀ b ∈ [z, TI, TO, i1, i2], FpOk X pins H b)
    (hQ : ∀ H' s' ws us, Inv X pins σ H' s' → Zp H xs ys ws H' → Vals ws us → us.length ≤ sizeLine → Q us s') :
    wpAny (model X.prog X.w) A (collect (.ref z)) Q E s := by
  obtain ⟨D, hz, hTI, ⟨ta, tb, hTO⟩, h1, h2⟩ := Z
  have lt : ∀ {c o}, s.heap.get? c = some o → s.heap.objs.size ≠ c := fun e => Nat.ne_of_gt (Heap.lt_size e)
  have N1 : s.heap.objs.size ≠ i1 := let ⟨_, e, _⟩ := h1; lt e
  have N2 : s.heap.objs.size ≠ i2 := let ⟨_, e, _⟩ := h2; lt e
  have Nl1 : s.heap.objs.size ≠ l1 := let ⟨_, e, _⟩ := hl1; lt e
  have Nl2 : s.heap.objs.size ≠ l2 := let ⟨_, e, _⟩ := hl2; lt e
  have hT0 : s.TypeIs (.ref z) "zip" := ⟨_, hz, rfl⟩
  unfold collect
  refine wpAny_bind (wpAny_runValue (codeAny_builtin F.entry_proto_collect ?_))
  rw [Around.under_plainId F.plain_proto_collect _]
  show wpAny _ A.in1 (newList [] >>= fun l => again (.builtin "list.__iadd__" ⟨[l, .ref z], []⟩)) _ _ s
  refine wpAny_bind (wpAny_newObj_type ?_)
  refine wpAny_pure ⟨plainId_quiet F.plain_list_iadd _, codeAny_builtin F.entry_list_iadd ?_⟩
  rw [Around.under_plainId F.plain_list_iadd _]
  have up : ∀ b o, s.heap.get? b = some o → (s.heap.push { cls := .type "list", data := .seq ([] : List Value).toArray }).get? b = some o := fun b o e => Heap.get?_push_of_some _ e
  have hz1 := up _ _ hz
  have hT1 : ({ s with heap := s.heap.push { cls := .type "list", data := .seq ([] : List Value).toArray } } : Shared).TypeIs (.ref z) "zip" := ⟨_, hz1, rfl⟩
  show wpAny _ A.in1 (Builtin.List.listExtendWith (.ref s.heap.objs.size) (.ref z) (.ref s.heap.objs.size)) _ _ _
  unfold Builtin.List.listExtendWith
  refine wpAny_bind (wpAny_typeOf hT1 ?_)
  have e1 : Builtin.List.listSameRef (.ref s.heap.objs.size) (.ref z) = false := by simp [Builtin.List.listSameRef, lt hz]
  have e2 : (Value.type "zip" == Value.type "list") = false := by decide
  have e3 : (Value.type "zip" == Value.type "tuple") = false := by decide
  simp only [e1, e2, e3, Bool.or_false, Bool.false_eq_true, if_false]
  refine wpAny_bind (wpAny_pyIter_zip (s := { s with heap := s.heap.push { cls := .type "list", data := .seq ([] : List Value).toArray } }) hz1 ?_)
  refine wpAny_bind (wpAny_holding ?_)
  unfold Builtin.List.listLengthHint
  refine wpAny_bind (wpAny_specialOf hT1 nolen_zip ?_)
  show wpAny _ A.in1 (specialOf (Value.ref z) (Str.ofString "__length_hint__") >>= _) _ _ _
  refine wpAny_bind (wpAny_specialOf hT1 nohint_zip ?_)
  refine wpAny_pure ?_
  show wpAny _ A.in1 (rule "list.extend.makes-room" >>= fun _ => Builtin.List.listTouch (.ref s.heap.objs.size) >>= fun _ =>
    again (.builtin "list.extend.loop" ⟨[.ref s.heap.objs.size, .ref z, .ref s.heap.objs.size], []⟩)) _ _ _
  refine wpAny_bind (wpAny_rule ?_)
  have hS₁ : (s.heap.push { cls := .type "list", data := .seq ([] : List Value).toArray }).get? s.heap.objs.size = some { cls := .type "list", data := .seq ([] : List Value).toArray } := Heap.get?_push_size _ rfl
  refine wpAny_bind ?_
  show wpAny _ A.in1 (updateSeq s.heap.objs.size (·.push .none) >>= fun _ => updateSeq s.heap.objs.size (·.pop)) _ _ _
  refine wpAny_bind (wpAny_updateSeq hS₁ rfl ?_)
  have hS₂ := Heap.get?_update_self (Obj.mapSeq (·.push Value.none)) hS₁ rfl
  refine wpAny_updateSeq hS₂ rfl ?_
  have hS₃ := Heap.get?_update_self (Obj.mapSeq (·.pop)) hS₂ rfl
  have oth : ∀ b o, b ≠ s.heap.objs.size → (s.heap.push { cls := .type "list", data := .seq ([] : List Value).toArray }).get? b = some o →
      (((s.heap.push { cls := .type "list", data := .seq ([] : List Value).toArray }).update s.heap.objs.size (Obj.mapSeq (·.push Value.none))).update s.heap.objs.size (Obj.mapSeq (·.pop))).get? b = some o :=
    fun b o hb e => (Heap.get?_update_other _ _ (Ne.symm hb)).trans ((Heap.get?_update_other _ _ (Ne.symm hb)).trans e)
  have all : ∀ b o, s.heap.get? b = some o → (((s.heap.push { cls := .type "list", data := .seq ([] : List Value).toArray }).update s.heap.objs.size (Obj.mapSeq (·.push Value.none))).update s.heap.objs.size (Obj.mapSeq (·.pop))).get? b = some o :=
    fun b o e => oth b o (Ne.symm (lt e)) (up b o e)
  have I1 := I.kept (t' := s.toks) all
  have fpS : FpOk X pins H s.heap.objs.size := I.fpOk (Nat.le_refl _) (I.hok.fresh (Nat.le_refl _))
  refine wpAny_pure ⟨plainId_quiet F.plain_extend_loop _, loop_zip (R := _) hh D (lt hz) (lt hTI) (lt hTO) N1 N2 Nl1 Nl2 rx ry (.ref s.heap.objs.size) hn _ 0 _ _ _ H [] rfl (Nat.zero_le _) I1 (fun b hb => ?_)
    ⟨all _ _ hTI, h1.at fun o e => all _ o e, h2.at fun o e => all _ o e, hl1.at fun o e => all _ o e, hl2.at fun o e => all _ o e, ⟨_, all _ _ hTO⟩, .inl ⟨all _ _ hz, ta, tb, all _ _ hTO⟩⟩ hS₃ .nil rfl fun H' s' acc' c' ws I' zp e r' l' n' => ?_⟩
  · rcases List.mem_cons.mp hb with q | q
    · rw [q]; exact fpS
    · exact fp b q
  show wpAny _ A (load s.heap.objs.size >>= _) _ _ s'
  refine wpAny_bind (wpAny_load e ?_)
  exact wpAny_pure (hQ H' s' ws acc'.toList I' (by simpa using zp) (by simpa using r') (by rw [Array.length_toList]; omega))
theorem code_tuple_new_zip {s : Shared} {H : Hp} {E : Value → Shared → Prop} {Q₁ : Value → Shared → Prop} (hh : A.handled = none) (Z : ZipNew s z TI TO i1 i2 l1 l2) (hl1 : s.heap.IsList l1 its.toArray) (hl2 : s.heap.IsList l2 its2.toArray)
    (rx : Vals xs its) (ry : Vals ys its2) (hn : min its.length its2.length ≤ sizeLine) (I : Inv X pins σ H s) (fp : ∀ b ∈ [z, TI, TO, i1, i2], FpOk X pins H b)
    (h : ∀ H' s' ws us, Inv X pins σ H' s' → Zp H xs ys ws H' → Vals ws us → us.length ≤ sizeLine → Q₁ (.ref s'.heap.objs.size) { s' with heap := s'.heap.push { cls := .type "tuple", data := .seq us.toArray } }) :
    codeAny (model X.prog X.w) A (.call (.builtin "tuple.__new__") ⟨[.type "tuple", .ref z], []⟩) (wants Q₁ E) s := by
  refine codeAny_of_tree ?_
  show wpAny _ A.in1 (do checkBuiltinCall "tuple.__new__" ⟨[.type "tuple", .ref z], []⟩; again (.builtin "tuple.__new__" ⟨[.type "tuple", .ref z], []⟩)) _ _ s
  refine wpAny_bind (wpAny_of_eq (F.newCall_tuple_1 _) (wpAny_pure ⟨plainId_quiet F.plain_tuple_new _, codeAny_builtin F.entry_tuple_new ?_⟩))
  rw [Around.under_plainId F.plain_tuple_new _]
  have hsub := sub_tuple_self
  have hinit := init_tuple_lookup
  have hmh := madeHere_tuple
  have hTI : s.TypeIs (.ref z) "zip" := ⟨_, Z.hz, rfl⟩
  have hh1 : A.in1.handled = none := hh
  wp_walk using wpAny_typeOf hTI, collect_zip (A := A.in1) hh1 Z hl1 hl2 rx ry hn I fp
  intro H' s' ws us I' zp r' l'
  show wpAny _ _ (Builtin.Tuple.tupleExact us.toArray >>= fun v => ret v) _ _ _
  unfold Builtin.Tuple.tupleExact
  refine wpAny_bind (wpAny_newObj_type ?_ (by show us.toArray.size ≤ sizeLine; simpa using l'))
  exact wpAny_pure (h H' s' ws us I' zp r' l')
theorem call_tuple_zip {s : Shared} {H : Hp} {E : Value → Shared → Prop} {Q : Value → Shared → Prop} (hh : A.handled = none) (Z : ZipNew s z TI TO i1 i2 l1 l2) (hl1 : s.heap.IsList l1 its.toArray) (hl2 : s.heap.IsList l2 its2.toArray)
    (rx : Vals xs its) (ry : Vals ys its2) (hn : min its.length its2.length ≤ sizeLine) (I : Inv X pins σ H s) (fp : ∀ b ∈ [z, TI, TO, i1, i2], FpOk X pins H b)
    (hQ : ∀ H' s' ws us, Inv X pins σ H' s' → Zp H xs ys ws H' → Vals ws us → us.length ≤ sizeLine → Q (.ref s'.heap.objs.size) { s' with heap := s'.heap.push { cls := .type "tuple", data := .seq us.toArray } }) :
    wpAny (model X.prog X.w) A (call (.type "tuple") [.ref z]) Q E s := by
  refine callType_codes (Q₁ := fun obj s₁ => s₁.TypeIs obj "tuple" ∧ Q obj s₁) F.called_tuple (F.typeCall_tuple_1 _) F.entry_object_init
    (code_tuple_new_zip (A := A.in1) hh Z hl1 hl2 rx ry hn I fp fun H' s' ws us I' zp r' l' => ⟨⟨_, Heap.get?_push_size _ rfl, rfl⟩, hQ H' s' ws us I' zp r' l'⟩) fun obj s₁ h₁ => ?_
  exact ⟨h₁.1, F.args_object_init_2 obj _, object_init_meets F.called_tuple.init.lookup F.called_tuple.made (by decide) X.prog X.w A.in1 _ s₁ ⟨h₁.1, rfl, h₁.2⟩⟩
end
/-- tuple(zip(a, b)) of two lists -/
def tZipT (K : PySem.W.Frag) (ta : TA) : TE := fun σ H Q => ta σ H fun vs H1 => ∃ a b xs ys, vs = [.ref a, .ref b] ∧ SqL K H1 a xs ∧ SqL K H1 b ys ∧ ∀ ws H2 q, Zp H1 xs ys ws H2 → H2 q = none → Q (.ref q) (upd H2 q (.tup ws))
section
variable {X : Cx} {a b : Expr} {ta : TA} {p p2 pos pos2 : Pos}
theorem pe_zipT (hc : X.calm = true) (hg : Gl X "tuple") (hm : X.mg "tuple" = none) (hg2 : Gl X "zip") (hm2 : X.mg "zip" = none) (ha : PA X [a, b] ta)
    (hs : starEach [a, b] X.env = (false, PySem.eval a X.env) :: starEach [b] X.env := by rfl) (hpl : (backTo pos2 (starEach [b] X.env)).any (·.1) = false := by rfl)
    (na : starEach [.Call (.Name "zip" p2) [a, b] [] pos2] X.env = (false, PySem.eval (.Call (.Name "zip" p2) [a, b] [] pos2) X.env) :: starEach [] X.env := by rfl) :
    PE X (.Call (.Name "tuple" p) [.Call (.Name "zip" p2) [a, b] [] pos2] [] pos) (tZipT X.K ta) := by
  refine ⟨fun pins s σ H Q I h => ?_⟩
  refine Call_ (ld_blt I hg hm boot_tuple (PyProof.Rows.callWith_type1 (args_cons (thn (Q := fun v s1 => ∃ (z TI TO i1 i2 l1 l2 : Addr) (xs ys : List V) (its its2 : List Value) (H1 : Hp), v = .ref z ∧ ZipNew s1 z TI TO i1 i2 l1 l2 ∧ s1.heap.IsList l1 its.toArray ∧ s1.heap.IsList l2 its2.toArray ∧ Vals xs its ∧ Vals ys its2 ∧ min its.length its2.length ≤ sizeLine ∧ Inv X pins σ H1 s1 ∧ (∀ b ∈ [z, TI, TO, i1, i2], FpOk X pins H1 b) ∧ ∀ ws H2 q, Zp H1 xs ys ws H2 → H2 q = none → Q (.ref q) (upd H2 q (.tup ws))) ?_ fun v s1 hv => args_nil ?_) na) na))
  · refine Call_ (ld_blt I hg2 hm2 PyProof.Rows.boot_zip (PyProof.Rows.callWith_type1 (thn (ha.run pos2 pins s σ H _ I h) fun us s1 ⟨vs, H1, I1, r1, q1⟩ => ?_) hs hpl))
    obtain ⟨l1, l2, xs, ys, ex, hx, hy, q⟩ := q1
    subst ex
    cases r1 with
    | cons r rr =>
      cases rr with
      | cons r' rr =>
        cases rr
        cases r
        cases r'
        obtain ⟨its, rv, p1, z1⟩ := I1.list hx
        obtain ⟨its2, rv2, p2, z2⟩ := I1.list hy
        refine call_zip_2 p1.isList p2.isList fun h' hz hTI hTO h1 h2 hsz hk => ?_
        have I2 : Inv X pins σ H1 { s1 with heap := h' } := I1.kept (t' := s1.toks) hk
        refine ⟨_, _, _, _, _, l1, l2, xs, ys, its, its2, H1, rfl, ⟨PySem.W.ktu_apart s1.heap.objs.size l1 l2 p1.lt p2.lt, hz, hTI, ⟨_, _, hTO⟩, h1, h2⟩, p1.isList.at fun o e => hk _ o e, p2.isList.at fun o e => hk _ o e, rv, rv2, ?_, I2, fun c hcm => ?_, q⟩
        · have := rv.length; omega
        · have hle : s1.heap.objs.size ≤ c := by
            simp at hcm
            rcases hcm with z | z | z | z | z <;> rw [z] <;> first | exact Nat.le_add_right _ _ | exact Nat.le_refl _
          exact I1.fpOk hle (I1.hok.fresh hle)
  · obtain ⟨z, TI, TO, i1, i2, l1, l2, xs, ys, its, its2, H1, rfl, Z, hl1, hl2, rx, ry, hn, I1, fp, q⟩ := hv
    refine call_tuple_zip (I1.ok.hd hc) Z hl1 hl2 rx ry hn I1 fp fun H' s' ws us I' zp r' l' => ?_
    refine ⟨.ref s'.heap.objs.size, upd H' s'.heap.objs.size (.tup ws), I'.laid (t' := s'.toks) (fun b o e => Heap.get?_push_of_some _ e) (Nat.le_refl _) (show ObjOk X.prog X.w _ _ _ (.tup ws) from ⟨?_, us, r', IsTup.new _ _⟩), rfl, q _ _ _ zp (I'.hok.fresh (Nat.le_refl _))⟩
    have := r'.length
    omega
end
theorem Zp.rps {K : PySem.W.Frag} {φ : Ph} {M : Mem} {H H' : Hp} {xs ys ws : List V} (z : Zp H xs ys ws H') : ∀ {ps qs : List PV}, RM K φ H M → Rps K φ H ps xs → Rps K φ H qs ys → Xt φ H φ H' ∧ RM K φ H' M ∧ Rps K φ H' (List.zipWith pairP ps qs) ws := by
  induction z with
  | nil h =>
    intro ps qs m r1 r2
    refine ⟨.refl, m, ?_⟩
    rcases h with h | h
    · subst h; cases r1; exact .nil
    · subst h; cases r2; cases ps <;> exact .nil
  | @cons H H' T x y xs ys ws h r ih =>
    intro ps qs m r1 r2
    cases r1 with
    | cons a1 r1 =>
    cases r2 with
    | cons a2 r2 =>
    have x1 : Xt φ H φ (upd H T (.tup [x, y])) := xt_new h
    obtain ⟨x2, m2, q2⟩ := ih (m.new h) (r1.mono x1) (r2.mono x1)
    refine ⟨x1.trans x2, m2, .cons ?_ q2⟩
    have : Rp K φ (upd H T (.tup [x, y])) (pairP _ _) (.ref T) := .tup (.inl (.inl upd_same)) (.cons (a1.mono x1) (.cons (a2.mono x1) .nil))
    exact this.mono x2
section
variable {X : Cx} {call : Cl} {a b : Expr} {ma mb : E} {p p2 pos pos2 : Pos}
theorem i_ztup {f : Bool} (hc : X.calm = true) (hg : Gl X "tuple") (hm : X.mg "tuple" = none) (hg2 : Gl X "zip") (hm2 : X.mg "zip" = none) (ha : PA X [a, b] (tIs X.K call (.cons ma (.cons mb .nil))))
    (hs : starEach [a, b] X.env = (false, PySem.eval a X.env) :: starEach [b] X.env := by rfl) (hpl : (backTo pos2 (starEach [b] X.env)).any (·.1) = false := by rfl)
    (na : starEach [.Call (.Name "zip" p2) [a, b] [] pos2] X.env = (false, PySem.eval (.Call (.Name "zip" p2) [a, b] [] pos2) X.env) :: starEach [] X.env := by rfl) :
    PE X (.Call (.Name "tuple" p) [.Call (.Name "zip" p2) [a, b] [] pos2] [] pos) (tI X.K call (.blt .ztup f (.cons ma (.cons mb .nil)))) :=
  (pe_zipT hc hg hm hg2 hm2 ha hs hpl na).imp fun σ H Q ⟨φ, M, env, v, M', m, r, e, k⟩ => by
    unfold Ev.eval at e
    obtain ⟨⟨vs, M1⟩, e1, e⟩ := bindE e
    obtain ⟨z, e2, e⟩ := mapE e
    refine tIs.then_ m r e1 fun φ1 H1 u x1 m1 r1 q1 => ?_
    change ztupB M1 vs = some z at e2
    unfold ztupB at e2
    split at e2
    · rename_i pa pb pe
      cases h1 : items M1 pa with
      | none => rw [h1] at e2; cases e2
      | some xs =>
      rw [h1] at e2
      obtain ⟨ys, h2, rfl⟩ := mapE e2
      obtain ⟨u1, t1, rfl, q2, q3⟩ := two_of q1
      obtain ⟨p1, vs1, rfl, g1, g2⟩ := items_sq m1 q2 h1
      obtain ⟨p2, vs2, rfl, g3, g4⟩ := items_sq m1 q3 h2
      refine ⟨p1, p2, vs1, vs2, rfl, g1, g3, fun ws H2 q zp hq => ?_⟩
      obtain ⟨x2, m2, r2⟩ := zp.rps m1 g2 g4
      have k1 : Pst X.K φ H M1 (.tup (List.zipWith pairP xs ys)) Q := by
        cases f <;> (cases e; exact k)
      exact (k1.mono (x1.trans x2)).tup m2 r2 hq
    · cases e2
end
end Ev

/-! A display of texts by texts; what stands in it. -/
namespace Ev
open PySem PySem.Spec PyProof.Rows L2
theorem un1 {n : Nat} (h : n + 64 < cLine) : n + 1 < cLine := by omega
def cTr (kvs : List (Str × Str)) : List (TE × TE) := kvs.map fun p => (tC (.str p.1), tC (.str p.2))
theorem cTr_pairs : ∀ (kvs : List (Str × Str)) (σ : L2.St) (H : Hp) (Q : List (V × V) → Hp → Prop), Q (kvs.map fun p => (V.str p.1, V.str p.2)) H → tPairs (cTr kvs) σ H Q
  | [], _, _, _, h => h
  | p :: ps, σ, H, Q, h => by
    show tPairs (cTr ps) σ H fun ps' H3 => Q ((V.str p.1, V.str p.2) :: ps') H3
    exact cTr_pairs ps σ H _ h
section
variable {X : Cx} {call : Cl} {a b : Expr} {ma mb : E} {pos : Pos}
theorem i_dsp {keys : List (Option Expr)} {values : List Expr} (kvs : List (Str × Str)) (h : PPs X pos keys values (cTr kvs)) (hall : keys.all (·.isSome) = true := by rfl) (hl : keys.length = values.length := by rfl) (h0 : keys ≠ [] := by exact fun z => nomatch z)
    (h15 : keys.length ≤ 15 := by decide) : PE X (.Dict keys values pos) (tI X.K call (.dsp kvs)) :=
  (pe_disp h hall hl h0 h15).imp fun σ H Q ⟨φ, M, env, v, M', m, r, e, k⟩ => by
    unfold Ev.eval at e
    obtain ⟨hz, e⟩ := ifE e
    cases e
    intro p hp
    refine cTr_pairs kvs σ _ _ ⟨upd_same, kvs.map fun q => (Sum.inr q.1, V.str q.2), by rw [List.map_map]; rfl, by rw [List.length_map]; exact of_decide_eq_true hz, ?_⟩
    rw [upd_upd]
    exact k _ _ _ (xt_new hp) (m.new hp) (.dct upd_same (m.notin2 hp))
theorem dget_some {x y z : PV} (e : dgetOp x y = some z) : ∃ kvs key t, x = .dct kvs ∧ y = .str key ∧ valV (dkv kvs) (Sum.inr key) = some (.str t) ∧ z = .str t := by
  unfold dgetOp at e
  split at e
  · rename_i kvs key
    cases hv : valV (dkv kvs) (Sum.inr key) with
    | none => rw [hv] at e; cases e
    | some t =>
      rw [hv] at e
      cases t <;> first | (cases e; done) | skip
      cases e
      exact ⟨_, _, _, rfl, rfl, hv, rfl⟩
  · cases e
theorem i_dget (hu : X.A.units + 1 < cLine) (ha : PE X a (tI X.K call ma)) (hb : PE X b (tI X.K call mb)) (hs : NoSl b := by intro _ _; rfl) : PE X (.Subscript a b pos) (tI X.K call (.dget ma mb)) :=
  (pe_dget hu ha hb hs).imp fun σ H Q ⟨φ, M, env, v, M', m, r, e, k⟩ => by
    unfold Ev.eval at e
    obtain ⟨⟨x, M1⟩, e1, e⟩ := bindE e
    obtain ⟨⟨y, M2⟩, e2, e⟩ := bindE e
    obtain ⟨z, e3, e⟩ := mapE e
    cases e
    refine tI.then_ m r e1 fun φ1 H1 u x1 m1 r1 q1 => tI.then_ m1 r1 e2 fun φ2 H2 w x2 m2 r2 q2 => ?_
    obtain ⟨kvs, key, t, rfl, rfl, hv, rfl⟩ := dget_some e3
    cases q2
    cases q1.mono x2 with
    | @dct p _ h n =>
    refine ⟨p, .str t, rfl, ?_, k _ _ _ (x1.trans x2) m2 (.str t)⟩
    have := DGet.k (k := Sum.inr key) h
    rw [hv] at this
    exact this
theorem din_bl {n : Bool} {x y z : PV} (e : dinOp n x y = some z) : ∃ k kvs, x = .str k ∧ y = .dct kvs ∧ z = .bl (if n then !(valV (dkv kvs) (Sum.inr k)).isSome else (valV (dkv kvs) (Sum.inr k)).isSome) := by
  unfold dinOp at e
  split at e
  · cases e; exact ⟨_, _, rfl, rfl, rfl⟩
  · cases e
theorem din_rd {n : Bool} {σ : L2.St} {H : Hp} {Q : VK} (h : tI X.K call (.din n ma mb) σ H Q) : tI X.K call ma σ H fun y H1 => tI X.K call mb σ H1 fun x H2 => ∃ p o, x = .ref p ∧ DGet H2 p y o ∧ Q (.bl (if n then !o.isSome else o.isSome)) H2 := by
  obtain ⟨φ, M, env, v, M', m, r, e, k⟩ := h
  unfold Ev.eval at e
  obtain ⟨⟨x, M1⟩, e1, e⟩ := bindE e
  obtain ⟨⟨y, M2⟩, e2, e⟩ := bindE e
  obtain ⟨z, e3, e⟩ := mapE e
  cases e
  refine tI.then_ m r e1 fun φ1 H1 u x1 m1 r1 q1 => tI.then_ m1 r1 e2 fun φ2 H2 w x2 m2 r2 q2 => ?_
  obtain ⟨key, kvs, rfl, rfl, rfl⟩ := din_bl e3
  cases q1
  cases q2 with
  | @dct p _ h n' =>
  exact ⟨p, _, rfl, DGet.k (k := Sum.inr key) h, k _ _ _ (x1.trans x2) m2 (.bl _)⟩
theorem i_din (hu : X.A.units + 1 < cLine) (ha : PE X a (tI X.K call ma)) (hb : PE X b (tI X.K call mb)) (hm : behindInMarks .In b = false := by rfl) : PE X (.Compare a [.In] [b] pos) (tI X.K call (.din false ma mb)) :=
  (pe_cmp (pc_din hu ha hb) hm).imp fun σ H Q h => din_rd h
theorem i_dnin (hu : X.A.units + 1 < cLine) (ha : PE X a (tI X.K call ma)) (hb : PE X b (tI X.K call mb)) (hm : behindInMarks .NotIn b = false := by rfl) : PE X (.Compare a [.NotIn] [b] pos) (tI X.K call (.din true ma mb)) :=
  (pe_cmp (pc_dnotin hu ha hb) hm).imp fun σ H Q h => din_rd h
theorem din_isbl {n : Bool} {env : Env} {M M' : Mem} {v : PV} (e : Ev.eval call (.din n ma mb) env M = some (v, M')) : ∃ z, v = .bl z := by
  unfold Ev.eval at e
  obtain ⟨⟨x, M1⟩, e1, e⟩ := bindE e
  obtain ⟨⟨y, M2⟩, e2, e⟩ := bindE e
  obtain ⟨z, e3, e⟩ := mapE e
  cases e
  obtain ⟨_, _, _, _, rfl⟩ := din_bl e3
  exact ⟨_, rfl⟩
theorem din_test {n : Bool} {σ : L2.St} {H : Hp} {Q : Bool → Hp → Prop} (h : tT X.K call (.din n ma mb) σ H Q) : tI X.K call (.din n ma mb) σ H fun x H' => ∃ d, x = .bl d ∧ Q d H' := by
  obtain ⟨φ, M, env, v, M', d, m, r, e, t, k⟩ := h
  obtain ⟨z, rfl⟩ := din_isbl e
  obtain rfl : z = d := Option.some.inj t
  refine ⟨φ, M, env, .bl z, M', m, r, e, fun φ' H' u x m' q => ?_⟩
  cases q
  exact ⟨z, rfl, k _ _ x m'⟩
theorem t_din (hu : X.A.units + 1 < cLine) (ha : PE X a (tI X.K call ma)) (hb : PE X b (tI X.K call mb)) (hm : behindInMarks .In b = false := by rfl) : PT X (.Compare a [.In] [b] pos) (tT X.K call (.din false ma mb)) :=
  (pt_cmp (pc_din hu ha hb) hm).imp fun σ H Q h => din_rd (din_test h)
theorem t_dnin (hu : X.A.units + 1 < cLine) (ha : PE X a (tI X.K call ma)) (hb : PE X b (tI X.K call mb)) (hm : behindInMarks .NotIn b = false := by rfl) : PT X (.Compare a [.NotIn] [b] pos) (tT X.K call (.din true ma mb)) :=
  (pt_cmp (pc_dnotin hu ha hb) hm).imp fun σ H Q h => din_rd (din_test h)
end
end Ev

/-! A table of the module: ints to plain values. -/
namespace Ev
open PySem PySem.Spec PyProof.Rows L2
def absT : Value → Option PV
  | .int i _ => some (.int i)
  | .str s _ => some (.str s)
  | .bool b => some (.bl b)
  | .none => some .non
  | _ => none
def entI (e : DictEntry) : Option (Int × PV) := match e.key with
  | .int k _ => if (e.hash == hashInt k) = true then (absT e.val).map fun v => (k, v) else none
  | _ => none
/-- the name x of the module is a table -/
def TabAt (K : PySem.W.Frag) (mg : Str → Option Value) (x : Str) (kvs : List (Int × PV)) : Prop :=
  ∃ a es ep, mg x = some (.ref a) ∧ K.lookup a = some { cls := .type "dict", dict := none, data := .dict es ep, slots := #[] } ∧ es.toList.map entI = kvs.map some ∧ (kvs.map (·.1)).Nodup
theorem absT_rel {u : Value} {v : PV} (h : absT u = some v) : ∃ z, RelV z u ∧ ∀ (K : PySem.W.Frag) φ H, Rp K φ H v z := by
  unfold absT at h
  split at h <;> cases h
  · exact ⟨.int _, ⟨_, rfl⟩, fun _ _ _ => .int _⟩
  · exact ⟨.str _, ⟨_, rfl⟩, fun _ _ _ => .str _⟩
  · exact ⟨.bl _, rfl, fun _ _ _ => .bl _⟩
  · exact ⟨.non, rfl, fun _ _ _ => .non⟩
theorem entI_get {e : DictEntry} {p : Int × PV} (h : entI e = some p) : (∃ t, e.key = .int p.1 t) ∧ e.hash = hashInt p.1 ∧ absT e.val = some p.2 := by
  unfold entI at h
  split at h
  · rename_i k t hk
    split at h
    · rename_i hh
      cases hv : absT e.val with
      | none => rw [hv] at h; cases h
      | some v =>
        rw [hv] at h
        cases h
        exact ⟨⟨t, hk⟩, eq_of_beq hh, rfl⟩
    · cases h
  · cases h
/-- the entries as keys and values -/
theorem tab_vs {P : Program} {w : World} : ∀ {es : List DictEntry} {kvs : List (Int × PV)}, es.map entI = kvs.map some → ∃ vs : List (Key × Value), Pairs (mixKind P w) es vs ∧ vs.map (·.1) = kvs.map (fun kv => Sum.inl kv.1) ∧ (∀ e ∈ es, ∃ k, (mixKind P w).is k e.key = true ∧ e.hash = (mixKind P w).hash k) ∧
    ∀ i v, (kvs.find? fun kv => decide (kv.1 = i)).map (·.2) = some v → ∃ u, valueAt vs (Sum.inl i) = some u ∧ absT u = some v
  | [], [], _ => ⟨[], .nil, rfl, (fun _ h => nomatch h), fun i v h => by cases h⟩
  | e :: es, p :: kvs, h => by
    rw [List.map_cons, List.map_cons] at h
    injection h with h1 h2
    obtain ⟨⟨t, hk⟩, hh, hv⟩ := entI_get h1
    obtain ⟨vs, a1, a2, a3, a4⟩ := tab_vs (P := P) (w := w) h2
    have hi : (mixKind P w).is (Sum.inl p.1) e.key = true := by rw [hk]; exact kV_is (k := Sum.inl p.1) ⟨t, rfl⟩
    refine ⟨(Sum.inl p.1, e.val) :: vs, .cons hi rfl a1, by rw [List.map_cons, List.map_cons, a2], fun e' he => ?_, fun i v hf => ?_⟩
    · rcases List.mem_cons.mp he with rfl | he
      · exact ⟨Sum.inl p.1, hi, hh⟩
      · exact a3 e' he
    · by_cases c : p.1 = i
      · subst c
        rw [List.find?_cons] at hf
        simp only [decide_true] at hf
        cases hf
        refine ⟨e.val, ?_, hv⟩
        unfold valueAt
        rw [List.find?_cons]
        simp
      · rw [List.find?_cons] at hf
        simp only [c, decide_false] at hf
        obtain ⟨u, b1, b2⟩ := a4 i v hf
        refine ⟨u, ?_, b2⟩
        unfold valueAt at b1 ⊢
        rw [List.find?_cons]
        have : ¬ ((Sum.inl p.1 : Key) = Sum.inl i) := fun z => c (Sum.inl.inj z)
        simp only [this, decide_false]
        exact b1
  | [], p :: kvs, h => by cases h
  | e :: es, [], h => by cases h
def tTab (a : Addr) (kvs : List (Int × PV)) (ty : TE) : TE := fun σ H Q => ty σ H fun y H1 => ∃ i v, y = .int i ∧ tabV kvs (.int i) = some v ∧ ∀ z, (∀ (K : PySem.W.Frag) φ H, Rp K φ H v z) → Q z H1
section
variable {X : Cx} {b : Expr} {p pos : Pos} {ty : TE} {x : Str} {kvs : List (Int × PV)}
theorem i_tab {call : Cl} {mb : E} (hg : Gl X x) (hT : TabAt X.K X.mg x kvs) (hb : PE X b (tI X.K call mb)) (hs : NoSl b := by intro _ _; rfl) (hd : (x == ("__debug__" : Str)) = false := by decide) :
    PE X (.Subscript (.Name x p) b pos) (tI X.K call (.tab kvs mb)) := by
  obtain ⟨a, es, ep, hm, hk, he, hn⟩ := hT
  have main : PE X (.Subscript (.Name x p) b pos) (tTab a kvs (tI X.K call mb)) := by
    refine ⟨fun pins s σ H Q I h => ?_⟩
    refine subD_of PySem.F.slot_dict_getitem.lookup hs (ld_glob I hg hm (thn (hb.run pins s σ H _ I h) fun iv s2 ⟨y, H2, I2, ry, i, v, ey, hv, q2⟩ => ?_) hd)
    subst ey
    have ho := I2.kIn a _ hk
    obtain ⟨vs, a1, a2, a3, a4⟩ := tab_vs (P := X.prog) (w := X.w) he
    obtain ⟨u, hu, hau⟩ := a4 i v hv
    obtain ⟨z, rz, rp⟩ := absT_rel hau
    have dd : s2.heap.DictOf (mixKind X.prog X.w) a vs := ⟨_, es, ep, ho, ⟨rfl, rfl, rfl⟩, rfl, fun e he' => a3 e (by simpa using he'), a1, by
      rw [a2]
      have : (kvs.map fun kv => (Sum.inl kv.1 : Key)) = (kvs.map (·.1)).map Sum.inl := by rw [List.map_map]; rfl
      rw [this]
      exact List.Pairwise.map _ (fun a b h z => h (Sum.inl.inj z)) hn⟩
    exact ⟨⟨_, ho, rfl⟩, wpAny_getItem_of (kV_is (k := Sum.inl i) ry) dd.mapOf hu ⟨z, H2, I2.tok _, rz, q2 z rp⟩⟩
  exact main.imp fun σ H Q ⟨φ, M, env, v, M', m, r, e, k⟩ => by
    unfold Ev.eval at e
    obtain ⟨⟨y, M1⟩, e1, e⟩ := bindE e
    obtain ⟨z, e2, e⟩ := mapE e
    cases e
    refine tI.then_ m r e1 fun φ1 H1 u x1 m1 r1 q1 => ?_
    have hi : ∃ i, y = .int i := by
      change tabV kvs y = some v at e2
      unfold tabV at e2
      split at e2
      · exact ⟨_, rfl⟩
      · cases e2
    obtain ⟨i, rfl⟩ := hi
    cases q1
    exact ⟨i, v, rfl, e2, fun w hw => k _ _ _ x1 m1 (hw _ _ _)⟩
end
end Ev
namespace Ev
open PySem PySem.Spec PyProof.Rows L2
theorem tab_of {K : PySem.W.Frag} {h : Heap} {mg : Str → Option Value} {x : Str} {kvs : List (Int × PV)} {a : Addr} {es : Array DictEntry} {ep : Nat} (X : K.In h) (G : h.Ns mainGlobals mg) (hn : PySem.W.nsIn K mainGlobals x = some (some (.ref a)))
    (hk : K.lookup a = some { cls := .type "dict", dict := none, data := .dict es ep, slots := #[] }) (e : es.toList.map entI = kvs.map some) (nd : (kvs.map (·.1)).Nodup) : TabAt K mg x kvs :=
  ⟨a, es, ep, PySem.W.mg_of X G hn, hk, e, nd⟩
end Ev

/-! Statements, defs. -/
namespace Ev
open PySem PySem.Spec PyProof.Rows L2
/-- what is wanted behind a statement, by the interpreter's result -/
def RK (K : PySem.W.Frag) (φ : Ph) (H : Hp) (D : Ends) : R → Prop
  | .nx env' M' => ∀ φ' H' σ', Xt φ H φ' H' → RM K φ' H' M' → RE K φ' H' env' σ' → D.nx σ' H'
  | .rt v M' => ∀ φ' H' u, Xt φ H φ' H' → RM K φ' H' M' → Rp K φ' H' v u → D.rt u H'
def tS (K : PySem.W.Frag) (call : Cl) (W : Nat) (s : S) : TS := fun D σ H => ∃ φ M env r, RM K φ H M ∧ RE K φ H env σ ∧ Ev.exec call W s env M = some r ∧ RK K φ H D r
def tSs (K : PySem.W.Frag) (call : Cl) (W : Nat) (s : Ss) : TS := fun D σ H => ∃ φ M env r, RM K φ H M ∧ RE K φ H env σ ∧ Ev.execs call W s env M = some r ∧ RK K φ H D r
theorem _root_.L2.PS.imp {X : Cx} {e : Stmt} {t t' : TS} (h : PS X e t) (k : ∀ D σ H, t' D σ H → t D σ H) : PS X e t' := ⟨fun pins s σ H D I q => h.run pins s σ H D I (k _ _ _ q)⟩
theorem _root_.L2.PSs.imp {X : Cx} {e : List Stmt} {t t' : TS} (h : PSs X e t) (k : ∀ D σ H, t' D σ H → t D σ H) : PSs X e t' := ⟨fun pins s σ H D I q => h.run pins s σ H D I (k _ _ _ q)⟩
theorem RK.mono {K : PySem.W.Frag} {φ φ1 : Ph} {H H1 : Hp} {D : Ends} {r : R} (x : Xt φ H φ1 H1) (k : RK K φ H D r) : RK K φ1 H1 D r := by
  cases r with
  | nx env M => exact fun φ' H' σ' y => k φ' H' σ' (x.trans y)
  | rt v M => exact fun φ' H' u y => k φ' H' u (x.trans y)
section
variable {X : Cx} {call : Cl} {W : Nat} {a b c : Expr} {ma mb mc : E} {pos : Pos}
theorem s_set {x : Str} {pos' : Pos} (i : Nat) (hN : X.N.Nodup) (ha : PE X a (tI X.K call ma)) (hi : X.N[i]? = some x := by rfl) (hx : Loc X.env.scope x := by first | exact .inl rfl | exact .inr rfl) (hs : swapsWith a (some (.Name x pos')) pos.line X.env = pure false := by rfl)
    (hf : X.fn x = true ∨ X.env.scope.names.lookup x = some .local := by first | exact .inl rfl | exact .inr rfl | assumption) : PS X (.Assign [.Name x pos'] a pos) (tS X.K call W (.set i ma)) :=
  (ps_set hN hi hx ha hs hf).imp fun D σ H ⟨φ, M, env, r, m, re, e, k⟩ => by
    unfold Ev.exec at e
    obtain ⟨⟨v, M1⟩, e1, e⟩ := bindE e
    cases e
    exact tI.then_ m re e1 fun φ1 H1 u x1 m1 r1 q1 => k _ _ _ x1 m1 (r1.set q1 i)
theorem s_setLc {y : Str} {py : Pos} {elt tg iter : Expr} {ifs : List Expr} {scope : Scope} {own : List (Str × Nat)} {pos spos : Pos} {it : I} {t : T} {cs : Es} (i : Nat) (f : Bool) (hc : X.calm = true) (hN : X.N.Nodup) (hI : PI X tg iter (tIt X.K call it)) (ok : blkC X.N X.env.scope scope own = true) (hw : (t.ids.all fun i => (own.map (·.2)).contains i) = true)
    (hg : ∀ (s : Shared) (H : Hp) (C : Addr) (cl : List (Str × Addr)) (fp : List Addr), PG (X.blk s H scope (compEnvC scope cl C X.env) fp) tg (gT X.K t)) (ht : ∀ (s : Shared) (H : Hp) (C : Addr) (cl : List (Str × Addr)) (fp : List Addr), PTs (X.blk s H scope (compEnvC scope cl C X.env) fp) ifs (tCs X.K call cs))
    (he : ∀ (s : Shared) (H : Hp) (C : Addr) (cl : List (Str × Addr)) (fp : List Addr), PE (X.blk s H scope (compEnvC scope cl C X.env) fp) elt (tI X.K call ma))
    (hy : X.N[i]? = some y := by rfl) (hyl : X.env.scope.names.lookup y = some .local := by rfl)
    (hsw : swapsWith (.ListComp elt [⟨tg, iter, ifs, 0⟩] scope pos) (some (.Name y py)) spos.line X.env = pure true := by exact sw_true rfl rfl rfl (by decide +kernel)) (hs : ∀ x, foldedSetIterable iter X.env x = pure x := by intro _; rfl) :
    PS X (.Assign [.Name y py] (.ListComp elt [⟨tg, iter, ifs, 0⟩] scope pos) spos) (tS X.K call W (.set i (.lc f (own.map (·.2)) t it cs ma))) :=
  (ps_setLc hc hN hy hyl hsw hI (blkOk_by ok) hg ht he hs).imp fun D σ H ⟨φ, M, env, r, m, re, e, k⟩ => by
    unfold Ev.exec at e
    obtain ⟨⟨v, M1⟩, e1, e⟩ := bindE e
    cases e
    refine lc_rd (fun i hi => by
      have := List.all_eq_true.mp hw i hi
      simpa using this) (Q := fun x H1 => gName i x σ H1 D.nx) (tI.then_ m re e1 fun φ1 H1 u x1 m1 r1 q1 => ?_)
    exact k _ _ _ x1 m1 (r1.set q1 i)
theorem s_asg {tg : Expr} {t : T} (ha : PE X a (tI X.K call ma)) (hg : PG X tg (gT X.K t)) (hs : swapsWithSole [tg] a pos.line X.env = pure false := by rfl) (hw : swappedStores [tg] a X.env = pure none := by rfl)
    (h1 : (assignEach [tg] X.env).map (·.2) = [assign tg X.env] := by rfl) : PS X (.Assign [tg] a pos) (tS X.K call W (.asg t ma)) :=
  (ps_asg ha hg hs hw h1).imp fun D σ H ⟨φ, M, env, r, m, re, e, k⟩ => by
    unfold Ev.exec at e
    obtain ⟨⟨v, M1⟩, e1, e⟩ := bindE e
    obtain ⟨env1, e2, e⟩ := mapE e
    subst e
    exact tI.then_ m re e1 fun φ1 H1 u x1 m1 r1 q1 => gT_rd q1 r1 e2 fun σ' r' _ => k _ _ _ x1 m1 r'
theorem s_par {x y : Str} {px py pt : Pos} {kt k2 pt2} (i j : Nat) (hc : X.calm = true) (hN : X.N.Nodup) (ha : PA X [a, b] (tIs X.K call (.cons ma (.cons mb .nil)))) (hi : X.N[i]? = some x := by rfl) (hj : X.N[j]? = some y := by rfl) (hij : i ≠ j := by decide)
    (hx : X.env.scope.names.lookup x = some .local := by rfl) (hy : X.env.scope.names.lookup y = some .local := by rfl)
    (hw : swappedStores [.Tuple [.Name x px, .Name y py] kt pt] (.Tuple [a, b] k2 pt2) X.env = pure (some [x, y]) := by rfl)
    (hs : swapsWithSole [.Tuple [.Name x px, .Name y py] kt pt] (.Tuple [a, b] k2 pt2) pos.line X.env = pure false := by rfl) :
    PS X (.Assign [.Tuple [.Name x px, .Name y py] kt pt] (.Tuple [a, b] k2 pt2) pos) (tS X.K call W (.par i j ma mb)) :=
  (ps_par hc hN hi hj hij hx hy ha hw hs).imp fun D σ H ⟨φ, M, env, r, m, re, e, k⟩ => by
    unfold Ev.exec at e
    obtain ⟨⟨v, M1⟩, e1, e⟩ := bindE e
    obtain ⟨⟨w, M2⟩, e2, e⟩ := bindE e
    cases e
    have ev : Ev.evals call (.cons ma (.cons mb .nil)) env M = some ([v, w], M2) := by
      unfold Ev.evals
      rw [e1]
      show bnd (Ev.evals call (.cons mb .nil) env M1) _ = _
      unfold Ev.evals
      rw [e2]
      unfold Ev.evals
      rfl
    refine tIs.then_ m re ev fun φ1 H1 u x1 m1 r1 q1 => ?_
    obtain ⟨z, t, rfl, q, q'⟩ := two_of q1
    exact ⟨z, t, rfl, k _ _ _ x1 m1 ((r1.set q i).set q' j)⟩
theorem three_of {xs : List PV} {a b c : PV} {vs : List V} {K : PySem.W.Frag} {φ : Ph} {H : Hp} (e : xs = [a, b, c]) (q : Rps K φ H xs vs) : ∃ z t s, vs = [z, t, s] ∧ Rp K φ H a z ∧ Rp K φ H b t ∧ Rp K φ H c s := by
  subst e
  cases q with
  | cons p q =>
    cases q with
    | cons p' q =>
      cases q with
      | cons p'' q =>
        cases q
        exact ⟨_, _, _, rfl, p, p', p''⟩
theorem s_par3 {x y z : Str} {c : Expr} {mc : E} {px py pz pt : Pos} {kt k2 pt2} (i j l : Nat) (hc : X.calm = true) (hN : X.N.Nodup) (ha : PA X [a, b, c] (tIs X.K call (.cons ma (.cons mb (.cons mc .nil))))) (hi : X.N[i]? = some x := by rfl) (hj : X.N[j]? = some y := by rfl) (hl : X.N[l]? = some z := by rfl)
    (hij : i ≠ j := by decide) (hil : i ≠ l := by decide) (hjl : j ≠ l := by decide)
    (hx : X.env.scope.names.lookup x = some .local := by rfl) (hy : X.env.scope.names.lookup y = some .local := by rfl) (hz : X.env.scope.names.lookup z = some .local := by rfl)
    (hw : swappedStores [.Tuple [.Name x px, .Name y py, .Name z pz] kt pt] (.Tuple [a, b, c] k2 pt2) X.env = pure (some [x, y, z]) := by rfl)
    (hs : swapsWithSole [.Tuple [.Name x px, .Name y py, .Name z pz] kt pt] (.Tuple [a, b, c] k2 pt2) pos.line X.env = pure false := by rfl) :
    PS X (.Assign [.Tuple [.Name x px, .Name y py, .Name z pz] kt pt] (.Tuple [a, b, c] k2 pt2) pos) (tS X.K call W (.par3 i j l ma mb mc)) :=
  (ps_par3 hc hN hi hj hl hij hil hjl hx hy hz ha hw hs).imp fun D σ H ⟨φ, M, env, r, m, re, e, k⟩ => by
    unfold Ev.exec at e
    obtain ⟨⟨v, M1⟩, e1, e⟩ := bindE e
    obtain ⟨⟨w, M2⟩, e2, e⟩ := bindE e
    obtain ⟨⟨u, M3⟩, e3, e⟩ := bindE e
    cases e
    have ev : Ev.evals call (.cons ma (.cons mb (.cons mc .nil))) env M = some ([v, w, u], M3) := by
      unfold Ev.evals
      rw [e1]
      show bnd (Ev.evals call (.cons mb (.cons mc .nil)) env M1) _ = _
      unfold Ev.evals
      rw [e2]
      show bnd (bnd (Ev.evals call (.cons mc .nil) env M2) _) _ = _
      unfold Ev.evals
      rw [e3]
      unfold Ev.evals
      rfl
    refine tIs.then_ m re ev fun φ1 H1 us x1 m1 r1 q1 => ?_
    obtain ⟨z, t, s, rfl, q, q', q''⟩ := three_of rfl q1
    exact ⟨z, t, s, rfl, k _ _ _ x1 m1 (((r1.set q i).set q' j).set q'' l)⟩
theorem s_seti {i : Expr} {mi : E} {spos : Pos} (ha : PE X a (tI X.K call ma)) (hb : PE X b (tI X.K call mb)) (hi : PE X i (tI X.K call mi)) (hp : ∀ v, assign (.Subscript b i spos) X.env v = (do
      let ov ← holding [v] (PySem.eval b X.env)
      let iv ← holding [v, ov] (PySem.eval i X.env)
      standAt spos
      holding [v, ov, iv] (setItem ov iv v)
      release [v, ov, iv] []) := by intro _; rfl) (hs : swapsWithSole [.Subscript b i spos] a pos.line X.env = pure false := by rfl) (hw : swappedStores [.Subscript b i spos] a X.env = pure none := by rfl)
    (h1 : (assignEach [.Subscript b i spos] X.env).map (·.2) = [assign (.Subscript b i spos) X.env] := by rfl) : PS X (.Assign [.Subscript b i spos] a pos) (tS X.K call W (.seti mb mi ma)) :=
  (ps_asg ha (pg_sub hb hi set_list hp) hs hw h1).imp fun D σ H ⟨φ, M, env, r, m, re, e, k⟩ => by
    unfold Ev.exec at e
    obtain ⟨⟨v, M1⟩, e1, e⟩ := bindE e
    obtain ⟨⟨o, M2⟩, e2, e⟩ := bindE e
    cases o with
    | ref n =>
      obtain ⟨⟨y, M3⟩, e3, e⟩ := bindE e
      cases y with
      | int z =>
        simp only at e
        split at e
        · rename_i xs e4
          obtain ⟨ys, e5, e⟩ := mapE e
          subst e
          refine tI.then_ m re e1 fun φ1 H1 u x1 m1 r1 q1 => tI.then_ m1 r1 e2 fun φ2 H2 u2 x2 m2 r2 q2 => tI.then_ m2 r2 e3 fun φ3 H3 u3 x3 m3 r3 q3 => ?_
          cases q3
          cases q2 with
          | ref h2 =>
          have h3 := x3.get h2
          obtain ⟨ad, h6, vs, h7, h8⟩ := m3.at_ e4
          rw [h3] at h6
          cases h6
          obtain ⟨j, e6, e7⟩ := mapE e5
          subst e7
          refine ⟨_, vs, z, j, rfl, rfl, h7, by rw [← h8.length]; exact e6, ?_⟩
          have xs3 := xt_set (o := .lst (vs.set j u)) m3 h3
          exact k _ _ _ (x1.trans (x2.trans (x3.trans xs3))) (m3.set h3 (h8.set j (q1.mono (x2.trans x3)))) (r3.mono xs3)
        · cases e
      | non | bl | str | tup | lst | rol | ref | dct => cases e
    | non | bl | int | str | tup | lst | rol | dct => cases e
theorem s_exp (h : PS X (.Expr a pos) (tDrop (tI X.K call ma))) : PS X (.Expr a pos) (tS X.K call W (.exp ma)) :=
  h.imp fun D σ H ⟨φ, M, env, r, m, re, e, k⟩ => by
    unfold Ev.exec at e
    obtain ⟨⟨v, M1⟩, e1, e⟩ := bindE e
    cases e
    exact tI.then_ m re e1 fun φ1 H1 u x1 m1 r1 q1 => k _ _ _ x1 m1 r1
theorem s_ite {p q : List Stmt} {sp sq : Ss} (hc : PT X c (tT X.K call mc)) (hp : PSs X p (tSs X.K call W sp)) (hq : PSs X q (tSs X.K call W sq)) : PS X (.If c p q pos) (tS X.K call W (.ite mc sp sq)) :=
  (ps_if hc hp hq).imp fun D σ H ⟨φ, M, env, r, m, re, e, k⟩ => by
    unfold Ev.exec at e
    obtain ⟨⟨v, M1⟩, e1, e⟩ := bindE e
    rcases bifE e with ⟨t, e⟩ | ⟨t, e⟩
    · exact tT.then_ m re e1 t fun φ1 H1 x1 m1 r1 => by rw [if_pos rfl]; exact ⟨φ1, M1, env, r, m1, r1, e, k.mono x1⟩
    · exact tT.then_ m re e1 t fun φ1 H1 x1 m1 r1 => by rw [if_neg Bool.false_ne_true]; exact ⟨φ1, M1, env, r, m1, r1, e, k.mono x1⟩
theorem s_ret (ha : PE X a (tI X.K call ma)) : PS X (.Return (some a) pos) (tS X.K call W (.ret ma)) :=
  (ps_ret ha).imp fun D σ H ⟨φ, M, env, r, m, re, e, k⟩ => by
    unfold Ev.exec at e
    obtain ⟨⟨v, M1⟩, e1, e⟩ := bindE e
    cases e
    exact tI.then_ m re e1 fun φ1 H1 u x1 m1 r1 q1 => k _ _ _ x1 m1 q1
theorem s_rais {st : Stmt} : PS X st (tS X.K call W .rais) := ps_never.imp fun D σ H ⟨φ, M, env, r, m, re, e, k⟩ => by
  unfold Ev.exec at e
  cases e
theorem ss_nil : PSs X [] (tSs X.K call W .nil) := pss_nil.imp fun D σ H ⟨φ, M, env, r, m, re, e, k⟩ => by
  unfold Ev.execs at e
  cases e
  exact k _ _ _ .refl m re
theorem ss_cons {st : Stmt} {rest : List Stmt} {s : S} {ss : Ss} (h : PS X st (tS X.K call W s)) (hr : PSs X rest (tSs X.K call W ss)) : PSs X (st :: rest) (tSs X.K call W (.cons s ss)) :=
  (pss_cons h hr).imp fun D σ H ⟨φ, M, env, r, m, re, e, k⟩ => by
    unfold Ev.execs at e
    cases e1 : Ev.exec call W s env M with
    | none => rw [e1] at e; cases e
    | some r1 =>
      rw [e1] at e
      refine ⟨φ, M, env, r1, m, re, e1, ?_⟩
      cases r1 with
      | nx env1 M1 => exact fun φ' H' σ' x m' re' => ⟨φ', M1, env1, r, m', re', e, k.mono x⟩
      | rt v M1 =>
        cases e
        exact k
theorem s_for {tg iter : Expr} {body : List Stmt} {it : I} {t : T} {sb : Ss} (hp : PassesOwn (model X.prog X.w) X.A X.env X.xe) (hc : X.calm = true) (hi : PI X tg iter (tIt X.K call it)) (hg : PG X tg (gT X.K t)) (hb : PSs X body (tSs X.K call W sb))
    (hs : ∀ x, foldedSetIterable iter X.env x = pure x := by intro _; rfl) : PS X (.For tg iter body [] pos) (tS X.K call W (.for_ t it sb)) :=
  (ps_for hp hc hi hg hb hs).imp fun D σ H ⟨φ, M, env, r, m, re, e, k⟩ => by
    unfold Ev.exec at e
    obtain ⟨⟨⟨xs, g⟩, M1⟩, e1, e⟩ := bindE e
    refine ⟨φ, M, env, (xs, g), M1, m, re, e1, fun φ1 H1 J x1 m1 ok => ?_⟩
    simp only at ok e
    refine ⟨fun i n σ2 H2 => ∃ (φ2 : Ph) (M2 : Mem) (env2 : Env), i + n = xs.length ∧ Xt φ1 H1 φ2 H2 ∧ RM X.K φ2 H2 M2 ∧ RE X.K φ2 H2 env2 σ2 ∧ forL t g (Ev.execs call W sb) (xs.drop i) env2 M2 = some r,
      ⟨xs.length, φ1, M1, env, by omega, .refl, m1, re.mono x1, e⟩, ?_⟩
    rintro i n σ2 H2 ⟨φ2, M2, env2, hn, x2, m2, re2, e2⟩
    have hgd : gOk g M2 = true := by
      cases hg : gOk g M2 with
      | true => rfl
      | false =>
        cases hd : xs.drop i with
        | nil => rw [hd] at e2; unfold forL at e2; rw [hg] at e2; cases e2
        | cons a l => rw [hd] at e2; unfold forL at e2; rw [hg] at e2; cases e2
    obtain ⟨go, stop, yld⟩ := ok φ2 H2 M2 x2 m2 hgd
    by_cases hi : i < xs.length
    · refine .inr ⟨go i hi, ?_⟩
      rw [List.drop_eq_getElem_cons hi] at e2
      unfold forL at e2
      rw [hgd] at e2
      simp only at e2
      split at e2
      · rename_i env3 eb
        refine ⟨fun σ' H' => ∃ n', n' < n ∧ ∃ (φ4 : Ph) (M4 : Mem) (env4 : Env), i + 1 + n' = xs.length ∧ Xt φ1 H1 φ4 H' ∧ RM X.K φ4 H' M4 ∧ RE X.K φ4 H' env4 σ' ∧ forL t g (Ev.execs call W sb) (xs.drop (i + 1)) env4 M4 = some r, fun σ' H' h => h, fun x H3 hy => ?_⟩
        obtain ⟨v0, ev0, rv0, x3, mm⟩ := yld i x H3 hi hy
        rw [List.getElem?_eq_getElem hi] at ev0
        cases ev0
        have m3 := mm M2 m2
        refine gT_rd rv0 (re2.mono x3) eb fun σ' re' _ => ?_
        cases er : Ev.execs call W sb env3 M2 with
        | none => rw [er] at e2; cases e2
        | some r3 =>
          rw [er] at e2
          refine ⟨φ2, M2, env3, r3, m3, re', er, ?_⟩
          cases r3 with
          | nx env5 M5 => exact fun φ5 H5 σ5 x5 m5 re5 => ⟨n - 1, by omega, φ5, M5, env5, by omega, x2.trans (x3.trans x5), m5, re5, e2⟩
          | rt v M5 =>
            cases e2
            exact fun φ5 H5 u x5 m5 q5 => k _ _ _ (x1.trans (x2.trans (x3.trans x5))) m5 q5
      · cases e2
    · refine .inl ⟨stop i (by omega), ?_⟩
      rw [List.drop_eq_nil_of_le (by omega)] at e2
      unfold forL at e2
      rw [hgd] at e2
      cases e2
      exact k _ _ _ (x1.trans x2) m2 re2
theorem s_whl {body : List Stmt} {sb : Ss} (hp : PassesOwn (model X.prog X.w) X.A X.env X.xe) (hc : PT X c (tT X.K call mc)) (hb : PSs X body (tSs X.K call W sb)) : PS X (.While c body [] pos) (tS X.K call W (.whl mc sb)) :=
  (ps_while hp hc hb).imp fun D σ H ⟨φ, M, env, r, m, re, e, k⟩ => by
    unfold Ev.exec at e
    refine ⟨fun n σ2 H2 => ∃ (φ2 : Ph) (M2 : Mem) (env2 : Env), Xt φ H φ2 H2 ∧ RM X.K φ2 H2 M2 ∧ RE X.K φ2 H2 env2 σ2 ∧ whlL (fun env M => bnd (Ev.eval call mc env M) fun x M1 => (truthy M1 x).map fun k => (k, M1)) (Ev.execs call W sb) n env2 M2 = some r,
      ⟨W, φ, M, env, .refl, m, re, e⟩, ?_⟩
    rintro n σ2 H2 ⟨φ2, M2, env2, x2, m2, re2, e2⟩
    cases n with
    | zero => unfold whlL at e2; cases e2
    | succ n =>
      unfold whlL at e2
      cases ec : Ev.eval call mc env2 M2 with
      | none => rw [ec] at e2; cases e2
      | some vc =>
        obtain ⟨v, M3⟩ := vc
        rw [ec] at e2
        simp only [bnd] at e2
        cases tc : truthy M3 v with
        | none => rw [tc] at e2; cases e2
        | some b =>
          rw [tc] at e2
          refine tT.then_ m2 re2 ec tc fun φ3 H3 x3 m3 re3 => ?_
          cases b with
          | true =>
            rw [if_pos rfl]
            refine ⟨fun σ' H' => ∃ n', n' < n + 1 ∧ ∃ (φ4 : Ph) (M4 : Mem) (env4 : Env), Xt φ H φ4 H' ∧ RM X.K φ4 H' M4 ∧ RE X.K φ4 H' env4 σ' ∧ whlL (fun env M => bnd (Ev.eval call mc env M) fun x M1 => (truthy M1 x).map fun k => (k, M1)) (Ev.execs call W sb) n' env4 M4 = some r, fun σ' H' h => h, ?_⟩
            simp only [Option.map] at e2
            cases er : Ev.execs call W sb env2 M3 with
            | none => rw [er] at e2; cases e2
            | some r3 =>
              rw [er] at e2
              refine ⟨φ3, M3, env2, r3, m3, re3, er, ?_⟩
              cases r3 with
              | nx env5 M5 => exact fun φ5 H5 σ5 x5 m5 re5 => ⟨n, by omega, φ5, M5, env5, x2.trans (x3.trans x5), m5, re5, e2⟩
              | rt v M5 =>
                cases e2
                exact fun φ5 H5 u x5 m5 q5 => k _ _ _ (x2.trans (x3.trans x5)) m5 q5
          | false =>
            rw [if_neg Bool.false_ne_true]
            simp only [Option.map] at e2
            cases e2
            exact k _ _ _ (x2.trans x3) m3 re3
end
/-! ### leaving a def -/
section
variable {K : PySem.W.Frag} {φ φ' : Ph} {H H' : Hp} {M M' : Mem}
mutual
theorem under_rp {e : List Addr} {l : List Addr} (hl : ∀ a, a ∈ l → a ∈ φ.r) : ∀ {v : PV} {u : V} {c : List Addr}, φ.c = c ++ e → Rp K φ H v u → under c.length v = true → Rp K ⟨c, l⟩ H v u
  | _, _, _, _, .non, _ => .non
  | _, _, _, _, .bl b, _ => .bl b
  | _, _, _, _, .int i, _ => .int i
  | _, _, _, _, .str s, _ => .str s
  | .tup xs, _, c, hc, .tup k r, h => .tup k (unders_rp hl hc r h)
  | .lst xs, _, c, hc, .lst k n r, h => .lst k ⟨fun z => n.1 (by rw [hc]; exact List.mem_append_left _ z), fun z => n.2 (hl _ z)⟩ (unders_rp hl hc r h)
  | .rol xs, _, c, hc, .rol k r, h => .rol (by
      rcases k with ⟨o, k⟩ | ⟨k, n⟩ | k
      · exact .inl ⟨o, k⟩
      · exact .inr (.inl ⟨k, fun z => n.1 (by rw [hc]; exact List.mem_append_left _ z), fun z => n.2 (hl _ z)⟩)
      · exact .inr (.inr k)) (unders_rp hl hc r h)
  | .ref n, _, c, hc, .ref k, h => .ref (by
      have h1 : n < c.length := of_decide_eq_true h
      show c[n]? = _
      rw [hc, List.getElem?_append_left h1] at k
      exact k)
  | .dct kvs, _, c, hc, .dct k n, h => .dct k ⟨fun z => n.1 (by rw [hc]; exact List.mem_append_left _ z), fun z => n.2 (hl _ z)⟩
theorem unders_rp {e : List Addr} {l : List Addr} (hl : ∀ a, a ∈ l → a ∈ φ.r) : ∀ {v : List PV} {u : List V} {c : List Addr}, φ.c = c ++ e → Rps K φ H v u → unders c.length v = true → Rps K ⟨c, l⟩ H v u
  | _, _, _, _, .nil, _ => .nil
  | x :: xs, _, c, hc, .cons k r, h => by
    unfold unders at h
    rw [Bool.and_eq_true] at h
    exact .cons (under_rp hl hc k h.1) (unders_rp hl hc r h.2)
end
theorem leave_ok {v w : PV} {u : V} (m00 : RM K φ H M) (x : Xt φ H φ' H') (m : RM K φ' H' M') (r : Rp K φ' H' v u) {M2 : Mem} (h : leave M.length v M' = some (w, M2)) : ∃ φ2, Xt φ H φ2 H' ∧ RM K φ2 H' M2 ∧ Rp K φ2 H' w u := by
  unfold leave at h
  split at h
  · cases h
    exact ⟨φ', x, m, r⟩
  · split at h
    · rename_i hall
      obtain ⟨e, he⟩ := x.pre
      have hlen : φ.c.length = M.length := m00.len
      have hx : Xt φ H φ H' := ⟨⟨[], by simp⟩, fun _ h => h, x.keep, fun _ h n => absurd h n, fun _ h n => absurd h n, x.there⟩
      have hm : RM K φ H' (M'.take M.length) := by
        refine ⟨?_, ?_, fun a ha => m.res a (x.res a ha), fun n a c h1 h2 => ?_⟩
        · have := m.len
          rw [he, List.length_append] at this
          rw [List.length_take]
          omega
        · have := m.nd
          rw [he] at this
          exact (List.nodup_append.mp this).1
        · have hn : n < φ.c.length := (List.getElem?_eq_some_iff.mp h1).1
          rw [List.getElem?_take_of_lt (by omega)] at h2
          have h1' : φ'.c[n]? = some a := x.get h1
          have h3 := m.cells n a c h1' h2
          have hmem : c ∈ M'.take M.length := by
            apply List.mem_of_getElem? (i := n)
            rw [List.getElem?_take_of_lt (by omega)]
            exact h2
          have hu := List.all_eq_true.mp hall c hmem
          cases c with
          | lst xs =>
            obtain ⟨vs, h4, h5⟩ := h3
            refine ⟨vs, h4, ?_⟩
            have hu' : unders φ.c.length xs = true := by rw [hlen]; exact hu
            exact unders_rp (l := φ.r) x.res he h5 hu'
          | dic _ => exact h3
      split at h
      · rename_i hu
        cases h
        exact ⟨φ, hx, hm, under_rp (l := φ.r) x.res he r (by rw [hlen]; exact hu)⟩
      · split at h
        · rename_i k hu
          split at h
          · rename_i xs hk
            split at h
            · rename_i hxs
              cases h
              cases r with
              | @ref _ a h1 =>
              obtain ⟨a', h2, vs, h3, h4⟩ := m.at_ hk
              rw [h1] at h2
              cases h2
              have hk2 : ¬ k < M.length := fun z => hu (decide_eq_true z)
              have hnc : a ∉ φ.c := fun z => by
                obtain ⟨j, hj, ej⟩ := List.getElem_of_mem z
                have h5 : φ'.c[j]? = some a := x.get (by rw [List.getElem?_eq_getElem hj, ej])
                have := m.eq_of h1 h5
                omega
              refine ⟨φ, hx, hm, .lst h3 ⟨hnc, fun z => ?_⟩ (unders_rp (l := φ.r) x.res he h4 (by rw [hlen]; exact hxs))⟩
              obtain ⟨o, eo⟩ := m00.res a z
              have := x.fresh a (List.mem_of_getElem? h1) hnc
              rw [eo] at this
              cases this
            · cases h
          · cases h
        · cases h
    · cases h
end
end Ev

/-! Defs, the whole program. -/
namespace Ev
open PySem PySem.Spec PyProof.Rows L2
section
variable {P : Program} {w : World} {K : PySem.W.Frag} {mg : Str → Option Value} {base : Heap} {prog : List Fn} {W k : Nat}
theorem callN_get {i : Nat} {fn : Fn} {args : List PV} {M M' : Mem} {v : PV} (hp : prog[i]? = some fn) (h : callN prog W (k + 1) i args M = some (v, M')) :
    args.length = fn.params ∧ ∃ r, execs (callN prog W k) W fn.body (args.map some ++ List.replicate (fn.slots - fn.params) none) M = some r ∧
      ∃ v1 M1, (r = .rt v1 M1 ∨ ∃ env, r = .nx env M1 ∧ v1 = .non) ∧ (if fn.keep then some (v1, M1) else leave M.length v1 M1) = some (v, M') := by
  unfold callN at h
  rw [hp] at h
  simp only at h
  unfold runFn at h
  split at h
  · rename_i hl
    refine ⟨hl, ?_⟩
    cases e : execs (callN prog W k) W fn.body (args.map some ++ List.replicate (fn.slots - fn.params) none) M with
    | none => rw [e] at h; cases h
    | some r =>
      rw [e] at h
      cases r with
      | nx env M1 => exact ⟨_, rfl, .non, M1, .inr ⟨env, rfl, rfl⟩, h⟩
      | rt v1 M1 => exact ⟨_, rfl, v1, M1, .inl rfl, h⟩
  · cases h
theorem start_re {φ : Ph} {H : Hp} {args : List PV} {vs : List V} {N : List Str} {n p : Nat} (r : Rps K φ H args vs) (h1 : n = N.length) (h2 : p = args.length) : RE K φ H (args.map some ++ List.replicate (n - p) none) (L2.start N vs) := by
  unfold L2.start
  have hl := r.length
  refine ⟨by rw [List.length_append, List.length_append, List.length_map, List.length_map, List.length_replicate, List.length_replicate]; omega, fun i v e => ?_⟩
  by_cases hi : i < args.length
  · rw [List.getElem?_append_left (by rw [List.length_map]; exact hi), List.getElem?_map, List.getElem?_eq_getElem hi] at e
    cases e
    obtain ⟨u, h3, h4⟩ := r.get (List.getElem?_eq_getElem hi)
    exact ⟨u, by rw [List.getElem?_append_left (by rw [List.length_map, ← hl]; exact hi), List.getElem?_map, h3]; rfl, h4⟩
  · rw [List.getElem?_append_right (by rw [List.length_map]; omega)] at e
    have := List.mem_of_getElem? e
    have := List.eq_of_mem_replicate this
    cases this
/-- a def keeps the interpreter's promise -/
theorem fn_ok {x : Str} {st : Stmt} {f : Addr} {fd : FuncData} {N ps : List Str} {i : Nat} {fn : Fn} (F : L2.Fun K x x st f fd) (S : FnScope N ps (defScope st)) (hp : prog[i]? = some fn) (h1 : fn.slots = N.length) (h2 : fn.params = ps.length)
    (body : ∀ (cdv : Value) (A : Around) (outer : List PySem.Env) (s : Shared) (H : Hp) (E : XK), Room k (A.deeper (envOfC x (defScope st) s.heap.objs.size f cdv)) → PSs (cxOf CX0 P w K mg base N x (defScope st) f cdv A outer s H E).nox (defBody st) (tSs K (callN prog W k) W fn.body)) :
    FnOk P w K mg base CX0 (k + 1) f fd ps (spC K (callN prog W (k + 1)) i) := by
  refine F.ok S (fun vs H Q E h => ?_) (fun cdv A outer s H vs Q E hr h => ⟨_, body cdv A outer s H E hr, ?_⟩)
  · obtain ⟨φ, M, args, v, M', m, r, e, _⟩ := h
    obtain ⟨hl, _⟩ := callN_get hp e
    rw [← r.length, hl, h2]
  · obtain ⟨φ, M, args, v, M', m, r, e, kk⟩ := h
    obtain ⟨hl, res, e1, v1, M1, hr1, e2⟩ := callN_get hp e
    refine ⟨φ, M, _, res, m, start_re r h1 hl.symm, e1, ?_⟩
    have fin : ∀ φ' H' u, Xt φ H φ' H' → RM K φ' H' M1 → Rp K φ' H' v1 u → Q u H' := fun φ' H' u x' m' q' => by
      cases hk : fn.keep with
      | true =>
        rw [hk, if_pos rfl] at e2
        cases e2
        exact kk φ' H' u x' m' q'
      | false =>
        rw [hk, if_neg Bool.false_ne_true] at e2
        obtain ⟨φ2, x2, m2, q2⟩ := leave_ok m x' m' q' e2
        exact kk φ2 H' u x2 m2 q2
    rcases hr1 with rfl | ⟨env, rfl, rfl⟩
    · exact fin
    · exact fun φ' H' σ' x' m' _ => fin φ' H' .non x' m' .non
end
/-- what the top has left: the defs' names by index, the constants, the built-ins' names -/
structure Top (P : Program) (w : World) (K : PySem.W.Frag) (mg : Str → Option Value) (base : Heap) (prog : List Fn) (W k : Nat) (names : List Str) (consts : List (Str × PV)) (blts : List Str) : Prop where
  cal : ∀ (i : Nat) (x : Str), names[i]? = some x → Cal P w K mg base k x (spC K (callN prog W k) i)
  con : ∀ (i : Nat) (x : Str) (v : PV), consts[i]? = some (x, v) → ∃ z u, mg x = some u ∧ RelV z u ∧ Con K v z
  blt : ∀ (i : Nat) (x : Str), blts[i]? = some x → mg x = none
/-- a def of the text -/
def DefOf (K : PySem.W.Frag) (mg : Str → Option Value) (x : Str) (st : Stmt) : Prop := ∃ (f : Addr) (fd : FuncData), mg x = some (.ref f) ∧ L2.Fun K x x st f fd
theorem def_mk {K : PySem.W.Frag} {h : Heap} {mg : Str → Option Value} {x : Str} {st : Stmt} {f : Addr} {oc : Value} {od an : Option Addr} {osl : Array (Option Value)} {kV doc pm cdv ct : Value} (X : K.In h) (G : h.Ns mainGlobals mg)
    (a : PySem.W.nsIn K mainGlobals x = some (some (.ref f))) (l : K.lookup f = some ⟨oc, od, .func (PySem.W.fnOf x x (defArgs st) (defBody st) (defScope st) .none kV doc pm an cdv ct), osl⟩)
    (c : PySem.W.codeIn K cdv x = true) (k : PySem.W.keepIn K (.ref f) = true) : DefOf K mg x st := ⟨f, _, PySem.W.mg_of X G a, L2.fun_mk l c k⟩
section
variable {P : Program} {w : World} {K : PySem.W.Frag} {mg : Str → Option Value} {base : Heap} {prog : List Fn} {W k : Nat}
/-- how the arguments bind, whatever the def's object -/
abbrev BindsP (st : Stmt) (x : Str) (ps : List Str) : Prop := ∀ (kV doc pm : Value) (an : Option Addr) (cdv ct : Value) (us : List Value), us.length = ps.length → bindArgs (PySem.W.fnOf x x (defArgs st) (defBody st) (defScope st) .none kV doc pm an cdv ct) ⟨us, []⟩ = pure (ps.zip us)
theorem cal_zero {x : Str} {st : Stmt} {ps : List Str} {i : Nat} (d : DefOf K mg x st) (b : BindsP st x ps) : Cal P w K mg base 0 x (spC K (callN prog W 0) i) := by
  obtain ⟨f, fd, h1, F⟩ := d
  refine ⟨f, fd, ps, ⟨fun vs H Q E h => ?_, fun A outer s H args us vs Q E _ _ _ _ h => ?_⟩, h1, F.kp, F.binds b⟩
  · obtain ⟨φ, M, args, v, M', m, r, e, _⟩ := h
    unfold callN at e
    cases e
  · obtain ⟨φ, M, args, v, M', m, r, e, _⟩ := h
    unfold callN at e
    cases e
theorem cal_succ {x : Str} {st : Stmt} {N ps : List Str} {i : Nat} {fn : Fn} (d : DefOf K mg x st) (b : BindsP st x ps) (S : FnScope N ps (defScope st)) (hp : prog[i]? = some fn) (h1 : fn.slots = N.length) (h2 : fn.params = ps.length)
    (body : ∀ (f : Addr) (cdv : Value) (A : Around) (outer : List PySem.Env) (s : Shared) (H : Hp) (E : XK), Room k (A.deeper (envOfC x (defScope st) s.heap.objs.size f cdv)) → PSs (cxOf CX0 P w K mg base N x (defScope st) f cdv A outer s H E).nox (defBody st) (tSs K (callN prog W k) W fn.body)) :
    Cal P w K mg base (k + 1) x (spC K (callN prog W (k + 1)) i) := by
  obtain ⟨f, fd, e1, F⟩ := d
  exact ⟨f, fd, ps, fn_ok F S hp h1 h2 (body f), e1, F.kp, F.binds b⟩
end
section
variable {X : Cx} {call : Cl} {pos : Pos}
theorem i_con {x : Str} {v : PV} (hg : Gl X x) (h : ∃ z u, X.mg x = some u ∧ RelV z u ∧ Con X.K v z) (hd : (x == ("__debug__" : Str)) = false := by decide) : PE X (.Name x pos) (tI X.K call (.cst v)) := by
  obtain ⟨z, u, h1, h2, h3⟩ := h
  exact i_glob hg h1 h2 h3 hd
end
/-- constants -/
theorem con_int {K : PySem.W.Frag} (i : Int) : Con K (.int i) (.int i) := fun _ _ => .int i
theorem con_str {K : PySem.W.Frag} (s : Str) : Con K (.str s) (.str s) := fun _ _ => .str s
inductive Cons (K : PySem.W.Frag) : List PV → List V → Prop
  | nil : Cons K [] []
  | cons {v : PV} {z : V} {vs : List PV} {zs : List V} : Con K v z → Cons K vs zs → Cons K (v :: vs) (z :: zs)
theorem Cons.rps {K : PySem.W.Frag} {vs : List PV} {zs : List V} (h : Cons K vs zs) (φ : Ph) (H : Hp) : Rps K φ H vs zs := by
  induction h with
  | nil => exact .nil
  | cons h _ ih => exact .cons (h φ H) ih
theorem con_tup {K : PySem.W.Frag} {vs : List PV} {zs : List V} {a : Addr} {od : Option Addr} {its : Array Value} {n : Nat} {sl : Array (Option Value)} (hk : K.lookup a = some ⟨.type "tuple", od, .seq its n, sl⟩) (hz : its.size ≤ sizeLine) (hv : Vals zs its.toList) (h : Cons K vs zs) : Con K (.tup vs) (.ref a) :=
  fun φ H => .tup (.inr ⟨_, its, n, hk, rfl, rfl, hz, hv⟩) (h.rps φ H)
inductive ConVals (K : PySem.W.Frag) : List PV → List Value → Prop
  | nil : ConVals K [] []
  | cons {v : PV} {u : Value} {vs : List PV} {us : List Value} : (∃ z, RelV z u ∧ Con K v z) → ConVals K vs us → ConVals K (v :: vs) (u :: us)
theorem ConVals.split {K : PySem.W.Frag} {vs : List PV} {us : List Value} (h : ConVals K vs us) : ∃ zs, Vals zs us ∧ Cons K vs zs := by
  induction h with
  | nil => exact ⟨[], .nil, .nil⟩
  | cons h _ ih =>
    obtain ⟨z, h1, h2⟩ := h
    obtain ⟨zs, h3, h4⟩ := ih
    exact ⟨z :: zs, .cons h1 h3, .cons h2 h4⟩
theorem con_tupR {K : PySem.W.Frag} {vs : List PV} {a : Addr} {od : Option Addr} {its : Array Value} {n : Nat} {sl : Array (Option Value)} (hk : K.lookup a = some ⟨.type "tuple", od, .seq its n, sl⟩) (h : ConVals K vs its.toList) (hz : its.size ≤ sizeLine) : Con K (.tup vs) (.ref a) := by
  obtain ⟨zs, h1, h2⟩ := h.split
  exact con_tup hk hz h1 h2
def absP : Value → Option PV
  | .int i _ => some (.int i)
  | .str s _ => some (.str s)
  | .bool b => some (.bl b)
  | .none => some .non
  | _ => none
theorem absP_con {K : PySem.W.Frag} {u : Value} {v : PV} (h : absP u = some v) : ∃ z, RelV z u ∧ Con K v z := by
  unfold absP at h
  split at h <;> cases h
  · exact ⟨.int _, ⟨_, rfl⟩, fun _ _ => .int _⟩
  · exact ⟨.str _, ⟨_, rfl⟩, fun _ _ => .str _⟩
  · exact ⟨.bl _, rfl, fun _ _ => .bl _⟩
  · exact ⟨.non, rfl, fun _ _ => .non⟩
theorem absPs_con {K : PySem.W.Frag} : ∀ {us : List Value} {vs : List PV}, us.map absP = vs.map some → ConVals K vs us
  | [], [], _ => .nil
  | u :: us, v :: vs, h => by
    rw [List.map_cons, List.map_cons] at h
    injection h with h1 h2
    exact .cons (absP_con h1) (absPs_con h2)
  | [], v :: vs, h => by cases h
  | u :: us, [], h => by cases h
theorem con_tupA {K : PySem.W.Frag} {vs : List PV} {a : Addr} {od : Option Addr} {its : Array Value} {n : Nat} {sl : Array (Option Value)} (hk : K.lookup a = some ⟨.type "tuple", od, .seq its n, sl⟩) (e : its.toList.map absP = vs.map some) (hz : its.size ≤ sizeLine) : Con K (.tup vs) (.ref a) :=
  con_tupR hk (absPs_con e) hz
theorem con_of {K : PySem.W.Frag} {h : Heap} {mg : Str → Option Value} {x : Str} {v : PV} {z : V} {u : Value} (X : K.In h) (G : h.Ns mainGlobals mg) (a : PySem.W.nsIn K mainGlobals x = some (some u)) (r : RelV z u) (c : Con K v z) : ∃ z u, mg x = some u ∧ RelV z u ∧ Con K v z :=
  ⟨z, u, PySem.W.mg_of X G a, r, c⟩
theorem con_ofI {K : PySem.W.Frag} {h : Heap} {mg : Str → Option Value} {x : Str} {i : Int} {t : Tok} (X : K.In h) (G : h.Ns mainGlobals mg) (a : PySem.W.nsIn K mainGlobals x = some (some (.int i t))) : ∃ z u, mg x = some u ∧ RelV z u ∧ Con K (.int i) z := con_of (z := .int i) X G a ⟨t, rfl⟩ (con_int i)
theorem con_ofS {K : PySem.W.Frag} {h : Heap} {mg : Str → Option Value} {x : Str} {i : Str} {t : Tok} (X : K.In h) (G : h.Ns mainGlobals mg) (a : PySem.W.nsIn K mainGlobals x = some (some (.str i t))) : ∃ z u, mg x = some u ∧ RelV z u ∧ Con K (.str i) z := con_of (z := .str i) X G a ⟨t, rfl⟩ (con_str i)
theorem blk_ok {N : List Str} {sc scope : Scope} {own : List (Str × Nat)} (h : blkC N sc scope own = true) : blkC N sc scope own = true := h
/-- the built-ins' names -/
theorem bb_abs : bootBuiltins "abs" = some (.builtin "abs") := by decide +kernel
theorem bb_len : bootBuiltins "len" = some (.builtin "len") := by decide +kernel
theorem bb_sum : bootBuiltins "sum" = some (.builtin "sum") := by decide +kernel
theorem bb_all : bootBuiltins "all" = some (.builtin "all") := by decide +kernel
theorem bb_any : bootBuiltins "any" = some (.builtin "any") := by decide +kernel
theorem bb_max : bootBuiltins "max" = some (.builtin "max") := by decide +kernel
theorem bb_sorted : bootBuiltins "sorted" = some (.builtin "sorted") := by decide +kernel
theorem bb_min : bootBuiltins "min" = some (.builtin "min") := by decide +kernel
theorem bb_int : bootBuiltins "int" = some (.type "int") := by decide +kernel
theorem bb_bool : bootBuiltins "bool" = some (.type "bool") := by decide +kernel
theorem bb_str : bootBuiltins "str" = some (.type "str") := by decide +kernel
theorem bb_tuple : bootBuiltins "tuple" = some (.type "tuple") := by decide +kernel
theorem bb_list : bootBuiltins "list" = some (.type "list") := by decide +kernel
/-- the law's call, from its promise -/
theorem law_sp {K : PySem.W.Frag} {call : Cl} {i : Nat} {H : Hp} {a : Addr} {ns : List Int} {M' : Mem} (hS : SqL K H a (ns.map V.int)) (h : call i [.rol (ns.map PV.int)] [] = some (.bl true, M')) : spC K call i [.ref a] H (fun v _ => v = .bl true) fun _ _ _ => False := by
  have hr : ∀ ms : List Int, Rps K ⟨[], []⟩ H (ms.map PV.int) (ms.map V.int) := fun ms => by
    induction ms with
    | nil => exact .nil
    | cons x xs ih => exact .cons (.int x) ih
  have hR : RolAt K ⟨[], []⟩ H a (ns.map V.int) := by
    rcases hS with (h | ⟨o, h⟩) | h
    · exact .inr (.inl ⟨h, by simp, by simp⟩)
    · exact .inl ⟨o, h⟩
    · exact .inr (.inr h)
  refine ⟨⟨[], []⟩, [], [.rol (ns.map PV.int)], .bl true, M', ⟨rfl, by simp, fun a h => by simp at h, fun n a c h => by simp at h⟩, .cons (.rol hR (hr ns)) .nil, h, fun φ' H' u x m q => ?_⟩
  cases q
  rfl
end Ev

/-! The plain side: how the interpreter's steps reduce; fractions; loops. -/
namespace Ev
section
variable {α β : Type} {M M' : Mem} {env : Env}
theorem bnd_some (a : α) (M : Mem) (f : α → Mem → Option β) : bnd (some (a, M)) f = f a M := rfl
theorem bnd_none (f : α → Mem → Option β) : bnd none f = none := rfl
theorem bifb_t (x y : Option β) : bifb (some true) x y = x := rfl
theorem bifb_f (x y : Option β) : bifb (some false) x y = y := rfl
theorem bifb_d {p : Prop} [Decidable p] (x y : Option β) : bifb (some (decide p)) x y = if p then x else y := by
  by_cases h : p
  · rw [decide_eq_true h, if_pos h]; rfl
  · rw [decide_eq_false h, if_neg h]; rfl
theorem bifb_b (b : Bool) (x y : Option β) : bifb (some b) x y = if b = true then x else y := by cases b <;> rfl
theorem iff_t (x : Option β) : iff_ true x = x := rfl
theorem iff_d {p : Prop} [Decidable p] (x : Option β) : iff_ (decide p) x = if p then x else none := by
  by_cases h : p
  · rw [decide_eq_true h, if_pos h]; rfl
  · rw [decide_eq_false h, if_neg h]; rfl
theorem nxt_nx (env : Env) (M : Mem) (f : Env → Mem → Option R) : nxt (some (.nx env M)) f = f env M := rfl
theorem nxt_rt (v : PV) (M : Mem) (f : Env → Mem → Option R) : nxt (some (.rt v M)) f = some (.rt v M) := rfl
theorem addOp_ii (i j : Int) : addOp M (.int i) (.int j) = some (.int (i + j)) := rfl
theorem addOp_tt (xs ys : List PV) : addOp M (.tup xs) (.tup ys) = if decide (xs.length + ys.length ≤ PySem.sizeLine) then some (.tup (xs ++ ys)) else none := rfl
theorem addOp_ll (xs ys : List PV) : addOp M (.lst xs) (.lst ys) = if decide (xs.length + ys.length ≤ PySem.sizeLine) then some (.lst (xs ++ ys)) else none := rfl
theorem subOp_ii (i j : Int) : subOp (.int i) (.int j) = some (.int (i - j)) := rfl
theorem mulOp_ii (i j : Int) : mulOp M (.int i) (.int j) = if mulOk i j then some (.int (i * j)) else none := rfl
theorem fdivOp_ii (i j : Int) : fdivOp (.int i) (.int j) = if divOk i j then some (.int (i.fdiv j)) else none := rfl
theorem modOp_ii (i j : Int) : modOp (.int i) (.int j) = if decide (j ≠ 0) then some (.int (i.fmod j)) else none := rfl
theorem cmpI_ii (p : Int → Int → Bool) (i j : Int) : cmpI p (.int i) (.int j) = some (p i j) := rfl
theorem tru_bl (b : Bool) : truthy M (.bl b) = some b := rfl
theorem tru_int (i : Int) : truthy M (.int i) = some (i != 0) := rfl
theorem absB_i (i : Int) : absB [.int i] = some (.int (if i < 0 then -i else i)) := rfl
theorem intB_i (i : Int) : intB [.int i] = some (.int i) := rfl
theorem asM_int (f : Bool) (i : Int) : asM f (.int i) M = (.int i, M) := by cases f <;> rfl
theorem asM_bl (f : Bool) (i : Bool) : asM f (.bl i) M = (.bl i, M) := by cases f <;> rfl
theorem asM_tup (f : Bool) (xs : List PV) : asM f (.tup xs) M = (.tup xs, M) := by cases f <;> rfl
theorem asM_false (v : PV) : asM false v M = (v, M) := rfl
theorem asM_lst (xs : List PV) : asM true (.lst xs) M = (.ref M.length, M ++ [.lst xs]) := rfl
theorem isOp_n (a : PV) : isOp a .non = some (isNon a) := by cases a <;> rfl
theorem isOp_bb (a b : Bool) : isOp (.bl a) (.bl b) = some (decide (a = b)) := rfl
theorem setAll_nil (vs : List PV) : setAll env [] vs = env := by unfold setAll; rfl
theorem setAll_cons (i : Nat) (is : List Nat) (v : PV) (vs : List PV) : setAll env (i :: is) (v :: vs) = setAll (env.set i (some v)) is vs := rfl
theorem bindT_nm (i : Nat) (v : PV) : bindT (.nm i) v env = some (env.set i (some v)) := rfl
theorem bindT_tp (is : List Nat) (vs : List PV) : bindT (.tp is) (.tup vs) env = if decide (vs.length = is.length) then some (setAll env is vs) else none := rfl
end
theorem bindT_ls0 (is : List Nat) (vs : List PV) (env : Env) : bindT (.ls is) (.lst vs) env = if decide (vs.length = is.length) then some (setAll env is vs) else none := rfl
/-- the end of a def -/
def fin (keep : Bool) (n : Nat) (r : Option R) : Option (PV × Mem) := match r with
  | some (.rt v M1) => if keep then some (v, M1) else leave n v M1
  | some (.nx _ M1) => if keep then some (.non, M1) else leave n .non M1
  | none => none
theorem fin_rt (n : Nat) (v : PV) (M : Mem) : fin false n (some (.rt v M)) = leave n v M := rfl
theorem fin_nx (n : Nat) (e : Env) (M : Mem) : fin false n (some (.nx e M)) = leave n .non M := rfl
theorem leave_same (v : PV) (M : Mem) : leave M.length v M = some (v, M) := by unfold leave; rw [if_pos rfl]
theorem leave_len {n : Nat} {v : PV} {M : Mem} (h : M.length = n) : leave n v M = some (v, M) := by unfold leave; rw [if_pos h]
/-! ### sizes -/
def lt2 (n : Nat) (x : Int) : Prop := x.natAbs < 2 ^ n
theorem lt2.mono {n m : Nat} {x : Int} (h : lt2 n x) (hm : n ≤ m) : lt2 m x := Nat.lt_of_lt_of_le h (Nat.pow_le_pow_right (by decide) hm)
theorem log2_lt {n : Nat} {x : Nat} (h0 : 0 < n) (h : x < 2 ^ n) : x.log2 < n := PySem.Flt.log2_lt_of h0 h
theorem mulOk_of {a b : Nat} {x y : Int} (hx : lt2 a x) (hy : lt2 b y) (h : a + b ≤ 999990) : mulOk x y = true := by
  unfold mulOk
  rw [Bool.or_eq_true]
  right
  have h1 := log2_lt (Nat.succ_pos a) (hx.mono (Nat.le_succ a))
  have h2 := log2_lt (Nat.succ_pos b) (hy.mono (Nat.le_succ b))
  exact decide_eq_true (by omega)
theorem mulOk_small {x y : Int} (h : (-(2 ^ 64) < y ∧ y < 2 ^ 64)) : mulOk x y = true := by
  unfold mulOk
  rw [Bool.or_eq_true]
  left
  exact decide_eq_true (.inr h)
theorem mulOk_smallL {x y : Int} (h : (-(2 ^ 64) < x ∧ x < 2 ^ 64)) : mulOk x y = true := by
  unfold mulOk
  rw [Bool.or_eq_true]
  left
  exact decide_eq_true (.inl h)
theorem divOk_of {n : Nat} {x y : Int} (h0 : y ≠ 0) (hy : lt2 n y) (hn : n ≤ 8990) : divOk x y = true := by
  unfold divOk
  rw [Bool.and_eq_true]
  have h2 := log2_lt (Nat.succ_pos n) (hy.mono (Nat.le_succ n))
  exact ⟨decide_eq_true h0, decide_eq_true (by omega)⟩
theorem lt2.mul {a b : Nat} {x y : Int} (hx : lt2 a x) (hy : lt2 b y) : lt2 (a + b) (x * y) := by
  unfold lt2
  rw [Int.natAbs_mul, Nat.pow_add]
  exact Nat.mul_lt_mul'' hx hy
theorem lt2.add {a : Nat} {x y : Int} (hx : lt2 a x) (hy : lt2 a y) : lt2 (a + 1) (x + y) := by
  unfold lt2 at *
  rw [Nat.pow_succ]
  omega
theorem lt2.sub {a : Nat} {x y : Int} (hx : lt2 a x) (hy : lt2 a y) : lt2 (a + 1) (x - y) := by
  unfold lt2 at *
  rw [Nat.pow_succ]
  omega
/-! ### Euclid's loop -/
theorem whl_gcd (ε : Int → Int → Env) (c : Env → Mem → Option (Bool × Mem)) (body : Env → Mem → Option R) (M : Mem) (hc : ∀ a b : Int, c (ε a b) M = some (decide (b ≠ 0), M))
    (hb : ∀ a b : Int, b ≠ 0 → body (ε a b) M = some (.nx (ε b (a.fmod b)) M)) : ∀ (m n : Nat) (a b : Nat), b < 2 ^ m → 2 * m + 1 ≤ n → whlL c body n (ε a b) M = some (.nx (ε (Nat.gcd a b : Nat) 0) M)
  | m, 0, a, b, _, hn => absurd hn (by omega)
  | m, n + 1, a, b, hm, hn => by
    unfold whlL
    rw [hc]
    by_cases h0 : b = 0
    · subst h0
      rw [Nat.gcd_zero_right]
      simp
    · have hb' : ((b : Nat) : Int) ≠ 0 := by omega
      rw [decide_eq_true hb']
      simp only [hb _ _ hb']
      have e1 : ((a : Nat) : Int).fmod ((b : Nat) : Int) = ((a % b : Nat) : Int) := by
        rw [Int.fmod_eq_emod_of_nonneg _ (by omega)]
        simp
      rw [e1]
      by_cases h1 : a % b = 0
      · cases n with
        | zero => 
          have : m ≠ 0 := fun z => by subst z; simp at hm; omega
          omega
        | succ n =>
          unfold whlL
          rw [hc, h1]
          have : Nat.gcd a b = b := by
            rw [Nat.gcd_comm, Nat.gcd_rec, h1, Nat.gcd_zero_left]
          rw [this]
          simp
      · cases m with
        | zero => simp at hm; omega
        | succ m =>
        cases n with
        | zero => omega
        | succ n =>
          unfold whlL
          rw [hc]
          have hr : ((a % b : Nat) : Int) ≠ 0 := by omega
          rw [decide_eq_true hr]
          simp only [hb _ _ hr]
          have e2 : ((b : Nat) : Int).fmod ((a % b : Nat) : Int) = ((b % (a % b) : Nat) : Int) := by
            rw [Int.fmod_eq_emod_of_nonneg _ (by omega)]
            simp
          rw [e2]
          have hlt : a % b < b := Nat.mod_lt _ (by omega)
          have hlt2 : b % (a % b) < a % b := Nat.mod_lt _ (by omega)
          have hle : a % b + b % (a % b) ≤ b := by
            have h3 := Nat.mod_add_div b (a % b)
            have h4 : 1 ≤ b / (a % b) := Nat.div_pos (Nat.le_of_lt hlt) (by omega)
            have h5 : (a % b) * 1 ≤ (a % b) * (b / (a % b)) := Nat.mul_le_mul_left _ h4
            omega
          rw [Nat.pow_succ] at hm
          have := whl_gcd ε c body M hc hb m n (a % b) (b % (a % b)) (by omega) (by omega)
          rw [this]
          rw [show Nat.gcd a b = Nat.gcd (a % b) (b % (a % b)) by rw [Nat.gcd_comm a b, Nat.gcd_rec b a, Nat.gcd_rec (a % b) b, Nat.gcd_comm]]
/-! ### fractions -/
def fr (q : Rat) : PV := .tup [.int q.num, .int (q.den : Int)]
def sgn (b : Int) : Int := if b > 0 then 1 else -1
theorem low_num {a b s : Int} (hb : b ≠ 0) (hs : s = b.sign) : a.fdiv ((Int.gcd a b : Nat) * s) = (Rat.divInt a b).num ∧ b.fdiv ((Int.gcd a b : Nat) * s) = ((Rat.divInt a b).den : Int) := by
  have hg : 0 < Int.gcd a b := Int.gcd_pos_of_ne_zero_right a hb
  obtain ⟨x, hx⟩ := Int.gcd_dvd_left a b
  obtain ⟨y, hy⟩ := Int.gcd_dvd_right a b
  have hss : s * s = 1 := by
    rcases Int.lt_or_gt_of_ne hb with h | h
    · rw [hs, Int.sign_eq_neg_one_of_neg h]; rfl
    · rw [hs, Int.sign_eq_one_of_pos h]; rfl
  generalize hG : Int.gcd a b = g at *
  have hg' : (g : Int) ≠ 0 := by omega
  have hgs : (g : Int) * s ≠ 0 := fun z => by
    rcases Int.mul_eq_zero.mp z with z | z
    · exact hg' z
    · rw [z] at hss; cases hss
  have div (z w : Int) (h : z = (g : Int) * w) : z.fdiv ((g : Int) * s) = s * w := by
    have h2 : z = ((g : Int) * s) * (s * w) := by
      rw [Int.mul_assoc, ← Int.mul_assoc s s w, hss, Int.one_mul]; exact h
    rw [Int.fdiv_eq_ediv_of_dvd ⟨s * w, h2⟩, h2]
    exact Int.mul_ediv_cancel_left _ hgs
  rw [div a x hx, div b y hy, Rat.num_divInt, Rat.den_divInt, if_neg hb, Int.gcd_comm b a, hG, ← hs]
  constructor
  · rw [hx, ← Int.mul_assoc, Int.mul_comm s (g : Int), Int.mul_assoc, Int.mul_ediv_cancel_left _ hg']
  · have h1 : b.natAbs = g * y.natAbs := by
      rw [hy, Int.natAbs_mul]
      rfl
    rw [h1, Nat.mul_div_cancel_left _ hg]
    rcases Int.lt_or_gt_of_ne hb with h | h
    · rw [hs, Int.sign_eq_neg_one_of_neg h]
      have : y < 0 := by
        rcases Int.lt_or_gt_of_ne (show y ≠ 0 from fun z => by rw [z, Int.mul_zero] at hy; exact hb hy) with h1 | h1
        · exact h1
        · have := Int.mul_pos (show (0 : Int) < g by omega) h1
          omega
      omega
    · rw [hs, Int.sign_eq_one_of_pos h]
      have : 0 < y := by
        rcases Int.lt_or_gt_of_ne (show y ≠ 0 from fun z => by rw [z, Int.mul_zero] at hy; exact hb hy) with h1 | h1
        · have := Int.mul_neg_of_pos_of_neg (show (0 : Int) < g by omega) h1
          omega
        · exact h1
      omega
/-- the reduced form is no greater -/
theorem low_le (a b : Int) (hb : b ≠ 0) : (Rat.divInt a b).num.natAbs ≤ a.natAbs ∧ (Rat.divInt a b).den ≤ b.natAbs := by
  rw [Rat.num_divInt, Rat.den_divInt, if_neg hb]
  constructor
  · rw [Int.natAbs_ediv_of_dvd (by
      rw [Int.gcd_comm]
      exact Int.dvd_mul_of_dvd_right (Int.gcd_dvd_left a b)), Int.natAbs_mul]
    have : b.sign.natAbs ≤ 1 := by
      rcases Int.lt_or_gt_of_ne hb with h | h
      · rw [Int.sign_eq_neg_one_of_neg h]; decide
      · rw [Int.sign_eq_one_of_pos h]; decide
    calc b.sign.natAbs * a.natAbs / ((b.gcd a : Nat) : Int).natAbs ≤ b.sign.natAbs * a.natAbs := Nat.div_le_self _ _
      _ ≤ 1 * a.natAbs := Nat.mul_le_mul_right _ this
      _ = a.natAbs := Nat.one_mul _
  · exact Nat.div_le_self _ _
/-- num and den below 2 ^ n -/
def sm (n : Nat) (q : Rat) : Prop := lt2 n q.num ∧ q.den < 2 ^ n
theorem sm.mono {n m : Nat} {q : Rat} (h : sm n q) (hm : n ≤ m) : sm m q := ⟨h.1.mono hm, Nat.lt_of_lt_of_le h.2 (Nat.pow_le_pow_right (by decide) hm)⟩
theorem sm.den {n : Nat} {q : Rat} (h : sm n q) : lt2 n (q.den : Int) := by
  unfold lt2
  rw [Int.natAbs_natCast]
  exact h.2
theorem sm_low {n : Nat} {a b : Int} (ha : lt2 n a) (hb : lt2 n b) (h0 : b ≠ 0) : sm n (Rat.divInt a b) := by
  obtain ⟨h1, h2⟩ := low_le a b h0
  exact ⟨Nat.lt_of_le_of_lt h1 ha, Nat.lt_of_le_of_lt h2 hb⟩
theorem add_low (p q : Rat) : Rat.divInt (p.num * q.den + q.num * p.den) (p.den * q.den) = p + q := by
  conv => rhs; rw [← Rat.num_divInt_den p, ← Rat.num_divInt_den q]
  rw [Rat.divInt_add_divInt _ _ (by have := p.den_nz; omega) (by have := q.den_nz; omega)]
theorem sub_low (p q : Rat) : Rat.divInt (p.num * q.den - q.num * p.den) (p.den * q.den) = p - q := by
  rw [Rat.sub_def', ← Rat.divInt_ofNat]
  simp
theorem mul_low (p q : Rat) : Rat.divInt (p.num * q.num) (p.den * q.den) = p * q := by
  conv => rhs; rw [← Rat.num_divInt_den p, ← Rat.num_divInt_den q]
  rw [Rat.divInt_mul_divInt]
theorem div_low (p q : Rat) (hq : q ≠ 0) : Rat.divInt (p.num * q.den) (p.den * q.num) = p / q := by
  rw [Rat.div_def, Rat.inv_def]
  conv => rhs; rw [← Rat.num_divInt_den p]
  rw [Rat.divInt_mul_divInt]
theorem den_pos (q : Rat) : 0 < (q.den : Int) := by have := q.den_nz; omega
theorem num_ne {q : Rat} (h : q ≠ 0) : q.num ≠ 0 := fun z => h (Rat.num_eq_zero.mp z)
theorem sm_add {a b : Nat} {p q : Rat} (hp : sm a p) (hq : sm b q) : sm (a + b + 1) (p + q) := by
  rw [← add_low]
  refine sm_low ?_ ((hp.den.mul hq.den).mono (by omega)) ?_
  · exact (hp.1.mul hq.den).add (by rw [Nat.add_comm]; exact hq.1.mul hp.den)
  · exact Int.ne_of_gt (Int.mul_pos (den_pos p) (den_pos q))
theorem sm_sub {a b : Nat} {p q : Rat} (hp : sm a p) (hq : sm b q) : sm (a + b + 1) (p - q) := by
  rw [← sub_low]
  refine sm_low ?_ ((hp.den.mul hq.den).mono (by omega)) ?_
  · exact (hp.1.mul hq.den).sub (by rw [Nat.add_comm]; exact hq.1.mul hp.den)
  · exact Int.ne_of_gt (Int.mul_pos (den_pos p) (den_pos q))
theorem sm_mul {a b : Nat} {p q : Rat} (hp : sm a p) (hq : sm b q) : sm (a + b) (p * q) := by
  rw [← mul_low]
  exact sm_low (hp.1.mul hq.1) (hp.den.mul hq.den) (Int.ne_of_gt (Int.mul_pos (den_pos p) (den_pos q)))
theorem sm_div {a b : Nat} {p q : Rat} (hp : sm a p) (hq : sm b q) (h : q ≠ 0) : sm (a + b) (p / q) := by
  rw [← div_low p q h]
  exact sm_low (hp.1.mul hq.den) (hp.den.mul hq.1) (fun z => by
    rcases Int.mul_eq_zero.mp z with z | z
    · exact Int.ne_of_gt (den_pos p) z
    · exact num_ne h z)
/-! ### == -/
theorem eqD_ii (M : Mem) (a b : Int) : eqD M (.int a) (.int b) = some (decide (a = b)) := by
  show some (PySem.PyData.eqv (.int a) (.int b)) = _
  show some (a == b) = _
  rw [Bool.beq_eq_decide_eq]
theorem eqD_bb (M : Mem) (a b : Bool) : eqD M (.bl a) (.bl b) = some (decide (a = b)) := by
  show some (PySem.PyData.eqv (.bool a) (.bool b)) = _
  show some (a == b) = _
  rw [Bool.beq_eq_decide_eq]
theorem eqD_pp (M : Mem) (a b c d : Int) : eqD M (.tup [.int a, .int b]) (.tup [.int c, .int d]) = some (decide (a = c ∧ b = d)) := by
  show some ((a == c) && ((b == d) && true)) = _
  rw [Bool.and_true, Bool.beq_eq_decide_eq, Bool.beq_eq_decide_eq, ← Bool.decide_and]
theorem eqD_fr (M : Mem) (p q : Rat) : eqD M (fr p) (fr q) = some (decide (p = q)) := by
  unfold fr
  rw [eqD_pp]
  congr 1
  by_cases h : p = q
  · subst h; simp
  · rw [decide_eq_false h, decide_eq_false]
    rintro ⟨h1, h2⟩
    exact h (Rat.ext h1 (by omega))
theorem idx_tup0 (M : Mem) (x0 : PV) (xs : List PV) : idxOp M (.tup (x0 :: xs)) (.int 0) = some x0 := by
  show L2.atI (x0 :: xs) 0 = _
  unfold L2.atI L2.ixN
  rw [if_pos (by omega), if_pos (by simp only [List.length_cons]; omega)]
  rfl
theorem idx_tup1 (M : Mem) (x0 x1 : PV) (xs : List PV) : idxOp M (.tup (x0 :: x1 :: xs)) (.int 1) = some x1 := by
  show L2.atI (x0 :: x1 :: xs) 1 = _
  unfold L2.atI L2.ixN
  rw [if_pos (by omega), if_pos (by simp only [List.length_cons]; omega)]
  rfl
theorem idx_tup2 (M : Mem) (x0 x1 x2 : PV) (xs : List PV) : idxOp M (.tup (x0 :: x1 :: x2 :: xs)) (.int 2) = some x2 := by
  show L2.atI (x0 :: x1 :: x2 :: xs) 2 = _
  unfold L2.atI L2.ixN
  rw [if_pos (by omega), if_pos (by simp only [List.length_cons]; omega)]
  rfl
theorem idx_tup3 (M : Mem) (x0 x1 x2 x3 : PV) (xs : List PV) : idxOp M (.tup (x0 :: x1 :: x2 :: x3 :: xs)) (.int 3) = some x3 := by
  show L2.atI (x0 :: x1 :: x2 :: x3 :: xs) 3 = _
  unfold L2.atI L2.ixN
  rw [if_pos (by omega), if_pos (by simp only [List.length_cons]; omega)]
  rfl
theorem idx_lst0 (M : Mem) (x0 : PV) (xs : List PV) : idxOp M (.lst (x0 :: xs)) (.int 0) = some x0 := by
  show L2.atI (x0 :: xs) 0 = _
  unfold L2.atI L2.ixN
  rw [if_pos (by omega), if_pos (by simp only [List.length_cons]; omega)]
  rfl
theorem idx_lst1 (M : Mem) (x0 x1 : PV) (xs : List PV) : idxOp M (.lst (x0 :: x1 :: xs)) (.int 1) = some x1 := by
  show L2.atI (x0 :: x1 :: xs) 1 = _
  unfold L2.atI L2.ixN
  rw [if_pos (by omega), if_pos (by simp only [List.length_cons]; omega)]
  rfl
theorem idx_lst2 (M : Mem) (x0 x1 x2 : PV) (xs : List PV) : idxOp M (.lst (x0 :: x1 :: x2 :: xs)) (.int 2) = some x2 := by
  show L2.atI (x0 :: x1 :: x2 :: xs) 2 = _
  unfold L2.atI L2.ixN
  rw [if_pos (by omega), if_pos (by simp only [List.length_cons]; omega)]
  rfl
theorem idx_lst3 (M : Mem) (x0 x1 x2 x3 : PV) (xs : List PV) : idxOp M (.lst (x0 :: x1 :: x2 :: x3 :: xs)) (.int 3) = some x3 := by
  show L2.atI (x0 :: x1 :: x2 :: x3 :: xs) 3 = _
  unfold L2.atI L2.ixN
  rw [if_pos (by omega), if_pos (by simp only [List.length_cons]; omega)]
  rfl
theorem idx_rol0 (M : Mem) (x0 : PV) (xs : List PV) : idxOp M (.rol (x0 :: xs)) (.int 0) = some x0 := by
  show L2.atI (x0 :: xs) 0 = _
  unfold L2.atI L2.ixN
  rw [if_pos (by omega), if_pos (by simp only [List.length_cons]; omega)]
  rfl
theorem idx_rol1 (M : Mem) (x0 x1 : PV) (xs : List PV) : idxOp M (.rol (x0 :: x1 :: xs)) (.int 1) = some x1 := by
  show L2.atI (x0 :: x1 :: xs) 1 = _
  unfold L2.atI L2.ixN
  rw [if_pos (by omega), if_pos (by simp only [List.length_cons]; omega)]
  rfl
theorem idx_rol2 (M : Mem) (x0 x1 x2 : PV) (xs : List PV) : idxOp M (.rol (x0 :: x1 :: x2 :: xs)) (.int 2) = some x2 := by
  show L2.atI (x0 :: x1 :: x2 :: xs) 2 = _
  unfold L2.atI L2.ixN
  rw [if_pos (by omega), if_pos (by simp only [List.length_cons]; omega)]
  rfl
theorem idx_rol3 (M : Mem) (x0 x1 x2 x3 : PV) (xs : List PV) : idxOp M (.rol (x0 :: x1 :: x2 :: x3 :: xs)) (.int 3) = some x3 := by
  show L2.atI (x0 :: x1 :: x2 :: x3 :: xs) 3 = _
  unfold L2.atI L2.ixN
  rw [if_pos (by omega), if_pos (by simp only [List.length_cons]; omega)]
  rfl
theorem bifb_isTy (t : Ty) (v : PV) {β : Type} (x y : Option β) : bifb (some (isTy t v)) x y = if isTy t v = true then x else y := bifb_b _ x y
theorem newL_f (xs : List PV) (M : Mem) : newL false xs M = (.lst xs, M) := rfl
theorem newL_t (xs : List PV) (M : Mem) : newL true xs M = (.ref M.length, M ++ [.lst xs]) := rfl
theorem fin_rtk (n : Nat) (v : PV) (M : Mem) : fin true n (some (.rt v M)) = some (v, M) := rfl
theorem sizeL : PySem.sizeLine = 16777216 := by decide +kernel
theorem fr_0 : fr 0 = .tup [.int 0, .int 1] := rfl
theorem fr_1 : fr 1 = .tup [.int 1, .int 1] := rfl
/-! ### comprehensions -/
theorem lcL_none {t : T} {g : Gd} {cond : Env → Mem → Option (Bool × Mem)} {elt : Env → Mem → Option (PV × Mem)} {env : Env} {M : Mem} (hg : gOk g M = true) : ∀ (xs acc : List PV), (∀ x ∈ xs, ∃ env1, bindT t x env = some env1 ∧ cond env1 M = some (false, M)) →
    lcL t g cond elt env xs acc M = some (acc, M)
  | [], acc, _ => by unfold lcL; rw [hg]
  | x :: xs, acc, h => by
    unfold lcL
    rw [hg]
    obtain ⟨env1, h1, h2⟩ := h x List.mem_cons_self
    simp only [h1, h2]
    exact lcL_none hg xs acc fun y hy => h y (List.mem_cons_of_mem _ hy)
/-- a map -/
theorem lcL_map {t : T} {g : Gd} {cond : Env → Mem → Option (Bool × Mem)} {elt : Env → Mem → Option (PV × Mem)} {env : Env} {M : Mem} (hg : gOk g M = true) (f : PV → PV) : ∀ (xs acc : List PV), (∀ x ∈ xs, ∃ env1, bindT t x env = some env1 ∧ cond env1 M = some (true, M) ∧ elt env1 M = some (f x, M)) →
    lcL t g cond elt env xs acc M = some (acc ++ xs.map f, M)
  | [], acc, _ => by unfold lcL; rw [hg]; simp
  | x :: xs, acc, h => by
    unfold lcL
    rw [hg]
    obtain ⟨env1, h1, h2, h3⟩ := h x List.mem_cons_self
    simp only [h1, h2, h3]
    rw [lcL_map hg f xs _ fun y hy => h y (List.mem_cons_of_mem _ hy), List.map_cons, List.append_assoc]
    rfl
/-- a comprehension that draws: each item's value keeps P, the memory keeps I -/
theorem lcL_draw {t : T} {cond : Env → Mem → Option (Bool × Mem)} {elt : Env → Mem → Option (PV × Mem)} {env : Env} (P : PV → Prop) (I : Mem → Prop) : ∀ (xs acc : List PV) (M : Mem), I M → (∀ x ∈ xs, ∀ M, I M → ∃ env1 v M', bindT t x env = some env1 ∧ cond env1 M = some (true, M) ∧ elt env1 M = some (v, M') ∧ P v ∧ I M') →
    ∃ vs M', lcL t [] cond elt env xs acc M = some (acc ++ vs, M') ∧ vs.length = xs.length ∧ (∀ v ∈ vs, P v) ∧ I M'
  | [], acc, M, hI, _ => ⟨[], M, by unfold lcL; simp [gOk], rfl, by simp, hI⟩
  | x :: xs, acc, M, hI, h => by
    obtain ⟨env1, v, M1, h1, h2, h3, h4, h5⟩ := h x List.mem_cons_self M hI
    obtain ⟨vs, M', e, hl, hp, hI'⟩ := lcL_draw P I xs (acc ++ [v]) M1 h5 fun y hy => h y (List.mem_cons_of_mem _ hy)
    refine ⟨v :: vs, M', ?_, by simp [hl], fun w hw => ?_, hI'⟩
    · unfold lcL
      simp only [gOk, h1, h2, h3]
      rw [e, List.append_assoc]
      rfl
    · rcases List.mem_cons.mp hw with rfl | hw
      · exact h4
      · exact hp w hw
theorem seqG_tup (M : Mem) (xs : List PV) : seqG M (.tup xs) = some (true, xs, []) := rfl
theorem seqG_lst (M : Mem) (xs : List PV) : seqG M (.lst xs) = some (false, xs, []) := rfl
theorem lenB_tup (M : Mem) (xs : List PV) : lenB M [.tup xs] = some (.int xs.length) := rfl
theorem lenB_lst (M : Mem) (xs : List PV) : lenB M [.lst xs] = some (.int xs.length) := rfl
theorem zip_mem : ∀ {xs : List PV} {z : PV}, z ∈ zipP xs xs → ∃ x ∈ xs, z = .tup [x, x]
  | [], _, h => by simp [zipP] at h
  | x :: xs, z, h => by
    unfold zipP at h
    rcases List.mem_cons.mp h with rfl | h
    · exact ⟨x, List.mem_cons_self, rfl⟩
    · obtain ⟨y, h1, h2⟩ := zip_mem h
      exact ⟨y, List.mem_cons_of_mem _ h1, h2⟩
/-! ### plain values -/
mutual
def dpt : PV → Nat
  | .tup xs | .lst xs => dpts xs + 1
  | _ => 0
def dpts : List PV → Nat
  | [] => 0
  | x :: xs => max (dpt x) (dpts xs)
end
mutual
def pl : PV → Bool
  | .non | .bl _ | .int _ => true
  | .str s => PySem.PyData.canLay0 (.str s)
  | .tup xs | .lst xs => pls xs
  | .rol _ | .ref _ | .dct _ => false
def pls : List PV → Bool
  | [] => true
  | x :: xs => pl x && pls xs
end
theorem pls_mem : ∀ {xs : List PV} {x : PV}, pls xs = true → x ∈ xs → pl x = true ∧ dpt x ≤ dpts xs
  | y :: ys, x, h, hm => by
    have h' : (pl y && pls ys) = true := h
    rw [Bool.and_eq_true] at h'
    rcases List.mem_cons.mp hm with rfl | hm
    · exact ⟨h'.1, Nat.le_max_left _ _⟩
    · obtain ⟨h1, h2⟩ := pls_mem h'.2 hm
      exact ⟨h1, Nat.le_trans h2 (Nat.le_max_right _ _)⟩
def sortP : PV → Int
  | .non => 0 | .bl _ => 1 | .int _ => 2 | .str _ => 3 | .tup _ => 4 | .dct _ => 6 | _ => 5
/-! ### draws -/
abbrev cup (x y : Int) : Cell := .lst [.int x, .int y]
def CupB (x y : Int) : Prop := 0 ≤ x ∧ 0 ≤ y ∧ y < 2147483648
theorem idx_cup0 (x y : PV) (T : Mem) : idxOp (.lst [x, y] :: T) (.ref 0) (.int 0) = some x := rfl
theorem idx_cup1 (x y : PV) (T : Mem) : idxOp (.lst [x, y] :: T) (.ref 0) (.int 1) = some y := rfl
theorem setAt0 (x v : PV) (xs : List PV) : setAt (x :: xs) 0 v = some (v :: xs) := by
  unfold setAt L2.ixN
  rw [if_pos (by omega), if_pos (by simp only [List.length_cons]; omega)]
  rfl
theorem setAt1 (x y v : PV) (xs : List PV) : setAt (x :: y :: xs) 1 v = some (x :: v :: xs) := by
  unfold setAt L2.ixN
  rw [if_pos (by omega), if_pos (by simp only [List.length_cons]; omega)]
  rfl
end Ev

/-! The text as the interpreter has it, and that it is this text: printed by gen.py. -/
namespace Lw
open PySem PySem.Spec PyProof.Rows L2 Ev
def topS (i : Nat) : Stmt := PySem.Challenge.pw_endsmeasured_k50_whole_end_numbers.main.body.getD i (.Pass ⟨0, 0, 0, 0⟩)
abbrev k_DIGITS : PV := (.int (10000000000000000000000000000000000000000))
abbrev k_FIGURES : PV := (.int (60))
abbrev tb_WORDS : List (Int × PV) := [(-1, (.str "less")), (0, (.str "same")), (1, (.str "greater"))]
def m_is_integer : Ss := (.cons (.ret (.and (.isi (.var 0) .int) (.not (.isi (.var 0) .bool)))) .nil)
def m_is_whole : Ss := (.cons (.ret (.and (.call 0 (.cons (.var 0) .nil)) (.chn .le .le (.var 1) (.var 0) (.var 2)))) .nil)
def m_need_whole : Ss := (.cons (.ite (.not (.call 1 (.cons (.var 0) (.cons (.var 1) (.cons (.var 2) .nil))))) (.cons .rais .nil) .nil) .nil)
def m_is_tuple_of : Ss := (.cons (.ret (.and (.isi (.var 0) .tuple) (.chn .le .le (.var 1) (.blt .len false (.cons (.var 0) .nil)) (.var 2)))) .nil)
def m_divisor_of : Ss := (.cons (.par 0 1 (.blt .abs false (.cons (.var 0) .nil)) (.blt .abs false (.cons (.var 1) .nil))) (.cons (.whl (.cmp .ne (.var 1) (.cst (.int (0)))) (.cons (.par 0 1 (.var 1) (.bin .mod false (.var 0) (.var 1))) .nil)) (.cons (.ret (.var 0)) .nil)))
def m_lowest : Ss := (.cons (.set 2 (.bin .mul false (.call 4 (.cons (.var 0) (.cons (.var 1) .nil))) (.ite (.cmp .gt (.var 1) (.cst (.int (0)))) (.cst (.int (1))) (.neg (.cst (.int (1))))))) (.cons (.ret (.tup (.cons (.bin .fdiv false (.var 0) (.var 2)) (.cons (.bin .fdiv false (.var 1) (.var 2)) .nil)))) .nil))
def m_fits_fraction : Ss := (.cons (.ite (.or (.not (.call 3 (.cons (.var 0) (.cons (.cst (.int (2))) (.cons (.cst (.int (2))) .nil))))) (.not (.blt .all false (.cons (.lc false [1] (.nm 1) (.seq (.var 0)) .nil (.and (.call 0 (.cons (.var 1) .nil)) (.chn .lt .lt (.neg (.cst k_DIGITS)) (.var 1) (.cst k_DIGITS)))) .nil)))) (.cons (.ret (.cst (.bl false))) .nil) .nil) (.cons (.ret (.and (.cmp .ge (.idx (.var 0) (.cst (.int (1)))) (.cst (.int (1)))) (.cmp .eq (.call 4 (.cons (.idx (.var 0) (.cst (.int (0)))) (.cons (.idx (.var 0) (.cst (.int (1)))) .nil))) (.cst (.int (1)))))) .nil))
def m_need_fraction : Ss := (.cons (.ite (.not (.call 6 (.cons (.var 0) .nil))) (.cons .rais .nil) .nil) .nil)
def m_fits_end : Ss := (.cons (.ite (.or (.not (.call 3 (.cons (.var 0) (.cons (.cst (.int (3))) (.cons (.cst (.int (3))) .nil))))) (.not (.blt .all false (.cons (.lc false [5] (.nm 5) (.seq (.var 0)) .nil (.and (.call 0 (.cons (.var 5) .nil)) (.chn .lt .lt (.neg (.var 1)) (.var 5) (.var 1)))) .nil)))) (.cons (.ret (.cst (.bl false))) .nil) .nil) (.cons (.asg (.tp [2, 3, 4]) (.var 0)) (.cons (.ret (.and (.cmp .gt (.var 2) (.cst (.int (0)))) (.and (.cmp .gt (.var 4) (.cst (.int (0)))) (.cmp .eq (.call 4 (.cons (.call 4 (.cons (.var 2) (.cons (.var 3) .nil))) (.cons (.var 4) .nil))) (.cst (.int (1))))))) .nil)))
def m_need_end : Ss := (.cons (.ite (.not (.call 8 (.cons (.var 0) (.cons (.cst k_DIGITS) .nil)))) (.cons .rais .nil) .nil) .nil)
def m_sign_of : Ss := (.cons (.ret (.bin .sub false (.cmp .gt (.var 0) (.cst (.int (0)))) (.cmp .lt (.var 0) (.cst (.int (0)))))) .nil)
def m_beside_in : Ss := (.cons (.asg (.tp [2, 3, 4]) (.var 0)) (.cons (.asg (.tp [5, 6]) (.var 1)) (.cons (.ite (.cmp .le (.var 5) (.cst (.int (0)))) (.cons (.ret (.cst (.int (1)))) .nil) .nil) (.cons (.ret (.neg (.call 10 (.cons (.bin .sub false (.bin .add false (.bin .mul false (.bin .mul false (.var 2) (.var 5)) (.var 5)) (.bin .mul false (.bin .mul false (.var 3) (.var 5)) (.var 6))) (.bin .mul false (.bin .mul false (.var 4) (.var 6)) (.var 6))) .nil)))) .nil))))
def m_compared : Ss := (.cons (.asg (.tp [2, 3, 4]) (.var 0)) (.cons (.asg (.tp [5, 6, 7]) (.var 1)) (.cons (.par 8 9 (.bin .sub false (.bin .mul false (.var 2) (.var 6)) (.bin .mul false (.var 5) (.var 3))) (.bin .sub false (.bin .mul false (.var 5) (.var 4)) (.bin .mul false (.var 2) (.var 7)))) (.cons (.ite (.cmp .eq (.var 8) (.cst (.int (0)))) (.cons (.ret (.call 10 (.cons (.var 9) .nil))) .nil) .nil) (.cons (.ret (.bin .mul false (.call 11 (.cons (.var 0) (.cons (.call 5 (.cons (.neg (.var 9)) (.cons (.var 8) .nil))) .nil))) (.call 10 (.cons (.var 8) .nil)))) .nil)))))
def m_root_below : Ss := (.cons (.asg (.tp [1, 2]) (.tup (.cons (.cst (.int (0))) (.cons (.cst (.int (1))) .nil)))) (.cons (.whl (.cmp .le (.bin .mul false (.var 2) (.var 2)) (.var 0)) (.cons (.set 2 (.bin .mul false (.cst (.int (2))) (.var 2))) .nil)) (.cons (.whl (.cmp .gt (.bin .sub false (.var 2) (.var 1)) (.cst (.int (1)))) (.cons (.set 3 (.bin .fdiv false (.bin .add false (.var 1) (.var 2)) (.cst (.int (2))))) (.cons (.asg (.tp [1, 2]) (.ite (.cmp .le (.bin .mul false (.var 3) (.var 3)) (.var 0)) (.tup (.cons (.var 3) (.cons (.var 2) .nil))) (.tup (.cons (.var 1) (.cons (.var 3) .nil))))) .nil))) (.cons (.ret (.var 1)) .nil))))
def m_power_of_ten : Ss := (.cons (.set 1 (.cst (.int (1)))) (.cons (.for_ (.nm 2) (.rng (.cst (.int 0)) (.var 0)) (.cons (.set 1 (.bin .mul false (.cst (.int (10))) (.var 1))) .nil)) (.cons (.ret (.var 1)) .nil)))
def m_below_in : Ss := (.cons (.asg (.tp [2, 3, 4]) (.var 0)) (.cons (.set 5 (.bin .fdiv false (.bin .sub false (.call 13 (.cons (.bin .mul false (.bin .mul false (.bin .add false (.bin .mul false (.var 3) (.var 3)) (.bin .mul false (.bin .mul false (.cst (.int (4))) (.var 2)) (.var 4))) (.var 1)) (.var 1)) .nil)) (.bin .mul false (.var 3) (.var 1))) (.bin .mul false (.cst (.int (2))) (.var 2)))) (.cons (.ret (.var 5)) .nil)))
def m_is_end_number : Ss := (.cons (.ret (.call 8 (.cons (.var 0) (.cons (.cst k_DIGITS) .nil)))) .nil)
def m_end_beside : Ss := (.cons (.exp (.call 9 (.cons (.var 0) .nil))) (.cons (.exp (.call 7 (.cons (.var 1) .nil))) (.cons (.ret (.tab tb_WORDS (.call 11 (.cons (.var 0) (.cons (.var 1) .nil))))) .nil)))
def m_compare_ends : Ss := (.cons (.exp (.call 9 (.cons (.var 0) .nil))) (.cons (.exp (.call 9 (.cons (.var 1) .nil))) (.cons (.ret (.tab tb_WORDS (.call 12 (.cons (.var 0) (.cons (.var 1) .nil))))) .nil)))
def m_end_as_fraction : Ss := (.cons (.exp (.call 9 (.cons (.var 0) .nil))) (.cons (.asg (.tp [1, 2, 3]) (.var 0)) (.cons (.set 4 (.bin .add false (.bin .mul false (.var 2) (.var 2)) (.bin .mul false (.bin .mul false (.cst (.int (4))) (.var 1)) (.var 3)))) (.cons (.set 5 (.call 13 (.cons (.var 4) .nil))) (.cons (.ret (.ite (.cmp .eq (.bin .mul false (.var 5) (.var 5)) (.var 4)) (.call 5 (.cons (.bin .sub false (.var 5) (.var 2)) (.cons (.bin .mul false (.cst (.int (2))) (.var 1)) .nil))) (.cst .non))) .nil)))))
def m_end_below : Ss := (.cons (.exp (.call 9 (.cons (.var 0) .nil))) (.cons (.exp (.call 2 (.cons (.var 1) (.cons (.cst (.int (0))) (.cons (.cst k_FIGURES) .nil))))) (.cons (.ret (.call 15 (.cons (.var 0) (.cons (.call 14 (.cons (.var 1) .nil)) .nil)))) .nil)))
def m__law_cup : Ss := (.cons (.set 1 (.blt .abs false (.cons (.idx (.bin .add false (.blt .list false (.cons (.var 0) .nil)) (.lst false (.cons (.cst (.int (0))) .nil))) (.cst (.int (0)))) .nil))) (.cons (.ret (.lst true (.cons (.ite (.cmp .ge (.var 1) (.bin .pow false (.cst (.int (10))) (.cst (.int (18))))) (.bin .fdiv false (.var 1) (.cst (.int (73)))) (.cst (.int (0)))) (.cons (.bin .add false (.bin .mod false (.blt .int false (.cons (.bin .add false (.bin .mul false (.var 1) (.cst (.int (283)))) (.cst (.int (3907)))) .nil)) (.cst (.int (2077503167)))) (.cst (.int (167)))) .nil)))) .nil))
def m__law_roll : Ss := (.cons (.ite (.cmp .gt (.idx (.var 0) (.cst (.int (0)))) (.cst (.int (0)))) (.cons (.set 2 (.bin .mod false (.blt .int false (.cons (.idx (.var 0) (.cst (.int (0)))) .nil)) (.var 1))) (.cons (.seti (.var 0) (.cst (.int (0))) (.bin .fdiv false (.idx (.var 0) (.cst (.int (0)))) (.var 1))) (.cons (.ret (.var 2)) .nil))) .nil) (.cons (.seti (.var 0) (.cst (.int (1))) (.bin .mod false (.blt .int false (.cons (.bin .add false (.bin .mul false (.idx (.var 0) (.cst (.int (1)))) (.cst (.int (31051)))) (.cst (.int (7993)))) .nil)) (.cst (.int (2147483543))))) (.cons (.set 3 (.bin .mod false (.blt .int false (.cons (.bin .mul false (.idx (.var 0) (.cst (.int (1)))) (.bin .add false (.idx (.var 0) (.cst (.int (1)))) (.cst (.int (229))))) .nil)) (.cst (.int (2147483587))))) (.cons (.ret (.bin .mod false (.blt .int false (.cons (.bin .fdiv false (.var 3) (.cst (.int (821)))) .nil)) (.var 1))) .nil))))
def m__law_sort : Ss := (.cons (.ite (.or (.cmp .is (.var 0) (.cst .non)) (.isi (.var 0) .bool)) (.cons (.ret (.ite (.cmp .is (.var 0) (.cst .non)) (.cst (.int (0))) (.cst (.int (1))))) .nil) .nil) (.cons (.ite (.or (.isi (.var 0) .int) (.isi (.var 0) .str)) (.cons (.ret (.ite (.isi (.var 0) .int) (.cst (.int (2))) (.cst (.int (3))))) .nil) .nil) (.cons (.ret (.ite (.isi (.var 0) .tuple) (.cst (.int (4))) (.ite (.isi (.var 0) .list) (.cst (.int (5))) (.cst (.int (6)))))) .nil)))
def m__law_like : Ss := (.cons (.set 2 (.call 23 (.cons (.var 1) .nil))) (.cons (.ite (.or (.cmp .ne (.call 23 (.cons (.var 0) .nil)) (.var 2)) (.cmp .eq (.var 2) (.cst (.int (6))))) (.cons (.ret (.cst (.bl false))) .nil) .nil) (.cons (.ite (.cmp .isin (.var 2) (.tup (.cons (.cst (.int (4))) (.cons (.cst (.int (5))) .nil)))) (.cons (.ret (.and (.cmp .eq (.blt .len false (.cons (.var 0) .nil)) (.blt .len false (.cons (.var 1) .nil))) (.cmp .eq (.lc false [3, 4] (.tp [3, 4]) (.zip (.var 0) (.var 1)) (.cons (.not (.call 24 (.cons (.var 3) (.cons (.var 4) .nil)))) .nil) (.cst (.int (1)))) (.lst false .nil)))) .nil) .nil) (.cons (.ret (.cmp .eq (.var 0) (.var 1))) .nil))))
def m__law_least : Ss := (.cons (.par 2 3 (.blt .abs false (.cons (.var 0) .nil)) (.blt .abs false (.cons (.var 1) .nil))) (.cons (.whl (.cmp .ne (.var 3) (.cst (.int (0)))) (.cons (.par 2 3 (.var 3) (.bin .mod false (.blt .int false (.cons (.var 2) .nil)) (.var 3))) .nil)) (.cons (.set 4 (.ite (.cmp .lt (.var 1) (.cst (.int (0)))) (.neg (.cst (.int (1)))) (.cst (.int (1))))) (.cons (.ret (.tup (.cons (.blt .int false (.cons (.bin .fdiv false (.bin .mul false (.var 4) (.var 0)) (.var 2)) .nil)) (.cons (.blt .int false (.cons (.bin .fdiv false (.bin .mul false (.var 4) (.var 1)) (.var 2)) .nil)) .nil)))) .nil))))
def m__law_divisor : Ss := (.cons (.par 0 1 (.blt .abs false (.cons (.var 0) .nil)) (.blt .abs false (.cons (.var 1) .nil))) (.cons (.whl (.cmp .ne (.var 1) (.cst (.int (0)))) (.cons (.par 0 1 (.var 1) (.bin .mod false (.blt .int false (.cons (.var 0) .nil)) (.var 1))) .nil)) (.cons (.ret (.var 0)) .nil)))
def m__law_plain : Ss := (.cons (.set 3 (.call 26 (.cons (.call 26 (.cons (.var 0) (.cons (.var 1) .nil))) (.cons (.var 2) .nil)))) (.cons (.ret (.tup (.cons (.blt .int false (.cons (.bin .fdiv false (.var 0) (.var 3)) .nil)) (.cons (.blt .int false (.cons (.bin .fdiv false (.var 1) (.var 3)) .nil)) (.cons (.blt .int false (.cons (.bin .fdiv false (.var 2) (.var 3)) .nil)) .nil))))) .nil))
def m__law_drawn : Ss := (.cons (.ret (.call 27 (.cons (.bin .add false (.cst (.int (1))) (.call 22 (.cons (.var 0) (.cons (.var 1) .nil)))) (.cons (.bin .sub false (.call 22 (.cons (.var 0) (.cons (.bin .add false (.bin .mul false (.cst (.int (2))) (.var 1)) (.cst (.int (1)))) .nil))) (.var 1)) (.cons (.bin .add false (.cst (.int (1))) (.call 22 (.cons (.var 0) (.cons (.var 1) .nil)))) .nil))))) .nil)
def m__law_is_end : Ss := (.cons (.ite (.or (.not (.isi (.var 0) .tuple)) (.or (.cmp .ne (.blt .len false (.cons (.var 0) .nil)) (.cst (.int (3)))) (.cmp .ne (.lc false [1] (.nm 1) (.seq (.var 0)) (.cons (.or (.cmp .ne (.call 23 (.cons (.var 1) .nil)) (.cst (.int (2)))) (.cmp .ge (.blt .abs false (.cons (.var 1) .nil)) (.bin .pow false (.cst (.int (10))) (.cst (.int (40)))))) .nil) (.var 1)) (.lst false .nil)))) (.cons (.ret (.cst (.bl false))) .nil) .nil) (.cons (.ret (.and (.cmp .gt (.idx (.var 0) (.cst (.int (0)))) (.cst (.int (0)))) (.and (.cmp .gt (.idx (.var 0) (.cst (.int (2)))) (.cst (.int (0)))) (.cmp .eq (.call 26 (.cons (.call 26 (.cons (.idx (.var 0) (.cst (.int (0)))) (.cons (.idx (.var 0) (.cst (.int (1)))) .nil))) (.cons (.idx (.var 0) (.cst (.int (2)))) .nil))) (.cst (.int (1))))))) .nil))
def m__law_below : Ss := (.cons (.asg (.tp [1, 2]) (.tup (.cons (.cst (.int (0))) (.cons (.cst (.int (1))) .nil)))) (.cons (.whl (.cmp .le (.bin .mul false (.var 2) (.var 2)) (.var 0)) (.cons (.set 2 (.bin .mul false (.cst (.int (2))) (.var 2))) .nil)) (.cons (.whl (.cmp .gt (.bin .sub false (.var 2) (.var 1)) (.cst (.int (1)))) (.cons (.set 3 (.blt .int false (.cons (.bin .fdiv false (.bin .add false (.var 1) (.var 2)) (.cst (.int (2)))) .nil))) (.cons (.asg (.tp [1, 2]) (.ite (.cmp .le (.bin .mul false (.var 3) (.var 3)) (.var 0)) (.tup (.cons (.var 3) (.cons (.var 2) .nil))) (.tup (.cons (.var 1) (.cons (.var 3) .nil))))) .nil))) (.cons (.ret (.var 1)) .nil))))
def m__law_beside : Ss := (.cons (.ite (.cmp .le (.var 1) (.cst (.int (0)))) (.cons (.ret (.cst (.str "greater"))) .nil) .nil) (.cons (.set 3 (.bin .sub false (.bin .add false (.bin .mul false (.bin .mul false (.idx (.var 0) (.cst (.int (0)))) (.var 1)) (.var 1)) (.bin .mul false (.bin .mul false (.idx (.var 0) (.cst (.int (1)))) (.var 1)) (.var 2))) (.bin .mul false (.bin .mul false (.idx (.var 0) (.cst (.int (2)))) (.var 2)) (.var 2)))) (.cons (.ret (.ite (.cmp .lt (.var 3) (.cst (.int (0)))) (.cst (.str "greater")) (.ite (.cmp .eq (.var 3) (.cst (.int (0)))) (.cst (.str "same")) (.cst (.str "less"))))) .nil)))
def m__law_right : Ss := (.cons (.asg (.tp [2, 3, 4]) (.var 1)) (.cons (.set 5 (.bin .add false (.bin .mul false (.var 3) (.var 3)) (.bin .mul false (.bin .mul false (.cst (.int (4))) (.var 2)) (.var 4)))) (.cons (.set 6 (.call 30 (.cons (.var 5) .nil))) (.cons (.set 7 (.ite (.cmp .eq (.bin .mul false (.var 6) (.var 6)) (.var 5)) (.call 25 (.cons (.bin .sub false (.var 6) (.var 3)) (.cons (.bin .mul false (.cst (.int (2))) (.var 2)) .nil))) (.cst .non))) (.cons (.ite (.not (.call 24 (.cons (.lst false (.cons (.call 16 (.cons (.var 1) .nil)) (.cons (.call 19 (.cons (.var 1) .nil)) .nil))) (.cons (.lst false (.cons (.cst (.bl true)) (.cons (.var 7) .nil))) .nil)))) (.cons (.ret (.cst (.bl false))) .nil) .nil) (.cons (.ite (.and (.cmp .isn (.var 7) (.cst .non)) (.or (.cmp .ne (.bin .add false (.bin .mul false (.bin .mul false (.var 2) (.idx (.var 7) (.cst (.int (0))))) (.idx (.var 7) (.cst (.int (0))))) (.bin .mul false (.bin .mul false (.var 3) (.idx (.var 7) (.cst (.int (0))))) (.idx (.var 7) (.cst (.int (1)))))) (.bin .mul false (.bin .mul false (.var 4) (.idx (.var 7) (.cst (.int (1))))) (.idx (.var 7) (.cst (.int (1)))))) (.cmp .ne (.call 17 (.cons (.var 1) (.cons (.var 7) .nil))) (.cst (.str "same"))))) (.cons (.ret (.cst (.bl false))) .nil) .nil) (.cons (.set 8 (.call 22 (.cons (.var 0) (.cons (.ite (.cmp .eq (.call 22 (.cons (.var 0) (.cons (.cst (.int (2))) .nil))) (.cst (.int (0)))) (.cst (.int (20))) (.cst (.int (61)))) .nil)))) (.cons (.par 9 10 (.call 20 (.cons (.var 1) (.cons (.var 8) .nil))) (.cst (.int (1)))) (.cons (.for_ (.nm 11) (.rng (.cst (.int 0)) (.var 8)) (.cons (.set 10 (.bin .mul false (.cst (.int (10))) (.var 10))) .nil)) (.cons (.ite (.or (.cmp .ne (.call 23 (.cons (.var 9) .nil)) (.cst (.int (2)))) (.or (.cmp .eq (.call 31 (.cons (.var 1) (.cons (.var 9) (.cons (.var 10) .nil)))) (.cst (.str "less"))) (.cmp .ne (.call 31 (.cons (.var 1) (.cons (.bin .add false (.var 9) (.cst (.int (1)))) (.cons (.var 10) .nil)))) (.cst (.str "less"))))) (.cons (.ret (.cst (.bl false))) .nil) .nil) (.cons (.for_ (.tp [12, 13]) (.seq (.tup (.cons (.tup (.cons (.var 9) (.cons (.var 10) .nil))) (.cons (.tup (.cons (.bin .add false (.var 9) (.cst (.int (1)))) (.cons (.var 10) .nil))) (.cons (.tup (.cons (.bin .sub false (.call 22 (.cons (.var 0) (.cons (.cst (.int (41))) .nil))) (.cst (.int (20)))) (.cons (.bin .add false (.cst (.int (1))) (.call 22 (.cons (.var 0) (.cons (.cst (.int (20))) .nil)))) .nil))) (.cons (.tup (.cons (.cst (.int (0))) (.cons (.cst (.int (1))) .nil))) .nil)))))) (.cons (.set 14 (.call 25 (.cons (.var 12) (.cons (.var 13) .nil)))) (.cons (.ite (.and (.cmp .lt (.blt .max false (.cons (.blt .abs false (.cons (.idx (.var 14) (.cst (.int (0)))) .nil)) (.cons (.idx (.var 14) (.cst (.int (1)))) .nil))) (.bin .pow false (.cst (.int (10))) (.cst (.int (40))))) (.not (.call 24 (.cons (.call 17 (.cons (.var 1) (.cons (.var 14) .nil))) (.cons (.call 31 (.cons (.var 1) (.cons (.var 12) (.cons (.var 13) .nil)))) .nil))))) (.cons (.ret (.cst (.bl false))) .nil) .nil) .nil))) (.cons (.set 15 (.call 22 (.cons (.var 0) (.cons (.cst (.int (3))) .nil)))) (.cons (.set 16 (.lst true (.cons (.var 1) (.cons (.blt .list false (.cons (.var 1) .nil)) (.cons (.slc (.var 1) false true (.cst .non) (.cst (.int (2)))) (.cons (.bin .add false (.var 1) (.tup (.cons (.cst (.int (1))) .nil))) (.cons (.cst .non) (.cons (.tup .nil) (.cons (.cst (.int (5))) (.cons (.tup (.cons (.bin .mul false (.cst (.int (2))) (.var 2)) (.cons (.bin .mul false (.cst (.int (2))) (.var 3)) (.cons (.bin .mul false (.cst (.int (2))) (.var 4)) .nil)))) (.cons (.tup (.cons (.var 2) (.cons (.var 3) (.cons (.neg (.var 4)) .nil)))) (.cons (.tup (.cons (.neg (.var 2)) (.cons (.var 3) (.cons (.var 4) .nil)))) (.cons (.tup (.cons (.cst (.int (0))) (.cons (.var 3) (.cons (.var 4) .nil)))) (.cons (.tup (.cons (.var 2) (.cons (.var 3) (.cons (.cst (.int (0))) .nil)))) .nil)))))))))))))) (.cons (.for_ (.nm 17) (.seq (.tup (.cons (.cst .non) (.cons (.cst (.bl true)) (.cons (.cst (.str "1")) (.cons (.bin .pow false (.cst (.int (10))) (.cst (.int (40)))) (.cons (.tup (.cons (.cst (.int (1))) (.cons (.cst (.int (1))) .nil))) (.cons (.bin .add false (.idx (.var 1) (.var 15)) (.cst (.int (1)))) .nil)))))))) (.cons (.exp (.app (.var 16) (.bin .add false (.bin .add false (.slc (.var 1) false true (.cst .non) (.var 15)) (.tup (.cons (.var 17) .nil))) (.slc (.var 1) true false (.bin .add false (.var 15) (.cst (.int (1)))) (.cst .non))))) .nil)) (.cons (.ret (.cmp .eq (.lc false [18] (.nm 18) (.seq (.var 16)) (.cons (.not (.call 24 (.cons (.call 16 (.cons (.var 18) .nil)) (.cons (.call 29 (.cons (.var 18) .nil)) .nil)))) .nil) (.var 18)) (.lst false .nil))) .nil)))))))))))))))
def m__law_compared_right : Ss := (.cons (.set 2 (.dsp [("less", "greater"), ("greater", "less"), ("same", "same")])) (.cons (.set 3 (.call 18 (.cons (.var 0) (.cons (.var 1) .nil)))) (.cons (.ite (.or (.din true (.var 3) (.var 2)) (.not (.call 24 (.cons (.lst false (.cons (.call 18 (.cons (.var 1) (.cons (.var 0) .nil))) (.cons (.call 18 (.cons (.var 0) (.cons (.var 0) .nil))) .nil))) (.cons (.lst false (.cons (.dget (.var 2) (.var 3)) (.cons (.cst (.str "same")) .nil))) .nil))))) (.cons (.ret (.cst (.bl false))) .nil) .nil) (.cons (.par 4 5 (.call 20 (.cons (.var 0) (.cons (.cst (.int (60))) .nil))) (.call 20 (.cons (.var 1) (.cons (.cst (.int (60))) .nil)))) (.cons (.ite (.cmp .ne (.var 4) (.var 5)) (.cons (.ret (.cmp .eq (.var 3) (.ite (.cmp .lt (.var 4) (.var 5)) (.cst (.str "less")) (.cst (.str "greater"))))) .nil) .nil) (.cons (.asg (.tp [6, 7, 8]) (.var 0)) (.cons (.asg (.tp [9, 10, 11]) (.var 1)) (.cons (.par 12 13 (.bin .sub false (.bin .mul false (.var 6) (.var 10)) (.bin .mul false (.var 9) (.var 7))) (.bin .sub false (.bin .mul false (.var 9) (.var 8)) (.bin .mul false (.var 6) (.var 11)))) (.cons (.ite (.cmp .eq (.var 12) (.cst (.int (0)))) (.cons (.ret (.cmp .eq (.var 3) (.ite (.cmp .eq (.var 13) (.cst (.int (0)))) (.cst (.str "same")) (.ite (.cmp .gt (.var 13) (.cst (.int (0)))) (.cst (.str "greater")) (.cst (.str "less")))))) .nil) .nil) (.cons (.asg (.tp [14, 15]) (.call 25 (.cons (.neg (.var 13)) (.cons (.var 12) .nil)))) (.cons (.ret (.cmp .eq (.cmp .eq (.var 3) (.cst (.str "same"))) (.cmp .eq (.call 31 (.cons (.var 0) (.cons (.var 14) (.cons (.var 15) .nil)))) (.cst (.str "same"))))) .nil)))))))))))
def m_law : Ss := (.cons (.set 1 (.call 21 (.cons (.var 0) .nil))) (.cons (.set 2 (.lc false [17] (.nm 17) (.seq (.tup (.cons (.tup (.cons (.cst (.int (1))) (.cons (.neg (.cst (.int (1)))) (.cons (.cst (.int (1))) .nil)))) (.cons (.tup (.cons (.cst (.int (2))) (.cons (.cst (.int (0))) (.cons (.cst (.int (2))) .nil)))) (.cons (.tup (.cons (.cst (.int (1))) (.cons (.cst (.int (3))) (.cons (.cst (.int (0))) .nil)))) .nil))))) .nil (.call 16 (.cons (.var 17) .nil)))) (.cons (.set 2 (.bin .add false (.var 2) (.lst false (.cons (.call 17 (.cons (.tup (.cons (.cst (.int (1))) (.cons (.neg (.cst (.int (1)))) (.cons (.cst (.int (1))) .nil)))) (.cons (.tup (.cons (.cst (.int (8))) (.cons (.cst (.int (5))) .nil))) .nil))) (.cons (.call 17 (.cons (.tup (.cons (.cst (.int (1))) (.cons (.cst (.int (0))) (.cons (.cst (.int (4))) .nil)))) (.cons (.tup (.cons (.cst (.int (2))) (.cons (.cst (.int (1))) .nil))) .nil))) .nil))))) (.cons (.set 2 (.bin .add false (.var 2) (.lst false (.cons (.call 17 (.cons (.tup (.cons (.cst (.int (1))) (.cons (.cst (.int (0))) (.cons (.cst (.int (2))) .nil)))) (.cons (.tup (.cons (.neg (.cst (.int (5)))) (.cons (.cst (.int (1))) .nil))) .nil))) (.cons (.call 18 (.cons (.tup (.cons (.cst (.int (1))) (.cons (.neg (.cst (.int (1)))) (.cons (.cst (.int (1))) .nil)))) (.cons (.tup (.cons (.cst (.int (1))) (.cons (.cst (.int (0))) (.cons (.cst (.int (2))) .nil)))) .nil))) (.cons (.call 18 (.cons (.tup (.cons (.cst (.int (1))) (.cons (.cst (.int (0))) (.cons (.cst (.int (4))) .nil)))) (.cons (.tup (.cons (.cst (.int (2))) (.cons (.neg (.cst (.int (1)))) (.cons (.cst (.int (6))) .nil)))) .nil))) .nil)))))) (.cons (.ite (.not (.call 24 (.cons (.var 2) (.cons (.lst false (.cons (.cst (.bl true)) (.cons (.cst (.bl false)) (.cons (.cst (.bl false)) (.cons (.cst (.str "greater")) (.cons (.cst (.str "same")) (.cons (.cst (.str "greater")) (.cons (.cst (.str "greater")) (.cons (.cst (.str "same")) .nil))))))))) .nil)))) (.cons (.ret (.cst (.bl false))) .nil) .nil) (.cons (.set 2 (.lst false (.cons (.call 19 (.cons (.tup (.cons (.cst (.int (1))) (.cons (.cst (.int (0))) (.cons (.cst (.int (4))) .nil)))) .nil)) (.cons (.call 19 (.cons (.tup (.cons (.cst (.int (1))) (.cons (.cst (.int (0))) (.cons (.cst (.int (2))) .nil)))) .nil)) (.cons (.call 19 (.cons (.tup (.cons (.cst (.int (2))) (.cons (.cst (.int (1))) (.cons (.cst (.int (3))) .nil)))) .nil)) (.cons (.call 20 (.cons (.tup (.cons (.cst (.int (1))) (.cons (.cst (.int (0))) (.cons (.cst (.int (2))) .nil)))) (.cons (.cst (.int (5))) .nil))) (.cons (.call 20 (.cons (.tup (.cons (.cst (.int (1))) (.cons (.neg (.cst (.int (1)))) (.cons (.cst (.int (1))) .nil)))) (.cons (.cst (.int (10))) .nil))) .nil))))))) (.cons (.ite (.not (.call 24 (.cons (.bin .add false (.var 2) (.lst false (.cons (.call 20 (.cons (.tup (.cons (.cst (.int (1))) (.cons (.cst (.int (0))) (.cons (.cst (.int (4))) .nil)))) (.cons (.cst (.int (0))) .nil))) .nil))) (.cons (.lst false (.cons (.tup (.cons (.cst (.int (2))) (.cons (.cst (.int (1))) .nil))) (.cons (.cst .non) (.cons (.tup (.cons (.cst (.int (1))) (.cons (.cst (.int (1))) .nil))) (.cons (.cst (.int (141421))) (.cons (.cst (.int (16180339887))) (.cons (.cst (.int (2))) .nil))))))) .nil)))) (.cons (.ret (.cst (.bl false))) .nil) .nil) (.cons (.for_ (.nm 3) (.seq (.tup (.cons (.cst (.int (3))) (.cons (.cst (.int (20))) (.cons (.bin .pow false (.cst (.int (10))) (.cst (.int (6)))) (.cons (.bin .pow false (.cst (.int (10))) (.cst (.int (20)))) .nil)))))) (.cons (.ite (.not (.call 32 (.cons (.var 1) (.cons (.call 28 (.cons (.var 1) (.cons (.var 3) .nil))) .nil)))) (.cons (.ret (.cst (.bl false))) .nil) .nil) .nil)) (.cons (.asg (.tp [4, 5]) (.call 25 (.cons (.bin .add false (.cst (.int (1))) (.call 22 (.cons (.var 1) (.cons (.cst (.int (40))) .nil)))) (.cons (.bin .add false (.cst (.int (1))) (.call 22 (.cons (.var 1) (.cons (.cst (.int (20))) .nil)))) .nil)))) (.cons (.for_ (.nm 6) (.rng (.cst (.int 0)) (.cst (.int (2)))) (.cons (.asg (.tp [7, 8]) (.call 25 (.cons (.bin .add false (.cst (.int (1))) (.call 22 (.cons (.var 1) (.cons (.cst (.int (40))) .nil)))) (.cons (.bin .add false (.cst (.int (1))) (.call 22 (.cons (.var 1) (.cons (.cst (.int (20))) .nil)))) .nil)))) (.cons (.set 9 (.call 27 (.cons (.bin .mul false (.var 5) (.var 8)) (.cons (.bin .sub false (.bin .mul false (.var 5) (.var 7)) (.bin .mul false (.var 4) (.var 8))) (.cons (.bin .mul false (.var 4) (.var 7)) .nil))))) (.cons (.ite (.or (.not (.call 32 (.cons (.var 1) (.cons (.var 9) .nil)))) (.not (.call 24 (.cons (.call 19 (.cons (.var 9) .nil)) (.cons (.tup (.cons (.var 4) (.cons (.var 5) .nil))) .nil))))) (.cons (.ret (.cst (.bl false))) .nil) .nil) (.cons (.ite (.or (.not (.call 33 (.cons (.var 9) (.cons (.call 27 (.cons (.cst (.int (1))) (.cons (.cst (.int (0))) (.cons (.cst (.int (1))) .nil)))) .nil)))) (.not (.call 24 (.cons (.call 18 (.cons (.var 9) (.cons (.call 27 (.cons (.bin .mul false (.var 5) (.var 5)) (.cons (.cst (.int (0))) (.cons (.bin .mul false (.var 4) (.var 4)) .nil)))) .nil))) (.cons (.cst (.str "same")) .nil))))) (.cons (.ret (.cst (.bl false))) .nil) .nil) .nil))))) (.cons (.par 10 11 (.call 28 (.cons (.var 1) (.cons (.cst (.int (9))) .nil))) (.call 28 (.cons (.var 1) (.cons (.cst (.int (9))) .nil)))) (.cons (.set 12 (.lst true .nil)) (.cons (.for_ (.nm 13) (.seq (.tup (.cons (.bin .pow false (.cst (.int (10))) (.cst (.int (6)))) (.cons (.bin .pow false (.cst (.int (10))) (.cst (.int (15)))) (.cons (.bin .pow false (.cst (.int (10))) (.cst (.int (25)))) .nil))))) (.cons (.exp (.app (.var 12) (.call 27 (.cons (.bin .sub false (.bin .add false (.bin .mul false (.idx (.var 10) (.cst (.int (0)))) (.var 13)) (.call 22 (.cons (.var 1) (.cons (.cst (.int (3))) .nil)))) (.cst (.int (1)))) (.cons (.bin .sub false (.bin .add false (.bin .mul false (.idx (.var 10) (.cst (.int (1)))) (.var 13)) (.call 22 (.cons (.var 1) (.cons (.cst (.int (3))) .nil)))) (.cst (.int (1)))) (.cons (.bin .add false (.bin .mul false (.idx (.var 10) (.cst (.int (2)))) (.var 13)) (.call 22 (.cons (.var 1) (.cons (.cst (.int (3))) .nil)))) .nil)))))) .nil)) (.cons (.for_ (.nm 14) (.seq (.bin .add false (.var 12) (.lst false (.cons (.var 11) (.cons (.var 10) (.cons (.call 28 (.cons (.var 1) (.cons (.bin .pow false (.cst (.int (10))) (.cst (.int (9)))) .nil))) (.cons (.call 28 (.cons (.var 1) (.cons (.bin .pow false (.cst (.int (10))) (.cst (.int (30)))) .nil))) .nil))))))) (.cons (.ite (.not (.call 33 (.cons (.var 10) (.cons (.var 14) .nil)))) (.cons (.ret (.cst (.bl false))) .nil) .nil) .nil)) (.cons (.set 15 (.bin .add false (.cst (.int (1))) (.call 22 (.cons (.var 1) (.cons (.bin .pow false (.cst (.int (10))) (.cst (.int (12)))) .nil))))) (.cons (.set 16 (.call 30 (.cons (.var 15) .nil))) (.cons (.set 2 (.lst false (.cons (.call 19 (.cons (.tup (.cons (.cst (.int (1))) (.cons (.cst (.int (0))) (.cons (.var 15) .nil)))) .nil)) (.cons (.call 20 (.cons (.tup (.cons (.cst (.int (1))) (.cons (.cst (.int (0))) (.cons (.var 15) .nil)))) (.cons (.cst (.int (0))) .nil))) (.cons (.call 20 (.cons (.tup (.cons (.cst (.int (1))) (.cons (.cst (.int (0))) (.cons (.bin .mul false (.cst (.int (100))) (.var 15)) .nil)))) (.cons (.cst (.int (7))) .nil))) .nil))))) (.cons (.ret (.call 24 (.cons (.var 2) (.cons (.lst false (.cons (.ite (.cmp .eq (.bin .mul false (.var 16) (.var 16)) (.var 15)) (.tup (.cons (.var 16) (.cons (.cst (.int (1))) .nil))) (.cst .non)) (.cons (.var 16) (.cons (.call 20 (.cons (.tup (.cons (.cst (.int (1))) (.cons (.cst (.int (0))) (.cons (.var 15) .nil)))) (.cons (.cst (.int (8))) .nil))) .nil)))) .nil)))) .nil))))))))))))))))))
def prog : List Fn := [⟨1, 1, false, m_is_integer⟩,
  ⟨3, 3, false, m_is_whole⟩,
  ⟨3, 3, false, m_need_whole⟩,
  ⟨3, 3, false, m_is_tuple_of⟩,
  ⟨2, 2, false, m_divisor_of⟩,
  ⟨3, 2, false, m_lowest⟩,
  ⟨2, 1, false, m_fits_fraction⟩,
  ⟨1, 1, false, m_need_fraction⟩,
  ⟨6, 2, false, m_fits_end⟩,
  ⟨1, 1, false, m_need_end⟩,
  ⟨1, 1, false, m_sign_of⟩,
  ⟨7, 2, false, m_beside_in⟩,
  ⟨10, 2, false, m_compared⟩,
  ⟨4, 1, false, m_root_below⟩,
  ⟨3, 1, false, m_power_of_ten⟩,
  ⟨6, 2, false, m_below_in⟩,
  ⟨1, 1, false, m_is_end_number⟩,
  ⟨2, 2, false, m_end_beside⟩,
  ⟨2, 2, false, m_compare_ends⟩,
  ⟨6, 1, false, m_end_as_fraction⟩,
  ⟨2, 2, false, m_end_below⟩,
  ⟨2, 1, true, m__law_cup⟩,
  ⟨4, 2, false, m__law_roll⟩,
  ⟨1, 1, false, m__law_sort⟩,
  ⟨5, 2, false, m__law_like⟩,
  ⟨5, 2, false, m__law_least⟩,
  ⟨2, 2, false, m__law_divisor⟩,
  ⟨4, 3, false, m__law_plain⟩,
  ⟨2, 2, false, m__law_drawn⟩,
  ⟨2, 1, false, m__law_is_end⟩,
  ⟨4, 1, false, m__law_below⟩,
  ⟨4, 3, false, m__law_beside⟩,
  ⟨19, 2, false, m__law_right⟩,
  ⟨16, 2, false, m__law_compared_right⟩,
  ⟨18, 1, false, m_law⟩]
def names : List Str := [Str.ofString "is_integer", Str.ofString "is_whole", Str.ofString "need_whole", Str.ofString "is_tuple_of", Str.ofString "divisor_of", Str.ofString "lowest", Str.ofString "fits_fraction", Str.ofString "need_fraction", Str.ofString "fits_end", Str.ofString "need_end", Str.ofString "sign_of", Str.ofString "beside_in", Str.ofString "compared", Str.ofString "root_below", Str.ofString "power_of_ten", Str.ofString "below_in", Str.ofString "is_end_number", Str.ofString "end_beside", Str.ofString "compare_ends", Str.ofString "end_as_fraction", Str.ofString "end_below", Str.ofString "_law_cup", Str.ofString "_law_roll", Str.ofString "_law_sort", Str.ofString "_law_like", Str.ofString "_law_least", Str.ofString "_law_divisor", Str.ofString "_law_plain", Str.ofString "_law_drawn", Str.ofString "_law_is_end", Str.ofString "_law_below", Str.ofString "_law_beside", Str.ofString "_law_right", Str.ofString "_law_compared_right", Str.ofString "law"]
def consts : List (Str × PV) := [("DIGITS", k_DIGITS), ("FIGURES", k_FIGURES)]
def blts : List Str := ["isinstance", "bool", "int", "len", "tuple", "abs", "all", "range", "list", "str", "zip", "max"]
abbrev s_is_integer : Stmt := topS 7
theorem sc_is_integer : FnScope ["value"] ["value"] (defScope s_is_integer) := ⟨rfl, rfl, rfl, by decide +kernel, rfl, by decide +kernel, by decide +kernel⟩
abbrev s_is_whole : Stmt := topS 8
theorem sc_is_whole : FnScope ["value", "low", "high"] ["value", "low", "high"] (defScope s_is_whole) := ⟨rfl, rfl, rfl, by decide +kernel, rfl, by decide +kernel, by decide +kernel⟩
abbrev s_need_whole : Stmt := topS 9
theorem sc_need_whole : FnScope ["value", "low", "high"] ["value", "low", "high"] (defScope s_need_whole) := ⟨rfl, rfl, rfl, by decide +kernel, rfl, by decide +kernel, by decide +kernel⟩
abbrev s_is_tuple_of : Stmt := topS 10
theorem sc_is_tuple_of : FnScope ["value", "low", "high"] ["value", "low", "high"] (defScope s_is_tuple_of) := ⟨rfl, rfl, rfl, by decide +kernel, rfl, by decide +kernel, by decide +kernel⟩
abbrev s_divisor_of : Stmt := topS 11
theorem sc_divisor_of : FnScope ["one", "other"] ["one", "other"] (defScope s_divisor_of) := ⟨rfl, rfl, rfl, by decide +kernel, rfl, by decide +kernel, by decide +kernel⟩
abbrev s_lowest : Stmt := topS 12
theorem sc_lowest : FnScope ["above", "below", "part"] ["above", "below"] (defScope s_lowest) := ⟨rfl, rfl, rfl, by decide +kernel, rfl, by decide +kernel, by decide +kernel⟩
abbrev s_fits_fraction : Stmt := topS 13
theorem sc_fits_fraction : FnScope ["value", "number"] ["value"] (defScope s_fits_fraction) := ⟨rfl, rfl, rfl, by decide +kernel, rfl, by decide +kernel, by decide +kernel⟩
abbrev s_need_fraction : Stmt := topS 14
theorem sc_need_fraction : FnScope ["value"] ["value"] (defScope s_need_fraction) := ⟨rfl, rfl, rfl, by decide +kernel, rfl, by decide +kernel, by decide +kernel⟩
abbrev s_fits_end : Stmt := topS 18
theorem sc_fits_end : FnScope ["value", "most", "x", "y", "z", "number"] ["value", "most"] (defScope s_fits_end) := ⟨rfl, rfl, rfl, by decide +kernel, rfl, by decide +kernel, by decide +kernel⟩
abbrev s_need_end : Stmt := topS 19
theorem sc_need_end : FnScope ["end"] ["end"] (defScope s_need_end) := ⟨rfl, rfl, rfl, by decide +kernel, rfl, by decide +kernel, by decide +kernel⟩
abbrev s_sign_of : Stmt := topS 20
theorem sc_sign_of : FnScope ["number"] ["number"] (defScope s_sign_of) := ⟨rfl, rfl, rfl, by decide +kernel, rfl, by decide +kernel, by decide +kernel⟩
abbrev s_beside_in : Stmt := topS 21
theorem sc_beside_in : FnScope ["end", "fraction", "x", "y", "z", "above", "below"] ["end", "fraction"] (defScope s_beside_in) := ⟨rfl, rfl, rfl, by decide +kernel, rfl, by decide +kernel, by decide +kernel⟩
abbrev s_compared : Stmt := topS 22
theorem sc_compared : FnScope ["one", "other", "x", "y", "z", "u", "v", "w", "line", "rest"] ["one", "other"] (defScope s_compared) := ⟨rfl, rfl, rfl, by decide +kernel, rfl, by decide +kernel, by decide +kernel⟩
abbrev s_root_below : Stmt := topS 23
theorem sc_root_below : FnScope ["number", "low", "high", "middle"] ["number"] (defScope s_root_below) := ⟨rfl, rfl, rfl, by decide +kernel, rfl, by decide +kernel, by decide +kernel⟩
abbrev s_power_of_ten : Stmt := topS 24
theorem sc_power_of_ten : FnScope ["digits", "found", "digit"] ["digits"] (defScope s_power_of_ten) := ⟨rfl, rfl, rfl, by decide +kernel, rfl, by decide +kernel, by decide +kernel⟩
abbrev s_below_in : Stmt := topS 25
theorem sc_below_in : FnScope ["end", "times", "x", "y", "z", "found"] ["end", "times"] (defScope s_below_in) := ⟨rfl, rfl, rfl, by decide +kernel, rfl, by decide +kernel, by decide +kernel⟩
abbrev s_is_end_number : Stmt := topS 26
theorem sc_is_end_number : FnScope ["value"] ["value"] (defScope s_is_end_number) := ⟨rfl, rfl, rfl, by decide +kernel, rfl, by decide +kernel, by decide +kernel⟩
abbrev s_end_beside : Stmt := topS 27
theorem sc_end_beside : FnScope ["end", "fraction"] ["end", "fraction"] (defScope s_end_beside) := ⟨rfl, rfl, rfl, by decide +kernel, rfl, by decide +kernel, by decide +kernel⟩
abbrev s_compare_ends : Stmt := topS 28
theorem sc_compare_ends : FnScope ["one", "other"] ["one", "other"] (defScope s_compare_ends) := ⟨rfl, rfl, rfl, by decide +kernel, rfl, by decide +kernel, by decide +kernel⟩
abbrev s_end_as_fraction : Stmt := topS 29
theorem sc_end_as_fraction : FnScope ["end", "x", "y", "z", "square", "root"] ["end"] (defScope s_end_as_fraction) := ⟨rfl, rfl, rfl, by decide +kernel, rfl, by decide +kernel, by decide +kernel⟩
abbrev s_end_below : Stmt := topS 30
theorem sc_end_below : FnScope ["end", "digits"] ["end", "digits"] (defScope s_end_below) := ⟨rfl, rfl, rfl, by decide +kernel, rfl, by decide +kernel, by decide +kernel⟩
abbrev s__law_cup : Stmt := topS 32
theorem sc__law_cup : FnScope ["script", "cell"] ["script"] (defScope s__law_cup) := ⟨rfl, rfl, rfl, by decide +kernel, rfl, by decide +kernel, by decide +kernel⟩
abbrev s__law_roll : Stmt := topS 33
theorem sc__law_roll : FnScope ["cup", "many", "found", "deep"] ["cup", "many"] (defScope s__law_roll) := ⟨rfl, rfl, rfl, by decide +kernel, rfl, by decide +kernel, by decide +kernel⟩
abbrev s__law_sort : Stmt := topS 34
theorem sc__law_sort : FnScope ["value"] ["value"] (defScope s__law_sort) := ⟨rfl, rfl, rfl, by decide +kernel, rfl, by decide +kernel, by decide +kernel⟩
abbrev s__law_like : Stmt := topS 35
theorem sc__law_like : FnScope ["one", "other", "sort", "first", "second"] ["one", "other"] (defScope s__law_like) := ⟨rfl, rfl, rfl, by decide +kernel, rfl, by decide +kernel, by decide +kernel⟩
abbrev s__law_least : Stmt := topS 36
theorem sc__law_least : FnScope ["above", "below", "one", "other", "sign"] ["above", "below"] (defScope s__law_least) := ⟨rfl, rfl, rfl, by decide +kernel, rfl, by decide +kernel, by decide +kernel⟩
abbrev s__law_divisor : Stmt := topS 37
theorem sc__law_divisor : FnScope ["one", "other"] ["one", "other"] (defScope s__law_divisor) := ⟨rfl, rfl, rfl, by decide +kernel, rfl, by decide +kernel, by decide +kernel⟩
abbrev s__law_plain : Stmt := topS 38
theorem sc__law_plain : FnScope ["x", "y", "z", "part"] ["x", "y", "z"] (defScope s__law_plain) := ⟨rfl, rfl, rfl, by decide +kernel, rfl, by decide +kernel, by decide +kernel⟩
abbrev s__law_drawn : Stmt := topS 39
theorem sc__law_drawn : FnScope ["cup", "size"] ["cup", "size"] (defScope s__law_drawn) := ⟨rfl, rfl, rfl, by decide +kernel, rfl, by decide +kernel, by decide +kernel⟩
abbrev s__law_is_end : Stmt := topS 40
theorem sc__law_is_end : FnScope ["value", "one"] ["value"] (defScope s__law_is_end) := ⟨rfl, rfl, rfl, by decide +kernel, rfl, by decide +kernel, by decide +kernel⟩
abbrev s__law_below : Stmt := topS 41
theorem sc__law_below : FnScope ["number", "low", "high", "middle"] ["number"] (defScope s__law_below) := ⟨rfl, rfl, rfl, by decide +kernel, rfl, by decide +kernel, by decide +kernel⟩
abbrev s__law_beside : Stmt := topS 42
theorem sc__law_beside : FnScope ["end", "above", "below", "worth"] ["end", "above", "below"] (defScope s__law_beside) := ⟨rfl, rfl, rfl, by decide +kernel, rfl, by decide +kernel, by decide +kernel⟩
abbrev s__law_right : Stmt := topS 43
theorem sc__law_right : FnScope ["cup", "end", "x", "y", "z", "square", "root", "due", "digits", "told", "power", "turn", "above", "below", "fraction", "at", "values", "odd", "value"] ["cup", "end"] (defScope s__law_right) := ⟨rfl, rfl, rfl, by decide +kernel, rfl, by decide +kernel, by decide +kernel⟩
abbrev s__law_compared_right : Stmt := topS 44
theorem sc__law_compared_right : FnScope ["one", "other", "words", "told", "first", "second", "x", "y", "z", "u", "v", "w", "line", "rest", "above", "below"] ["one", "other"] (defScope s__law_compared_right) := ⟨rfl, rfl, rfl, by decide +kernel, rfl, by decide +kernel, by decide +kernel⟩
abbrev s_law : Stmt := topS 45
theorem sc_law : FnScope ["script", "cup", "told", "size", "p", "q", "turn", "r", "s", "end", "one", "other", "near", "far", "some", "whole", "root", "own"] ["script"] (defScope s_law) := ⟨rfl, rfl, rfl, by decide +kernel, rfl, by decide +kernel, by decide +kernel⟩
section
variable {P : Program} {w : World} {K : PySem.W.Frag} {mg : Str → Option Value} {base : Heap} {W k : Nat}
theorem b_is_integer (T : Top P w K mg base prog W k names consts blts) (f : Addr) (cdv : Value) (A : Around) (outer : List PySem.Env) (s : Shared) (H : Hp) (E : XK) (hr : Room k (A.deeper (envOfC "is_integer" (defScope s_is_integer) s.heap.objs.size f cdv))) :
    PSs (cxOf CX0 P w K mg base ["value"] "is_integer" (defScope s_is_integer) f cdv A outer s H E).nox (defBody s_is_integer) (tSs K (callN prog W k) W m_is_integer) :=
  (ss_cons (s_ret (i_and (i_isi (T := .int) rfl (T.blt 0 _ rfl) rfl (T.blt 2 _ rfl) bb_int (i_var 0)) (i_one (i_not (i_isi (T := .bool) rfl (T.blt 0 _ rfl) rfl (T.blt 1 _ rfl) bb_bool (i_var 0))))))
  ss_nil)
theorem b_is_whole (T : Top P w K mg base prog W k names consts blts) (f : Addr) (cdv : Value) (A : Around) (outer : List PySem.Env) (s : Shared) (H : Hp) (E : XK) (hr : Room k (A.deeper (envOfC "is_whole" (defScope s_is_whole) s.heap.objs.size f cdv))) :
    PSs (cxOf CX0 P w K mg base ["value", "low", "high"] "is_whole" (defScope s_is_whole) f cdv A outer s H E).nox (defBody s_is_whole) (tSs K (callN prog W k) W m_is_whole) :=
  (ss_cons (s_ret (i_and (i_call (T.cal 0 _ rfl) hr rfl (is_cons (i_var 0) is_nil)) (i_one (i_chn o_le o_le (i_var 1) (i_var 0) (i_var 2)))))
  ss_nil)
theorem b_need_whole (T : Top P w K mg base prog W k names consts blts) (f : Addr) (cdv : Value) (A : Around) (outer : List PySem.Env) (s : Shared) (H : Hp) (E : XK) (hr : Room k (A.deeper (envOfC "need_whole" (defScope s_need_whole) s.heap.objs.size f cdv))) :
    PSs (cxOf CX0 P w K mg base ["value", "low", "high"] "need_whole" (defScope s_need_whole) f cdv A outer s H E).nox (defBody s_need_whole) (tSs K (callN prog W k) W m_need_whole) :=
  (ss_cons (s_ite (t_not (t_of (i_call (T.cal 1 _ rfl) hr rfl (is_cons (i_var 0) (is_cons (i_var 1) (is_cons (i_var 2) is_nil)))))) (ss_cons s_rais
  ss_nil) ss_nil)
  ss_nil)
theorem b_is_tuple_of (T : Top P w K mg base prog W k names consts blts) (f : Addr) (cdv : Value) (A : Around) (outer : List PySem.Env) (s : Shared) (H : Hp) (E : XK) (hr : Room k (A.deeper (envOfC "is_tuple_of" (defScope s_is_tuple_of) s.heap.objs.size f cdv))) :
    PSs (cxOf CX0 P w K mg base ["value", "low", "high"] "is_tuple_of" (defScope s_is_tuple_of) f cdv A outer s H E).nox (defBody s_is_tuple_of) (tSs K (callN prog W k) W m_is_tuple_of) :=
  (ss_cons (s_ret (i_and (i_isi (T := .tuple) rfl (T.blt 0 _ rfl) rfl (T.blt 4 _ rfl) bb_tuple (i_var 0)) (i_one (i_chn o_le o_le (i_var 1) (i_bltB (f := false) c_len rfl (T.blt 3 _ rfl) bb_len (is_cons (i_var 0) is_nil)) (i_var 2)))))
  ss_nil)
theorem b_divisor_of (T : Top P w K mg base prog W k names consts blts) (f : Addr) (cdv : Value) (A : Around) (outer : List PySem.Env) (s : Shared) (H : Hp) (E : XK) (hr : Room k (A.deeper (envOfC "divisor_of" (defScope s_divisor_of) s.heap.objs.size f cdv))) :
    PSs (cxOf CX0 P w K mg base ["one", "other"] "divisor_of" (defScope s_divisor_of) f cdv A outer s H E).nox (defBody s_divisor_of) (tSs K (callN prog W k) W m_divisor_of) :=
  (ss_cons (s_par 0 1 rfl sc_divisor_of.nd (is_cons (i_bltB (f := false) c_abs rfl (T.blt 5 _ rfl) bb_abs (is_cons (i_var 0) is_nil)) (is_cons (i_bltB (f := false) c_abs rfl (T.blt 5 _ rfl) bb_abs (is_cons (i_var 1) is_nil)) is_nil)))
  (ss_cons (s_whl PassesOwn.never (t_cmp (o_ne hr.units) (i_var 1) i_int (nomark _)) (ss_cons (s_par 0 1 rfl sc_divisor_of.nd (is_cons (i_var 1) (is_cons (i_bin false o_mod (i_var 0) (i_var 1)) is_nil)))
  ss_nil))
  (ss_cons (s_ret (i_var 0))
  ss_nil)))
theorem b_lowest (T : Top P w K mg base prog W k names consts blts) (f : Addr) (cdv : Value) (A : Around) (outer : List PySem.Env) (s : Shared) (H : Hp) (E : XK) (hr : Room k (A.deeper (envOfC "lowest" (defScope s_lowest) s.heap.objs.size f cdv))) :
    PSs (cxOf CX0 P w K mg base ["above", "below", "part"] "lowest" (defScope s_lowest) f cdv A outer s H E).nox (defBody s_lowest) (tSs K (callN prog W k) W m_lowest) :=
  (ss_cons (s_set 2 sc_lowest.nd (i_bin false o_mul (i_call (T.cal 4 _ rfl) hr rfl (is_cons (i_var 0) (is_cons (i_var 1) is_nil))) (i_ite (t_cmp o_gt (i_var 1) i_int (nomark _)) i_int (i_neg i_int))))
  (ss_cons (s_ret (i_tup (is_cons (i_bin false o_fdiv (i_var 0) (i_var 2)) (is_cons (i_bin false o_fdiv (i_var 1) (i_var 2)) is_nil))))
  ss_nil))
theorem b_fits_fraction (T : Top P w K mg base prog W k names consts blts) (f : Addr) (cdv : Value) (A : Around) (outer : List PySem.Env) (s : Shared) (H : Hp) (E : XK) (hr : Room k (A.deeper (envOfC "fits_fraction" (defScope s_fits_fraction) s.heap.objs.size f cdv))) :
    PSs (cxOf CX0 P w K mg base ["value", "number"] "fits_fraction" (defScope s_fits_fraction) f cdv A outer s H E).nox (defBody s_fits_fraction) (tSs K (callN prog W k) W m_fits_fraction) :=
  (ss_cons (s_ite (t_w (w_or (t_not (t_of (i_call (T.cal 3 _ rfl) hr rfl (is_cons (i_var 0) (is_cons i_int (is_cons i_int is_nil)))))) (w_or1 (t_not (t_of (i_bltB (f := false) (c_all rfl) rfl (T.blt 6 _ rfl) bb_all (is_cons (i_lc (own := [("number", 1)]) false rfl sc_fits_fraction.nd (it_seq (i_var 0)) (blk_ok (N := ["value", "number"]) (sc := defScope s_fits_fraction) (by decide +kernel)) rfl (fun _ _ _ _ _ => (g_nm 1 sc_fits_fraction.nd)) (fun _ _ _ _ _ => cs_nil) (fun _ _ _ _ _ => (i_and (i_call (T.cal 0 _ rfl) hr rfl (is_cons (i_var 1) is_nil)) (i_one (i_chn o_lt o_lt (i_neg (i_con rfl (T.con 0 _ _ rfl))) (i_var 1) (i_con rfl (T.con 0 _ _ rfl))))))) is_nil))))))) (ss_cons (s_ret i_bl)
  ss_nil) ss_nil)
  (ss_cons (s_ret (i_and (i_cmp o_ge (i_idx (i_var 0) i_int) i_int (nomark _)) (i_one (i_cmp (o_eq hr.units) (i_call (T.cal 4 _ rfl) hr rfl (is_cons (i_idx (i_var 0) i_int) (is_cons (i_idx (i_var 0) i_int) is_nil))) i_int (nomark _)))))
  ss_nil))
theorem b_need_fraction (T : Top P w K mg base prog W k names consts blts) (f : Addr) (cdv : Value) (A : Around) (outer : List PySem.Env) (s : Shared) (H : Hp) (E : XK) (hr : Room k (A.deeper (envOfC "need_fraction" (defScope s_need_fraction) s.heap.objs.size f cdv))) :
    PSs (cxOf CX0 P w K mg base ["value"] "need_fraction" (defScope s_need_fraction) f cdv A outer s H E).nox (defBody s_need_fraction) (tSs K (callN prog W k) W m_need_fraction) :=
  (ss_cons (s_ite (t_not (t_of (i_call (T.cal 6 _ rfl) hr rfl (is_cons (i_var 0) is_nil)))) (ss_cons s_rais
  ss_nil) ss_nil)
  ss_nil)
theorem b_fits_end (T : Top P w K mg base prog W k names consts blts) (f : Addr) (cdv : Value) (A : Around) (outer : List PySem.Env) (s : Shared) (H : Hp) (E : XK) (hr : Room k (A.deeper (envOfC "fits_end" (defScope s_fits_end) s.heap.objs.size f cdv))) :
    PSs (cxOf CX0 P w K mg base ["value", "most", "x", "y", "z", "number"] "fits_end" (defScope s_fits_end) f cdv A outer s H E).nox (defBody s_fits_end) (tSs K (callN prog W k) W m_fits_end) :=
  (ss_cons (s_ite (t_w (w_or (t_not (t_of (i_call (T.cal 3 _ rfl) hr rfl (is_cons (i_var 0) (is_cons i_int (is_cons i_int is_nil)))))) (w_or1 (t_not (t_of (i_bltB (f := false) (c_all rfl) rfl (T.blt 6 _ rfl) bb_all (is_cons (i_lc (own := [("number", 5)]) false rfl sc_fits_end.nd (it_seq (i_var 0)) (blk_ok (N := ["value", "most", "x", "y", "z", "number"]) (sc := defScope s_fits_end) (by decide +kernel)) rfl (fun _ _ _ _ _ => (g_nm 5 sc_fits_end.nd)) (fun _ _ _ _ _ => cs_nil) (fun _ _ _ _ _ => (i_and (i_call (T.cal 0 _ rfl) hr rfl (is_cons (i_var 5) is_nil)) (i_one (i_chn o_lt o_lt (i_neg (i_var 1)) (i_var 5) (i_var 1)))))) is_nil))))))) (ss_cons (s_ret i_bl)
  ss_nil) ss_nil)
  (ss_cons (s_asg (i_var 0) (g_tp rfl (gs_cons 2 sc_fits_end.nd (gs_cons 3 sc_fits_end.nd (gs_cons 4 sc_fits_end.nd gs_nil)))))
  (ss_cons (s_ret (i_and (i_cmp o_gt (i_var 2) i_int (nomark _)) (i_and (i_cmp o_gt (i_var 4) i_int (nomark _)) (i_one (i_cmp (o_eq hr.units) (i_call (T.cal 4 _ rfl) hr rfl (is_cons (i_call (T.cal 4 _ rfl) hr rfl (is_cons (i_var 2) (is_cons (i_var 3) is_nil))) (is_cons (i_var 4) is_nil))) i_int (nomark _))))))
  ss_nil)))
theorem b_need_end (T : Top P w K mg base prog W k names consts blts) (f : Addr) (cdv : Value) (A : Around) (outer : List PySem.Env) (s : Shared) (H : Hp) (E : XK) (hr : Room k (A.deeper (envOfC "need_end" (defScope s_need_end) s.heap.objs.size f cdv))) :
    PSs (cxOf CX0 P w K mg base ["end"] "need_end" (defScope s_need_end) f cdv A outer s H E).nox (defBody s_need_end) (tSs K (callN prog W k) W m_need_end) :=
  (ss_cons (s_ite (t_not (t_of (i_call (T.cal 8 _ rfl) hr rfl (is_cons (i_var 0) (is_cons (i_con rfl (T.con 0 _ _ rfl)) is_nil))))) (ss_cons s_rais
  ss_nil) ss_nil)
  ss_nil)
theorem b_sign_of (T : Top P w K mg base prog W k names consts blts) (f : Addr) (cdv : Value) (A : Around) (outer : List PySem.Env) (s : Shared) (H : Hp) (E : XK) (hr : Room k (A.deeper (envOfC "sign_of" (defScope s_sign_of) s.heap.objs.size f cdv))) :
    PSs (cxOf CX0 P w K mg base ["number"] "sign_of" (defScope s_sign_of) f cdv A outer s H E).nox (defBody s_sign_of) (tSs K (callN prog W k) W m_sign_of) :=
  (ss_cons (s_ret (i_bin false o_sub (i_cmp o_gt (i_var 0) i_int (nomark _)) (i_cmp o_lt (i_var 0) i_int (nomark _))))
  ss_nil)
theorem b_beside_in (T : Top P w K mg base prog W k names consts blts) (f : Addr) (cdv : Value) (A : Around) (outer : List PySem.Env) (s : Shared) (H : Hp) (E : XK) (hr : Room k (A.deeper (envOfC "beside_in" (defScope s_beside_in) s.heap.objs.size f cdv))) :
    PSs (cxOf CX0 P w K mg base ["end", "fraction", "x", "y", "z", "above", "below"] "beside_in" (defScope s_beside_in) f cdv A outer s H E).nox (defBody s_beside_in) (tSs K (callN prog W k) W m_beside_in) :=
  (ss_cons (s_asg (i_var 0) (g_tp rfl (gs_cons 2 sc_beside_in.nd (gs_cons 3 sc_beside_in.nd (gs_cons 4 sc_beside_in.nd gs_nil)))))
  (ss_cons (s_asg (i_var 1) (g_tp rfl (gs_cons 5 sc_beside_in.nd (gs_cons 6 sc_beside_in.nd gs_nil))))
  (ss_cons (s_ite (t_cmp o_le (i_var 5) i_int (nomark _)) (ss_cons (s_ret i_int)
  ss_nil) ss_nil)
  (ss_cons (s_ret (i_neg (i_call (T.cal 10 _ rfl) hr rfl (is_cons (i_bin false o_sub (i_bin false o_add (i_bin false o_mul (i_bin false o_mul (i_var 2) (i_var 5)) (i_var 5)) (i_bin false o_mul (i_bin false o_mul (i_var 3) (i_var 5)) (i_var 6))) (i_bin false o_mul (i_bin false o_mul (i_var 4) (i_var 6)) (i_var 6))) is_nil))))
  ss_nil))))
theorem b_compared (T : Top P w K mg base prog W k names consts blts) (f : Addr) (cdv : Value) (A : Around) (outer : List PySem.Env) (s : Shared) (H : Hp) (E : XK) (hr : Room k (A.deeper (envOfC "compared" (defScope s_compared) s.heap.objs.size f cdv))) :
    PSs (cxOf CX0 P w K mg base ["one", "other", "x", "y", "z", "u", "v", "w", "line", "rest"] "compared" (defScope s_compared) f cdv A outer s H E).nox (defBody s_compared) (tSs K (callN prog W k) W m_compared) :=
  (ss_cons (s_asg (i_var 0) (g_tp rfl (gs_cons 2 sc_compared.nd (gs_cons 3 sc_compared.nd (gs_cons 4 sc_compared.nd gs_nil)))))
  (ss_cons (s_asg (i_var 1) (g_tp rfl (gs_cons 5 sc_compared.nd (gs_cons 6 sc_compared.nd (gs_cons 7 sc_compared.nd gs_nil)))))
  (ss_cons (s_par 8 9 rfl sc_compared.nd (is_cons (i_bin false o_sub (i_bin false o_mul (i_var 2) (i_var 6)) (i_bin false o_mul (i_var 5) (i_var 3))) (is_cons (i_bin false o_sub (i_bin false o_mul (i_var 5) (i_var 4)) (i_bin false o_mul (i_var 2) (i_var 7))) is_nil)))
  (ss_cons (s_ite (t_cmp (o_eq hr.units) (i_var 8) i_int (nomark _)) (ss_cons (s_ret (i_call (T.cal 10 _ rfl) hr rfl (is_cons (i_var 9) is_nil)))
  ss_nil) ss_nil)
  (ss_cons (s_ret (i_bin false o_mul (i_call (T.cal 11 _ rfl) hr rfl (is_cons (i_var 0) (is_cons (i_call (T.cal 5 _ rfl) hr rfl (is_cons (i_neg (i_var 9)) (is_cons (i_var 8) is_nil))) is_nil))) (i_call (T.cal 10 _ rfl) hr rfl (is_cons (i_var 8) is_nil))))
  ss_nil)))))
theorem b_root_below (T : Top P w K mg base prog W k names consts blts) (f : Addr) (cdv : Value) (A : Around) (outer : List PySem.Env) (s : Shared) (H : Hp) (E : XK) (hr : Room k (A.deeper (envOfC "root_below" (defScope s_root_below) s.heap.objs.size f cdv))) :
    PSs (cxOf CX0 P w K mg base ["number", "low", "high", "middle"] "root_below" (defScope s_root_below) f cdv A outer s H E).nox (defBody s_root_below) (tSs K (callN prog W k) W m_root_below) :=
  (ss_cons (s_asg (i_tup (is_cons i_int (is_cons i_int is_nil))) (g_tp rfl (gs_cons 1 sc_root_below.nd (gs_cons 2 sc_root_below.nd gs_nil))))
  (ss_cons (s_whl PassesOwn.never (t_cmp o_le (i_bin false o_mul (i_var 2) (i_var 2)) (i_var 0) (nomark _)) (ss_cons (s_set 2 sc_root_below.nd (i_bin false o_mul i_int (i_var 2)))
  ss_nil))
  (ss_cons (s_whl PassesOwn.never (t_cmp o_gt (i_bin false o_sub (i_var 2) (i_var 1)) i_int (nomark _)) (ss_cons (s_set 3 sc_root_below.nd (i_bin false o_fdiv (i_bin false o_add (i_var 1) (i_var 2)) i_int))
  (ss_cons (s_asg (i_ite (t_cmp o_le (i_bin false o_mul (i_var 3) (i_var 3)) (i_var 0) (nomark _)) (i_tup (is_cons (i_var 3) (is_cons (i_var 2) is_nil))) (i_tup (is_cons (i_var 1) (is_cons (i_var 3) is_nil)))) (g_tp rfl (gs_cons 1 sc_root_below.nd (gs_cons 2 sc_root_below.nd gs_nil))))
  ss_nil)))
  (ss_cons (s_ret (i_var 1))
  ss_nil))))
theorem b_power_of_ten (T : Top P w K mg base prog W k names consts blts) (f : Addr) (cdv : Value) (A : Around) (outer : List PySem.Env) (s : Shared) (H : Hp) (E : XK) (hr : Room k (A.deeper (envOfC "power_of_ten" (defScope s_power_of_ten) s.heap.objs.size f cdv))) :
    PSs (cxOf CX0 P w K mg base ["digits", "found", "digit"] "power_of_ten" (defScope s_power_of_ten) f cdv A outer s H E).nox (defBody s_power_of_ten) (tSs K (callN prog W k) W m_power_of_ten) :=
  (ss_cons (s_set 1 sc_power_of_ten.nd i_int)
  (ss_cons (s_for PassesOwn.never rfl (it_rng1 rfl (T.blt 7 _ rfl) (is_cons (i_var 0) is_nil)) (g_nm 2 sc_power_of_ten.nd) (ss_cons (s_set 1 sc_power_of_ten.nd (i_bin false o_mul i_int (i_var 1)))
  ss_nil))
  (ss_cons (s_ret (i_var 1))
  ss_nil)))
theorem b_below_in (T : Top P w K mg base prog W k names consts blts) (f : Addr) (cdv : Value) (A : Around) (outer : List PySem.Env) (s : Shared) (H : Hp) (E : XK) (hr : Room k (A.deeper (envOfC "below_in" (defScope s_below_in) s.heap.objs.size f cdv))) :
    PSs (cxOf CX0 P w K mg base ["end", "times", "x", "y", "z", "found"] "below_in" (defScope s_below_in) f cdv A outer s H E).nox (defBody s_below_in) (tSs K (callN prog W k) W m_below_in) :=
  (ss_cons (s_asg (i_var 0) (g_tp rfl (gs_cons 2 sc_below_in.nd (gs_cons 3 sc_below_in.nd (gs_cons 4 sc_below_in.nd gs_nil)))))
  (ss_cons (s_set 5 sc_below_in.nd (i_bin false o_fdiv (i_bin false o_sub (i_call (T.cal 13 _ rfl) hr rfl (is_cons (i_bin false o_mul (i_bin false o_mul (i_bin false o_add (i_bin false o_mul (i_var 3) (i_var 3)) (i_bin false o_mul (i_bin false o_mul i_int (i_var 2)) (i_var 4))) (i_var 1)) (i_var 1)) is_nil)) (i_bin false o_mul (i_var 3) (i_var 1))) (i_bin false o_mul i_int (i_var 2))))
  (ss_cons (s_ret (i_var 5))
  ss_nil)))
theorem b_is_end_number (T : Top P w K mg base prog W k names consts blts) (f : Addr) (cdv : Value) (A : Around) (outer : List PySem.Env) (s : Shared) (H : Hp) (E : XK) (hr : Room k (A.deeper (envOfC "is_end_number" (defScope s_is_end_number) s.heap.objs.size f cdv))) :
    PSs (cxOf CX0 P w K mg base ["value"] "is_end_number" (defScope s_is_end_number) f cdv A outer s H E).nox (defBody s_is_end_number) (tSs K (callN prog W k) W m_is_end_number) :=
  (ss_cons (s_ret (i_call (T.cal 8 _ rfl) hr rfl (is_cons (i_var 0) (is_cons (i_con rfl (T.con 0 _ _ rfl)) is_nil))))
  ss_nil)
theorem b_end_beside (T : Top P w K mg base prog W k names consts blts) (t_WORDS : TabAt K mg "WORDS" tb_WORDS) (f : Addr) (cdv : Value) (A : Around) (outer : List PySem.Env) (s : Shared) (H : Hp) (E : XK) (hr : Room k (A.deeper (envOfC "end_beside" (defScope s_end_beside) s.heap.objs.size f cdv))) :
    PSs (cxOf CX0 P w K mg base ["end", "fraction"] "end_beside" (defScope s_end_beside) f cdv A outer s H E).nox (defBody s_end_beside) (tSs K (callN prog W k) W m_end_beside) :=
  (ss_cons (s_exp (ps_expr (i_call (T.cal 9 _ rfl) hr rfl (is_cons (i_var 0) is_nil))))
  (ss_cons (s_exp (ps_expr (i_call (T.cal 7 _ rfl) hr rfl (is_cons (i_var 1) is_nil))))
  (ss_cons (s_ret (i_tab rfl t_WORDS (i_call (T.cal 11 _ rfl) hr rfl (is_cons (i_var 0) (is_cons (i_var 1) is_nil)))))
  ss_nil)))
theorem b_compare_ends (T : Top P w K mg base prog W k names consts blts) (t_WORDS : TabAt K mg "WORDS" tb_WORDS) (f : Addr) (cdv : Value) (A : Around) (outer : List PySem.Env) (s : Shared) (H : Hp) (E : XK) (hr : Room k (A.deeper (envOfC "compare_ends" (defScope s_compare_ends) s.heap.objs.size f cdv))) :
    PSs (cxOf CX0 P w K mg base ["one", "other"] "compare_ends" (defScope s_compare_ends) f cdv A outer s H E).nox (defBody s_compare_ends) (tSs K (callN prog W k) W m_compare_ends) :=
  (ss_cons (s_exp (ps_expr (i_call (T.cal 9 _ rfl) hr rfl (is_cons (i_var 0) is_nil))))
  (ss_cons (s_exp (ps_expr (i_call (T.cal 9 _ rfl) hr rfl (is_cons (i_var 1) is_nil))))
  (ss_cons (s_ret (i_tab rfl t_WORDS (i_call (T.cal 12 _ rfl) hr rfl (is_cons (i_var 0) (is_cons (i_var 1) is_nil)))))
  ss_nil)))
theorem b_end_as_fraction (T : Top P w K mg base prog W k names consts blts) (f : Addr) (cdv : Value) (A : Around) (outer : List PySem.Env) (s : Shared) (H : Hp) (E : XK) (hr : Room k (A.deeper (envOfC "end_as_fraction" (defScope s_end_as_fraction) s.heap.objs.size f cdv))) :
    PSs (cxOf CX0 P w K mg base ["end", "x", "y", "z", "square", "root"] "end_as_fraction" (defScope s_end_as_fraction) f cdv A outer s H E).nox (defBody s_end_as_fraction) (tSs K (callN prog W k) W m_end_as_fraction) :=
  (ss_cons (s_exp (ps_expr (i_call (T.cal 9 _ rfl) hr rfl (is_cons (i_var 0) is_nil))))
  (ss_cons (s_asg (i_var 0) (g_tp rfl (gs_cons 1 sc_end_as_fraction.nd (gs_cons 2 sc_end_as_fraction.nd (gs_cons 3 sc_end_as_fraction.nd gs_nil)))))
  (ss_cons (s_set 4 sc_end_as_fraction.nd (i_bin false o_add (i_bin false o_mul (i_var 2) (i_var 2)) (i_bin false o_mul (i_bin false o_mul i_int (i_var 1)) (i_var 3))))
  (ss_cons (s_set 5 sc_end_as_fraction.nd (i_call (T.cal 13 _ rfl) hr rfl (is_cons (i_var 4) is_nil)))
  (ss_cons (s_ret (i_ite (t_cmp (o_eq hr.units) (i_bin false o_mul (i_var 5) (i_var 5)) (i_var 4) (nomark _)) (i_call (T.cal 5 _ rfl) hr rfl (is_cons (i_bin false o_sub (i_var 5) (i_var 2)) (is_cons (i_bin false o_mul i_int (i_var 1)) is_nil))) i_non))
  ss_nil)))))
theorem b_end_below (T : Top P w K mg base prog W k names consts blts) (f : Addr) (cdv : Value) (A : Around) (outer : List PySem.Env) (s : Shared) (H : Hp) (E : XK) (hr : Room k (A.deeper (envOfC "end_below" (defScope s_end_below) s.heap.objs.size f cdv))) :
    PSs (cxOf CX0 P w K mg base ["end", "digits"] "end_below" (defScope s_end_below) f cdv A outer s H E).nox (defBody s_end_below) (tSs K (callN prog W k) W m_end_below) :=
  (ss_cons (s_exp (ps_expr (i_call (T.cal 9 _ rfl) hr rfl (is_cons (i_var 0) is_nil))))
  (ss_cons (s_exp (ps_expr (i_call (T.cal 2 _ rfl) hr rfl (is_cons (i_var 1) (is_cons i_int (is_cons (i_con rfl (T.con 1 _ _ rfl)) is_nil))))))
  (ss_cons (s_ret (i_call (T.cal 15 _ rfl) hr rfl (is_cons (i_var 0) (is_cons (i_call (T.cal 14 _ rfl) hr rfl (is_cons (i_var 1) is_nil)) is_nil))))
  ss_nil)))
theorem b__law_cup (T : Top P w K mg base prog W k names consts blts) (f : Addr) (cdv : Value) (A : Around) (outer : List PySem.Env) (s : Shared) (H : Hp) (E : XK) (hr : Room k (A.deeper (envOfC "_law_cup" (defScope s__law_cup) s.heap.objs.size f cdv))) :
    PSs (cxOf CX0 P w K mg base ["script", "cell"] "_law_cup" (defScope s__law_cup) f cdv A outer s H E).nox (defBody s__law_cup) (tSs K (callN prog W k) W m__law_cup) :=
  (ss_cons (s_set 1 sc__law_cup.nd (i_bltB (f := false) c_abs rfl (T.blt 5 _ rfl) bb_abs (is_cons (i_idx (i_bin false o_add (i_bltT (f := false) c_list rfl (T.blt 8 _ rfl) bb_list (is_cons (i_var 0) is_nil)) (i_lst false (is_cons i_int is_nil))) i_int) is_nil)))
  (ss_cons (s_ret (i_lst true (is_cons (i_ite (t_cmp o_ge (i_var 1) (i_bin false o_pow i_int i_int) (nomark _)) (i_bin false o_fdiv (i_var 1) i_int) i_int) (is_cons (i_bin false o_add (i_bin false o_mod (i_bltT (f := false) c_int rfl (T.blt 2 _ rfl) bb_int (is_cons (i_bin false o_add (i_bin false o_mul (i_var 1) i_int) i_int) is_nil)) i_int) i_int) is_nil))))
  ss_nil))
theorem b__law_roll (T : Top P w K mg base prog W k names consts blts) (f : Addr) (cdv : Value) (A : Around) (outer : List PySem.Env) (s : Shared) (H : Hp) (E : XK) (hr : Room k (A.deeper (envOfC "_law_roll" (defScope s__law_roll) s.heap.objs.size f cdv))) :
    PSs (cxOf CX0 P w K mg base ["cup", "many", "found", "deep"] "_law_roll" (defScope s__law_roll) f cdv A outer s H E).nox (defBody s__law_roll) (tSs K (callN prog W k) W m__law_roll) :=
  (ss_cons (s_ite (t_cmp o_gt (i_idx (i_var 0) i_int) i_int (nomark _)) (ss_cons (s_set 2 sc__law_roll.nd (i_bin false o_mod (i_bltT (f := false) c_int rfl (T.blt 2 _ rfl) bb_int (is_cons (i_idx (i_var 0) i_int) is_nil)) (i_var 1)))
  (ss_cons (s_seti (i_bin false o_fdiv (i_idx (i_var 0) i_int) (i_var 1)) (i_var 0) i_int)
  (ss_cons (s_ret (i_var 2))
  ss_nil))) ss_nil)
  (ss_cons (s_seti (i_bin false o_mod (i_bltT (f := false) c_int rfl (T.blt 2 _ rfl) bb_int (is_cons (i_bin false o_add (i_bin false o_mul (i_idx (i_var 0) i_int) i_int) i_int) is_nil)) i_int) (i_var 0) i_int)
  (ss_cons (s_set 3 sc__law_roll.nd (i_bin false o_mod (i_bltT (f := false) c_int rfl (T.blt 2 _ rfl) bb_int (is_cons (i_bin false o_mul (i_idx (i_var 0) i_int) (i_bin false o_add (i_idx (i_var 0) i_int) i_int)) is_nil)) i_int))
  (ss_cons (s_ret (i_bin false o_mod (i_bltT (f := false) c_int rfl (T.blt 2 _ rfl) bb_int (is_cons (i_bin false o_fdiv (i_var 3) i_int) is_nil)) (i_var 1)))
  ss_nil))))
theorem b__law_sort (T : Top P w K mg base prog W k names consts blts) (f : Addr) (cdv : Value) (A : Around) (outer : List PySem.Env) (s : Shared) (H : Hp) (E : XK) (hr : Room k (A.deeper (envOfC "_law_sort" (defScope s__law_sort) s.heap.objs.size f cdv))) :
    PSs (cxOf CX0 P w K mg base ["value"] "_law_sort" (defScope s__law_sort) f cdv A outer s H E).nox (defBody s__law_sort) (tSs K (callN prog W k) W m__law_sort) :=
  (ss_cons (s_ite (t_w (w_or (t_cmp o_is (i_var 0) i_non (nomark _)) (w_or1 (t_of (i_isi (T := .bool) rfl (T.blt 0 _ rfl) rfl (T.blt 1 _ rfl) bb_bool (i_var 0)))))) (ss_cons (s_ret (i_ite (t_cmp o_is (i_var 0) i_non (nomark _)) i_int i_int))
  ss_nil) ss_nil)
  (ss_cons (s_ite (t_w (w_or (t_of (i_isi (T := .int) rfl (T.blt 0 _ rfl) rfl (T.blt 2 _ rfl) bb_int (i_var 0))) (w_or1 (t_of (i_isi (T := .str) rfl (T.blt 0 _ rfl) rfl (T.blt 9 _ rfl) bb_str (i_var 0)))))) (ss_cons (s_ret (i_ite (t_of (i_isi (T := .int) rfl (T.blt 0 _ rfl) rfl (T.blt 2 _ rfl) bb_int (i_var 0))) i_int i_int))
  ss_nil) ss_nil)
  (ss_cons (s_ret (i_ite (t_of (i_isi (T := .tuple) rfl (T.blt 0 _ rfl) rfl (T.blt 4 _ rfl) bb_tuple (i_var 0))) i_int (i_ite (t_of (i_isi (T := .list) rfl (T.blt 0 _ rfl) rfl (T.blt 8 _ rfl) bb_list (i_var 0))) i_int i_int)))
  ss_nil)))
theorem b__law_like (T : Top P w K mg base prog W k names consts blts) (f : Addr) (cdv : Value) (A : Around) (outer : List PySem.Env) (s : Shared) (H : Hp) (E : XK) (hr : Room k (A.deeper (envOfC "_law_like" (defScope s__law_like) s.heap.objs.size f cdv))) :
    PSs (cxOf CX0 P w K mg base ["one", "other", "sort", "first", "second"] "_law_like" (defScope s__law_like) f cdv A outer s H E).nox (defBody s__law_like) (tSs K (callN prog W k) W m__law_like) :=
  (ss_cons (s_set 2 sc__law_like.nd (i_call (T.cal 23 _ rfl) hr rfl (is_cons (i_var 1) is_nil)))
  (ss_cons (s_ite (t_w (w_or (t_cmp (o_ne hr.units) (i_call (T.cal 23 _ rfl) hr rfl (is_cons (i_var 0) is_nil)) (i_var 2) (nomark _)) (w_or1 (t_cmp (o_eq hr.units) (i_var 2) i_int (nomark _))))) (ss_cons (s_ret i_bl)
  ss_nil) ss_nil)
  (ss_cons (s_ite (t_cmp o_in (i_var 2) (i_tup (is_cons i_int (is_cons i_int is_nil))) (by with_unfolding_all rfl)) (ss_cons (s_ret (i_and (i_cmp (o_eq hr.units) (i_bltB (f := false) c_len rfl (T.blt 3 _ rfl) bb_len (is_cons (i_var 0) is_nil)) (i_bltB (f := false) c_len rfl (T.blt 3 _ rfl) bb_len (is_cons (i_var 1) is_nil)) (nomark _)) (i_one (i_cmp (o_eq hr.units) (i_lc (own := [("first", 3), ("second", 4)]) false rfl sc__law_like.nd (it_zip rfl (T.blt 10 _ rfl) (is_cons (i_var 0) (is_cons (i_var 1) is_nil))) (blk_ok (N := ["one", "other", "sort", "first", "second"]) (sc := defScope s__law_like) (by decide +kernel)) rfl (fun _ _ _ _ _ => (g_tp rfl (gs_cons 3 sc__law_like.nd (gs_cons 4 sc__law_like.nd gs_nil)))) (fun _ _ _ _ _ => (cs_one (t_not (t_of (i_call (T.cal 24 _ rfl) hr rfl (is_cons (i_var 3) (is_cons (i_var 4) is_nil))))))) (fun _ _ _ _ _ => i_int)) (i_lst false is_nil) (nomark _)))))
  ss_nil) ss_nil)
  (ss_cons (s_ret (i_cmp (o_eq hr.units) (i_var 0) (i_var 1) (nomark _)))
  ss_nil))))
theorem b__law_least (T : Top P w K mg base prog W k names consts blts) (f : Addr) (cdv : Value) (A : Around) (outer : List PySem.Env) (s : Shared) (H : Hp) (E : XK) (hr : Room k (A.deeper (envOfC "_law_least" (defScope s__law_least) s.heap.objs.size f cdv))) :
    PSs (cxOf CX0 P w K mg base ["above", "below", "one", "other", "sign"] "_law_least" (defScope s__law_least) f cdv A outer s H E).nox (defBody s__law_least) (tSs K (callN prog W k) W m__law_least) :=
  (ss_cons (s_par 2 3 rfl sc__law_least.nd (is_cons (i_bltB (f := false) c_abs rfl (T.blt 5 _ rfl) bb_abs (is_cons (i_var 0) is_nil)) (is_cons (i_bltB (f := false) c_abs rfl (T.blt 5 _ rfl) bb_abs (is_cons (i_var 1) is_nil)) is_nil)))
  (ss_cons (s_whl PassesOwn.never (t_cmp (o_ne hr.units) (i_var 3) i_int (nomark _)) (ss_cons (s_par 2 3 rfl sc__law_least.nd (is_cons (i_var 3) (is_cons (i_bin false o_mod (i_bltT (f := false) c_int rfl (T.blt 2 _ rfl) bb_int (is_cons (i_var 2) is_nil)) (i_var 3)) is_nil)))
  ss_nil))
  (ss_cons (s_set 4 sc__law_least.nd (i_ite (t_cmp o_lt (i_var 1) i_int (nomark _)) (i_neg i_int) i_int))
  (ss_cons (s_ret (i_tup (is_cons (i_bltT (f := false) c_int rfl (T.blt 2 _ rfl) bb_int (is_cons (i_bin false o_fdiv (i_bin false o_mul (i_var 4) (i_var 0)) (i_var 2)) is_nil)) (is_cons (i_bltT (f := false) c_int rfl (T.blt 2 _ rfl) bb_int (is_cons (i_bin false o_fdiv (i_bin false o_mul (i_var 4) (i_var 1)) (i_var 2)) is_nil)) is_nil))))
  ss_nil))))
theorem b__law_divisor (T : Top P w K mg base prog W k names consts blts) (f : Addr) (cdv : Value) (A : Around) (outer : List PySem.Env) (s : Shared) (H : Hp) (E : XK) (hr : Room k (A.deeper (envOfC "_law_divisor" (defScope s__law_divisor) s.heap.objs.size f cdv))) :
    PSs (cxOf CX0 P w K mg base ["one", "other"] "_law_divisor" (defScope s__law_divisor) f cdv A outer s H E).nox (defBody s__law_divisor) (tSs K (callN prog W k) W m__law_divisor) :=
  (ss_cons (s_par 0 1 rfl sc__law_divisor.nd (is_cons (i_bltB (f := false) c_abs rfl (T.blt 5 _ rfl) bb_abs (is_cons (i_var 0) is_nil)) (is_cons (i_bltB (f := false) c_abs rfl (T.blt 5 _ rfl) bb_abs (is_cons (i_var 1) is_nil)) is_nil)))
  (ss_cons (s_whl PassesOwn.never (t_cmp (o_ne hr.units) (i_var 1) i_int (nomark _)) (ss_cons (s_par 0 1 rfl sc__law_divisor.nd (is_cons (i_var 1) (is_cons (i_bin false o_mod (i_bltT (f := false) c_int rfl (T.blt 2 _ rfl) bb_int (is_cons (i_var 0) is_nil)) (i_var 1)) is_nil)))
  ss_nil))
  (ss_cons (s_ret (i_var 0))
  ss_nil)))
theorem b__law_plain (T : Top P w K mg base prog W k names consts blts) (f : Addr) (cdv : Value) (A : Around) (outer : List PySem.Env) (s : Shared) (H : Hp) (E : XK) (hr : Room k (A.deeper (envOfC "_law_plain" (defScope s__law_plain) s.heap.objs.size f cdv))) :
    PSs (cxOf CX0 P w K mg base ["x", "y", "z", "part"] "_law_plain" (defScope s__law_plain) f cdv A outer s H E).nox (defBody s__law_plain) (tSs K (callN prog W k) W m__law_plain) :=
  (ss_cons (s_set 3 sc__law_plain.nd (i_call (T.cal 26 _ rfl) hr rfl (is_cons (i_call (T.cal 26 _ rfl) hr rfl (is_cons (i_var 0) (is_cons (i_var 1) is_nil))) (is_cons (i_var 2) is_nil))))
  (ss_cons (s_ret (i_tup (is_cons (i_bltT (f := false) c_int rfl (T.blt 2 _ rfl) bb_int (is_cons (i_bin false o_fdiv (i_var 0) (i_var 3)) is_nil)) (is_cons (i_bltT (f := false) c_int rfl (T.blt 2 _ rfl) bb_int (is_cons (i_bin false o_fdiv (i_var 1) (i_var 3)) is_nil)) (is_cons (i_bltT (f := false) c_int rfl (T.blt 2 _ rfl) bb_int (is_cons (i_bin false o_fdiv (i_var 2) (i_var 3)) is_nil)) is_nil)))))
  ss_nil))
theorem b__law_drawn (T : Top P w K mg base prog W k names consts blts) (f : Addr) (cdv : Value) (A : Around) (outer : List PySem.Env) (s : Shared) (H : Hp) (E : XK) (hr : Room k (A.deeper (envOfC "_law_drawn" (defScope s__law_drawn) s.heap.objs.size f cdv))) :
    PSs (cxOf CX0 P w K mg base ["cup", "size"] "_law_drawn" (defScope s__law_drawn) f cdv A outer s H E).nox (defBody s__law_drawn) (tSs K (callN prog W k) W m__law_drawn) :=
  (ss_cons (s_ret (i_call (T.cal 27 _ rfl) hr rfl (is_cons (i_bin false o_add i_int (i_call (T.cal 22 _ rfl) hr rfl (is_cons (i_var 0) (is_cons (i_var 1) is_nil)))) (is_cons (i_bin false o_sub (i_call (T.cal 22 _ rfl) hr rfl (is_cons (i_var 0) (is_cons (i_bin false o_add (i_bin false o_mul i_int (i_var 1)) i_int) is_nil))) (i_var 1)) (is_cons (i_bin false o_add i_int (i_call (T.cal 22 _ rfl) hr rfl (is_cons (i_var 0) (is_cons (i_var 1) is_nil)))) is_nil)))))
  ss_nil)
theorem b__law_is_end (T : Top P w K mg base prog W k names consts blts) (f : Addr) (cdv : Value) (A : Around) (outer : List PySem.Env) (s : Shared) (H : Hp) (E : XK) (hr : Room k (A.deeper (envOfC "_law_is_end" (defScope s__law_is_end) s.heap.objs.size f cdv))) :
    PSs (cxOf CX0 P w K mg base ["value", "one"] "_law_is_end" (defScope s__law_is_end) f cdv A outer s H E).nox (defBody s__law_is_end) (tSs K (callN prog W k) W m__law_is_end) :=
  (ss_cons (s_ite (t_w (w_or (t_not (t_of (i_isi (T := .tuple) rfl (T.blt 0 _ rfl) rfl (T.blt 4 _ rfl) bb_tuple (i_var 0)))) (w_or (t_cmp (o_ne hr.units) (i_bltB (f := false) c_len rfl (T.blt 3 _ rfl) bb_len (is_cons (i_var 0) is_nil)) i_int (nomark _)) (w_or1 (t_cmp (o_ne hr.units) (i_lc (own := [("one", 1)]) false rfl sc__law_is_end.nd (it_seq (i_var 0)) (blk_ok (N := ["value", "one"]) (sc := defScope s__law_is_end) (by decide +kernel)) rfl (fun _ _ _ _ _ => (g_nm 1 sc__law_is_end.nd)) (fun _ _ _ _ _ => (cs_one (t_w (w_or (t_cmp (o_ne hr.units) (i_call (T.cal 23 _ rfl) hr rfl (is_cons (i_var 1) is_nil)) i_int (nomark _)) (w_or1 (t_cmp o_ge (i_bltB (f := false) c_abs rfl (T.blt 5 _ rfl) bb_abs (is_cons (i_var 1) is_nil)) (i_bin false o_pow i_int i_int) (nomark _))))))) (fun _ _ _ _ _ => (i_var 1))) (i_lst false is_nil) (nomark _)))))) (ss_cons (s_ret i_bl)
  ss_nil) ss_nil)
  (ss_cons (s_ret (i_and (i_cmp o_gt (i_idx (i_var 0) i_int) i_int (nomark _)) (i_and (i_cmp o_gt (i_idx (i_var 0) i_int) i_int (nomark _)) (i_one (i_cmp (o_eq hr.units) (i_call (T.cal 26 _ rfl) hr rfl (is_cons (i_call (T.cal 26 _ rfl) hr rfl (is_cons (i_idx (i_var 0) i_int) (is_cons (i_idx (i_var 0) i_int) is_nil))) (is_cons (i_idx (i_var 0) i_int) is_nil))) i_int (nomark _))))))
  ss_nil))
theorem b__law_below (T : Top P w K mg base prog W k names consts blts) (f : Addr) (cdv : Value) (A : Around) (outer : List PySem.Env) (s : Shared) (H : Hp) (E : XK) (hr : Room k (A.deeper (envOfC "_law_below" (defScope s__law_below) s.heap.objs.size f cdv))) :
    PSs (cxOf CX0 P w K mg base ["number", "low", "high", "middle"] "_law_below" (defScope s__law_below) f cdv A outer s H E).nox (defBody s__law_below) (tSs K (callN prog W k) W m__law_below) :=
  (ss_cons (s_asg (i_tup (is_cons i_int (is_cons i_int is_nil))) (g_tp rfl (gs_cons 1 sc__law_below.nd (gs_cons 2 sc__law_below.nd gs_nil))))
  (ss_cons (s_whl PassesOwn.never (t_cmp o_le (i_bin false o_mul (i_var 2) (i_var 2)) (i_var 0) (nomark _)) (ss_cons (s_set 2 sc__law_below.nd (i_bin false o_mul i_int (i_var 2)))
  ss_nil))
  (ss_cons (s_whl PassesOwn.never (t_cmp o_gt (i_bin false o_sub (i_var 2) (i_var 1)) i_int (nomark _)) (ss_cons (s_set 3 sc__law_below.nd (i_bltT (f := false) c_int rfl (T.blt 2 _ rfl) bb_int (is_cons (i_bin false o_fdiv (i_bin false o_add (i_var 1) (i_var 2)) i_int) is_nil)))
  (ss_cons (s_asg (i_ite (t_cmp o_le (i_bin false o_mul (i_var 3) (i_var 3)) (i_var 0) (nomark _)) (i_tup (is_cons (i_var 3) (is_cons (i_var 2) is_nil))) (i_tup (is_cons (i_var 1) (is_cons (i_var 3) is_nil)))) (g_tp rfl (gs_cons 1 sc__law_below.nd (gs_cons 2 sc__law_below.nd gs_nil))))
  ss_nil)))
  (ss_cons (s_ret (i_var 1))
  ss_nil))))
theorem b__law_beside (T : Top P w K mg base prog W k names consts blts) (f : Addr) (cdv : Value) (A : Around) (outer : List PySem.Env) (s : Shared) (H : Hp) (E : XK) (hr : Room k (A.deeper (envOfC "_law_beside" (defScope s__law_beside) s.heap.objs.size f cdv))) :
    PSs (cxOf CX0 P w K mg base ["end", "above", "below", "worth"] "_law_beside" (defScope s__law_beside) f cdv A outer s H E).nox (defBody s__law_beside) (tSs K (callN prog W k) W m__law_beside) :=
  (ss_cons (s_ite (t_cmp o_le (i_var 1) i_int (nomark _)) (ss_cons (s_ret i_str)
  ss_nil) ss_nil)
  (ss_cons (s_set 3 sc__law_beside.nd (i_bin false o_sub (i_bin false o_add (i_bin false o_mul (i_bin false o_mul (i_idx (i_var 0) i_int) (i_var 1)) (i_var 1)) (i_bin false o_mul (i_bin false o_mul (i_idx (i_var 0) i_int) (i_var 1)) (i_var 2))) (i_bin false o_mul (i_bin false o_mul (i_idx (i_var 0) i_int) (i_var 2)) (i_var 2))))
  (ss_cons (s_ret (i_ite (t_cmp o_lt (i_var 3) i_int (nomark _)) i_str (i_ite (t_cmp (o_eq hr.units) (i_var 3) i_int (nomark _)) i_str i_str)))
  ss_nil)))
theorem b__law_right (T : Top P w K mg base prog W k names consts blts) (f : Addr) (cdv : Value) (A : Around) (outer : List PySem.Env) (s : Shared) (H : Hp) (E : XK) (hr : Room k (A.deeper (envOfC "_law_right" (defScope s__law_right) s.heap.objs.size f cdv))) :
    PSs (cxOf CX0 P w K mg base ["cup", "end", "x", "y", "z", "square", "root", "due", "digits", "told", "power", "turn", "above", "below", "fraction", "at", "values", "odd", "value"] "_law_right" (defScope s__law_right) f cdv A outer s H E).nox (defBody s__law_right) (tSs K (callN prog W k) W m__law_right) :=
  (ss_cons (s_asg (i_var 1) (g_tp rfl (gs_cons 2 sc__law_right.nd (gs_cons 3 sc__law_right.nd (gs_cons 4 sc__law_right.nd gs_nil)))))
  (ss_cons (s_set 5 sc__law_right.nd (i_bin false o_add (i_bin false o_mul (i_var 3) (i_var 3)) (i_bin false o_mul (i_bin false o_mul i_int (i_var 2)) (i_var 4))))
  (ss_cons (s_set 6 sc__law_right.nd (i_call (T.cal 30 _ rfl) hr rfl (is_cons (i_var 5) is_nil)))
  (ss_cons (s_set 7 sc__law_right.nd (i_ite (t_cmp (o_eq hr.units) (i_bin false o_mul (i_var 6) (i_var 6)) (i_var 5) (nomark _)) (i_call (T.cal 25 _ rfl) hr rfl (is_cons (i_bin false o_sub (i_var 6) (i_var 3)) (is_cons (i_bin false o_mul i_int (i_var 2)) is_nil))) i_non))
  (ss_cons (s_ite (t_not (t_of (i_call (T.cal 24 _ rfl) hr rfl (is_cons (i_lst false (is_cons (i_call (T.cal 16 _ rfl) hr rfl (is_cons (i_var 1) is_nil)) (is_cons (i_call (T.cal 19 _ rfl) hr rfl (is_cons (i_var 1) is_nil)) is_nil))) (is_cons (i_lst false (is_cons i_bl (is_cons (i_var 7) is_nil))) is_nil))))) (ss_cons (s_ret i_bl)
  ss_nil) ss_nil)
  (ss_cons (s_ite (t_w (w_and (t_cmp o_isn (i_var 7) i_non (nomark _)) (w_and1 (t_w (w_or (t_cmp (o_ne hr.units) (i_bin false o_add (i_bin false o_mul (i_bin false o_mul (i_var 2) (i_idx (i_var 7) i_int)) (i_idx (i_var 7) i_int)) (i_bin false o_mul (i_bin false o_mul (i_var 3) (i_idx (i_var 7) i_int)) (i_idx (i_var 7) i_int))) (i_bin false o_mul (i_bin false o_mul (i_var 4) (i_idx (i_var 7) i_int)) (i_idx (i_var 7) i_int)) (nomark _)) (w_or1 (t_cmp (o_ne hr.units) (i_call (T.cal 17 _ rfl) hr rfl (is_cons (i_var 1) (is_cons (i_var 7) is_nil))) i_str (nomark _)))))))) (ss_cons (s_ret i_bl)
  ss_nil) ss_nil)
  (ss_cons (s_set 8 sc__law_right.nd (i_call (T.cal 22 _ rfl) hr rfl (is_cons (i_var 0) (is_cons (i_ite (t_cmp (o_eq hr.units) (i_call (T.cal 22 _ rfl) hr rfl (is_cons (i_var 0) (is_cons i_int is_nil))) i_int (nomark _)) i_int i_int) is_nil))))
  (ss_cons (s_par 9 10 rfl sc__law_right.nd (is_cons (i_call (T.cal 20 _ rfl) hr rfl (is_cons (i_var 1) (is_cons (i_var 8) is_nil))) (is_cons i_int is_nil)))
  (ss_cons (s_for PassesOwn.never rfl (it_rng1 rfl (T.blt 7 _ rfl) (is_cons (i_var 8) is_nil)) (g_nm 11 sc__law_right.nd) (ss_cons (s_set 10 sc__law_right.nd (i_bin false o_mul i_int (i_var 10)))
  ss_nil))
  (ss_cons (s_ite (t_w (w_or (t_cmp (o_ne hr.units) (i_call (T.cal 23 _ rfl) hr rfl (is_cons (i_var 9) is_nil)) i_int (nomark _)) (w_or (t_cmp (o_eq hr.units) (i_call (T.cal 31 _ rfl) hr rfl (is_cons (i_var 1) (is_cons (i_var 9) (is_cons (i_var 10) is_nil)))) i_str (nomark _)) (w_or1 (t_cmp (o_ne hr.units) (i_call (T.cal 31 _ rfl) hr rfl (is_cons (i_var 1) (is_cons (i_bin false o_add (i_var 9) i_int) (is_cons (i_var 10) is_nil)))) i_str (nomark _)))))) (ss_cons (s_ret i_bl)
  ss_nil) ss_nil)
  (ss_cons (s_for PassesOwn.never rfl (it_seq (i_tup (is_cons (i_tup (is_cons (i_var 9) (is_cons (i_var 10) is_nil))) (is_cons (i_tup (is_cons (i_bin false o_add (i_var 9) i_int) (is_cons (i_var 10) is_nil))) (is_cons (i_tup (is_cons (i_bin false o_sub (i_call (T.cal 22 _ rfl) hr rfl (is_cons (i_var 0) (is_cons i_int is_nil))) i_int) (is_cons (i_bin false o_add i_int (i_call (T.cal 22 _ rfl) hr rfl (is_cons (i_var 0) (is_cons i_int is_nil)))) is_nil))) (is_cons (i_tup (is_cons i_int (is_cons i_int is_nil))) is_nil)))))) (g_tp rfl (gs_cons 12 sc__law_right.nd (gs_cons 13 sc__law_right.nd gs_nil))) (ss_cons (s_set 14 sc__law_right.nd (i_call (T.cal 25 _ rfl) hr rfl (is_cons (i_var 12) (is_cons (i_var 13) is_nil))))
  (ss_cons (s_ite (t_w (w_and (t_cmp o_lt (i_bltB (f := false) (c_max rfl) rfl (T.blt 11 _ rfl) bb_max (is_cons (i_bltB (f := false) c_abs rfl (T.blt 5 _ rfl) bb_abs (is_cons (i_idx (i_var 14) i_int) is_nil)) (is_cons (i_idx (i_var 14) i_int) is_nil))) (i_bin false o_pow i_int i_int) (nomark _)) (w_and1 (t_not (t_of (i_call (T.cal 24 _ rfl) hr rfl (is_cons (i_call (T.cal 17 _ rfl) hr rfl (is_cons (i_var 1) (is_cons (i_var 14) is_nil))) (is_cons (i_call (T.cal 31 _ rfl) hr rfl (is_cons (i_var 1) (is_cons (i_var 12) (is_cons (i_var 13) is_nil)))) is_nil)))))))) (ss_cons (s_ret i_bl)
  ss_nil) ss_nil)
  ss_nil)))
  (ss_cons (s_set 15 sc__law_right.nd (i_call (T.cal 22 _ rfl) hr rfl (is_cons (i_var 0) (is_cons i_int is_nil))))
  (ss_cons (s_set 16 sc__law_right.nd (i_lst true (is_cons (i_var 1) (is_cons (i_bltT (f := false) c_list rfl (T.blt 8 _ rfl) bb_list (is_cons (i_var 1) is_nil)) (is_cons (i_slc (i_var 1) o_none (o_some i_int)) (is_cons (i_bin false o_add (i_var 1) (i_tup (is_cons i_int is_nil))) (is_cons i_non (is_cons (i_tup is_nil) (is_cons i_int (is_cons (i_tup (is_cons (i_bin false o_mul i_int (i_var 2)) (is_cons (i_bin false o_mul i_int (i_var 3)) (is_cons (i_bin false o_mul i_int (i_var 4)) is_nil)))) (is_cons (i_tup (is_cons (i_var 2) (is_cons (i_var 3) (is_cons (i_neg (i_var 4)) is_nil)))) (is_cons (i_tup (is_cons (i_neg (i_var 2)) (is_cons (i_var 3) (is_cons (i_var 4) is_nil)))) (is_cons (i_tup (is_cons i_int (is_cons (i_var 3) (is_cons (i_var 4) is_nil)))) (is_cons (i_tup (is_cons (i_var 2) (is_cons (i_var 3) (is_cons i_int is_nil)))) is_nil))))))))))))))
  (ss_cons (s_for PassesOwn.never rfl (it_seq (i_tup (is_cons i_non (is_cons i_bl (is_cons i_str (is_cons (i_bin false o_pow i_int i_int) (is_cons (i_tup (is_cons i_int (is_cons i_int is_nil))) (is_cons (i_bin false o_add (i_idx (i_var 1) (i_var 15)) i_int) is_nil)))))))) (g_nm 17 sc__law_right.nd) (ss_cons (s_exp (ps_expr (i_app (i_var 16) (is_cons (i_bin false o_add (i_bin false o_add (i_slc (i_var 1) o_none (o_some (i_var 15))) (i_tup (is_cons (i_var 17) is_nil))) (i_slc (i_var 1) (o_some (i_bin false o_add (i_var 15) i_int)) o_none)) is_nil))))
  ss_nil))
  (ss_cons (s_ret (i_cmp (o_eq hr.units) (i_lc (own := [("value", 18)]) false rfl sc__law_right.nd (it_seq (i_var 16)) (blk_ok (N := ["cup", "end", "x", "y", "z", "square", "root", "due", "digits", "told", "power", "turn", "above", "below", "fraction", "at", "values", "odd", "value"]) (sc := defScope s__law_right) (by decide +kernel)) rfl (fun _ _ _ _ _ => (g_nm 18 sc__law_right.nd)) (fun _ _ _ _ _ => (cs_one (t_not (t_of (i_call (T.cal 24 _ rfl) hr rfl (is_cons (i_call (T.cal 16 _ rfl) hr rfl (is_cons (i_var 18) is_nil)) (is_cons (i_call (T.cal 29 _ rfl) hr rfl (is_cons (i_var 18) is_nil)) is_nil))))))) (fun _ _ _ _ _ => (i_var 18))) (i_lst false is_nil) (nomark _)))
  ss_nil)))))))))))))))
theorem b__law_compared_right (T : Top P w K mg base prog W k names consts blts) (f : Addr) (cdv : Value) (A : Around) (outer : List PySem.Env) (s : Shared) (H : Hp) (E : XK) (hr : Room k (A.deeper (envOfC "_law_compared_right" (defScope s__law_compared_right) s.heap.objs.size f cdv))) :
    PSs (cxOf CX0 P w K mg base ["one", "other", "words", "told", "first", "second", "x", "y", "z", "u", "v", "w", "line", "rest", "above", "below"] "_law_compared_right" (defScope s__law_compared_right) f cdv A outer s H E).nox (defBody s__law_compared_right) (tSs K (callN prog W k) W m__law_compared_right) :=
  (ss_cons (s_set 2 sc__law_compared_right.nd (i_dsp [("less", "greater"), ("greater", "less"), ("same", "same")] (pps_cons pe_str pe_str (pps_cons pe_str pe_str (pps_cons pe_str pe_str pps_nil)))))
  (ss_cons (s_set 3 sc__law_compared_right.nd (i_call (T.cal 18 _ rfl) hr rfl (is_cons (i_var 0) (is_cons (i_var 1) is_nil))))
  (ss_cons (s_ite (t_w (w_or (t_dnin (un1 hr.units) (i_var 3) (i_var 2)) (w_or1 (t_not (t_of (i_call (T.cal 24 _ rfl) hr rfl (is_cons (i_lst false (is_cons (i_call (T.cal 18 _ rfl) hr rfl (is_cons (i_var 1) (is_cons (i_var 0) is_nil))) (is_cons (i_call (T.cal 18 _ rfl) hr rfl (is_cons (i_var 0) (is_cons (i_var 0) is_nil))) is_nil))) (is_cons (i_lst false (is_cons (i_dget (un1 hr.units) (i_var 2) (i_var 3)) (is_cons i_str is_nil))) is_nil)))))))) (ss_cons (s_ret i_bl)
  ss_nil) ss_nil)
  (ss_cons (s_par 4 5 rfl sc__law_compared_right.nd (is_cons (i_call (T.cal 20 _ rfl) hr rfl (is_cons (i_var 0) (is_cons i_int is_nil))) (is_cons (i_call (T.cal 20 _ rfl) hr rfl (is_cons (i_var 1) (is_cons i_int is_nil))) is_nil)))
  (ss_cons (s_ite (t_cmp (o_ne hr.units) (i_var 4) (i_var 5) (nomark _)) (ss_cons (s_ret (i_cmp (o_eq hr.units) (i_var 3) (i_ite (t_cmp o_lt (i_var 4) (i_var 5) (nomark _)) i_str i_str) (nomark _)))
  ss_nil) ss_nil)
  (ss_cons (s_asg (i_var 0) (g_tp rfl (gs_cons 6 sc__law_compared_right.nd (gs_cons 7 sc__law_compared_right.nd (gs_cons 8 sc__law_compared_right.nd gs_nil)))))
  (ss_cons (s_asg (i_var 1) (g_tp rfl (gs_cons 9 sc__law_compared_right.nd (gs_cons 10 sc__law_compared_right.nd (gs_cons 11 sc__law_compared_right.nd gs_nil)))))
  (ss_cons (s_par 12 13 rfl sc__law_compared_right.nd (is_cons (i_bin false o_sub (i_bin false o_mul (i_var 6) (i_var 10)) (i_bin false o_mul (i_var 9) (i_var 7))) (is_cons (i_bin false o_sub (i_bin false o_mul (i_var 9) (i_var 8)) (i_bin false o_mul (i_var 6) (i_var 11))) is_nil)))
  (ss_cons (s_ite (t_cmp (o_eq hr.units) (i_var 12) i_int (nomark _)) (ss_cons (s_ret (i_cmp (o_eq hr.units) (i_var 3) (i_ite (t_cmp (o_eq hr.units) (i_var 13) i_int (nomark _)) i_str (i_ite (t_cmp o_gt (i_var 13) i_int (nomark _)) i_str i_str)) (nomark _)))
  ss_nil) ss_nil)
  (ss_cons (s_asg (i_call (T.cal 25 _ rfl) hr rfl (is_cons (i_neg (i_var 13)) (is_cons (i_var 12) is_nil))) (g_tp rfl (gs_cons 14 sc__law_compared_right.nd (gs_cons 15 sc__law_compared_right.nd gs_nil))))
  (ss_cons (s_ret (i_cmp (o_eq hr.units) (i_cmp (o_eq hr.units) (i_var 3) i_str (nomark _)) (i_cmp (o_eq hr.units) (i_call (T.cal 31 _ rfl) hr rfl (is_cons (i_var 0) (is_cons (i_var 14) (is_cons (i_var 15) is_nil)))) i_str (nomark _)) (nomark _)))
  ss_nil)))))))))))
theorem b_law (T : Top P w K mg base prog W k names consts blts) (f : Addr) (cdv : Value) (A : Around) (outer : List PySem.Env) (s : Shared) (H : Hp) (E : XK) (hr : Room k (A.deeper (envOfC "law" (defScope s_law) s.heap.objs.size f cdv))) :
    PSs (cxOf CX0 P w K mg base ["script", "cup", "told", "size", "p", "q", "turn", "r", "s", "end", "one", "other", "near", "far", "some", "whole", "root", "own"] "law" (defScope s_law) f cdv A outer s H E).nox (defBody s_law) (tSs K (callN prog W k) W m_law) :=
  (ss_cons (s_set 1 sc_law.nd (i_call (T.cal 21 _ rfl) hr rfl (is_cons (i_var 0) is_nil)))
  (ss_cons (s_setLc (own := [("own", 17)]) 2 false rfl sc_law.nd (it_seq (i_tup (is_cons (i_tup (is_cons i_int (is_cons (i_neg i_int) (is_cons i_int is_nil)))) (is_cons (i_tup (is_cons i_int (is_cons i_int (is_cons i_int is_nil)))) (is_cons (i_tup (is_cons i_int (is_cons i_int (is_cons i_int is_nil)))) is_nil))))) (blk_ok (N := ["script", "cup", "told", "size", "p", "q", "turn", "r", "s", "end", "one", "other", "near", "far", "some", "whole", "root", "own"]) (sc := defScope s_law) (by decide +kernel)) rfl (fun _ _ _ _ _ => (g_nm 17 sc_law.nd)) (fun _ _ _ _ _ => cs_nil) (fun _ _ _ _ _ => (i_call (T.cal 16 _ rfl) hr rfl (is_cons (i_var 17) is_nil))))
  (ss_cons (s_set 2 sc_law.nd (i_bin false o_add (i_var 2) (i_lst false (is_cons (i_call (T.cal 17 _ rfl) hr rfl (is_cons (i_tup (is_cons i_int (is_cons (i_neg i_int) (is_cons i_int is_nil)))) (is_cons (i_tup (is_cons i_int (is_cons i_int is_nil))) is_nil))) (is_cons (i_call (T.cal 17 _ rfl) hr rfl (is_cons (i_tup (is_cons i_int (is_cons i_int (is_cons i_int is_nil)))) (is_cons (i_tup (is_cons i_int (is_cons i_int is_nil))) is_nil))) is_nil)))))
  (ss_cons (s_set 2 sc_law.nd (i_bin false o_add (i_var 2) (i_lst false (is_cons (i_call (T.cal 17 _ rfl) hr rfl (is_cons (i_tup (is_cons i_int (is_cons i_int (is_cons i_int is_nil)))) (is_cons (i_tup (is_cons (i_neg i_int) (is_cons i_int is_nil))) is_nil))) (is_cons (i_call (T.cal 18 _ rfl) hr rfl (is_cons (i_tup (is_cons i_int (is_cons (i_neg i_int) (is_cons i_int is_nil)))) (is_cons (i_tup (is_cons i_int (is_cons i_int (is_cons i_int is_nil)))) is_nil))) (is_cons (i_call (T.cal 18 _ rfl) hr rfl (is_cons (i_tup (is_cons i_int (is_cons i_int (is_cons i_int is_nil)))) (is_cons (i_tup (is_cons i_int (is_cons (i_neg i_int) (is_cons i_int is_nil)))) is_nil))) is_nil))))))
  (ss_cons (s_ite (t_not (t_of (i_call (T.cal 24 _ rfl) hr rfl (is_cons (i_var 2) (is_cons (i_lst false (is_cons i_bl (is_cons i_bl (is_cons i_bl (is_cons i_str (is_cons i_str (is_cons i_str (is_cons i_str (is_cons i_str is_nil))))))))) is_nil))))) (ss_cons (s_ret i_bl)
  ss_nil) ss_nil)
  (ss_cons (s_set 2 sc_law.nd (i_lst false (is_cons (i_call (T.cal 19 _ rfl) hr rfl (is_cons (i_tup (is_cons i_int (is_cons i_int (is_cons i_int is_nil)))) is_nil)) (is_cons (i_call (T.cal 19 _ rfl) hr rfl (is_cons (i_tup (is_cons i_int (is_cons i_int (is_cons i_int is_nil)))) is_nil)) (is_cons (i_call (T.cal 19 _ rfl) hr rfl (is_cons (i_tup (is_cons i_int (is_cons i_int (is_cons i_int is_nil)))) is_nil)) (is_cons (i_call (T.cal 20 _ rfl) hr rfl (is_cons (i_tup (is_cons i_int (is_cons i_int (is_cons i_int is_nil)))) (is_cons i_int is_nil))) (is_cons (i_call (T.cal 20 _ rfl) hr rfl (is_cons (i_tup (is_cons i_int (is_cons (i_neg i_int) (is_cons i_int is_nil)))) (is_cons i_int is_nil))) is_nil)))))))
  (ss_cons (s_ite (t_not (t_of (i_call (T.cal 24 _ rfl) hr rfl (is_cons (i_bin false o_add (i_var 2) (i_lst false (is_cons (i_call (T.cal 20 _ rfl) hr rfl (is_cons (i_tup (is_cons i_int (is_cons i_int (is_cons i_int is_nil)))) (is_cons i_int is_nil))) is_nil))) (is_cons (i_lst false (is_cons (i_tup (is_cons i_int (is_cons i_int is_nil))) (is_cons i_non (is_cons (i_tup (is_cons i_int (is_cons i_int is_nil))) (is_cons i_int (is_cons i_int (is_cons i_int is_nil))))))) is_nil))))) (ss_cons (s_ret i_bl)
  ss_nil) ss_nil)
  (ss_cons (s_for PassesOwn.never rfl (it_seq (i_tup (is_cons i_int (is_cons i_int (is_cons (i_bin false o_pow i_int i_int) (is_cons (i_bin false o_pow i_int i_int) is_nil)))))) (g_nm 3 sc_law.nd) (ss_cons (s_ite (t_not (t_of (i_call (T.cal 32 _ rfl) hr rfl (is_cons (i_var 1) (is_cons (i_call (T.cal 28 _ rfl) hr rfl (is_cons (i_var 1) (is_cons (i_var 3) is_nil))) is_nil))))) (ss_cons (s_ret i_bl)
  ss_nil) ss_nil)
  ss_nil))
  (ss_cons (s_asg (i_call (T.cal 25 _ rfl) hr rfl (is_cons (i_bin false o_add i_int (i_call (T.cal 22 _ rfl) hr rfl (is_cons (i_var 1) (is_cons i_int is_nil)))) (is_cons (i_bin false o_add i_int (i_call (T.cal 22 _ rfl) hr rfl (is_cons (i_var 1) (is_cons i_int is_nil)))) is_nil))) (g_tp rfl (gs_cons 4 sc_law.nd (gs_cons 5 sc_law.nd gs_nil))))
  (ss_cons (s_for PassesOwn.never rfl (it_rng1 rfl (T.blt 7 _ rfl) (is_cons i_int is_nil)) (g_nm 6 sc_law.nd) (ss_cons (s_asg (i_call (T.cal 25 _ rfl) hr rfl (is_cons (i_bin false o_add i_int (i_call (T.cal 22 _ rfl) hr rfl (is_cons (i_var 1) (is_cons i_int is_nil)))) (is_cons (i_bin false o_add i_int (i_call (T.cal 22 _ rfl) hr rfl (is_cons (i_var 1) (is_cons i_int is_nil)))) is_nil))) (g_tp rfl (gs_cons 7 sc_law.nd (gs_cons 8 sc_law.nd gs_nil))))
  (ss_cons (s_set 9 sc_law.nd (i_call (T.cal 27 _ rfl) hr rfl (is_cons (i_bin false o_mul (i_var 5) (i_var 8)) (is_cons (i_bin false o_sub (i_bin false o_mul (i_var 5) (i_var 7)) (i_bin false o_mul (i_var 4) (i_var 8))) (is_cons (i_bin false o_mul (i_var 4) (i_var 7)) is_nil)))))
  (ss_cons (s_ite (t_w (w_or (t_not (t_of (i_call (T.cal 32 _ rfl) hr rfl (is_cons (i_var 1) (is_cons (i_var 9) is_nil))))) (w_or1 (t_not (t_of (i_call (T.cal 24 _ rfl) hr rfl (is_cons (i_call (T.cal 19 _ rfl) hr rfl (is_cons (i_var 9) is_nil)) (is_cons (i_tup (is_cons (i_var 4) (is_cons (i_var 5) is_nil))) is_nil)))))))) (ss_cons (s_ret i_bl)
  ss_nil) ss_nil)
  (ss_cons (s_ite (t_w (w_or (t_not (t_of (i_call (T.cal 33 _ rfl) hr rfl (is_cons (i_var 9) (is_cons (i_call (T.cal 27 _ rfl) hr rfl (is_cons i_int (is_cons i_int (is_cons i_int is_nil)))) is_nil))))) (w_or1 (t_not (t_of (i_call (T.cal 24 _ rfl) hr rfl (is_cons (i_call (T.cal 18 _ rfl) hr rfl (is_cons (i_var 9) (is_cons (i_call (T.cal 27 _ rfl) hr rfl (is_cons (i_bin false o_mul (i_var 5) (i_var 5)) (is_cons i_int (is_cons (i_bin false o_mul (i_var 4) (i_var 4)) is_nil)))) is_nil))) (is_cons i_str is_nil)))))))) (ss_cons (s_ret i_bl)
  ss_nil) ss_nil)
  ss_nil)))))
  (ss_cons (s_par 10 11 rfl sc_law.nd (is_cons (i_call (T.cal 28 _ rfl) hr rfl (is_cons (i_var 1) (is_cons i_int is_nil))) (is_cons (i_call (T.cal 28 _ rfl) hr rfl (is_cons (i_var 1) (is_cons i_int is_nil))) is_nil)))
  (ss_cons (s_set 12 sc_law.nd (i_lst true is_nil))
  (ss_cons (s_for PassesOwn.never rfl (it_seq (i_tup (is_cons (i_bin false o_pow i_int i_int) (is_cons (i_bin false o_pow i_int i_int) (is_cons (i_bin false o_pow i_int i_int) is_nil))))) (g_nm 13 sc_law.nd) (ss_cons (s_exp (ps_expr (i_app (i_var 12) (is_cons (i_call (T.cal 27 _ rfl) hr rfl (is_cons (i_bin false o_sub (i_bin false o_add (i_bin false o_mul (i_idx (i_var 10) i_int) (i_var 13)) (i_call (T.cal 22 _ rfl) hr rfl (is_cons (i_var 1) (is_cons i_int is_nil)))) i_int) (is_cons (i_bin false o_sub (i_bin false o_add (i_bin false o_mul (i_idx (i_var 10) i_int) (i_var 13)) (i_call (T.cal 22 _ rfl) hr rfl (is_cons (i_var 1) (is_cons i_int is_nil)))) i_int) (is_cons (i_bin false o_add (i_bin false o_mul (i_idx (i_var 10) i_int) (i_var 13)) (i_call (T.cal 22 _ rfl) hr rfl (is_cons (i_var 1) (is_cons i_int is_nil)))) is_nil)))) is_nil))))
  ss_nil))
  (ss_cons (s_for PassesOwn.never rfl (it_seq (i_bin false o_add (i_var 12) (i_lst false (is_cons (i_var 11) (is_cons (i_var 10) (is_cons (i_call (T.cal 28 _ rfl) hr rfl (is_cons (i_var 1) (is_cons (i_bin false o_pow i_int i_int) is_nil))) (is_cons (i_call (T.cal 28 _ rfl) hr rfl (is_cons (i_var 1) (is_cons (i_bin false o_pow i_int i_int) is_nil))) is_nil))))))) (g_nm 14 sc_law.nd) (ss_cons (s_ite (t_not (t_of (i_call (T.cal 33 _ rfl) hr rfl (is_cons (i_var 10) (is_cons (i_var 14) is_nil))))) (ss_cons (s_ret i_bl)
  ss_nil) ss_nil)
  ss_nil))
  (ss_cons (s_set 15 sc_law.nd (i_bin false o_add i_int (i_call (T.cal 22 _ rfl) hr rfl (is_cons (i_var 1) (is_cons (i_bin false o_pow i_int i_int) is_nil)))))
  (ss_cons (s_set 16 sc_law.nd (i_call (T.cal 30 _ rfl) hr rfl (is_cons (i_var 15) is_nil)))
  (ss_cons (s_set 2 sc_law.nd (i_lst false (is_cons (i_call (T.cal 19 _ rfl) hr rfl (is_cons (i_tup (is_cons i_int (is_cons i_int (is_cons (i_var 15) is_nil)))) is_nil)) (is_cons (i_call (T.cal 20 _ rfl) hr rfl (is_cons (i_tup (is_cons i_int (is_cons i_int (is_cons (i_var 15) is_nil)))) (is_cons i_int is_nil))) (is_cons (i_call (T.cal 20 _ rfl) hr rfl (is_cons (i_tup (is_cons i_int (is_cons i_int (is_cons (i_bin false o_mul i_int (i_var 15)) is_nil)))) (is_cons i_int is_nil))) is_nil)))))
  (ss_cons (s_ret (i_call (T.cal 24 _ rfl) hr rfl (is_cons (i_var 2) (is_cons (i_lst false (is_cons (i_ite (t_cmp (o_eq hr.units) (i_bin false o_mul (i_var 16) (i_var 16)) (i_var 15) (nomark _)) (i_tup (is_cons (i_var 16) (is_cons i_int is_nil))) i_non) (is_cons (i_var 16) (is_cons (i_call (T.cal 20 _ rfl) hr rfl (is_cons (i_tup (is_cons i_int (is_cons i_int (is_cons (i_var 15) is_nil)))) (is_cons i_int is_nil))) is_nil)))) is_nil))))
  ss_nil))))))))))))))))))
theorem bi_is_integer : BindsP s_is_integer "is_integer" ["value"] := fun _ _ _ _ _ _ us hl => match us, hl with | [_], _ => rfl
theorem bi_is_whole : BindsP s_is_whole "is_whole" ["value", "low", "high"] := fun _ _ _ _ _ _ us hl => match us, hl with | [_, _, _], _ => rfl
theorem bi_need_whole : BindsP s_need_whole "need_whole" ["value", "low", "high"] := fun _ _ _ _ _ _ us hl => match us, hl with | [_, _, _], _ => rfl
theorem bi_is_tuple_of : BindsP s_is_tuple_of "is_tuple_of" ["value", "low", "high"] := fun _ _ _ _ _ _ us hl => match us, hl with | [_, _, _], _ => rfl
theorem bi_divisor_of : BindsP s_divisor_of "divisor_of" ["one", "other"] := fun _ _ _ _ _ _ us hl => match us, hl with | [_, _], _ => rfl
theorem bi_lowest : BindsP s_lowest "lowest" ["above", "below"] := fun _ _ _ _ _ _ us hl => match us, hl with | [_, _], _ => rfl
theorem bi_fits_fraction : BindsP s_fits_fraction "fits_fraction" ["value"] := fun _ _ _ _ _ _ us hl => match us, hl with | [_], _ => rfl
theorem bi_need_fraction : BindsP s_need_fraction "need_fraction" ["value"] := fun _ _ _ _ _ _ us hl => match us, hl with | [_], _ => rfl
theorem bi_fits_end : BindsP s_fits_end "fits_end" ["value", "most"] := fun _ _ _ _ _ _ us hl => match us, hl with | [_, _], _ => rfl
theorem bi_need_end : BindsP s_need_end "need_end" ["end"] := fun _ _ _ _ _ _ us hl => match us, hl with | [_], _ => rfl
theorem bi_sign_of : BindsP s_sign_of "sign_of" ["number"] := fun _ _ _ _ _ _ us hl => match us, hl with | [_], _ => rfl
theorem bi_beside_in : BindsP s_beside_in "beside_in" ["end", "fraction"] := fun _ _ _ _ _ _ us hl => match us, hl with | [_, _], _ => rfl
theorem bi_compared : BindsP s_compared "compared" ["one", "other"] := fun _ _ _ _ _ _ us hl => match us, hl with | [_, _], _ => rfl
theorem bi_root_below : BindsP s_root_below "root_below" ["number"] := fun _ _ _ _ _ _ us hl => match us, hl with | [_], _ => rfl
theorem bi_power_of_ten : BindsP s_power_of_ten "power_of_ten" ["digits"] := fun _ _ _ _ _ _ us hl => match us, hl with | [_], _ => rfl
theorem bi_below_in : BindsP s_below_in "below_in" ["end", "times"] := fun _ _ _ _ _ _ us hl => match us, hl with | [_, _], _ => rfl
theorem bi_is_end_number : BindsP s_is_end_number "is_end_number" ["value"] := fun _ _ _ _ _ _ us hl => match us, hl with | [_], _ => rfl
theorem bi_end_beside : BindsP s_end_beside "end_beside" ["end", "fraction"] := fun _ _ _ _ _ _ us hl => match us, hl with | [_, _], _ => rfl
theorem bi_compare_ends : BindsP s_compare_ends "compare_ends" ["one", "other"] := fun _ _ _ _ _ _ us hl => match us, hl with | [_, _], _ => rfl
theorem bi_end_as_fraction : BindsP s_end_as_fraction "end_as_fraction" ["end"] := fun _ _ _ _ _ _ us hl => match us, hl with | [_], _ => rfl
theorem bi_end_below : BindsP s_end_below "end_below" ["end", "digits"] := fun _ _ _ _ _ _ us hl => match us, hl with | [_, _], _ => rfl
theorem bi__law_cup : BindsP s__law_cup "_law_cup" ["script"] := fun _ _ _ _ _ _ us hl => match us, hl with | [_], _ => rfl
theorem bi__law_roll : BindsP s__law_roll "_law_roll" ["cup", "many"] := fun _ _ _ _ _ _ us hl => match us, hl with | [_, _], _ => rfl
theorem bi__law_sort : BindsP s__law_sort "_law_sort" ["value"] := fun _ _ _ _ _ _ us hl => match us, hl with | [_], _ => rfl
theorem bi__law_like : BindsP s__law_like "_law_like" ["one", "other"] := fun _ _ _ _ _ _ us hl => match us, hl with | [_, _], _ => rfl
theorem bi__law_least : BindsP s__law_least "_law_least" ["above", "below"] := fun _ _ _ _ _ _ us hl => match us, hl with | [_, _], _ => rfl
theorem bi__law_divisor : BindsP s__law_divisor "_law_divisor" ["one", "other"] := fun _ _ _ _ _ _ us hl => match us, hl with | [_, _], _ => rfl
theorem bi__law_plain : BindsP s__law_plain "_law_plain" ["x", "y", "z"] := fun _ _ _ _ _ _ us hl => match us, hl with | [_, _, _], _ => rfl
theorem bi__law_drawn : BindsP s__law_drawn "_law_drawn" ["cup", "size"] := fun _ _ _ _ _ _ us hl => match us, hl with | [_, _], _ => rfl
theorem bi__law_is_end : BindsP s__law_is_end "_law_is_end" ["value"] := fun _ _ _ _ _ _ us hl => match us, hl with | [_], _ => rfl
theorem bi__law_below : BindsP s__law_below "_law_below" ["number"] := fun _ _ _ _ _ _ us hl => match us, hl with | [_], _ => rfl
theorem bi__law_beside : BindsP s__law_beside "_law_beside" ["end", "above", "below"] := fun _ _ _ _ _ _ us hl => match us, hl with | [_, _, _], _ => rfl
theorem bi__law_right : BindsP s__law_right "_law_right" ["cup", "end"] := fun _ _ _ _ _ _ us hl => match us, hl with | [_, _], _ => rfl
theorem bi__law_compared_right : BindsP s__law_compared_right "_law_compared_right" ["one", "other"] := fun _ _ _ _ _ _ us hl => match us, hl with | [_, _], _ => rfl
theorem bi_law : BindsP s_law "law" ["script"] := fun _ _ _ _ _ _ us hl => match us, hl with | [_], _ => rfl
theorem tops (d_is_integer : DefOf K mg "is_integer" s_is_integer) (d_is_whole : DefOf K mg "is_whole" s_is_whole) (d_need_whole : DefOf K mg "need_whole" s_need_whole) (d_is_tuple_of : DefOf K mg "is_tuple_of" s_is_tuple_of) (d_divisor_of : DefOf K mg "divisor_of" s_divisor_of) (d_lowest : DefOf K mg "lowest" s_lowest) (d_fits_fraction : DefOf K mg "fits_fraction" s_fits_fraction) (d_need_fraction : DefOf K mg "need_fraction" s_need_fraction) (d_fits_end : DefOf K mg "fits_end" s_fits_end) (d_need_end : DefOf K mg "need_end" s_need_end) (d_sign_of : DefOf K mg "sign_of" s_sign_of) (d_beside_in : DefOf K mg "beside_in" s_beside_in) (d_compared : DefOf K mg "compared" s_compared) (d_root_below : DefOf K mg "root_below" s_root_below) (d_power_of_ten : DefOf K mg "power_of_ten" s_power_of_ten) (d_below_in : DefOf K mg "below_in" s_below_in) (d_is_end_number : DefOf K mg "is_end_number" s_is_end_number) (d_end_beside : DefOf K mg "end_beside" s_end_beside) (d_compare_ends : DefOf K mg "compare_ends" s_compare_ends) (d_end_as_fraction : DefOf K mg "end_as_fraction" s_end_as_fraction) (d_end_below : DefOf K mg "end_below" s_end_below) (d__law_cup : DefOf K mg "_law_cup" s__law_cup) (d__law_roll : DefOf K mg "_law_roll" s__law_roll) (d__law_sort : DefOf K mg "_law_sort" s__law_sort) (d__law_like : DefOf K mg "_law_like" s__law_like) (d__law_least : DefOf K mg "_law_least" s__law_least) (d__law_divisor : DefOf K mg "_law_divisor" s__law_divisor) (d__law_plain : DefOf K mg "_law_plain" s__law_plain) (d__law_drawn : DefOf K mg "_law_drawn" s__law_drawn) (d__law_is_end : DefOf K mg "_law_is_end" s__law_is_end) (d__law_below : DefOf K mg "_law_below" s__law_below) (d__law_beside : DefOf K mg "_law_beside" s__law_beside) (d__law_right : DefOf K mg "_law_right" s__law_right) (d__law_compared_right : DefOf K mg "_law_compared_right" s__law_compared_right) (d_law : DefOf K mg "law" s_law) (c_DIGITS : ∃ z u, mg "DIGITS" = some u ∧ RelV z u ∧ Con K k_DIGITS z) (c_FIGURES : ∃ z u, mg "FIGURES" = some u ∧ RelV z u ∧ Con K k_FIGURES z) (z_isinstance : mg "isinstance" = none) (z_bool : mg "bool" = none) (z_int : mg "int" = none) (z_len : mg "len" = none) (z_tuple : mg "tuple" = none) (z_abs : mg "abs" = none) (z_all : mg "all" = none) (z_range : mg "range" = none) (z_list : mg "list" = none) (z_str : mg "str" = none) (z_zip : mg "zip" = none) (z_max : mg "max" = none) (t_WORDS : TabAt K mg "WORDS" tb_WORDS) : ∀ k, Top P w K mg base prog W k names consts blts := by
  have hc : ∀ (i : Nat) (x : Str) (v : PV), consts[i]? = some (x, v) → ∃ z u, mg x = some u ∧ RelV z u ∧ Con K v z := fun i x v h => by
    match i, h with
    | 0, h => cases h; exact c_DIGITS
    | 1, h => cases h; exact c_FIGURES
    | n + 2, h => exact absurd h (by simp [consts])
  have hb : ∀ (i : Nat) (x : Str), blts[i]? = some x → mg x = none := fun i x h => by
    match i, h with
    | 0, h => cases h; exact z_isinstance
    | 1, h => cases h; exact z_bool
    | 2, h => cases h; exact z_int
    | 3, h => cases h; exact z_len
    | 4, h => cases h; exact z_tuple
    | 5, h => cases h; exact z_abs
    | 6, h => cases h; exact z_all
    | 7, h => cases h; exact z_range
    | 8, h => cases h; exact z_list
    | 9, h => cases h; exact z_str
    | 10, h => cases h; exact z_zip
    | 11, h => cases h; exact z_max
    | n + 12, h => exact absurd h (by simp [blts])
  intro k
  induction k with
  | zero =>
    refine ⟨fun i x h => ?_, hc, hb⟩
    match i, h with
    | 0, h => cases h; exact cal_zero d_is_integer bi_is_integer
    | 1, h => cases h; exact cal_zero d_is_whole bi_is_whole
    | 2, h => cases h; exact cal_zero d_need_whole bi_need_whole
    | 3, h => cases h; exact cal_zero d_is_tuple_of bi_is_tuple_of
    | 4, h => cases h; exact cal_zero d_divisor_of bi_divisor_of
    | 5, h => cases h; exact cal_zero d_lowest bi_lowest
    | 6, h => cases h; exact cal_zero d_fits_fraction bi_fits_fraction
    | 7, h => cases h; exact cal_zero d_need_fraction bi_need_fraction
    | 8, h => cases h; exact cal_zero d_fits_end bi_fits_end
    | 9, h => cases h; exact cal_zero d_need_end bi_need_end
    | 10, h => cases h; exact cal_zero d_sign_of bi_sign_of
    | 11, h => cases h; exact cal_zero d_beside_in bi_beside_in
    | 12, h => cases h; exact cal_zero d_compared bi_compared
    | 13, h => cases h; exact cal_zero d_root_below bi_root_below
    | 14, h => cases h; exact cal_zero d_power_of_ten bi_power_of_ten
    | 15, h => cases h; exact cal_zero d_below_in bi_below_in
    | 16, h => cases h; exact cal_zero d_is_end_number bi_is_end_number
    | 17, h => cases h; exact cal_zero d_end_beside bi_end_beside
    | 18, h => cases h; exact cal_zero d_compare_ends bi_compare_ends
    | 19, h => cases h; exact cal_zero d_end_as_fraction bi_end_as_fraction
    | 20, h => cases h; exact cal_zero d_end_below bi_end_below
    | 21, h => cases h; exact cal_zero d__law_cup bi__law_cup
    | 22, h => cases h; exact cal_zero d__law_roll bi__law_roll
    | 23, h => cases h; exact cal_zero d__law_sort bi__law_sort
    | 24, h => cases h; exact cal_zero d__law_like bi__law_like
    | 25, h => cases h; exact cal_zero d__law_least bi__law_least
    | 26, h => cases h; exact cal_zero d__law_divisor bi__law_divisor
    | 27, h => cases h; exact cal_zero d__law_plain bi__law_plain
    | 28, h => cases h; exact cal_zero d__law_drawn bi__law_drawn
    | 29, h => cases h; exact cal_zero d__law_is_end bi__law_is_end
    | 30, h => cases h; exact cal_zero d__law_below bi__law_below
    | 31, h => cases h; exact cal_zero d__law_beside bi__law_beside
    | 32, h => cases h; exact cal_zero d__law_right bi__law_right
    | 33, h => cases h; exact cal_zero d__law_compared_right bi__law_compared_right
    | 34, h => cases h; exact cal_zero d_law bi_law
    | n + 35, h => exact absurd h (by simp [names])
  | succ k T =>
    refine ⟨fun i x h => ?_, hc, hb⟩
    match i, h with
    | 0, h => cases h; exact cal_succ d_is_integer bi_is_integer sc_is_integer rfl rfl rfl (b_is_integer T)
    | 1, h => cases h; exact cal_succ d_is_whole bi_is_whole sc_is_whole rfl rfl rfl (b_is_whole T)
    | 2, h => cases h; exact cal_succ d_need_whole bi_need_whole sc_need_whole rfl rfl rfl (b_need_whole T)
    | 3, h => cases h; exact cal_succ d_is_tuple_of bi_is_tuple_of sc_is_tuple_of rfl rfl rfl (b_is_tuple_of T)
    | 4, h => cases h; exact cal_succ d_divisor_of bi_divisor_of sc_divisor_of rfl rfl rfl (b_divisor_of T)
    | 5, h => cases h; exact cal_succ d_lowest bi_lowest sc_lowest rfl rfl rfl (b_lowest T)
    | 6, h => cases h; exact cal_succ d_fits_fraction bi_fits_fraction sc_fits_fraction rfl rfl rfl (b_fits_fraction T)
    | 7, h => cases h; exact cal_succ d_need_fraction bi_need_fraction sc_need_fraction rfl rfl rfl (b_need_fraction T)
    | 8, h => cases h; exact cal_succ d_fits_end bi_fits_end sc_fits_end rfl rfl rfl (b_fits_end T)
    | 9, h => cases h; exact cal_succ d_need_end bi_need_end sc_need_end rfl rfl rfl (b_need_end T)
    | 10, h => cases h; exact cal_succ d_sign_of bi_sign_of sc_sign_of rfl rfl rfl (b_sign_of T)
    | 11, h => cases h; exact cal_succ d_beside_in bi_beside_in sc_beside_in rfl rfl rfl (b_beside_in T)
    | 12, h => cases h; exact cal_succ d_compared bi_compared sc_compared rfl rfl rfl (b_compared T)
    | 13, h => cases h; exact cal_succ d_root_below bi_root_below sc_root_below rfl rfl rfl (b_root_below T)
    | 14, h => cases h; exact cal_succ d_power_of_ten bi_power_of_ten sc_power_of_ten rfl rfl rfl (b_power_of_ten T)
    | 15, h => cases h; exact cal_succ d_below_in bi_below_in sc_below_in rfl rfl rfl (b_below_in T)
    | 16, h => cases h; exact cal_succ d_is_end_number bi_is_end_number sc_is_end_number rfl rfl rfl (b_is_end_number T)
    | 17, h => cases h; exact cal_succ d_end_beside bi_end_beside sc_end_beside rfl rfl rfl (b_end_beside T t_WORDS)
    | 18, h => cases h; exact cal_succ d_compare_ends bi_compare_ends sc_compare_ends rfl rfl rfl (b_compare_ends T t_WORDS)
    | 19, h => cases h; exact cal_succ d_end_as_fraction bi_end_as_fraction sc_end_as_fraction rfl rfl rfl (b_end_as_fraction T)
    | 20, h => cases h; exact cal_succ d_end_below bi_end_below sc_end_below rfl rfl rfl (b_end_below T)
    | 21, h => cases h; exact cal_succ d__law_cup bi__law_cup sc__law_cup rfl rfl rfl (b__law_cup T)
    | 22, h => cases h; exact cal_succ d__law_roll bi__law_roll sc__law_roll rfl rfl rfl (b__law_roll T)
    | 23, h => cases h; exact cal_succ d__law_sort bi__law_sort sc__law_sort rfl rfl rfl (b__law_sort T)
    | 24, h => cases h; exact cal_succ d__law_like bi__law_like sc__law_like rfl rfl rfl (b__law_like T)
    | 25, h => cases h; exact cal_succ d__law_least bi__law_least sc__law_least rfl rfl rfl (b__law_least T)
    | 26, h => cases h; exact cal_succ d__law_divisor bi__law_divisor sc__law_divisor rfl rfl rfl (b__law_divisor T)
    | 27, h => cases h; exact cal_succ d__law_plain bi__law_plain sc__law_plain rfl rfl rfl (b__law_plain T)
    | 28, h => cases h; exact cal_succ d__law_drawn bi__law_drawn sc__law_drawn rfl rfl rfl (b__law_drawn T)
    | 29, h => cases h; exact cal_succ d__law_is_end bi__law_is_end sc__law_is_end rfl rfl rfl (b__law_is_end T)
    | 30, h => cases h; exact cal_succ d__law_below bi__law_below sc__law_below rfl rfl rfl (b__law_below T)
    | 31, h => cases h; exact cal_succ d__law_beside bi__law_beside sc__law_beside rfl rfl rfl (b__law_beside T)
    | 32, h => cases h; exact cal_succ d__law_right bi__law_right sc__law_right rfl rfl rfl (b__law_right T)
    | 33, h => cases h; exact cal_succ d__law_compared_right bi__law_compared_right sc__law_compared_right rfl rfl rfl (b__law_compared_right T)
    | 34, h => cases h; exact cal_succ d_law bi_law sc_law rfl rfl rfl (b_law T)
    | n + 35, h => exact absurd h (by simp [names])
end
end Lw

namespace Lw
open Ev
def W : Nat := 1000000000000
theorem u_is_integer (k : Nat) (x0 : PV) (M : Mem) : callN prog W (k + 1) 0 [x0] M = fin false M.length (execs (callN prog W k) W m_is_integer [some x0] M) := by
  unfold callN
  rfl
theorem u_is_whole (k : Nat) (x0 : PV) (x1 : PV) (x2 : PV) (M : Mem) : callN prog W (k + 1) 1 [x0, x1, x2] M = fin false M.length (execs (callN prog W k) W m_is_whole [some x0, some x1, some x2] M) := by
  unfold callN
  rfl
theorem u_need_whole (k : Nat) (x0 : PV) (x1 : PV) (x2 : PV) (M : Mem) : callN prog W (k + 1) 2 [x0, x1, x2] M = fin false M.length (execs (callN prog W k) W m_need_whole [some x0, some x1, some x2] M) := by
  unfold callN
  rfl
theorem u_is_tuple_of (k : Nat) (x0 : PV) (x1 : PV) (x2 : PV) (M : Mem) : callN prog W (k + 1) 3 [x0, x1, x2] M = fin false M.length (execs (callN prog W k) W m_is_tuple_of [some x0, some x1, some x2] M) := by
  unfold callN
  rfl
theorem u_divisor_of (k : Nat) (x0 : PV) (x1 : PV) (M : Mem) : callN prog W (k + 1) 4 [x0, x1] M = fin false M.length (execs (callN prog W k) W m_divisor_of [some x0, some x1] M) := by
  unfold callN
  rfl
theorem u_lowest (k : Nat) (x0 : PV) (x1 : PV) (M : Mem) : callN prog W (k + 1) 5 [x0, x1] M = fin false M.length (execs (callN prog W k) W m_lowest [some x0, some x1, none] M) := by
  unfold callN
  rfl
theorem u_fits_fraction (k : Nat) (x0 : PV) (M : Mem) : callN prog W (k + 1) 6 [x0] M = fin false M.length (execs (callN prog W k) W m_fits_fraction [some x0, none] M) := by
  unfold callN
  rfl
theorem u_need_fraction (k : Nat) (x0 : PV) (M : Mem) : callN prog W (k + 1) 7 [x0] M = fin false M.length (execs (callN prog W k) W m_need_fraction [some x0] M) := by
  unfold callN
  rfl
theorem u_fits_end (k : Nat) (x0 : PV) (x1 : PV) (M : Mem) : callN prog W (k + 1) 8 [x0, x1] M = fin false M.length (execs (callN prog W k) W m_fits_end [some x0, some x1, none, none, none, none] M) := by
  unfold callN
  rfl
theorem u_need_end (k : Nat) (x0 : PV) (M : Mem) : callN prog W (k + 1) 9 [x0] M = fin false M.length (execs (callN prog W k) W m_need_end [some x0] M) := by
  unfold callN
  rfl
theorem u_sign_of (k : Nat) (x0 : PV) (M : Mem) : callN prog W (k + 1) 10 [x0] M = fin false M.length (execs (callN prog W k) W m_sign_of [some x0] M) := by
  unfold callN
  rfl
theorem u_beside_in (k : Nat) (x0 : PV) (x1 : PV) (M : Mem) : callN prog W (k + 1) 11 [x0, x1] M = fin false M.length (execs (callN prog W k) W m_beside_in [some x0, some x1, none, none, none, none, none] M) := by
  unfold callN
  rfl
theorem u_compared (k : Nat) (x0 : PV) (x1 : PV) (M : Mem) : callN prog W (k + 1) 12 [x0, x1] M = fin false M.length (execs (callN prog W k) W m_compared [some x0, some x1, none, none, none, none, none, none, none, none] M) := by
  unfold callN
  rfl
theorem u_root_below (k : Nat) (x0 : PV) (M : Mem) : callN prog W (k + 1) 13 [x0] M = fin false M.length (execs (callN prog W k) W m_root_below [some x0, none, none, none] M) := by
  unfold callN
  rfl
theorem u_power_of_ten (k : Nat) (x0 : PV) (M : Mem) : callN prog W (k + 1) 14 [x0] M = fin false M.length (execs (callN prog W k) W m_power_of_ten [some x0, none, none] M) := by
  unfold callN
  rfl
theorem u_below_in (k : Nat) (x0 : PV) (x1 : PV) (M : Mem) : callN prog W (k + 1) 15 [x0, x1] M = fin false M.length (execs (callN prog W k) W m_below_in [some x0, some x1, none, none, none, none] M) := by
  unfold callN
  rfl
theorem u_is_end_number (k : Nat) (x0 : PV) (M : Mem) : callN prog W (k + 1) 16 [x0] M = fin false M.length (execs (callN prog W k) W m_is_end_number [some x0] M) := by
  unfold callN
  rfl
theorem u_end_beside (k : Nat) (x0 : PV) (x1 : PV) (M : Mem) : callN prog W (k + 1) 17 [x0, x1] M = fin false M.length (execs (callN prog W k) W m_end_beside [some x0, some x1] M) := by
  unfold callN
  rfl
theorem u_compare_ends (k : Nat) (x0 : PV) (x1 : PV) (M : Mem) : callN prog W (k + 1) 18 [x0, x1] M = fin false M.length (execs (callN prog W k) W m_compare_ends [some x0, some x1] M) := by
  unfold callN
  rfl
theorem u_end_as_fraction (k : Nat) (x0 : PV) (M : Mem) : callN prog W (k + 1) 19 [x0] M = fin false M.length (execs (callN prog W k) W m_end_as_fraction [some x0, none, none, none, none, none] M) := by
  unfold callN
  rfl
theorem u_end_below (k : Nat) (x0 : PV) (x1 : PV) (M : Mem) : callN prog W (k + 1) 20 [x0, x1] M = fin false M.length (execs (callN prog W k) W m_end_below [some x0, some x1] M) := by
  unfold callN
  rfl
theorem u__law_cup (k : Nat) (x0 : PV) (M : Mem) : callN prog W (k + 1) 21 [x0] M = fin true M.length (execs (callN prog W k) W m__law_cup [some x0, none] M) := by
  unfold callN
  rfl
theorem u__law_roll (k : Nat) (x0 : PV) (x1 : PV) (M : Mem) : callN prog W (k + 1) 22 [x0, x1] M = fin false M.length (execs (callN prog W k) W m__law_roll [some x0, some x1, none, none] M) := by
  unfold callN
  rfl
theorem u__law_sort (k : Nat) (x0 : PV) (M : Mem) : callN prog W (k + 1) 23 [x0] M = fin false M.length (execs (callN prog W k) W m__law_sort [some x0] M) := by
  unfold callN
  rfl
theorem u__law_like (k : Nat) (x0 : PV) (x1 : PV) (M : Mem) : callN prog W (k + 1) 24 [x0, x1] M = fin false M.length (execs (callN prog W k) W m__law_like [some x0, some x1, none, none, none] M) := by
  unfold callN
  rfl
theorem u__law_least (k : Nat) (x0 : PV) (x1 : PV) (M : Mem) : callN prog W (k + 1) 25 [x0, x1] M = fin false M.length (execs (callN prog W k) W m__law_least [some x0, some x1, none, none, none] M) := by
  unfold callN
  rfl
theorem u__law_divisor (k : Nat) (x0 : PV) (x1 : PV) (M : Mem) : callN prog W (k + 1) 26 [x0, x1] M = fin false M.length (execs (callN prog W k) W m__law_divisor [some x0, some x1] M) := by
  unfold callN
  rfl
theorem u__law_plain (k : Nat) (x0 : PV) (x1 : PV) (x2 : PV) (M : Mem) : callN prog W (k + 1) 27 [x0, x1, x2] M = fin false M.length (execs (callN prog W k) W m__law_plain [some x0, some x1, some x2, none] M) := by
  unfold callN
  rfl
theorem u__law_drawn (k : Nat) (x0 : PV) (x1 : PV) (M : Mem) : callN prog W (k + 1) 28 [x0, x1] M = fin false M.length (execs (callN prog W k) W m__law_drawn [some x0, some x1] M) := by
  unfold callN
  rfl
theorem u__law_is_end (k : Nat) (x0 : PV) (M : Mem) : callN prog W (k + 1) 29 [x0] M = fin false M.length (execs (callN prog W k) W m__law_is_end [some x0, none] M) := by
  unfold callN
  rfl
theorem u__law_below (k : Nat) (x0 : PV) (M : Mem) : callN prog W (k + 1) 30 [x0] M = fin false M.length (execs (callN prog W k) W m__law_below [some x0, none, none, none] M) := by
  unfold callN
  rfl
theorem u__law_beside (k : Nat) (x0 : PV) (x1 : PV) (x2 : PV) (M : Mem) : callN prog W (k + 1) 31 [x0, x1, x2] M = fin false M.length (execs (callN prog W k) W m__law_beside [some x0, some x1, some x2, none] M) := by
  unfold callN
  rfl
theorem u__law_right (k : Nat) (x0 : PV) (x1 : PV) (M : Mem) : callN prog W (k + 1) 32 [x0, x1] M = fin false M.length (execs (callN prog W k) W m__law_right [some x0, some x1, none, none, none, none, none, none, none, none, none, none, none, none, none, none, none, none, none] M) := by
  unfold callN
  rfl
theorem u__law_compared_right (k : Nat) (x0 : PV) (x1 : PV) (M : Mem) : callN prog W (k + 1) 33 [x0, x1] M = fin false M.length (execs (callN prog W k) W m__law_compared_right [some x0, some x1, none, none, none, none, none, none, none, none, none, none, none, none, none, none] M) := by
  unfold callN
  rfl
theorem u_law (k : Nat) (x0 : PV) (M : Mem) : callN prog W (k + 1) 34 [x0] M = fin false M.length (execs (callN prog W k) W m_law [some x0, none, none, none, none, none, none, none, none, none, none, none, none, none, none, none, none, none] M) := by
  unfold callN
  rfl
/-! ### fractions: what the defs reckon -/
local macro_rules | `(tactic| walk_at "ev") => `(tactic| simp -implicitDefEqProofs only [execs, exec, eval, evals, evalI, conds, bnd_some, bnd_none, bifb_t, bifb_f, bifb_d, bifb_b, iff_t, iff_d, nxt_nx, nxt_rt, binop, cmpop, addOp_ii, addOp_tt, addOp_ll, subOp_ii, mulOp_ii, fdivOp_ii, modOp_ii, cmpI_ii, tru_bl, tru_int, absB_i, intB_i, asM_int, asM_bl, asM_tup, asM_false, isOp_n, isOp_bb, isNon, setAll_nil, setAll_cons, bindT_nm, bindT_tp, fin_rt, fin_nx, leave_same, bltOp, idx_tup0, idx_tup1, idx_tup2, idx_tup3, idx_lst0, idx_lst1, idx_lst2, idx_lst3, eqD_ii, eqD_bb, eqD_fr, Option.map_some, Option.map_none, Option.bind_some, List.getElem?_cons_zero, List.getElem?_cons_succ, List.set_cons_zero, List.set_cons_succ, List.length_cons, List.length_nil, if_true, if_false, decide_true, decide_false, Bool.not_true, Bool.not_false, decide_eq_true_eq, sizeL, Nat.reduceAdd, Nat.reduceLeDiff, Nat.zero_add, beq_self_eq_true, seqG_tup, seqG_lst, lenB_tup, lenB_lst, idx_cup0, idx_cup1, setAt0, setAt1, cup, isTy, Bool.false_eq_true, newL_f, newL_t, fin_rtk, List.nil_append, wipeE, Int.reduceNe, Int.reduceEq, Int.reduceLT, Int.reduceLE, Int.reduceAdd, Int.reduceSub, Int.reduceMul, Int.reduceNeg, Int.reduceGT])
local macro_rules | `(tactic| walk_at "evt") => `(tactic| try (walk_at "ev"))
theorem isNon_non : isNon .non = true := rfl
theorem isNon_tup (x : List PV) : isNon (.tup x) = false := rfl
theorem isNon_lst (x : List PV) : isNon (.lst x) = false := rfl
theorem isNon_rol (x : List PV) : isNon (.rol x) = false := rfl
theorem isNon_int (x : Int) : isNon (.int x) = false := rfl
theorem isNon_bl (x : Bool) : isNon (.bl x) = false := rfl
theorem isNon_str (x : PySem.Str) : isNon (.str x) = false := rfl
theorem isNon_ref (x : Nat) : isNon (.ref x) = false := rfl
theorem isNon_fr (x : Rat) : isNon (fr x) = false := rfl
theorem abs_nat (a : Int) : (if a < 0 then -a else a) = ((a.natAbs : Nat) : Int) := by omega
theorem divisor_of_ok (k : Nat) (a b : Int) (M : Mem) {n : Nat} (hb : lt2 n b) (hn : n ≤ 100000) : callN prog W (k + 1) 4 [.int a, .int b] M = some (.int (Int.gcd a b : Nat), M) := by
  rw [u_divisor_of]
  unfold m_divisor_of
  walk_at "ev"
  rw [abs_nat, abs_nat, whl_gcd (fun x y => [some (.int x), some (.int y)]) _ _ M (fun a b => ?_) (fun a b h => ?_) n W a.natAbs b.natAbs hb (by unfold W; omega)]
  · walk_at "ev"
    rfl
  · walk_at "ev"
    rw [decide_not]
  · walk_at "ev"
    rw [if_pos h]
    rfl
theorem lt2_gcd {n : Nat} {a b : Int} (hb : lt2 n b) (h0 : b ≠ 0) : lt2 n ((Int.gcd a b : Nat) : Int) := by
  unfold lt2
  rw [Int.natAbs_natCast]
  refine Nat.lt_of_le_of_lt ?_ hb
  have := Int.gcd_dvd_right a b
  have h := Int.natAbs_dvd_natAbs.mpr this
  rw [Int.natAbs_natCast] at h
  exact Nat.le_of_dvd (by omega) h
theorem sgn_eq {b : Int} (h : b ≠ 0) : (if 0 < b then (1 : Int) else -1) = b.sign := by
  rcases Int.lt_or_gt_of_ne h with h1 | h1
  · rw [if_neg (by omega), Int.sign_eq_neg_one_of_neg h1]
  · rw [if_pos h1, Int.sign_eq_one_of_pos h1]
theorem sgn2_eq {b : Int} (h : b ≠ 0) : (if b < 0 then (-1 : Int) else 1) = b.sign := by
  rcases Int.lt_or_gt_of_ne h with h1 | h1
  · rw [if_pos h1, Int.sign_eq_neg_one_of_neg h1]
  · rw [if_neg (by omega), Int.sign_eq_one_of_pos h1]
theorem sign_small (b : Int) : -(2 ^ 64) < b.sign ∧ b.sign < 2 ^ 64 := by
  have e : (2 : Int) ^ 64 = 18446744073709551616 := rfl
  rcases Int.lt_trichotomy b 0 with h | h | h
  · rw [Int.sign_eq_neg_one_of_neg h]; omega
  · rw [h, Int.sign_zero]; omega
  · rw [Int.sign_eq_one_of_pos h]; omega
theorem low_facts {n : Nat} {b s : Int} (a : Int) (hb : lt2 n b) (h0 : b ≠ 0) (hn : n ≤ 8000) (hs : s = b.sign) : mulOk ((Int.gcd a b : Nat) : Int) s = true ∧ divOk a (((Int.gcd a b : Nat) : Int) * s) = true ∧ divOk b (((Int.gcd a b : Nat) : Int) * s) = true ∧
    a.fdiv (((Int.gcd a b : Nat) : Int) * s) = (Rat.divInt a b).num ∧ b.fdiv (((Int.gcd a b : Nat) : Int) * s) = ((Rat.divInt a b).den : Int) := by
  have hg := lt2_gcd (a := a) hb h0
  have hg0 : ((Int.gcd a b : Nat) : Int) ≠ 0 := by
    have := Int.gcd_pos_of_ne_zero_right a h0
    omega
  have hsn : s ≠ 0 := fun z => h0 (Int.sign_eq_zero_iff_zero.mp (hs ▸ z))
  have hp : lt2 n (((Int.gcd a b : Nat) : Int) * s) := by
    unfold lt2
    rw [hs, Int.natAbs_mul, Int.natAbs_sign, if_neg h0, Nat.mul_one]
    exact hg
  have hp0 : ((Int.gcd a b : Nat) : Int) * s ≠ 0 := fun z => (Int.mul_eq_zero.mp z).elim hg0 hsn
  have hm : mulOk ((Int.gcd a b : Nat) : Int) s = true := mulOk_small (hs ▸ sign_small b)
  exact ⟨hm, divOk_of hp0 hp (by omega), divOk_of hp0 hp (by omega), low_num h0 hs⟩
theorem lowest_ok (k : Nat) (a b : Int) (M : Mem) {n : Nat} (hb : lt2 n b) (h0 : b ≠ 0) (hn : n ≤ 8000) : callN prog W (k + 2) 5 [.int a, .int b] M = some (fr (Rat.divInt a b), M) := by
  rw [u_lowest]
  unfold m_lowest
  walk_at "ev"
  rw [divisor_of_ok k a b M hb (by omega)]
  walk_at "ev"
  have hs := sgn_eq h0
  by_cases hpos : 0 < b
  · rw [if_pos hpos] at hs
    obtain ⟨f1, f2, f3, f4, f5⟩ := low_facts a hb h0 hn hs
    rw [if_pos hpos]
    walk_at "ev"
    rw [f1]
    walk_at "ev"
    rw [f2, f3]
    walk_at "ev"
    rw [f4, f5]
    rfl
  · rw [if_neg hpos] at hs
    obtain ⟨f1, f2, f3, f4, f5⟩ := low_facts a hb h0 hn hs
    rw [if_neg hpos]
    walk_at "ev"
    rw [f1]
    walk_at "ev"
    rw [f2, f3]
    walk_at "ev"
    rw [f4, f5]
    rfl

/-! ### the law's own fractions -/
theorem l_least_ok (k : Nat) (a b : Int) (M : Mem) {n : Nat} (hb : lt2 n b) (h0 : b ≠ 0) (hn : n ≤ 8000) : callN prog W (k + 1) 25 [.int a, .int b] M = some (fr (Rat.divInt a b), M) := by
  rw [u__law_least]
  unfold m__law_least
  walk_at "ev"
  rw [abs_nat, abs_nat, whl_gcd (fun x y => [some (.int a), some (.int b), some (.int x), some (.int y), none]) _ _ M (fun a b => ?_) (fun a b h => ?_) n W a.natAbs b.natAbs hb (by unfold W; omega)]
  rotate_left
  · walk_at "ev"
    rw [decide_not]
  · walk_at "ev"
    rw [if_pos h]
    walk_at "ev"
  walk_at "ev"
  have hs := sgn2_eq h0
  have hgd : ∀ s : Int, s = b.sign → mulOk s a = true ∧ mulOk s b = true ∧ divOk (s * a) ((Nat.gcd a.natAbs b.natAbs : Nat) : Int) = true ∧ divOk (s * b) ((Nat.gcd a.natAbs b.natAbs : Nat) : Int) = true ∧
      (s * a).fdiv ((Nat.gcd a.natAbs b.natAbs : Nat) : Int) = (Rat.divInt a b).num ∧ (s * b).fdiv ((Nat.gcd a.natAbs b.natAbs : Nat) : Int) = ((Rat.divInt a b).den : Int) := fun s hs => by
    have hg : lt2 n ((Nat.gcd a.natAbs b.natAbs : Nat) : Int) := lt2_gcd (a := a) hb h0
    have hg1 : 0 < Nat.gcd a.natAbs b.natAbs := Int.gcd_pos_of_ne_zero_right a h0
    have hg0 : ((Nat.gcd a.natAbs b.natAbs : Nat) : Int) ≠ 0 := by omega
    obtain ⟨l1, l2⟩ := low_num (a := a) h0 hs
    have hss : s * s = 1 := by
      rcases Int.lt_or_gt_of_ne h0 with h | h
      · rw [hs, Int.sign_eq_neg_one_of_neg h]; rfl
      · rw [hs, Int.sign_eq_one_of_pos h]; rfl
    have mv : ∀ z : Int, ((Int.gcd a b : Nat) : Int) ∣ z → (s * z).fdiv ((Nat.gcd a.natAbs b.natAbs : Nat) : Int) = z.fdiv (((Int.gcd a b : Nat) : Int) * s) := fun z ⟨w, hw⟩ => by
      have e1 : s * z = ((Nat.gcd a.natAbs b.natAbs : Nat) : Int) * (s * w) := by
        rw [hw, ← Int.mul_assoc, Int.mul_comm s, Int.mul_assoc]; rfl
      have e2 : z = (((Int.gcd a b : Nat) : Int) * s) * (s * w) := by
        rw [Int.mul_assoc, ← Int.mul_assoc s s w, hss, Int.one_mul]; exact hw
      have hgs : ((Int.gcd a b : Nat) : Int) * s ≠ 0 := fun q => by
        rcases Int.mul_eq_zero.mp q with q | q
        · exact hg0 q
        · rw [q] at hss; cases hss
      rw [Int.fdiv_eq_ediv_of_dvd ⟨s * w, e1⟩, Int.fdiv_eq_ediv_of_dvd ⟨s * w, e2⟩]
      conv => lhs; rw [e1]
      conv => rhs; rw [e2]
      rw [Int.mul_ediv_cancel_left _ hg0, Int.mul_ediv_cancel_left _ hgs]
    exact ⟨mulOk_smallL (hs ▸ sign_small b), mulOk_smallL (hs ▸ sign_small b), divOk_of hg0 hg (by omega), divOk_of hg0 hg (by omega), (mv a (Int.gcd_dvd_left a b)).trans l1, (mv b (Int.gcd_dvd_right a b)).trans l2⟩
  by_cases hpos : b < 0
  · rw [if_pos hpos] at hs
    obtain ⟨f1, f2, f3, f4, f5, f6⟩ := hgd _ hs
    rw [if_pos hpos]
    walk_at "ev"
    rw [f1, f2]
    walk_at "ev"
    rw [f3, f4]
    walk_at "ev"
    rw [f5, f6]
    rfl
  · rw [if_neg hpos] at hs
    obtain ⟨f1, f2, f3, f4, f5, f6⟩ := hgd _ hs
    rw [if_neg hpos]
    walk_at "ev"
    rw [f1, f2]
    walk_at "ev"
    rw [f3, f4]
    walk_at "ev"
    rw [f5, f6]
    rfl

/-! ### draws -/
theorem roll_ok (k : Nat) {x y many : Int} (T : Mem) (h : CupB x y) (h1 : 1 ≤ many) (h2 : lt2 8000 many) :
    ∃ r x' y', callN prog W (k + 1) 22 [.ref 0, .int many] (cup x y :: T) = some (.int r, cup x' y' :: T) ∧ CupB x' y' ∧ 0 ≤ r ∧ r < many := by
  obtain ⟨hx, hy, hy2⟩ := h
  rw [u__law_roll]
  unfold m__law_roll
  walk_at "evt"
  have hne : many ≠ 0 := by omega
  have d0 := divOk_of (x := x) hne h2 (by omega)
  by_cases hpos : 0 < x
  · rw [if_pos hpos]
    rw [if_pos hne]
    walk_at "evt"
    rw [d0]
    walk_at "evt"
    refine ⟨x.fmod many, x.fdiv many, y, ?_, ⟨?_, hy, hy2⟩, ?_, ?_⟩
    · exact leave_len rfl
    · rw [Int.fdiv_eq_ediv_of_nonneg x (by omega)]
      exact Int.ediv_nonneg hx (by omega)
    · rw [Int.fmod_eq_emod_of_nonneg x (by omega)]
      exact Int.emod_nonneg x hne
    · rw [Int.fmod_eq_emod_of_nonneg x (by omega)]
      exact Int.emod_lt_of_pos x (by omega)
  · rw [if_neg hpos]
    walk_at "evt"
    have c1 : mulOk y 31051 = true := mulOk_small (by decide)
    rw [c1]
    walk_at "evt"
    have e1 : 0 ≤ (y * 31051 + 7993).fmod 2147483543 ∧ (y * 31051 + 7993).fmod 2147483543 < 2147483543 := by
      rw [Int.fmod_eq_emod_of_nonneg _ (by omega)]
      omega
    generalize (y * 31051 + 7993).fmod 2147483543 = y1 at e1
    walk_at "evt"
    have c2 : mulOk y1 (y1 + 229) = true := mulOk_small (by omega)
    rw [c2]
    walk_at "evt"
    generalize (y1 * (y1 + 229)).fmod 2147483587 = d
    have c3 : divOk d 821 = true := divOk_of (n := 10) (by decide) (by unfold lt2; decide) (by omega)
    rw [c3]
    walk_at "evt"
    rw [if_pos hne]
    refine ⟨(d.fdiv 821).fmod many, x, y1, leave_len rfl, ⟨hx, e1.1, by omega⟩, ?_, ?_⟩
    · rw [Int.fmod_eq_emod_of_nonneg _ (by omega)]
      exact Int.emod_nonneg _ hne
    · rw [Int.fmod_eq_emod_of_nonneg _ (by omega)]
      exact Int.emod_lt_of_pos _ (by omega)
theorem listB_rol (M : Mem) (xs : List PV) : listB M [.rol xs] = some (.lst xs) := rfl
theorem cup_ok (k : Nat) (ns : List Int) (hl : ns.length ≤ 63) : ∃ x y, callN prog W (k + 1) 21 [.rol (ns.map PV.int)] [] = some (.ref 0, [cup x y]) ∧ CupB x y := by
  rw [u__law_cup]
  unfold m__law_cup
  walk_at "evt"
  rw [listB_rol]
  walk_at "evt"
  rw [if_pos (by rw [List.length_map]; omega)]
  obtain ⟨c, rest, e, hc⟩ : ∃ c rest, ns.map PV.int ++ [PV.int 0] = .int c :: rest ∧ True := by
    cases ns with
    | nil => exact ⟨0, [], rfl, trivial⟩
    | cons n ns => exact ⟨n, ns.map PV.int ++ [PV.int 0], rfl, trivial⟩
  rw [e]
  walk_at "evt"
  rw [abs_nat]
  generalize hcc : ((c.natAbs : Nat) : Int) = a
  have ha : 0 ≤ a := by omega
  have p18 : powOp (.int 10) (.int 18) = some (.int 1000000000000000000) := by rfl
  rw [p18]
  walk_at "evt"
  have c1 : mulOk a 283 = true := mulOk_small (by decide)
  have c2 : divOk a 73 = true := divOk_of (n := 7) (by decide) (by unfold lt2; decide) (by omega)
  rw [c1, c2]
  by_cases h18 : 1000000000000000000 ≤ a
  · walk_at "evt"
    rw [if_pos h18]
    walk_at "evt"
    have e1 : 0 ≤ (a * 283 + 3907).fmod 2077503167 ∧ (a * 283 + 3907).fmod 2077503167 < 2077503167 := by
      rw [Int.fmod_eq_emod_of_nonneg _ (by omega)]
      omega
    refine ⟨_, _, rfl, ?_, by omega, by omega⟩
    rw [Int.fdiv_eq_ediv_of_nonneg _ (by omega)]
    omega
  · walk_at "evt"
    rw [if_neg h18]
    walk_at "evt"
    have e1 : 0 ≤ (a * 283 + 3907).fmod 2077503167 ∧ (a * 283 + 3907).fmod 2077503167 < 2077503167 := by
      rw [Int.fmod_eq_emod_of_nonneg _ (by omega)]
      omega
    exact ⟨0, _, rfl, by omega, by omega, by omega⟩

/-! ### equal, including the kinds -/
theorem sort_ok (k : Nat) (v : PV) (M : Mem) : callN prog W (k + 1) 23 [v] M = some (.int (sortP v), M) := by
  rw [u__law_sort]
  unfold m__law_sort
  cases v <;> (walk_at "ev"; rfl)
theorem in_45 (M : Mem) (v : PV) (h6 : sortP v ≠ 6) : inOp M (.int (sortP v)) (.tup [.int 4, .int 5]) = some (decide (4 ≤ sortP v)) := by
  cases v <;> first | rfl | exact absurd rfl h6
theorem pl_ne6 {v : PV} (h : pl v = true) : sortP v ≠ 6 := by cases v <;> first | (simp [sortP]; done) | cases h
theorem eqD_nil (M : Mem) : eqD M (.lst []) (.lst []) = some true := rfl
theorem like_seq (k : Nat) (M : Mem) (a b : PV) (kd : Bool) (xs : List PV) (g : Gd) (ha : seqG M a = some (kd, xs, g)) (hb : seqG M b = some (kd, xs, [])) (hg : gOk (g ++ []) M = true) (la : lenB M [a] = some (.int xs.length)) (lb : lenB M [b] = some (.int xs.length))
    (hs : sortP a = sortP b) (h4 : 4 ≤ sortP b) (h6 : sortP b ≠ 6) (ih : ∀ x ∈ xs, callN prog W (k + 1) 24 [x, x] M = some (.bl true, M)) : callN prog W (k + 2) 24 [a, b] M = some (.bl true, M) := by
  rw [u__law_like]
  unfold m__law_like
  walk_at "evt"
  rw [sort_ok]
  walk_at "evt"
  rw [sort_ok, hs]
  walk_at "evt"
  rw [if_neg h6]
  walk_at "evt"
  rw [in_45 _ _ h6]
  walk_at "evt"
  rw [if_pos h4]
  walk_at "evt"
  rw [la]
  walk_at "evt"
  rw [lb]
  walk_at "evt"
  rw [ha, hb]
  walk_at "evt"
  rw [lcL_none hg]
  · walk_at "evt"
    rw [eqD_nil]
    walk_at "evt"
  · intro z hz
    obtain ⟨x, hx, rfl⟩ := zip_mem hz
    refine ⟨_, by walk_at "ev"; rfl, ?_⟩
    walk_at "evt"
    rw [ih x hx]
    walk_at "evt"
theorem eqD_scal (M : Mem) (v : PV) (h : pl v = true) (h4 : ¬ 4 ≤ sortP v) : eqD M v v = some true := by
  cases v with
  | non => rfl
  | bl b => show some (b == b) = _; rw [beq_self_eq_true]
  | int i => rw [eqD_ii, decide_eq_true rfl]
  | str s =>
    have h' : PySem.PyData.canLay0 (.str s) = true := h
    show (if (PySem.SeqAt.shaped (.str s) && PySem.SeqAt.shaped (.str s)) = true then some (s == s) else none) = _
    unfold PySem.SeqAt.shaped
    rw [h']
    show (if true = true then some (s == s) else none) = _
    rw [if_pos rfl, beq_self_eq_true]
  | tup xs => exact absurd (show (4 : Int) ≤ 4 by decide) h4
  | lst xs => exact absurd (show (4 : Int) ≤ 5 by decide) h4
  | rol xs => exact absurd (show (4 : Int) ≤ 5 by decide) h4
  | ref n => exact absurd (show (4 : Int) ≤ 5 by decide) h4
  | dct n => exact absurd (show (4 : Int) ≤ 6 by decide) h4
theorem like_self : ∀ (k : Nat) (v : PV) (M : Mem), pl v = true → dpt v ≤ k → callN prog W (k + 2) 24 [v, v] M = some (.bl true, M)
  | k, v, M, hp, hd => by
    by_cases h4 : 4 ≤ sortP v
    · cases v with
      | tup xs =>
        have hd' : dpts xs + 1 ≤ k := hd
        obtain ⟨k, rfl⟩ : ∃ j, k = j + 1 := ⟨k - 1, by omega⟩
        refine like_seq (k + 1) M _ _ true xs [] rfl rfl rfl rfl rfl rfl h4 (by show (4 : Int) ≠ 6; decide) fun x hx => ?_
        obtain ⟨h1, h2⟩ := pls_mem hp hx
        exact like_self k x M h1 (by omega)
      | lst xs =>
        have hd' : dpts xs + 1 ≤ k := hd
        obtain ⟨k, rfl⟩ : ∃ j, k = j + 1 := ⟨k - 1, by omega⟩
        refine like_seq (k + 1) M _ _ false xs [] rfl rfl rfl rfl rfl rfl h4 (by show (5 : Int) ≠ 6; decide) fun x hx => ?_
        obtain ⟨h1, h2⟩ := pls_mem hp hx
        exact like_self k x M h1 (by omega)
      | rol xs => cases hp
      | ref n => cases hp
      | dct n => cases hp
      | non => exact absurd h4 (by decide)
      | bl b => exact absurd h4 (by show ¬ (4 : Int) ≤ 1; decide)
      | int i => exact absurd h4 (by show ¬ (4 : Int) ≤ 2; decide)
      | str s => exact absurd h4 (by show ¬ (4 : Int) ≤ 3; decide)
    · rw [u__law_like]
      unfold m__law_like
      walk_at "evt"
      rw [sort_ok]
      walk_at "evt"
      rw [sort_ok]
      walk_at "evt"
      rw [if_neg (by omega)]
      walk_at "evt"
      rw [in_45 _ _ (pl_ne6 hp)]
      walk_at "evt"
      rw [if_neg h4]
      walk_at "evt"
      rw [eqD_scal M v hp h4]
      walk_at "evt"
  termination_by k => k
/-- a told list (a cell) beside the due one -/
theorem like_ref (k : Nat) (n : Nat) (xs : List PV) (M : Mem) (h : M[n]? = some (.lst xs)) (hp : pls xs = true) (hd : dpts xs ≤ k) : callN prog W (k + 3) 24 [.ref n, .lst xs] M = some (.bl true, M) := by
  refine like_seq (k + 1) M _ _ false xs [(n, xs)] (by show (match M[n]? with | some (.lst xs) => some (false, xs, [(n, xs)]) | _ => none) = _; rw [h]) rfl ?_ ?_ rfl rfl (by show (4 : Int) ≤ 5; decide) (by show (5 : Int) ≠ 6; decide) fun x hx => ?_
  · show ((match M[n]? with | some (.lst ys) => pbeqs ys xs | _ => false) && true) = true
    rw [h, Bool.and_true]
    exact pbeqs_self xs
  · unfold lenB itemsT items
    simp only [h]
    rfl
  · obtain ⟨h1, h2⟩ := pls_mem hp hx
    exact like_self k x M h1 (by omega)

/-! ### chains -/
theorem fr_0' : (PV.tup [.int 0, .int 1]) = fr 0 := rfl
theorem fr_1' : (PV.tup [.int 1, .int 1]) = fr 1 := rfl
theorem fr_m1' : (PV.tup [.int (-1), .int 1]) = fr (-1) := rfl
theorem idx_fr0 (M : Mem) (q : Rat) : idxOp M (fr q) (.int 0) = some (.int q.num) := idx_tup0 _ _ _
theorem idx_fr1 (M : Mem) (q : Rat) : idxOp M (fr q) (.int 1) = some (.int q.den) := idx_tup1 _ _ _ _
theorem lcL_n {t : T} {c : Env → Mem → Option (Bool × Mem)} {e : Env → Mem → Option (PV × Mem)} {env : Env} {acc : List PV} {M : Mem} : lcL t [] c e env [] acc M = some (acc, M) := by unfold lcL; rfl
theorem lcL_c {t : T} {c : Env → Mem → Option (Bool × Mem)} {e : Env → Mem → Option (PV × Mem)} {env : Env} {x : PV} {xs acc : List PV} {M : Mem} : lcL t [] c e env (x :: xs) acc M =
    (bindT t x env).bind fun env1 => bnd (c env1 M) fun b M1 => bifb (some b) (bnd (e env1 M1) fun v M2 => lcL t [] c e env xs (acc ++ [v]) M2) (lcL t [] c e env xs acc M1) := by
  conv => lhs; unfold lcL
  show (match bindT t x env with | some env1 => _ | none => none) = _
  cases bindT t x env with
  | none => rfl
  | some env1 =>
    show (match c env1 M with | some (true, M1) => _ | some (false, M1) => _ | none => none) = bnd (c env1 M) _
    rcases c env1 M with _ | ⟨b, M1⟩
    · rfl
    · cases b
      · rfl
      · show (match e env1 M1 with | some (v, M2) => _ | none => none) = bnd (e env1 M1) _
        rcases e env1 M1 with _ | ⟨v, M2⟩ <;> rfl
theorem forL_n {t : T} {body : Env → Mem → Option R} {env : Env} {M : Mem} : forL t [] body [] env M = some (.nx env M) := by unfold forL; rfl
theorem forL_c {t : T} {body : Env → Mem → Option R} {x : PV} {xs : List PV} {env : Env} {M : Mem} : forL t [] body (x :: xs) env M = (bindT t x env).bind fun env1 => nxt (body env1 M) fun env2 M2 => forL t [] body xs env2 M2 := by
  conv => lhs; unfold forL
  show (match bindT t x env with | some env1 => _ | none => none) = _
  cases bindT t x env with
  | none => rfl
  | some env1 =>
    show (match body env1 M with | some (.nx env2 M2) => _ | r => r) = nxt (body env1 M) _
    rcases body env1 M with _ | r
    · rfl
    · cases r <;> rfl
local macro_rules | `(tactic| walk_at "evf") => `(tactic| simp -implicitDefEqProofs only [execs, exec, eval, evals, evalI, conds, bnd_some, bnd_none, bifb_t, bifb_f, bifb_d, bifb_b, iff_t, iff_d, nxt_nx, nxt_rt, binop, cmpop, addOp_ii, addOp_tt, addOp_ll, subOp_ii, mulOp_ii, fdivOp_ii, modOp_ii, cmpI_ii, tru_bl, tru_int, absB_i, intB_i, asM_int, asM_bl, asM_tup, asM_false, isOp_n, isOp_bb, isNon_non, isNon_tup, isNon_int, isNon_bl, isNon_lst, isNon_ref, isNon_rol, isNon_str, isNon_fr, setAll_nil, setAll_cons, bindT_nm, bindT_tp, fin_rt, fin_nx, leave_same, bltOp, idx_tup0, idx_tup1, idx_tup2, idx_tup3, idx_lst0, idx_lst1, idx_lst2, idx_lst3, eqD_ii, eqD_bb, eqD_fr, Option.map_some, Option.map_none, Option.bind_some, List.getElem?_cons_zero, List.getElem?_cons_succ, List.set_cons_zero, List.set_cons_succ, List.length_cons, List.length_nil, if_true, if_false, decide_true, decide_false, Bool.not_true, Bool.not_false, decide_eq_true_eq, sizeL, Nat.reduceAdd, Nat.reduceLeDiff, Nat.zero_add, beq_self_eq_true, seqG_tup, seqG_lst, lenB_tup, lenB_lst, idx_cup0, idx_cup1, setAt0, setAt1, cup, isTy, Bool.false_eq_true, newL_f, newL_t, fin_rtk, List.nil_append, wipeE, Int.reduceNe, Int.reduceEq, Int.reduceLT, Int.reduceLE, Int.reduceAdd, Int.reduceSub, Int.reduceMul, Int.reduceNeg, Int.reduceGT, fr_0', fr_1', fr_m1', idx_fr0, idx_fr1, lcL_n, lcL_c, forL_n, forL_c, allB, items, boolsOf, List.all_cons, List.all_nil, id_eq, Bool.and_true, List.cons_append, List.append_nil, cmpop, k_DIGITS, k_FIGURES, not_true_eq_false, not_false_eq_true, ite_true, ite_false, *])
theorem is_tuple_of_ok (k : Nat) (xs : List PV) (lo hi : Int) (M : Mem) (h1 : lo ≤ (xs.length : Int)) (h2 : (xs.length : Int) ≤ hi) : callN prog W (k + 1) 3 [.tup xs, .int lo, .int hi] M = some (.bl true, M) := by
  rw [u_is_tuple_of]
  unfold m_is_tuple_of
  walk_at "evf"
theorem is_integer_ok (k : Nat) (i : Int) (M : Mem) : callN prog W (k + 1) 0 [.int i] M = some (.bl true, M) := by
  rw [u_is_integer]
  unfold m_is_integer
  walk_at "evf"
theorem num_one {a : Int} {q : Rat} : Int.gcd q.num (q.den : Int) = 1 := by
  have := q.reduced
  unfold Nat.Coprime at this
  unfold Int.gcd
  rw [Int.natAbs_natCast]
  exact this
theorem fits_fraction_ok (k : Nat) {q : Rat} (M : Mem) (h : sm 132 q) : callN prog W (k + 2) 6 [fr q] M = some (.bl true, M) := by
  obtain ⟨h1, h2⟩ := h
  have e : (2 : Nat) ^ 132 < 10000000000000000000000000000000000000000 := by decide +kernel
  have p1 : -10000000000000000000000000000000000000000 < q.num := by unfold lt2 at h1; omega
  have p2 : q.num < 10000000000000000000000000000000000000000 := by unfold lt2 at h1; omega
  have p3 : -10000000000000000000000000000000000000000 < (q.den : Int) := by omega
  have p4 : (q.den : Int) < 10000000000000000000000000000000000000000 := by omega
  have p5 : 1 ≤ (q.den : Int) := den_pos q
  have f1 : ∀ k, callN prog W (k + 1) 3 [.tup [.int q.num, .int q.den], .int 2, .int 2] M = some (.bl true, M) := fun k => is_tuple_of_ok k _ _ _ M (by simp) (by simp)
  have f2 := fun k i => is_integer_ok k i M
  have f3 : ∀ k, callN prog W (k + 1) 4 [.int q.num, .int q.den] M = some (.int 1, M) := fun k => by
    rw [divisor_of_ok k _ _ M (n := 132) (by unfold lt2; rw [Int.natAbs_natCast]; exact h2) (by omega), num_one (a := 0)]
    rfl
  rw [u_fits_fraction]
  unfold m_fits_fraction fr
  walk_at "evf"
theorem sm_0 (n : Nat) (h : 1 ≤ n) : sm n 0 := by
  have : 2 ^ 1 ≤ 2 ^ n := Nat.pow_le_pow_right (by decide) h
  refine ⟨?_, ?_⟩
  · show (0 : Nat) < 2 ^ n; omega
  · show (1 : Nat) < 2 ^ n; omega
theorem sm_1 (n : Nat) (h : 1 ≤ n) : sm n 1 := by
  have : 2 ^ 1 ≤ 2 ^ n := Nat.pow_le_pow_right (by decide) h
  refine ⟨?_, ?_⟩
  · show (1 : Nat) < 2 ^ n; omega
  · show (1 : Nat) < 2 ^ n; omega
mutual
theorem toD_pl : ∀ v : PV, pl v = true → ∃ d, toD v = some d ∧ d.canLay0 = true ∧ d.depth = dpt v
  | .non, _ => ⟨.none, rfl, rfl, rfl⟩
  | .bl b, _ => ⟨.bool b, rfl, rfl, rfl⟩
  | .int i, _ => ⟨.int i, rfl, rfl, rfl⟩
  | .str s, h => ⟨.str s, rfl, h, rfl⟩
  | .tup xs, h => by
    obtain ⟨ds, e1, e2, e3⟩ := toDs_pl xs h
    refine ⟨.tuple ds, ?_, e2, ?_⟩
    · show (toDs xs).map PySem.PyData.tuple = _
      rw [e1]; rfl
    · show PySem.PyData.depthAll ds + 1 = dpts xs + 1
      rw [e3]
  | .lst xs, h => by
    obtain ⟨ds, e1, e2, e3⟩ := toDs_pl xs h
    refine ⟨.list ds, ?_, e2, ?_⟩
    · show (toDs xs).map PySem.PyData.list = _
      rw [e1]; rfl
    · show PySem.PyData.depthAll ds + 1 = dpts xs + 1
      rw [e3]
theorem toDs_pl : ∀ xs : List PV, pls xs = true → ∃ ds, toDs xs = some ds ∧ PySem.PyData.canLayAll0 ds = true ∧ PySem.PyData.depthAll ds = dpts xs
  | [], _ => ⟨[], rfl, rfl, rfl⟩
  | x :: xs, h => by
    have h' : (pl x && pls xs) = true := h
    rw [Bool.and_eq_true] at h'
    obtain ⟨d, a1, a2, a3⟩ := toD_pl x h'.1
    obtain ⟨ds, b1, b2, b3⟩ := toDs_pl xs h'.2
    refine ⟨d :: ds, ?_, ?_, ?_⟩
    · show (match toD x, toDs xs with | some d, some ds => some (d :: ds) | _, _ => none) = _
      rw [a1, b1]
    · show (d.canLay0 && PySem.PyData.canLayAll0 ds) = true
      rw [a2, b2]; rfl
    · show max d.depth (PySem.PyData.depthAll ds) = max (dpt x) (dpts xs)
      rw [a3, b3]
end
theorem eqD_t0 (M : Mem) (xs : List PV) (h : pls xs = true) (hd : dpts xs ≤ 63) : eqD M (.tup xs) (.tup []) = some xs.isEmpty := by
  obtain ⟨ds, e1, e2, e3⟩ := toDs_pl xs h
  have t1 : toDM M (.tup xs) = some (.tuple ds) := by
    show (toDs xs).map PySem.PyData.tuple = _
    rw [e1]; rfl
  have t2 : toDM M (.tup []) = some (.tuple []) := rfl
  have s1 : PySem.SeqAt.shaped (.tuple ds) = true := by
    unfold PySem.SeqAt.shaped
    rw [Bool.and_eq_true]
    exact ⟨e2, decide_eq_true (by show PySem.PyData.depthAll ds + 1 ≤ 64; omega)⟩
  have s2 : PySem.SeqAt.shaped (.tuple []) = true := rfl
  unfold eqD
  rw [t1, t2]
  show (if (PySem.SeqAt.shaped (.tuple ds) && PySem.SeqAt.shaped (.tuple [])) = true then _ else _) = _
  rw [s1, s2, if_pos (by decide)]
  cases xs with
  | nil =>
    cases e1
    rfl
  | cons x xs =>
    cases ds with
    | nil =>
      exfalso
      have e1' : (match toD x, toDs xs with | some d, some ds => some (d :: ds) | _, _ => none) = some [] := e1
      split at e1' <;> cases e1'
    | cons d ds => rfl
theorem pl_fr (q : Rat) : pl (fr q) = true := rfl
theorem dpt_fr (q : Rat) : dpt (fr q) = 1 := rfl
theorem leave_cup (c : Cell) (v : PV) (T : Mem) : leave (T.length + 1) v (c :: T) = some (v, c :: T) := leave_len rfl
theorem rngI_len : ∀ (n : Nat) (a : Int), (rngI a n).length = n
  | 0, _ => rfl
  | n + 1, a => by
    show (rngI (a + 1) n).length + 1 = n + 1
    rw [rngI_len n]
theorem rngI_int : ∀ (n : Nat) (a : Int) (v : PV), v ∈ rngI a n → ∃ i, v = .int i
  | n + 1, a, v, h => by
    rcases List.mem_cons.mp (show v ∈ .int a :: rngI (a + 1) n from h) with h | h
    · exact ⟨a, h⟩
    · exact rngI_int n _ v h
theorem tupleB_lst (M : Mem) (xs : List PV) : tupleB M [.lst xs] = some (.tup xs) := rfl
theorem like_ok (k : Nat) (v : PV) (M : Mem) (hp : pl v = true) (hd : dpt v ≤ k) : callN prog W (k + 2) 24 [v, v] M = some (.bl true, M) := like_self k v M hp hd
/-- a list beside the empty one -/
theorem eqD_l0 (M : Mem) (xs : List PV) (h : pls xs = true) (hd : dpts xs ≤ 60) : eqD M (.lst xs) (.lst []) = some xs.isEmpty := by
  obtain ⟨ds, e1, e2, e3⟩ := toDs_pl xs h
  have t1 : toDM M (.lst xs) = some (.list ds) := by
    show (toDs xs).map PySem.PyData.list = _
    rw [e1]; rfl
  have t2 : toDM M (.lst []) = some (.list []) := rfl
  have s1 : PySem.SeqAt.shaped (.list ds) = true := by
    unfold PySem.SeqAt.shaped
    rw [Bool.and_eq_true]
    exact ⟨e2, decide_eq_true (by show PySem.PyData.depthAll ds + 1 ≤ 64; omega)⟩
  have s2 : PySem.SeqAt.shaped (.list []) = true := rfl
  unfold eqD
  rw [t1, t2]
  show (if (PySem.SeqAt.shaped (.list ds) && PySem.SeqAt.shaped (.list [])) = true then _ else _) = _
  rw [s1, s2, if_pos (by decide)]
  cases xs with
  | nil =>
    cases e1
    rfl
  | cons x xs =>
    cases ds with
    | nil =>
      exfalso
      have e1' : (match toD x, toDs xs with | some d, some ds => some (d :: ds) | _, _ => none) = some [] := e1
      split at e1' <;> cases e1'
    | cons d ds => rfl

/-! ### end numbers -/
theorem l_divisor_ok (k : Nat) (a b : Int) (M : Mem) {n : Nat} (hb : lt2 n b) (hn : n ≤ 100000) : callN prog W (k + 1) 26 [.int a, .int b] M = some (.int (Int.gcd a b : Nat), M) := by
  rw [u__law_divisor]
  unfold m__law_divisor
  walk_at "ev"
  rw [abs_nat, abs_nat, whl_gcd (fun x y => [some (.int x), some (.int y)]) _ _ M (fun a b => ?_) (fun a b h => ?_) n W a.natAbs b.natAbs hb (by unfold W; omega)]
  · walk_at "ev"
    rfl
  · walk_at "ev"
    rw [decide_not]
  · walk_at "ev"
    rw [if_pos h]
    walk_at "ev"
def g3 (x y z : Int) : Nat := Int.gcd ((Int.gcd x y : Nat) : Int) z
theorem g3_mul (k x y z : Int) : g3 (k * x) (k * y) (k * z) = k.natAbs * g3 x y z := by
  unfold g3
  rw [Int.gcd_mul_left]
  have : ((k.natAbs * Int.gcd x y : Nat) : Int) = (k.natAbs : Int) * ((Int.gcd x y : Nat) : Int) := by rw [Int.natCast_mul]
  rw [this]
  unfold Int.gcd
  rw [Int.natAbs_mul, Int.natAbs_mul, Int.natAbs_natCast, Nat.gcd_mul_left]
structure Ep (X Y Z : Int) : Prop where
  x : 0 < X
  z : 0 < Z
  g : g3 X Y Z = 1
theorem g3_dvd (x y z : Int) : ((g3 x y z : Nat) : Int) ∣ x ∧ ((g3 x y z : Nat) : Int) ∣ y ∧ ((g3 x y z : Nat) : Int) ∣ z := by
  have h1 : ((g3 x y z : Nat) : Int) ∣ ((Int.gcd x y : Nat) : Int) := Int.gcd_dvd_left _ _
  exact ⟨Int.dvd_trans h1 (Int.gcd_dvd_left _ _), Int.dvd_trans h1 (Int.gcd_dvd_right _ _), Int.gcd_dvd_right _ _⟩
theorem fdiv_ex {p q r : Int} (hq : q ≠ 0) (h : p = q * r) : p.fdiv q = r := by
  rw [Int.fdiv_eq_ediv_of_dvd ⟨r, h⟩, h]
  exact Int.mul_ediv_cancel_left _ hq
/-- the least whole numbers in the same share -/
theorem prim {x y z : Int} (hx : 0 < x) (hz : 0 < z) : ∃ X Y Z : Int, x = (g3 x y z : Nat) * X ∧ y = (g3 x y z : Nat) * Y ∧ z = (g3 x y z : Nat) * Z ∧ Ep X Y Z ∧ 0 < g3 x y z ∧ x.fdiv (g3 x y z : Nat) = X ∧ y.fdiv (g3 x y z : Nat) = Y ∧ z.fdiv (g3 x y z : Nat) = Z := by
  obtain ⟨⟨X, e1⟩, ⟨Y, e2⟩, ⟨Z, e3⟩⟩ := g3_dvd x y z
  have hg : 0 < g3 x y z := by
    rcases Nat.eq_zero_or_pos (g3 x y z) with h | h
    · rw [h] at e1; simp at e1; omega
    · exact h
  have hgi : (0 : Int) < (g3 x y z : Nat) := by omega
  have hne : ((g3 x y z : Nat) : Int) ≠ 0 := by omega
  refine ⟨X, Y, Z, e1, e2, e3, ⟨?_, ?_, ?_⟩, hg, ?_, ?_, ?_⟩
  · rw [e1] at hx
    exact Int.pos_of_mul_pos_right hx hgi
  · rw [e3] at hz
    exact Int.pos_of_mul_pos_right hz hgi
  · have h := g3_mul (g3 x y z : Nat) X Y Z
    rw [← e1, ← e2, ← e3, Int.natAbs_natCast] at h
    have h2 : g3 x y z * 1 = g3 x y z * g3 X Y Z := by omega
    exact (Nat.eq_of_mul_eq_mul_left hg h2).symm
  · exact fdiv_ex hne e1
  · exact fdiv_ex hne e2
  · exact fdiv_ex hne e3
theorem Ep_uniq {X Y Z X' Y' Z' : Int} (h : Ep X Y Z) (h' : Ep X' Y' Z') (e1 : X * Y' = X' * Y) (e2 : X * Z' = X' * Z) : X = X' ∧ Y = Y' ∧ Z = Z' := by
  have a := g3_mul X X' Y' Z'
  have b := g3_mul X' X Y Z
  rw [h'.g, Nat.mul_one] at a
  rw [h.g, Nat.mul_one] at b
  rw [e1, e2, Int.mul_comm X X'] at a
  rw [a] at b
  have hx := h.x
  have hx' := h'.x
  have e : X = X' := by omega
  subst e
  exact ⟨rfl, (Int.eq_of_mul_eq_mul_left (by omega) e1).symm, (Int.eq_of_mul_eq_mul_left (by omega) e2).symm⟩
/-! ### lasting chains -/
theorem subOp_bb (a b : Bool) : subOp (.bl a) (.bl b) = some (.int ((if a then 1 else 0) - (if b then 1 else 0))) := rfl
def sgnI (n : Int) : Int := (if decide (0 < n) then 1 else 0) - (if decide (n < 0) then 1 else 0)
theorem sign_of_ok (k : Nat) (n : Int) (M : Mem) : callN prog W (k + 1) 10 [.int n] M = some (.int (sgnI n), M) := by
  have h := subOp_bb (decide (0 < n)) (decide (n < 0))
  rw [u_sign_of]
  unfold m_sign_of sgnI
  simp -implicitDefEqProofs only [execs, exec, eval, evals, evalI, conds, bnd_some, bnd_none, bifb_t, bifb_f, bifb_d, bifb_b, iff_t, iff_d, nxt_nx, nxt_rt, binop, cmpop, addOp_ii, addOp_tt, addOp_ll, subOp_ii, mulOp_ii, fdivOp_ii, modOp_ii, cmpI_ii, tru_bl, tru_int, absB_i, intB_i, asM_int, asM_bl, asM_tup, asM_false, isOp_n, isOp_bb, isNon_non, isNon_tup, isNon_int, isNon_bl, isNon_lst, isNon_ref, isNon_rol, isNon_str, isNon_fr, setAll_nil, setAll_cons, bindT_nm, bindT_tp, fin_rt, fin_nx, leave_same, bltOp, idx_tup0, idx_tup1, idx_tup2, idx_tup3, idx_lst0, idx_lst1, idx_lst2, idx_lst3, eqD_ii, eqD_bb, eqD_fr, Option.map_some, Option.map_none, Option.bind_some, List.getElem?_cons_zero, List.getElem?_cons_succ, List.set_cons_zero, List.set_cons_succ, List.length_cons, List.length_nil, if_true, if_false, decide_true, decide_false, Bool.not_true, Bool.not_false, decide_eq_true_eq, sizeL, Nat.reduceAdd, Nat.reduceLeDiff, Nat.zero_add, beq_self_eq_true, seqG_tup, seqG_lst, lenB_tup, lenB_lst, idx_cup0, idx_cup1, setAt0, setAt1, cup, isTy, Bool.false_eq_true, newL_f, newL_t, fin_rtk, List.nil_append, wipeE, Int.reduceNe, Int.reduceEq, Int.reduceLT, Int.reduceLE, Int.reduceAdd, Int.reduceSub, Int.reduceMul, Int.reduceNeg, Int.reduceGT, cmpop, gt_iff_lt, h]
def wf (X Y Z u v : Int) : Int := X * u * u + Y * u * v - Z * v * v
theorem beside_ok (k : Nat) {X Y Z : Int} {q : Rat} (M : Mem) {n m : Nat} (hX : lt2 n X) (hY : lt2 n Y) (hZ : lt2 n Z) (hq : sm m q) (hn : n ≤ 3000) (hm : m ≤ 3000) (hp : 0 < q.num) : callN prog W (k + 2) 11 [.tup [.int X, .int Y, .int Z], fr q] M = some (.int (-sgnI (wf X Y Z q.num q.den)), M) := by
  have a1 : mulOk X q.num = true := mulOk_of hX hq.1 (by omega)
  have a2 : mulOk (X * q.num) q.num = true := mulOk_of (hX.mul hq.1) hq.1 (by omega)
  have a3 : mulOk Y q.num = true := mulOk_of hY hq.1 (by omega)
  have a4 : mulOk (Y * q.num) q.den = true := mulOk_of (hY.mul hq.1) hq.den (by omega)
  have a5 : mulOk Z q.den = true := mulOk_of hZ hq.den (by omega)
  have a6 : mulOk (Z * q.den) q.den = true := mulOk_of (hZ.mul hq.den) hq.den (by omega)
  have bd : ∀ (e : Env), bindT (.tp [5, 6]) (fr q) e = some ((e.set 5 (some (.int q.num))).set 6 (some (.int q.den))) := fun e => rfl
  have f := fun k => sign_of_ok k (wf X Y Z q.num q.den) M
  unfold wf at f
  have hp' : ¬ q.num ≤ 0 := by omega
  rw [u_beside_in]
  unfold m_beside_in wf
  clear hX hY hZ hq hp
  walk_at "evf"
theorem fits_end_ok (k : Nat) {X Y Z m : Int} (M : Mem) {n : Nat} (hp : Ep X Y Z) (x1 : -m < X) (x2 : X < m) (y1 : -m < Y) (y2 : Y < m) (z1 : -m < Z) (z2 : Z < m) (hY : lt2 n Y) (hZ : lt2 n Z) (hn : n ≤ 3000) : callN prog W (k + 2) 8 [.tup [.int X, .int Y, .int Z], .int m] M = some (.bl true, M) := by
  have f1 : ∀ k, callN prog W (k + 1) 3 [.tup [.int X, .int Y, .int Z], .int 3, .int 3] M = some (.bl true, M) := fun k => is_tuple_of_ok k _ _ _ M (by simp) (by simp)
  have f2 := fun k i => is_integer_ok k i M
  have D1 := fun k => divisor_of_ok k X Y M hY (by omega)
  have D2 : ∀ k, callN prog W (k + 1) 4 [.int ((Int.gcd X Y : Nat) : Int), .int Z] M = some (.int 1, M) := fun k => by
    rw [divisor_of_ok k _ Z M hZ (by omega)]
    have := hp.g
    unfold g3 at this
    rw [this]
    rfl
  have hx := hp.x
  have hz := hp.z
  rw [u_fits_end]
  unfold m_fits_end
  clear hp hY hZ
  simp -implicitDefEqProofs only [execs, exec, eval, evals, evalI, conds, bnd_some, bnd_none, bifb_t, bifb_f, bifb_d, bifb_b, iff_t, iff_d, nxt_nx, nxt_rt, binop, cmpop, addOp_ii, addOp_tt, addOp_ll, subOp_ii, mulOp_ii, fdivOp_ii, modOp_ii, cmpI_ii, tru_bl, tru_int, absB_i, intB_i, asM_int, asM_bl, asM_tup, asM_false, isOp_n, isOp_bb, isNon_non, isNon_tup, isNon_int, isNon_bl, isNon_lst, isNon_ref, isNon_rol, isNon_str, isNon_fr, setAll_nil, setAll_cons, bindT_nm, bindT_tp, fin_rt, fin_nx, leave_same, bltOp, idx_tup0, idx_tup1, idx_tup2, idx_tup3, idx_lst0, idx_lst1, idx_lst2, idx_lst3, eqD_ii, eqD_bb, eqD_fr, Option.map_some, Option.map_none, Option.bind_some, List.getElem?_cons_zero, List.getElem?_cons_succ, List.set_cons_zero, List.set_cons_succ, List.length_cons, List.length_nil, if_true, if_false, decide_true, decide_false, Bool.not_true, Bool.not_false, decide_eq_true_eq, sizeL, Nat.reduceAdd, Nat.reduceLeDiff, Nat.zero_add, beq_self_eq_true, seqG_tup, seqG_lst, lenB_tup, lenB_lst, idx_cup0, idx_cup1, setAt0, setAt1, cup, isTy, Bool.false_eq_true, newL_f, newL_t, fin_rtk, List.nil_append, wipeE, Int.reduceNe, Int.reduceEq, Int.reduceLT, Int.reduceLE, Int.reduceAdd, Int.reduceSub, Int.reduceMul, Int.reduceNeg, Int.reduceGT, lcL_n, lcL_c, allB, items, boolsOf, List.all_cons, List.all_nil, id_eq, Bool.and_true, List.cons_append, cmpop, gt_iff_lt, *]
theorem fits_lt (k : Nat) {q : Rat} (M : Mem) (p1 : -10000000000000000000000000000000000000000 < q.num) (p2 : q.num < 10000000000000000000000000000000000000000) (p4 : (q.den : Int) < 10000000000000000000000000000000000000000) : callN prog W (k + 2) 6 [fr q] M = some (.bl true, M) := by
  have p5 : 1 ≤ (q.den : Int) := den_pos q
  have p3 : -10000000000000000000000000000000000000000 < (q.den : Int) := by omega
  have f1 : ∀ k, callN prog W (k + 1) 3 [.tup [.int q.num, .int q.den], .int 2, .int 2] M = some (.bl true, M) := fun k => is_tuple_of_ok k _ _ _ M (by simp) (by simp)
  have f2 := fun k i => is_integer_ok k i M
  have e : (10000000000000000000000000000000000000000 : Nat) < 2 ^ 133 := by decide +kernel
  have f3 : ∀ k, callN prog W (k + 1) 4 [.int q.num, .int q.den] M = some (.int 1, M) := fun k => by
    rw [divisor_of_ok k _ _ M (n := 133) (by unfold lt2; omega) (by omega), num_one (a := 0)]
    rfl
  rw [u_fits_fraction]
  unfold m_fits_fraction fr
  simp -implicitDefEqProofs only [execs, exec, eval, evals, evalI, conds, bnd_some, bnd_none, bifb_t, bifb_f, bifb_d, bifb_b, iff_t, iff_d, nxt_nx, nxt_rt, binop, cmpop, addOp_ii, addOp_tt, addOp_ll, subOp_ii, mulOp_ii, fdivOp_ii, modOp_ii, cmpI_ii, tru_bl, tru_int, absB_i, intB_i, asM_int, asM_bl, asM_tup, asM_false, isOp_n, isOp_bb, isNon_non, isNon_tup, isNon_int, isNon_bl, isNon_lst, isNon_ref, isNon_rol, isNon_str, isNon_fr, setAll_nil, setAll_cons, bindT_nm, bindT_tp, fin_rt, fin_nx, leave_same, bltOp, idx_tup0, idx_tup1, idx_tup2, idx_tup3, idx_lst0, idx_lst1, idx_lst2, idx_lst3, eqD_ii, eqD_bb, eqD_fr, Option.map_some, Option.map_none, Option.bind_some, List.getElem?_cons_zero, List.getElem?_cons_succ, List.set_cons_zero, List.set_cons_succ, List.length_cons, List.length_nil, if_true, if_false, decide_true, decide_false, Bool.not_true, Bool.not_false, decide_eq_true_eq, sizeL, Nat.reduceAdd, Nat.reduceLeDiff, Nat.zero_add, beq_self_eq_true, seqG_tup, seqG_lst, lenB_tup, lenB_lst, idx_cup0, idx_cup1, setAt0, setAt1, cup, isTy, Bool.false_eq_true, newL_f, newL_t, fin_rtk, List.nil_append, wipeE, Int.reduceNe, Int.reduceEq, Int.reduceLT, Int.reduceLE, Int.reduceAdd, Int.reduceSub, Int.reduceMul, Int.reduceNeg, Int.reduceGT, lcL_n, lcL_c, allB, items, boolsOf, List.all_cons, List.all_nil, id_eq, Bool.and_true, List.cons_append, cmpop, k_DIGITS, *]
theorem need_frac_lt (k : Nat) {q : Rat} (M : Mem) (p1 : -10000000000000000000000000000000000000000 < q.num) (p2 : q.num < 10000000000000000000000000000000000000000) (p4 : (q.den : Int) < 10000000000000000000000000000000000000000) : callN prog W (k + 3) 7 [fr q] M = some (.non, M) := by
  have f := fun k => fits_lt k M p1 p2 p4
  rw [u_need_fraction]
  unfold m_need_fraction
  walk_at "evf"
theorem tab_1 : tabV tb_WORDS (.int 1) = some (.str "greater") := rfl
theorem tab_m : tabV tb_WORDS (.int (-1)) = some (.str "less") := rfl
theorem tab_0 : tabV tb_WORDS (.int 0) = some (.str "same") := rfl
theorem sgnI_n {n : Int} (h : n < 0) : sgnI n = -1 := by unfold sgnI; rw [decide_eq_false (by omega), decide_eq_true h]; rfl
theorem sgnI_p {n : Int} (h : 0 < n) : sgnI n = 1 := by unfold sgnI; rw [decide_eq_true h, decide_eq_false (by omega)]; rfl
theorem sgnI_0 : sgnI 0 = 0 := rfl

/-! ### roots below -/
local macro_rules | `(tactic| walk_at "evr") => `(tactic| simp -implicitDefEqProofs only [execs, exec, eval, evals, evalI, conds, bnd_some, bnd_none, bifb_t, bifb_f, bifb_d, bifb_b, iff_t, iff_d, nxt_nx, nxt_rt, binop, cmpop, addOp_ii, addOp_tt, addOp_ll, subOp_ii, mulOp_ii, fdivOp_ii, modOp_ii, cmpI_ii, tru_bl, tru_int, absB_i, intB_i, asM_int, asM_bl, asM_tup, asM_false, isOp_n, isOp_bb, isNon_non, isNon_tup, isNon_int, isNon_bl, isNon_lst, isNon_ref, isNon_rol, isNon_str, isNon_fr, setAll_nil, setAll_cons, bindT_nm, bindT_tp, fin_rt, fin_nx, leave_same, bltOp, idx_tup0, idx_tup1, idx_tup2, idx_tup3, idx_lst0, idx_lst1, idx_lst2, idx_lst3, eqD_ii, eqD_bb, eqD_fr, Option.map_some, Option.map_none, Option.bind_some, List.getElem?_cons_zero, List.getElem?_cons_succ, List.set_cons_zero, List.set_cons_succ, List.length_cons, List.length_nil, if_true, if_false, decide_true, decide_false, Bool.not_true, Bool.not_false, decide_eq_true_eq, sizeL, Nat.reduceAdd, Nat.reduceLeDiff, Nat.zero_add, beq_self_eq_true, seqG_tup, seqG_lst, lenB_tup, lenB_lst, idx_cup0, idx_cup1, setAt0, setAt1, cup, isTy, Bool.false_eq_true, newL_f, newL_t, fin_rtk, List.nil_append, wipeE, Int.reduceNe, Int.reduceEq, Int.reduceLT, Int.reduceLE, Int.reduceAdd, Int.reduceSub, Int.reduceMul, Int.reduceNeg, Int.reduceGT, cmpop, not_true_eq_false, not_false_eq_true, ite_true, ite_false, gt_iff_lt, ge_iff_le, eq_self, *])
def IsR (n r : Int) : Prop := 0 ≤ r ∧ r * r ≤ n ∧ n < (r + 1) * (r + 1)
theorem IsR_uniq {n r s : Int} (h : IsR n r) (h' : IsR n s) : r = s := by
  obtain ⟨a1, a2, a3⟩ := h
  obtain ⟨b1, b2, b3⟩ := h'
  rcases Int.lt_trichotomy r s with h | h | h
  · have : (r + 1) * (r + 1) ≤ s * s := Int.mul_le_mul (by omega) (by omega) (by omega) (by omega)
    omega
  · exact h
  · have : (s + 1) * (s + 1) ≤ r * r := Int.mul_le_mul (by omega) (by omega) (by omega) (by omega)
    omega
theorem whl_step {c : Env → Mem → Option (Bool × Mem)} {body : Env → Mem → Option R} {n : Nat} {env env2 : Env} {M M2 : Mem} (h1 : c env M = some (true, M)) (h2 : body env M = some (.nx env2 M2)) : whlL c body (n + 1) env M = whlL c body n env2 M2 := by
  conv => lhs; unfold whlL
  rw [h1]
  show (match body env M with | some (.nx env2 M2) => _ | r => r) = _
  rw [h2]
theorem whl_end {c : Env → Mem → Option (Bool × Mem)} {body : Env → Mem → Option R} {n : Nat} {env : Env} {M : Mem} (h1 : c env M = some (false, M)) : whlL c body (n + 1) env M = some (.nx env M) := by
  unfold whlL
  rw [h1]
def pw (i : Nat) : Int := 2 ^ i
theorem pw_s (i : Nat) : pw (i + 1) = 2 * pw i := by unfold pw; rw [Int.pow_succ, Int.mul_comm]
theorem pw_pos (i : Nat) : 0 < pw i := Int.pow_pos (by decide)
theorem pw_le {i m : Nat} (h : i ≤ m) : pw i ≤ pw m := by
  obtain ⟨d, rfl⟩ : ∃ d, m = i + d := ⟨m - i, by omega⟩
  clear h
  induction d with
  | zero => exact Int.le_refl _
  | succ d ih =>
    rw [show i + (d + 1) = i + d + 1 by omega, pw_s]
    have := pw_pos (i + d)
    omega
theorem pw_lt2 (i : Nat) : lt2 (i + 1) (pw i) := by
  unfold lt2 pw
  have : ((2 : Int) ^ i).natAbs = 2 ^ i := by rw [Int.natAbs_pow]; rfl
  rw [this]
  exact Nat.pow_lt_pow_right (by decide) (by omega)
theorem whl_dbl {c : Env → Mem → Option (Bool × Mem)} {body : Env → Mem → Option R} (ε : Int → Env) (M : Mem) (n : Int) (m : Nat) (hc : ∀ i : Nat, i ≤ m → c (ε (pw i)) M = some (decide (pw i * pw i ≤ n), M)) (hb : ∀ i : Nat, i ≤ m → body (ε (pw i)) M = some (.nx (ε (pw (i + 1))) M)) (hn : n < pw m * pw m) :
    ∀ (j i fuel : Nat), i + j = m → j + 1 ≤ fuel → ∃ i', i' ≤ m ∧ n < pw i' * pw i' ∧ whlL c body fuel (ε (pw i)) M = some (.nx (ε (pw i')) M)
  | _, _, 0, _, h => absurd h (by omega)
  | j, i, fuel + 1, h, hf => by
    by_cases hl : pw i * pw i ≤ n
    · cases j with
      | zero =>
        have : i = m := by omega
        subst this
        exact absurd hl (by omega)
      | succ j =>
        obtain ⟨i', h1, h2, h3⟩ := whl_dbl ε M n m hc hb hn j (i + 1) fuel (by omega) (by omega)
        exact ⟨i', h1, h2, by rw [whl_step (by rw [hc i (by omega), decide_eq_true hl]) (hb i (by omega))]; exact h3⟩
    · exact ⟨i, by omega, by omega, whl_end (by rw [hc i (by omega), decide_eq_false hl])⟩
theorem whl_bis {c : Env → Mem → Option (Bool × Mem)} {body : Env → Mem → Option R} (ε : Int → Int → Option PV → Env) (M : Mem) (n : Int) (m : Nat) (hc : ∀ l h o, 0 ≤ l → l < h → h ≤ pw m → c (ε l h o) M = some (decide (1 < h - l), M))
    (hb : ∀ l h o, 0 ≤ l → l < h → h ≤ pw m → body (ε l h o) M = some (.nx (ε (if (l + h).fdiv 2 * (l + h).fdiv 2 ≤ n then (l + h).fdiv 2 else l) (if (l + h).fdiv 2 * (l + h).fdiv 2 ≤ n then h else (l + h).fdiv 2) (some (.int ((l + h).fdiv 2)))) M)) :
    ∀ (j fuel : Nat) (l h : Int) (o : Option PV), h - l ≤ pw j → j + 1 ≤ fuel → 0 ≤ l → l < h → h ≤ pw m → l * l ≤ n → n < h * h → ∃ r o', IsR n r ∧ r ≤ pw m ∧ whlL c body fuel (ε l h o) M = some (.nx (ε r (r + 1) o') M)
  | _, 0, _, _, _, _, hf, _, _, _, _, _ => absurd hf (by omega)
  | j, fuel + 1, l, h, o, hd, hf, h0, hlh, hm, h1, h2 => by
    by_cases hg : 1 < h - l
    · cases j with
      | zero => exact absurd hd (by show ¬ h - l ≤ 1; omega)
      | succ j =>
        rw [pw_s] at hd
        have e : (l + h).fdiv 2 = (l + h) / 2 := Int.fdiv_eq_ediv_of_nonneg _ (by decide)
        have st := whl_step (c := c) (n := fuel) (by rw [hc l h o h0 hlh hm, decide_eq_true hg]) (hb l h o h0 hlh hm)
        rw [e] at st
        by_cases hq : (l + h) / 2 * ((l + h) / 2) ≤ n
        · rw [if_pos hq, if_pos hq] at st
          obtain ⟨r, o', a1, a2, a3⟩ := whl_bis ε M n m hc hb j fuel ((l + h) / 2) h (some (.int ((l + h) / 2))) (by omega) (by omega) (by omega) (by omega) hm hq h2
          exact ⟨r, o', a1, a2, by rw [st]; exact a3⟩
        · rw [if_neg hq, if_neg hq] at st
          obtain ⟨r, o', a1, a2, a3⟩ := whl_bis ε M n m hc hb j fuel l ((l + h) / 2) (some (.int ((l + h) / 2))) (by omega) (by omega) (by omega) (by omega) (by omega) h1 (by omega)
          exact ⟨r, o', a1, a2, by rw [st]; exact a3⟩
    · have : h = l + 1 := by omega
      subst this
      exact ⟨l, o, ⟨h0, h1, h2⟩, by omega, whl_end (by rw [hc l (l + 1) o h0 hlh hm, decide_eq_false hg])⟩
def rC1 : E := (E.cmp .le (.bin .mul false (.var 2) (.var 2)) (.var 0))
def rB1 : Ss := (Ss.cons (.set 2 (.bin .mul false (.cst (.int (2))) (.var 2))) .nil)
def rC2 : E := (E.cmp .gt (.bin .sub false (.var 2) (.var 1)) (.cst (.int (1))))
def rB2 : Ss := (Ss.cons (.set 3 (.bin .fdiv false (.bin .add false (.var 1) (.var 2)) (.cst (.int (2))))) (.cons (.asg (.tp [1, 2]) (.ite (.cmp .le (.bin .mul false (.var 3) (.var 3)) (.var 0)) (.tup (.cons (.var 3) (.cons (.var 2) .nil))) (.tup (.cons (.var 1) (.cons (.var 3) .nil))))) .nil))
def sC1 : E := (E.cmp .le (.bin .mul false (.var 2) (.var 2)) (.var 0))
def sB1 : Ss := (Ss.cons (.set 2 (.bin .mul false (.cst (.int (2))) (.var 2))) .nil)
def sC2 : E := (E.cmp .gt (.bin .sub false (.var 2) (.var 1)) (.cst (.int (1))))
def sB2 : Ss := (Ss.cons (.set 3 (.blt .int false (.cons (.bin .fdiv false (.bin .add false (.var 1) (.var 2)) (.cst (.int (2)))) .nil))) (.cons (.asg (.tp [1, 2]) (.ite (.cmp .le (.bin .mul false (.var 3) (.var 3)) (.var 0)) (.tup (.cons (.var 3) (.cons (.var 2) .nil))) (.tup (.cons (.var 1) (.cons (.var 3) .nil))))) .nil))
theorem lt2_pw {m : Nat} {l : Int} (h0 : 0 ≤ l) (h : l ≤ pw m) : lt2 (m + 1) l := by
  have h1 := pw_lt2 m
  unfold lt2 at *
  have := pw_pos m
  omega
theorem pw_2m (m : Nat) : pw (2 * m) = pw m * pw m := by unfold pw; rw [show 2 * m = m + m by omega, Int.pow_add]
theorem lt_pw {m : Nat} {n : Int} (h0 : 0 ≤ n) (h : lt2 m n) : n < pw m := by
  unfold lt2 at h
  unfold pw
  have : ((2 ^ m : Nat) : Int) = (2 : Int) ^ m := by rw [Int.natCast_pow]; rfl
  omega
theorem bis_body (k : Nat) (M : Mem) (n : Int) (m : Nat) (hm : m ≤ 4000) (l h : Int) (o : Option PV) (h0 : 0 ≤ l) (hlh : l < h) (hh : h ≤ pw m) :
    execs (callN prog W k) W rB2 [some (.int n), some (.int l), some (.int h), o] M = some (.nx [some (.int n), some (.int (if (l + h).fdiv 2 * (l + h).fdiv 2 ≤ n then (l + h).fdiv 2 else l)), some (.int (if (l + h).fdiv 2 * (l + h).fdiv 2 ≤ n then h else (l + h).fdiv 2)), some (.int ((l + h).fdiv 2))] M) ∧
    execs (callN prog W k) W sB2 [some (.int n), some (.int l), some (.int h), o] M = some (.nx [some (.int n), some (.int (if (l + h).fdiv 2 * (l + h).fdiv 2 ≤ n then (l + h).fdiv 2 else l)), some (.int (if (l + h).fdiv 2 * (l + h).fdiv 2 ≤ n then h else (l + h).fdiv 2)), some (.int ((l + h).fdiv 2))] M) := by
  have d2 : divOk (l + h) 2 = true := divOk_of (n := 2) (by decide) (by unfold lt2; decide) (by decide)
  have e : (l + h).fdiv 2 = (l + h) / 2 := Int.fdiv_eq_ediv_of_nonneg _ (by decide)
  have lm : lt2 (m + 1) ((l + h).fdiv 2) := by rw [e]; exact lt2_pw (by omega) (by omega)
  have mm : mulOk ((l + h).fdiv 2) ((l + h).fdiv 2) = true := mulOk_of lm lm (by omega)
  clear lm e h0 hlh hh
  unfold rB2 sB2
  generalize hmid : (l + h).fdiv 2 = mid at *
  by_cases hq : mid * mid ≤ n
  · rw [if_pos hq, if_pos hq]
    constructor <;> walk_at "evr"
  · rw [if_neg hq, if_neg hq]
    constructor <;> walk_at "evr"
theorem roots (n : Int) (m : Nat) (h0 : 0 ≤ n) (hn : lt2 (2 * m) n) (hm : m ≤ 4000) : ∃ r, IsR n r ∧ lt2 (m + 1) r ∧ (∀ k M, callN prog W (k + 1) 13 [.int n] M = some (.int r, M)) ∧ (∀ k M, callN prog W (k + 1) 30 [.int n] M = some (.int r, M)) := by
  have hn' : n < pw m * pw m := by rw [← pw_2m]; exact lt_pw h0 hn
  have mk : ∀ k M, ∃ r, IsR n r ∧ lt2 (m + 1) r ∧ callN prog W (k + 1) 13 [.int n] M = some (.int r, M) ∧ callN prog W (k + 1) 30 [.int n] M = some (.int r, M) := fun k M => by
    have c1 : ∀ i : Nat, i ≤ m → (bnd (eval (callN prog W k) rC1 [some (.int n), some (.int 0), some (.int (pw i)), none] M) fun x M1 => (truthy M1 x).map fun k => (k, M1)) = some (decide (pw i * pw i ≤ n), M) := fun i hi => by
      have mm : mulOk (pw i) (pw i) = true := mulOk_of (pw_lt2 i) (pw_lt2 i) (by omega)
      unfold rC1
      clear hn hn'
      walk_at "evr"
    have c1' : ∀ i : Nat, i ≤ m → (bnd (eval (callN prog W k) sC1 [some (.int n), some (.int 0), some (.int (pw i)), none] M) fun x M1 => (truthy M1 x).map fun k => (k, M1)) = some (decide (pw i * pw i ≤ n), M) := fun i hi => c1 i hi
    have b1 : ∀ i : Nat, i ≤ m → execs (callN prog W k) W rB1 [some (.int n), some (.int 0), some (.int (pw i)), none] M = some (.nx [some (.int n), some (.int 0), some (.int (pw (i + 1))), none] M) := fun i hi => by
      have mm : mulOk 2 (pw i) = true := mulOk_smallL (by decide)
      rw [pw_s]
      unfold rB1
      clear hn hn' c1 c1'
      walk_at "evr"
    obtain ⟨i, hi, hni, E1⟩ := whl_dbl (c := fun env M => bnd (eval (callN prog W k) rC1 env M) fun x M1 => (truthy M1 x).map fun k => (k, M1)) (body := execs (callN prog W k) W rB1) (fun h => [some (.int n), some (.int 0), some (.int h), none]) M n m c1 b1 hn' m 0 W (by omega) (by unfold W; omega)
    have c2 : ∀ (l h : Int) (o : Option PV), 0 ≤ l → l < h → h ≤ pw i → (bnd (eval (callN prog W k) rC2 [some (.int n), some (.int l), some (.int h), o] M) fun x M1 => (truthy M1 x).map fun k => (k, M1)) = some (decide (1 < h - l), M) := fun l h o _ _ _ => by
      unfold rC2
      clear hn hn' c1 c1' b1 E1
      walk_at "evr"
    obtain ⟨r, o', hr, hrm, E2⟩ := whl_bis (c := fun env M => bnd (eval (callN prog W k) rC2 env M) fun x M1 => (truthy M1 x).map fun k => (k, M1)) (body := execs (callN prog W k) W rB2) (fun l h o => [some (.int n), some (.int l), some (.int h), o]) M n i c2 (fun l h o a b c => (bis_body k M n i (by omega) l h o a b c).1) i W 0 (pw i) none (by omega) (by unfold W; omega) (Int.le_refl _) (pw_pos i) (Int.le_refl _) (by omega) hni
    obtain ⟨s, o2, hs, hsm, E3⟩ := whl_bis (c := fun env M => bnd (eval (callN prog W k) sC2 env M) fun x M1 => (truthy M1 x).map fun k => (k, M1)) (body := execs (callN prog W k) W sB2) (fun l h o => [some (.int n), some (.int l), some (.int h), o]) M n i c2 (fun l h o a b c => (bis_body k M n i (by omega) l h o a b c).2) i W 0 (pw i) none (by omega) (by unfold W; omega) (Int.le_refl _) (pw_pos i) (Int.le_refl _) (by omega) hni
    obtain rfl := IsR_uniq hr hs
    refine ⟨r, hr, (lt2_pw hr.1 hrm).mono (by omega), ?_, ?_⟩
    · change whlL _ _ W [some (.int n), some (.int 0), some (.int 1), none] M = _ at E1
      rw [u_root_below]
      unfold m_root_below
      rw [show (E.cmp .le (.bin .mul false (.var 2) (.var 2)) (.var 0)) = rC1 from rfl, show (Ss.cons (.set 2 (.bin .mul false (.cst (.int (2))) (.var 2))) .nil) = rB1 from rfl, show (E.cmp .gt (.bin .sub false (.var 2) (.var 1)) (.cst (.int (1)))) = rC2 from rfl, show (Ss.cons (.set 3 (.bin .fdiv false (.bin .add false (.var 1) (.var 2)) (.cst (.int (2))))) (.cons (.asg (.tp [1, 2]) (.ite (.cmp .le (.bin .mul false (.var 3) (.var 3)) (.var 0)) (.tup (.cons (.var 3) (.cons (.var 2) .nil))) (.tup (.cons (.var 1) (.cons (.var 3) .nil))))) .nil)) = rB2 from rfl]
      clear hn hn' c1 c1' b1 c2 E3 hr hs hrm hsm hni
      generalize rC1 = C1 at *
      generalize rB1 = B1 at *
      generalize rC2 = C2 at *
      generalize rB2 = B2 at *
      walk_at "evr"
    · change whlL _ _ W [some (.int n), some (.int 0), some (.int 1), none] M = _ at E1
      have E1' : whlL (fun env M => bnd (eval (callN prog W k) sC1 env M) fun x M1 => (truthy M1 x).map fun k => (k, M1)) (execs (callN prog W k) W sB1) W [some (.int n), some (.int 0), some (.int 1), none] M = some (.nx [some (.int n), some (.int 0), some (.int (pw i)), none] M) := E1
      have E3' : whlL (fun env M => bnd (eval (callN prog W k) sC2 env M) fun x M1 => (truthy M1 x).map fun k => (k, M1)) (execs (callN prog W k) W sB2) W [some (.int n), some (.int 0), some (.int (pw i)), none] M = some (.nx [some (.int n), some (.int r), some (.int (r + 1)), o2] M) := E3
      rw [u__law_below]
      unfold m__law_below
      rw [show (E.cmp .le (.bin .mul false (.var 2) (.var 2)) (.var 0)) = sC1 from rfl, show (Ss.cons (.set 2 (.bin .mul false (.cst (.int (2))) (.var 2))) .nil) = sB1 from rfl, show (E.cmp .gt (.bin .sub false (.var 2) (.var 1)) (.cst (.int (1)))) = sC2 from rfl, show (Ss.cons (.set 3 (.blt .int false (.cons (.bin .fdiv false (.bin .add false (.var 1) (.var 2)) (.cst (.int (2)))) .nil))) (.cons (.asg (.tp [1, 2]) (.ite (.cmp .le (.bin .mul false (.var 3) (.var 3)) (.var 0)) (.tup (.cons (.var 3) (.cons (.var 2) .nil))) (.tup (.cons (.var 1) (.cons (.var 3) .nil))))) .nil)) = sB2 from rfl]
      clear hn hn' c1 c1' b1 c2 E1 E2 E3 hr hs hrm hsm hni
      generalize sC1 = C1 at *
      generalize sB1 = B1 at *
      generalize sC2 = C2 at *
      generalize sB2 = B2 at *
      walk_at "evr"
  obtain ⟨r, hr, hl, -, -⟩ := mk 0 []
  refine ⟨r, hr, hl, fun k M => ?_, fun k M => ?_⟩
  · obtain ⟨s, hs, _, e, _⟩ := mk k M
    rw [IsR_uniq hr hs]; exact e
  · obtain ⟨s, hs, _, _, e⟩ := mk k M
    rw [IsR_uniq hr hs]; exact e

/-! ### end numbers, plain -/
theorem wf_scale (X Y Z g u v : Int) : wf X Y Z (g * u) (g * v) = g * g * wf X Y Z u v := by unfold wf; grind
theorem div_cross {a b : Int} (hb : b ≠ 0) : (Rat.divInt a b).num * b = a * (Rat.divInt a b).den := by
  have h := Rat.num_divInt_den (Rat.divInt a b)
  exact (Rat.divInt_eq_divInt_iff (by have := (Rat.divInt a b).den_nz; omega) hb).mp h
theorem sq_neg_le {a b : Int} (h1 : -b ≤ a) (h2 : a ≤ b) : a * a ≤ b * b := by
  rcases Int.le_total 0 a with h | h
  · exact Int.mul_le_mul h2 h2 h (by omega)
  · have : (-a) * (-a) ≤ b * b := Int.mul_le_mul (by omega) (by omega) (by omega) (by omega)
    rw [Int.neg_mul_neg] at this
    exact this
theorem sq_lt {a b : Int} (h0 : 0 ≤ a) (h : a < b) : a * a < b * b := by
  have h1 : a * a ≤ a * b := Int.mul_le_mul_of_nonneg_left (by omega) h0
  have h2 : a * b < b * b := Int.mul_lt_mul_of_pos_right h (by omega)
  omega
theorem nn_sq (a : Int) : 0 ≤ a * a := by
  rcases Int.le_total 0 a with h | h
  · exact Int.mul_nonneg h h
  · have := Int.mul_nonneg (show 0 ≤ -a by omega) (show 0 ≤ -a by omega)
    rw [Int.neg_mul_neg] at this
    exact this
theorem wf_id (X Y Z u t : Int) : 4 * X * wf X Y Z u t = (2 * X * u + Y * t) * (2 * X * u + Y * t) - (Y * Y + 4 * X * Z) * t * t := by unfold wf; grind
theorem floor_ok {X Y Z t R a : Int} (hx : 0 < X) (hz : 0 < Z) (ht : 0 < t) (hR : IsR ((Y * Y + 4 * X * Z) * t * t) R) (ha : a = (R - Y * t).fdiv (2 * X)) : 0 ≤ a ∧ wf X Y Z a t ≤ 0 ∧ 0 < wf X Y Z (a + 1) t := by
  obtain ⟨r0, r1, r2⟩ := hR
  have zt : 0 < 4 * X * Z * t * t := Int.mul_pos (Int.mul_pos (Int.mul_pos (Int.mul_pos (by decide) hx) hz) ht) ht
  have e1 : (Y * Y + 4 * X * Z) * t * t = (Y * t) * (Y * t) + 4 * X * Z * t * t := by grind
  have yl : Y * t ≤ R := by
    apply Int.not_lt.mp
    intro h
    have : (R + 1) * (R + 1) ≤ (Y * t) * (Y * t) := Int.mul_le_mul (by omega) (by omega) (by omega) (by omega)
    omega
  have d1 := Int.mul_fdiv_add_fmod (R - Y * t) (2 * X)
  have m1 : 0 ≤ (R - Y * t).fmod (2 * X) := by rw [Int.fmod_eq_emod_of_nonneg _ (by omega)]; exact Int.emod_nonneg _ (by omega)
  have m2 : (R - Y * t).fmod (2 * X) < 2 * X := by rw [Int.fmod_eq_emod_of_nonneg _ (by omega)]; exact Int.emod_lt_of_pos _ (by omega)
  rw [← ha] at d1
  have a0 : 0 ≤ a := by
    apply Int.not_lt.mp
    intro h
    have : 2 * X * a ≤ 2 * X * (-1) := Int.mul_le_mul_of_nonneg_left (by omega) (by omega)
    omega
  have xa : 0 ≤ X * a := Int.mul_nonneg (by omega) a0
  have e2 : 2 * X * a = X * a + X * a := by grind
  refine ⟨a0, ?_, ?_⟩
  · by_cases hs : 0 ≤ 2 * X * a + Y * t
    · have h1 : (2 * X * a + Y * t) * (2 * X * a + Y * t) ≤ R * R := Int.mul_le_mul (by omega) (by omega) hs r0
      have h2 := wf_id X Y Z a t
      apply Int.not_lt.mp
      intro h
      have : 0 < 4 * X * wf X Y Z a t := Int.mul_pos (by omega) h
      omega
    · have e3 : wf X Y Z a t = a * (X * a + Y * t) - Z * (t * t) := by unfold wf; grind
      have h1 : a * (X * a + Y * t) ≤ 0 := Int.mul_nonpos_of_nonneg_of_nonpos a0 (by omega)
      have h2 : 0 ≤ Z * (t * t) := Int.mul_nonneg (by omega) (nn_sq t)
      omega
  · have e4 : 2 * X * (a + 1) = 2 * X * a + 2 * X := by grind
    have h1 : (R + 1) * (R + 1) ≤ (2 * X * (a + 1) + Y * t) * (2 * X * (a + 1) + Y * t) := Int.mul_le_mul (by omega) (by omega) (by omega) (by omega)
    have h2 := wf_id X Y Z (a + 1) t
    apply Int.not_le.mp
    intro h
    have : 4 * X * wf X Y Z (a + 1) t ≤ 0 := Int.mul_nonpos_of_nonneg_of_nonpos (by omega) h
    omega
/-- a rule of an end number grows faster than its place -/
theorem wf_grow {X Y Z u1 v1 u2 v2 : Int} (hx : 0 < X) (hz : 0 < Z) (h1 : 0 < u1) (h2 : 0 < v1) (h3 : 0 < u2) (h4 : 0 < v2) (h : u1 * v2 < u2 * v1) : wf X Y Z u1 v1 * (u2 * v2) < wf X Y Z u2 v2 * (u1 * v1) := by
  have e : wf X Y Z u2 v2 * (u1 * v1) - wf X Y Z u1 v1 * (u2 * v2) = (u2 * v1 - u1 * v2) * (X * (u1 * u2) + Z * (v1 * v2)) := by unfold wf; grind
  have p : 0 < (u2 * v1 - u1 * v2) * (X * (u1 * u2) + Z * (v1 * v2)) := by
    refine Int.mul_pos (by omega) ?_
    have a1 := Int.mul_pos hx (Int.mul_pos h1 h3)
    have a2 := Int.mul_pos hz (Int.mul_pos h2 h4)
    omega
  omega
theorem wf_neg {X Y Z u1 v1 u2 v2 : Int} (hx : 0 < X) (hz : 0 < Z) (h1 : 0 < u1) (h2 : 0 < v1) (h3 : 0 < u2) (h4 : 0 < v2) (h : u1 * v2 < u2 * v1) (hf : wf X Y Z u2 v2 ≤ 0) : wf X Y Z u1 v1 < 0 := by
  have g := wf_grow (Y := Y) hx hz h1 h2 h3 h4 h
  have a : wf X Y Z u2 v2 * (u1 * v1) ≤ 0 := Int.mul_nonpos_of_nonpos_of_nonneg hf (Int.le_of_lt (Int.mul_pos h1 h2))
  apply Int.not_le.mp
  intro q
  have : 0 ≤ wf X Y Z u1 v1 * (u2 * v2) := Int.mul_nonneg q (Int.le_of_lt (Int.mul_pos h3 h4))
  omega
theorem wf_pos {X Y Z u1 v1 u2 v2 : Int} (hx : 0 < X) (hz : 0 < Z) (h1 : 0 < u1) (h2 : 0 < v1) (h3 : 0 < u2) (h4 : 0 < v2) (h : u1 * v2 < u2 * v1) (hf : 0 < wf X Y Z u1 v1) : 0 < wf X Y Z u2 v2 := by
  apply Int.not_le.mp
  intro q
  have := wf_neg hx hz h1 h2 h3 h4 h q
  omega
def bes (x y z : Int) (q : Rat) : Int := if q.num ≤ 0 then 1 else -sgnI (wf x y z q.num q.den)
def cmpE (x y z u v w : Int) : Int := if x * v - u * y = 0 then sgnI (u * z - x * w) else bes x y z (Rat.divInt (-(u * z - x * w)) (x * v - u * y)) * sgnI (x * v - u * y)
theorem sgnI_neg (n : Int) : sgnI (-n) = -sgnI n := by
  rcases Int.lt_trichotomy n 0 with h | h | h
  · rw [sgnI_p (by omega), sgnI_n h]; rfl
  · subst h; rfl
  · rw [sgnI_n (by omega), sgnI_p h]
theorem sgnI_cases (n : Int) : (n < 0 ∧ sgnI n = -1) ∨ (n = 0 ∧ sgnI n = 0) ∨ (0 < n ∧ sgnI n = 1) := by
  rcases Int.lt_trichotomy n 0 with h | h | h
  · exact .inl ⟨h, sgnI_n h⟩
  · subst h; exact .inr (.inl ⟨rfl, rfl⟩)
  · exact .inr (.inr ⟨h, sgnI_p h⟩)
theorem bes_cases (x y z : Int) (q : Rat) : bes x y z q = -1 ∨ bes x y z q = 0 ∨ bes x y z q = 1 := by
  unfold bes
  split
  · exact .inr (.inr rfl)
  · rcases sgnI_cases (wf x y z q.num q.den) with ⟨_, h⟩ | ⟨_, h⟩ | ⟨_, h⟩ <;> rw [h]
    · exact .inr (.inr rfl)
    · exact .inr (.inl rfl)
    · exact .inl rfl
theorem cmp_cases (x y z u v w : Int) : cmpE x y z u v w = -1 ∨ cmpE x y z u v w = 0 ∨ cmpE x y z u v w = 1 := by
  unfold cmpE
  split
  · rcases sgnI_cases (u * z - x * w) with ⟨_, h⟩ | ⟨_, h⟩ | ⟨_, h⟩ <;> rw [h] <;> omega
  · rcases sgnI_cases (x * v - u * y) with ⟨_, h⟩ | ⟨_, h⟩ | ⟨_, h⟩ <;> rcases bes_cases x y z (Rat.divInt (-(u * z - x * w)) (x * v - u * y)) with e | e | e <;> rw [h, e] <;> omega
theorem wf_two (x y z u v w a b : Int) : x * wf u v w a b - u * wf x y z a b = ((x * v - u * y) * a + (u * z - x * w) * b) * b := by unfold wf; grind
/-- where both rules share a place, they have one sign -/
theorem same_sign {x y z u v w a b : Int} (hx : 0 < x) (hu : 0 < u) (h : (x * v - u * y) * a + (u * z - x * w) * b = 0) : sgnI (wf u v w a b) = sgnI (wf x y z a b) := by
  have e := wf_two x y z u v w a b
  rw [h, Int.zero_mul] at e
  have e' : x * wf u v w a b = u * wf x y z a b := by omega
  rcases Int.lt_trichotomy (wf x y z a b) 0 with h1 | h1 | h1
  · have : wf u v w a b < 0 := by
      apply Int.not_le.mp; intro q
      have a1 := Int.mul_nonneg (Int.le_of_lt hx) q
      have a2 := Int.mul_neg_of_pos_of_neg hu h1
      omega
    rw [sgnI_n h1, sgnI_n this]
  · rw [h1, Int.mul_zero] at e'
    have : wf u v w a b = 0 := (Int.mul_eq_zero.mp e').resolve_left (by omega)
    rw [this, h1]
  · have : 0 < wf u v w a b := by
      apply Int.not_le.mp; intro q
      have a1 := Int.mul_nonpos_of_nonneg_of_nonpos (Int.le_of_lt hx) q
      have a2 := Int.mul_pos hu h1
      omega
    rw [sgnI_p h1, sgnI_p this]
theorem div_neg_neg (a b : Int) : Rat.divInt (-a) (-b) = Rat.divInt a b := Rat.neg_divInt_neg a b
theorem den_posI (q : Rat) : 0 < (q.den : Int) := den_pos q
theorem cmp_anti {x y z u v w : Int} (hx : 0 < x) (hu : 0 < u) : cmpE u v w x y z = -cmpE x y z u v w := by
  unfold cmpE
  have e1 : u * y - x * v = -(x * v - u * y) := by omega
  have e2 : x * w - u * z = -(u * z - x * w) := by omega
  rw [e1, e2]
  by_cases hL : x * v - u * y = 0
  · rw [if_pos (by omega), if_pos hL, sgnI_neg]
  · rw [if_neg (by omega), if_neg hL, div_neg_neg, sgnI_neg]
    have hc := div_cross (a := -(u * z - x * w)) hL
    generalize Rat.divInt (-(u * z - x * w)) (x * v - u * y) = q at *
    have hz : (x * v - u * y) * q.num + (u * z - x * w) * q.den = 0 := by
      rw [Int.mul_comm, hc, Int.neg_mul]; omega
    have hb : bes u v w q = bes x y z q := by
      unfold bes
      rw [same_sign hx hu hz]
    rw [hb, Int.mul_neg]
theorem cmp_self (x y z : Int) : cmpE x y z x y z = 0 := by
  unfold cmpE
  rw [if_pos (by omega), show x * z - x * z = 0 by omega]
  rfl
/-- the floors decide -/
theorem cmp_less {x y z u v w t a b : Int} (hx : 0 < x) (hz : 0 < z) (hu : 0 < u) (hw : 0 < w) (ht : 0 < t) (ha : 0 ≤ a) (hab : a < b) (f1 : 0 < wf x y z (a + 1) t) (f2 : wf u v w b t ≤ 0) : cmpE x y z u v w = -1 := by
  have g2 : wf u v w (a + 1) t ≤ 0 := by
    by_cases hs : a + 1 = b
    · rw [hs]; exact f2
    · exact Int.le_of_lt (wf_neg hu hw (by omega) ht (by omega) ht (Int.mul_lt_mul_of_pos_right (by omega) ht) f2)
  have e := wf_two x y z u v w (a + 1) t
  have hn : (x * v - u * y) * (a + 1) + (u * z - x * w) * t < 0 := by
    apply Int.not_le.mp
    intro q
    have a1 := Int.mul_nonneg q (Int.le_of_lt ht)
    have a2 := Int.mul_nonpos_of_nonneg_of_nonpos (Int.le_of_lt hx) g2
    have a3 := Int.mul_pos hu f1
    omega
  unfold cmpE
  by_cases hL : x * v - u * y = 0
  · rw [if_pos hL]
    rw [hL, Int.zero_mul, Int.zero_add] at hn
    refine sgnI_n (Int.not_le.mp fun q => ?_)
    have := Int.mul_nonneg q (Int.le_of_lt ht)
    omega
  · rw [if_neg hL]
    have hc := div_cross (a := -(u * z - x * w)) hL
    generalize Rat.divInt (-(u * z - x * w)) (x * v - u * y) = q at *
    have hd := den_posI q
    have hz0 : (x * v - u * y) * q.num + (u * z - x * w) * q.den = 0 := by
      rw [Int.mul_comm, hc, Int.neg_mul]; omega
    have hs := same_sign hx hu hz0
    generalize (x * v - u * y) = L at *
    generalize (u * z - x * w) = S at *
    -- L * (s * den) < L * (num * t)
    have k : L * ((a + 1) * q.den) < L * (q.num * t) := by
      have m := Int.mul_neg_of_neg_of_pos hn hd
      have e1 : (L * (a + 1) + S * t) * q.den = L * ((a + 1) * q.den) + (S * q.den) * t := by grind
      have e2 : S * q.den = -(L * q.num) := by omega
      have e3 : -(L * q.num) * t = -(L * (q.num * t)) := by grind
      rw [e1, e2, e3] at m
      omega
    rcases Int.lt_or_gt_of_ne hL with hL' | hL'
    · have k2 : q.num * t < (a + 1) * q.den := by
        apply Int.not_le.mp
        intro r
        have := Int.mul_le_mul_of_nonpos_left (Int.le_of_lt hL') r
        omega
      rw [sgnI_n hL']
      unfold bes
      by_cases hq : q.num ≤ 0
      · rw [if_pos hq]; rfl
      · rw [if_neg hq]
        have := wf_neg (X := u) (Y := v) (Z := w) hu hw (show 0 < q.num by omega) hd (show 0 < a + 1 by omega) ht k2 g2
        rw [sgnI_n this] at hs
        rw [← hs]; rfl
    · have k2 : (a + 1) * q.den < q.num * t := by
        apply Int.not_le.mp
        intro r
        have := Int.mul_le_mul_of_nonneg_left r (Int.le_of_lt hL')
        omega
      have hq : 0 < q.num := by
        apply Int.not_le.mp
        intro r
        have a1 := Int.mul_nonpos_of_nonpos_of_nonneg r (Int.le_of_lt ht)
        have a2 := Int.mul_pos (show 0 < a + 1 by omega) hd
        omega
      rw [sgnI_p hL']
      unfold bes
      rw [if_neg (by omega), sgnI_p (wf_pos hx hz (by omega) ht hq hd k2 f1)]
      rfl

/-! ### end numbers: what is measured -/
theorem mulOk_a {x y : Int} (h : x.natAbs < 2 ^ 64) : mulOk x y = true := mulOk_smallL (by have e : (2 : Nat) ^ 64 = 18446744073709551616 := rfl; have e2 : (2 : Int) ^ 64 = 18446744073709551616 := rfl; omega)
theorem rng_gd {a b : Int} (h1 : -4611686018427387904 ≤ a) (h2 : a < 4611686018427387904) (h3 : -4611686018427387904 ≤ b) (h4 : b < 4611686018427387904) : (decide (-2 ^ 62 ≤ a) && decide (a < 2 ^ 62) && decide (-2 ^ 62 ≤ b) && decide (b < 2 ^ 62)) = true := by
  have e : (2 : Int) ^ 62 = 4611686018427387904 := by decide
  rw [e, decide_eq_true h1, decide_eq_true h2, decide_eq_true h3, decide_eq_true h4]; rfl
structure Ed (X Y Z : Int) : Prop where
  ep : Ep X Y Z
  x : X < 10000000000000000000000000000000000000000
  y1 : -10000000000000000000000000000000000000000 < Y
  y2 : Y < 10000000000000000000000000000000000000000
  z : Z < 10000000000000000000000000000000000000000
theorem lt133 {x : Int} (h1 : -10000000000000000000000000000000000000000 < x) (h2 : x < 10000000000000000000000000000000000000000) : lt2 133 x := by
  have e : (10000000000000000000000000000000000000000 : Nat) < 2 ^ 133 := by decide +kernel
  unfold lt2
  omega
theorem Ed.lx {X Y Z : Int} (h : Ed X Y Z) : lt2 133 X := lt133 (by have := h.ep.x; omega) h.x
theorem Ed.ly {X Y Z : Int} (h : Ed X Y Z) : lt2 133 Y := lt133 h.y1 h.y2
theorem Ed.lz {X Y Z : Int} (h : Ed X Y Z) : lt2 133 Z := lt133 (by have := h.ep.z; omega) h.z
def ev3 (X Y Z : Int) : PV := .tup [.int X, .int Y, .int Z]
theorem fits_end5 {X Y Z : Int} (h : Ed X Y Z) (k : Nat) (M : Mem) : callN prog W (k + 2) 8 [ev3 X Y Z, .int 10000000000000000000000000000000000000000] M = some (.bl true, M) :=
  fits_end_ok k M h.ep (by have := h.ep.x; omega) h.x h.y1 h.y2 (by have := h.ep.z; omega) h.z h.ly h.lz (by decide)
theorem need_end5 {X Y Z : Int} (h : Ed X Y Z) (k : Nat) (M : Mem) : callN prog W (k + 3) 9 [ev3 X Y Z] M = some (.non, M) := by
  have f := fun k => fits_end5 h k M
  rw [u_need_end]
  unfold m_need_end
  clear h
  walk_at "evf"
theorem bes_ok {X Y Z : Int} {q : Rat} {n m : Nat} (hX : lt2 n X) (hY : lt2 n Y) (hZ : lt2 n Z) (hq : sm m q) (hn : n ≤ 3000) (hm : m ≤ 3000) (k : Nat) (M : Mem) : callN prog W (k + 2) 11 [ev3 X Y Z, fr q] M = some (.int (bes X Y Z q), M) := by
  unfold bes
  by_cases hp : q.num ≤ 0
  · rw [if_pos hp, u_beside_in]
    have bd : ∀ (e : Env), bindT (.tp [5, 6]) (fr q) e = some ((e.set 5 (some (.int q.num))).set 6 (some (.int q.den))) := fun e => rfl
    unfold m_beside_in ev3
    clear hX hY hZ hq hn hm
    walk_at "evf"
  · rw [if_neg hp]
    exact beside_ok k M hX hY hZ hq hn hm (by omega)
def wI (i : Int) : PySem.Str := if i = 0 then "same" else if 0 < i then "greater" else "less"
theorem tab_wI {i : Int} (h : i = -1 ∨ i = 0 ∨ i = 1) : tabV tb_WORDS (.int i) = some (.str (wI i)) := by
  rcases h with rfl | rfl | rfl <;> rfl
theorem sm133 {q : Rat} (p1 : -10000000000000000000000000000000000000000 < q.num) (p2 : q.num < 10000000000000000000000000000000000000000) (p4 : (q.den : Int) < 10000000000000000000000000000000000000000) : sm 133 q := by
  have e : (10000000000000000000000000000000000000000 : Nat) < 2 ^ 133 := by decide +kernel
  exact ⟨lt133 p1 p2, by omega⟩
theorem end_beside5 {X Y Z : Int} {q : Rat} (h : Ed X Y Z) (p1 : -10000000000000000000000000000000000000000 < q.num) (p2 : q.num < 10000000000000000000000000000000000000000) (p4 : (q.den : Int) < 10000000000000000000000000000000000000000) (k : Nat) (M : Mem) : callN prog W (k + 4) 17 [ev3 X Y Z, fr q] M = some (.str (wI (bes X Y Z q)), M) := by
  have f1 := fun k => need_end5 h k M
  have f2 := fun k => need_frac_lt k M p1 p2 p4
  have f3 := fun k => bes_ok h.lx h.ly h.lz (sm133 p1 p2 p4) (by decide) (by decide) k M
  have f4 := tab_wI (bes_cases X Y Z q)
  rw [u_end_beside]
  unfold m_end_beside
  generalize bes X Y Z q = b at *
  clear h p1 p2 p4
  walk_at "evf"
theorem compared5 {x y z u v w : Int} (h : Ed x y z) (g : Ed u v w) (k : Nat) (M : Mem) : callN prog W (k + 3) 12 [ev3 x y z, ev3 u v w] M = some (.int (cmpE x y z u v w), M) := by
  have m1 : mulOk x v = true := mulOk_of h.lx g.ly (by decide)
  have m2 : mulOk u y = true := mulOk_of g.lx h.ly (by decide)
  have m3 : mulOk u z = true := mulOk_of g.lx h.lz (by decide)
  have m4 : mulOk x w = true := mulOk_of h.lx g.lz (by decide)
  have lL : lt2 267 (x * v - u * y) := (h.lx.mul g.ly).sub (g.lx.mul h.ly)
  have lS : lt2 267 (u * z - x * w) := (g.lx.mul h.lz).sub (h.lx.mul g.lz)
  have s1 := fun k => sign_of_ok k (u * z - x * w) M
  have s2 := fun k => sign_of_ok k (x * v - u * y) M
  rw [u_compared]
  unfold m_compared cmpE
  by_cases hL : x * v - u * y = 0
  · rw [if_pos hL]
    unfold ev3
    clear h g lL lS s2
    walk_at "evf"
  · rw [if_neg hL]
    have f1 := fun k => lowest_ok k (-(u * z - x * w)) (x * v - u * y) M lL hL (by decide)
    have bd := low_le (-(u * z - x * w)) (x * v - u * y) hL
    have f2 := fun k => bes_ok h.lx h.ly h.lz (q := Rat.divInt (-(u * z - x * w)) (x * v - u * y)) (m := 267) ⟨by unfold lt2 at lS ⊢; omega, by unfold lt2 at lL; omega⟩ (by decide) (by decide) k M
    have bc := bes_cases x y z (Rat.divInt (-(u * z - x * w)) (x * v - u * y))
    have f3 : ∀ s : Int, mulOk (bes x y z (Rat.divInt (-(u * z - x * w)) (x * v - u * y))) s = true := fun s => mulOk_smallL (by rcases bc with h | h | h <;> rw [h] <;> decide)
    unfold ev3 at f2 ⊢
    generalize Rat.divInt (-(u * z - x * w)) (x * v - u * y) = q at *
    clear h g lL lS s1 bd bc
    generalize bes x y z q = b at *
    walk_at "evf"
theorem compare5 {x y z u v w : Int} (h : Ed x y z) (g : Ed u v w) (k : Nat) (M : Mem) : callN prog W (k + 4) 18 [ev3 x y z, ev3 u v w] M = some (.str (wI (cmpE x y z u v w)), M) := by
  have f1 := fun k => need_end5 h k M
  have f2 := fun k => need_end5 g k M
  have f3 := fun k => compared5 h g k M
  have f4 := tab_wI (cmp_cases x y z u v w)
  rw [u_compare_ends]
  unfold m_compare_ends
  generalize cmpE x y z u v w = b at *
  clear h g
  walk_at "evf"
/-! powers of ten -/
def tn (d : Nat) : Int := 10 ^ d
theorem tn_s (d : Nat) : tn (d + 1) = 10 * tn d := by unfold tn; rw [Int.pow_succ, Int.mul_comm]
theorem tn_pos (d : Nat) : 0 < tn d := Int.pow_pos (by decide)
theorem tn_le {i m : Nat} (h : i ≤ m) : tn i ≤ tn m := by
  obtain ⟨d, rfl⟩ : ∃ d, m = i + d := ⟨m - i, by omega⟩
  clear h
  induction d with
  | zero => exact Int.le_refl _
  | succ d ih =>
    rw [show i + (d + 1) = i + d + 1 by omega, tn_s]
    have := tn_pos (i + d)
    omega
theorem tn_lt {d : Nat} (h : d ≤ 60) : lt2 200 (tn d) := by
  have h1 := tn_le h
  have h2 := tn_pos d
  have h3 : tn 60 < 2 ^ 200 := by decide +kernel
  have h4 : ((2 : Int) ^ 200) = ((2 ^ 200 : Nat) : Int) := by decide +kernel
  unfold lt2
  omega
def ptB : Ss := (Ss.cons (.set 1 (.bin .mul false (.cst (.int (10))) (.var 1))) .nil)
theorem ten_loop {body : Env → Mem → Option R} {t : T} (ε : Int → Option PV → Env) (M : Mem) (hb : ∀ (p i : Int) (o : Option PV), (bindT t (.int i) (ε p o)).bind (fun env1 => body env1 M) = some (.nx (ε (10 * p) (some (.int i))) M)) :
    ∀ (n : Nat) (a : Int) (d : Nat) (o : Option PV), ∃ o', forL t [] body (rngI a n) (ε (tn d) o) M = some (.nx (ε (tn (d + n)) o') M)
  | 0, a, d, o => ⟨o, forL_n⟩
  | n + 1, a, d, o => by
    obtain ⟨o', ih⟩ := ten_loop ε M hb n (a + 1) (d + 1) (some (.int a))
    refine ⟨o', ?_⟩
    show forL _ _ _ (.int a :: rngI (a + 1) n) _ _ = _
    have h := hb (tn d) a o
    rw [forL_c]
    cases hx : bindT t (.int a) (ε (tn d) o) with
    | none => rw [hx] at h; cases h
    | some env1 =>
      rw [hx] at h
      have h' : body env1 M = some (.nx (ε (10 * tn d) (some (.int a))) M) := h
      show nxt (body env1 M) _ = _
      rw [h', ← tn_s]
      show forL _ _ _ _ _ _ = _
      rw [ih, show d + 1 + n = d + (n + 1) by omega]
theorem power_ok (k d : Nat) (hd : d ≤ 100000) (M : Mem) : callN prog W (k + 1) 14 [.int (d : Nat)] M = some (.int (tn d), M) := by
  obtain ⟨o', e⟩ := ten_loop (body := execs (callN prog W k) W ptB) (t := .nm 2) (fun p o => [some (.int (d : Nat)), some (.int p), o]) M (fun p i o => by
    have m : mulOk 10 p = true := mulOk_smallL (by decide)
    unfold ptB
    walk_at "evf") d 0 0 none
  rw [Nat.zero_add] at e
  have e0 : tn 0 = 1 := rfl
  rw [e0] at e
  have er : rngI 0 ((d : Int) - 0).toNat = rngI 0 d := by rw [show ((d : Int) - 0).toNat = d by omega]
  have eg : (decide (-2 ^ 62 ≤ (0 : Int)) && decide ((0 : Int) < 2 ^ 62) && decide (-2 ^ 62 ≤ (d : Int)) && decide ((d : Int) < 2 ^ 62)) = true := rng_gd (by decide) (by decide) (by omega) (by omega)
  rw [u_power_of_ten]
  unfold m_power_of_ten
  rw [show (Ss.cons (.set 1 (.bin .mul false (.cst (.int (10))) (.var 1))) .nil) = ptB from rfl]
  generalize ptB = body at *
  generalize tn d = td at *
  walk_at "evf"
/-- what is measured with a number of digits -/
structure Fl (X Y Z t R a : Int) : Prop where
  r : IsR ((Y * Y + 4 * X * Z) * t * t) R
  e : a = (R - Y * t).fdiv (2 * X)
theorem Fl.floor {X Y Z t R a : Int} (f : Fl X Y Z t R a) (h : Ep X Y Z) (ht : 0 < t) : 0 ≤ a ∧ wf X Y Z a t ≤ 0 ∧ 0 < wf X Y Z (a + 1) t := floor_ok h.x h.z ht f.r f.e
theorem Fl.uniq {X Y Z t R a R' a' : Int} (f : Fl X Y Z t R a) (g : Fl X Y Z t R' a') : a = a' := by rw [f.e, g.e, IsR_uniq f.r g.r]
theorem dis_nn {X Y Z : Int} (h : Ep X Y Z) : 0 ≤ Y * Y + 4 * X * Z := by
  have a := nn_sq Y
  have b := Int.mul_pos (Int.mul_pos (show (0 : Int) < 4 by decide) h.x) h.z
  omega
theorem dis_lt {X Y Z : Int} (h : Ed X Y Z) : lt2 270 (Y * Y + 4 * X * Z) := by
  have a : lt2 269 (Y * Y) := (h.ly.mul h.ly).mono (by decide)
  have b : lt2 269 (4 * X * Z) := ((lt2.mul (a := 3) (by unfold lt2; decide) h.lx).mul h.lz)
  exact a.add b
theorem rt5 {X Y Z : Int} (h : Ed X Y Z) : ∃ R, IsR (Y * Y + 4 * X * Z) R ∧ lt2 136 R ∧ (∀ k M, callN prog W (k + 1) 13 [.int (Y * Y + 4 * X * Z)] M = some (.int R, M)) ∧ (∀ k M, callN prog W (k + 1) 30 [.int (Y * Y + 4 * X * Z)] M = some (.int R, M)) :=
  roots _ 135 (dis_nn h.ep) ((dis_lt h).mono (by decide)) (by decide)
theorem end_below5 {X Y Z : Int} (h : Ed X Y Z) (d : Nat) (hd : d ≤ 60) : ∃ R a, Fl X Y Z (tn d) R a ∧ lt2 400 a ∧ ∀ k M, callN prog W (k + 4) 20 [ev3 X Y Z, .int (d : Nat)] M = some (.int a, M) := by
  have dl := dis_lt h
  have tl := tn_lt hd
  have l2 : lt2 670 ((Y * Y + 4 * X * Z) * tn d * tn d) := (dl.mul tl).mul tl
  have p := tn_pos d
  obtain ⟨R, hR, hl, c1, -⟩ := roots ((Y * Y + 4 * X * Z) * tn d * tn d) 335 (Int.mul_nonneg (Int.mul_nonneg (dis_nn h.ep) (by omega)) (by omega)) l2 (by decide)
  have m1 : mulOk Y Y = true := mulOk_of h.ly h.ly (by decide)
  have m2 : mulOk 4 X = true := mulOk_a (by decide)
  have m3 : mulOk (4 * X) Z = true := mulOk_of (lt2.mul (a := 3) (by unfold lt2; decide) h.lx) h.lz (by decide)
  have m4 : mulOk (Y * Y + 4 * X * Z) (tn d) = true := mulOk_of dl tl (by decide)
  have m5 : mulOk ((Y * Y + 4 * X * Z) * tn d) (tn d) = true := mulOk_of (dl.mul tl) tl (by decide)
  have m6 : mulOk Y (tn d) = true := mulOk_of h.ly tl (by decide)
  have m7 : mulOk 2 X = true := mulOk_a (by decide)
  have x0 := h.ep.x
  have d1 : divOk (R - Y * tn d) (2 * X) = true := divOk_of (n := 136) (by omega) ((lt2.mul (a := 2) (by unfold lt2; decide) h.lx).mono (by decide)) (by decide)
  have la : lt2 400 ((R - Y * tn d).fdiv (2 * X)) := by
    have n1 : lt2 337 (R - Y * tn d) := (hl.mono (by decide)).sub ((h.ly.mul tl).mono (by decide))
    have f := (floor_ok h.ep.x h.ep.z p hR rfl).1
    have e : (R - Y * tn d).fdiv (2 * X) = (R - Y * tn d) / (2 * X) := Int.fdiv_eq_ediv_of_nonneg _ (by omega)
    rw [e] at f ⊢
    have : ((R - Y * tn d) / (2 * X)).natAbs ≤ (R - Y * tn d).natAbs := Int.natAbs_ediv_le_natAbs _ _
    exact lt2.mono (n := 337) (Nat.lt_of_le_of_lt this n1) (by decide)
  refine ⟨R, _, ⟨hR, rfl⟩, la, fun k M => ?_⟩
  have g1 := fun k => is_integer_ok k ((d : Nat) : Int) M
  have g2 : ∀ k, callN prog W (k + 2) 1 [.int ((d : Nat) : Int), .int 0, .int 60] M = some (.bl true, M) := fun k => by
    have g3 : (0 : Int) ≤ ((d : Nat) : Int) := by omega
    have g4 : ((d : Nat) : Int) ≤ 60 := by omega
    rw [u_is_whole]
    unfold m_is_whole
    clear dl tl l2 hR hl c1 m1 m2 m3 m4 m5 m6 m7 x0 d1 la p h hd
    generalize ((d : Nat) : Int) = tt at *
    walk_at "evf"
  have g3 : ∀ k, callN prog W (k + 3) 2 [.int ((d : Nat) : Int), .int 0, .int 60] M = some (.non, M) := fun k => by
    rw [u_need_whole]
    unfold m_need_whole
    clear dl tl l2 hR hl c1 m1 m2 m3 m4 m5 m6 m7 x0 d1 la p h hd g1
    generalize ((d : Nat) : Int) = tt at *
    walk_at "evf"
  have g4 := fun k => power_ok k d (by omega) M
  have ne := fun k => need_end5 h k M
  have b : ∀ k, callN prog W (k + 2) 15 [ev3 X Y Z, .int (tn d)] M = some (.int ((R - Y * tn d).fdiv (2 * X)), M) := fun k => by
    have n0 : (2 : Int) * X ≠ 0 := by omega
    have c1 := fun k => c1 k M
    rw [u_below_in]
    unfold m_below_in ev3
    clear dl tl l2 hR hl la p h hd g1 g2 g3 g4 ne x0
    walk_at "evf"
  rw [u_end_below]
  unfold m_end_below
  clear dl tl l2 hR hl c1 m1 m2 m3 m4 m5 m6 m7 x0 d1 la p h hd g1 g2
  generalize (R - Y * tn d).fdiv (2 * X) = a at *
  generalize tn d = td at *
  generalize ((d : Nat) : Int) = tt at *
  walk_at "evf"
def frD (X Y Z R : Int) : PV := if R * R = Y * Y + 4 * X * Z then fr (Rat.divInt (R - Y) (2 * X)) else .non
theorem as_fraction5 {X Y Z R : Int} (h : Ed X Y Z) (hr : IsR (Y * Y + 4 * X * Z) R) (k : Nat) (M : Mem) : callN prog W (k + 4) 19 [ev3 X Y Z] M = some (frD X Y Z R, M) := by
  obtain ⟨R', hr', hl, c1, -⟩ := rt5 h
  obtain rfl := IsR_uniq hr hr'
  have ne := fun k => need_end5 h k M
  have m1 : mulOk Y Y = true := mulOk_of h.ly h.ly (by decide)
  have m2 : mulOk 4 X = true := mulOk_a (by decide)
  have m3 : mulOk (4 * X) Z = true := mulOk_of (lt2.mul (a := 3) (by unfold lt2; decide) h.lx) h.lz (by decide)
  have m7 : mulOk 2 X = true := mulOk_a (by decide)
  have m8 : mulOk R R = true := mulOk_of hl hl (by decide)
  have x0 := h.ep.x
  have lo := fun k => lowest_ok k (R - Y) (2 * X) M (n := 136) ((lt2.mul (a := 2) (by unfold lt2; decide) h.lx).mono (by decide)) (by omega) (by decide)
  have c1 := fun k => c1 k M
  have bd : ∀ (e : Env), bindT (.tp [1, 2, 3]) (ev3 X Y Z) e = some (((e.set 1 (some (.int X))).set 2 (some (.int Y))).set 3 (some (.int Z))) := fun e => rfl
  rw [u_end_as_fraction]
  unfold m_end_as_fraction frD
  clear hr hr' hl h x0
  by_cases hs : R * R = Y * Y + 4 * X * Z
  · rw [if_pos hs]
    generalize Rat.divInt (R - Y) (2 * X) = q at *
    walk_at "evf"
  · rw [if_neg hs]
    generalize Rat.divInt (R - Y) (2 * X) = q at *
    walk_at "evf"

/-! ### which values are end numbers -/
def isInt : PV → Bool
  | .int _ => true
  | _ => false
theorem is_integerP (k : Nat) (v : PV) (M : Mem) : callN prog W (k + 1) 0 [v] M = some (.bl (isInt v), M) := by
  rw [u_is_integer]
  unfold m_is_integer
  cases v <;> (walk_at "evf"; try rfl)
def inD (x : PV) : Bool := match x with
  | .int i => decide (-10000000000000000000000000000000000000000 < i) && decide (i < 10000000000000000000000000000000000000000)
  | _ => false
def trib : PV → Bool
  | .tup xs => decide (xs.length = 3)
  | _ => false
theorem is_tuple3 (k : Nat) (v : PV) (M : Mem) : callN prog W (k + 1) 3 [v, .int 3, .int 3] M = some (.bl (trib v), M) := by
  rw [u_is_tuple_of]
  unfold m_is_tuple_of
  cases v with
  | tup xs =>
    have e : trib (.tup xs) = decide (xs.length = 3) := rfl
    rw [e]
    by_cases h3 : (3 : Int) ≤ (xs.length : Int)
    · by_cases h4 : (xs.length : Int) ≤ 3
      · rw [decide_eq_true (by omega)]; walk_at "evf"
      · rw [decide_eq_false (by omega)]; walk_at "evf"
    · rw [decide_eq_false (by omega)]; walk_at "evf"
  | non => rw [show trib .non = false from rfl]; walk_at "evf"
  | bl x => rw [show trib (.bl x) = false from rfl]; walk_at "evf"
  | int x => rw [show trib (.int x) = false from rfl]; walk_at "evf"
  | str x => rw [show trib (.str x) = false from rfl]; walk_at "evf"
  | lst x => rw [show trib (.lst x) = false from rfl]; walk_at "evf"
  | rol x => rw [show trib (.rol x) = false from rfl]; walk_at "evf"
  | ref x => rw [show trib (.ref x) = false from rfl]; walk_at "evf"
  | dct x => rw [show trib (.dct x) = false from rfl]; walk_at "evf"
def feE : E := (E.and (.call 0 (.cons (.var 5) .nil)) (.chn .lt .lt (.neg (.var 1)) (.var 5) (.var 1)))
theorem fe_ev (k : Nat) (M : Mem) (z v : PV) : eval (callN prog W (k + 1)) feE [some v, some (.int 10000000000000000000000000000000000000000), none, none, none, some z] M = some (.bl (inD z), M) := by
  have f2 := fun k => is_integerP k z M
  unfold feE
  cases z with
  | int i =>
    have f3 : isInt (.int i) = true := rfl
    by_cases h1 : -10000000000000000000000000000000000000000 < i
    · by_cases h2 : i < 10000000000000000000000000000000000000000
      · have f4 : inD (.int i) = true := by
          show (decide _ && decide _) = true
          rw [decide_eq_true h1, decide_eq_true h2]; rfl
        walk_at "evf"
      · have f4 : inD (.int i) = false := by
          show (decide _ && decide _) = false
          rw [decide_eq_true h1, decide_eq_false h2]; rfl
        walk_at "evf"
    · have f4 : inD (.int i) = false := by
        show (decide _ && decide _) = false
        rw [decide_eq_false h1]; rfl
      walk_at "evf"
  | tup xs => have f3 : isInt (.tup xs) = false := rfl; have f4 : inD (.tup xs) = false := rfl; walk_at "evf"
  | non => have f3 : isInt .non = false := rfl; have f4 : inD .non = false := rfl; walk_at "evf"
  | bl b => have f3 : isInt (.bl b) = false := rfl; have f4 : inD (.bl b) = false := rfl; walk_at "evf"
  | str b => have f3 : isInt (.str b) = false := rfl; have f4 : inD (.str b) = false := rfl; walk_at "evf"
  | lst b => have f3 : isInt (.lst b) = false := rfl; have f4 : inD (.lst b) = false := rfl; walk_at "evf"
  | rol b => have f3 : isInt (.rol b) = false := rfl; have f4 : inD (.rol b) = false := rfl; walk_at "evf"
  | ref b => have f3 : isInt (.ref b) = false := rfl; have f4 : inD (.ref b) = false := rfl; walk_at "evf"
  | dct b => have f3 : isInt (.dct b) = false := rfl; have f4 : inD (.dct b) = false := rfl; walk_at "evf"
def leC : Es := (Es.cons (.or (.cmp .ne (.call 23 (.cons (.var 1) .nil)) (.cst (.int (2)))) (.cmp .ge (.blt .abs false (.cons (.var 1) .nil)) (.bin .pow false (.cst (.int (10))) (.cst (.int (40)))))) .nil)
theorem le_cond (k : Nat) (M : Mem) (x : PV) (o0 : Option PV) : conds (callN prog W (k + 1)) leC [o0, some x] M = some (!inD x, M) := by
  have f1 := fun k => sort_ok k x M
  have p40 : powOp (.int 10) (.int 40) = some (.int 10000000000000000000000000000000000000000) := by rfl
  unfold leC
  cases x with
  | int i =>
    have f2 : sortP (.int i) = 2 := rfl
    have f3 : inD (.int i) = decide ((if i < 0 then -i else i) < 10000000000000000000000000000000000000000) := by
      show (decide _ && decide _) = _
      rw [← Bool.decide_and]
      apply decide_eq_decide.mpr
      split <;> omega
    rw [f3]
    clear f3
    by_cases h : (if i < 0 then -i else i) < 10000000000000000000000000000000000000000
    · rw [decide_eq_true h]
      have h' : ¬ 10000000000000000000000000000000000000000 ≤ (if i < 0 then -i else i) := by omega
      clear h
      generalize hj : (if i < 0 then -i else i) = j at *
      walk_at "evf"
      try rfl
    · rw [decide_eq_false h]
      have h' : 10000000000000000000000000000000000000000 ≤ (if i < 0 then -i else i) := by omega
      clear h
      generalize hj : (if i < 0 then -i else i) = j at *
      walk_at "evf"
      try rfl
  | tup xs => have f2 : sortP (.tup xs) = 4 := rfl; have f4 : inD (.tup xs) = false := rfl; walk_at "evf"; try rfl
  | non => have f2 : sortP .non = 0 := rfl; have f4 : inD .non = false := rfl; walk_at "evf"; try rfl
  | bl b => have f2 : sortP (.bl b) = 1 := rfl; have f4 : inD (.bl b) = false := rfl; walk_at "evf"; try rfl
  | str b => have f2 : sortP (.str b) = 3 := rfl; have f4 : inD (.str b) = false := rfl; walk_at "evf"; try rfl
  | lst b => have f2 : sortP (.lst b) = 5 := rfl; have f4 : inD (.lst b) = false := rfl; walk_at "evf"; try rfl
  | rol b => have f2 : sortP (.rol b) = 5 := rfl; have f4 : inD (.rol b) = false := rfl; walk_at "evf"; try rfl
  | ref b => have f2 : sortP (.ref b) = 5 := rfl; have f4 : inD (.ref b) = false := rfl; walk_at "evf"; try rfl
  | dct b => have f2 : sortP (.dct b) = 6 := rfl; have f4 : inD (.dct b) = false := rfl; walk_at "evf"; try rfl
theorem lcL_filt {t : T} {g : Gd} {cond : Env → Mem → Option (Bool × Mem)} {elt : Env → Mem → Option (PV × Mem)} {env : Env} {M : Mem} (hg : gOk g M = true) (p : PV → Bool) : ∀ (xs acc : List PV), (∀ x ∈ xs, ∃ env1, bindT t x env = some env1 ∧ cond env1 M = some (p x, M) ∧ elt env1 M = some (x, M)) →
    lcL t g cond elt env xs acc M = some (acc ++ xs.filter p, M)
  | [], acc, _ => by unfold lcL; rw [hg]; simp
  | x :: xs, acc, h => by
    unfold lcL
    rw [hg]
    obtain ⟨env1, h1, h2, h3⟩ := h x List.mem_cons_self
    have ih := fun acc => lcL_filt hg p xs acc fun y hy => h y (List.mem_cons_of_mem _ hy)
    simp only [h1, h2, h3]
    cases hp : p x with
    | true =>
      simp only [h3, ih]
      rw [List.filter_cons, hp, if_pos rfl, List.append_assoc]
      rfl
    | false =>
      simp only [ih]
      rw [List.filter_cons, hp, if_neg (by decide)]
theorem pls_filter (p : PV → Bool) : ∀ xs : List PV, pls xs = true → pls (xs.filter p) = true ∧ dpts (xs.filter p) ≤ dpts xs
  | [], _ => ⟨rfl, Nat.le_refl _⟩
  | x :: xs, h => by
    have h' : (pl x && pls xs) = true := h
    rw [Bool.and_eq_true] at h'
    obtain ⟨i1, i2⟩ := pls_filter p xs h'.2
    rw [List.filter_cons]
    by_cases hp : p x = true
    · rw [if_pos hp]
      refine ⟨?_, ?_⟩
      · show (pl x && pls (xs.filter p)) = true
        rw [h'.1, i1]; rfl
      · show max (dpt x) (dpts (xs.filter p)) ≤ max (dpt x) (dpts xs)
        omega
    · rw [if_neg hp]
      refine ⟨i1, ?_⟩
      show dpts (xs.filter p) ≤ max (dpt x) (dpts xs)
      omega
theorem filter_none (p : PV → Bool) (xs : List PV) : (xs.filter fun x => !p x).isEmpty = xs.all p := by
  induction xs with
  | nil => rfl
  | cons x xs ih =>
    rw [List.filter_cons, List.all_cons]
    cases hp : p x with
    | true => simpa using ih
    | false => rfl
def m_fe2 : Ss := (.cons (.asg (.tp [2, 3, 4]) (.var 0)) (.cons (.ret (.and (.cmp .gt (.var 2) (.cst (.int (0)))) (.and (.cmp .gt (.var 4) (.cst (.int (0)))) (.cmp .eq (.call 4 (.cons (.call 4 (.cons (.var 2) (.cons (.var 3) .nil))) (.cons (.var 4) .nil))) (.cst (.int (1))))))) .nil))
def m_le2 : Ss := (.cons (.ret (.and (.cmp .gt (.idx (.var 0) (.cst (.int (0)))) (.cst (.int (0)))) (.and (.cmp .gt (.idx (.var 0) (.cst (.int (2)))) (.cst (.int (0)))) (.cmp .eq (.call 26 (.cons (.call 26 (.cons (.idx (.var 0) (.cst (.int (0)))) (.cons (.idx (.var 0) (.cst (.int (1)))) .nil))) (.cons (.idx (.var 0) (.cst (.int (2)))) .nil))) (.cst (.int (1))))))) .nil)
theorem fe_run (k : Nat) (M : Mem) (a b c : PV) : callN prog W (k + 2) 8 [.tup [a, b, c], .int 10000000000000000000000000000000000000000] M = fin false M.length (execs (callN prog W (k + 1)) W (if [a, b, c].all inD then m_fe2 else .cons (.ret (.cst (.bl false))) .nil) [some (.tup [a, b, c]), some (.int 10000000000000000000000000000000000000000), none, none, none, none] M) := by
  have e1 := fe_ev k M a (.tup [a, b, c])
  have e2 := fe_ev k M b (.tup [a, b, c])
  have e3 := fe_ev k M c (.tup [a, b, c])
  have f1 : ∀ k, callN prog W (k + 1) 3 [.tup [a, b, c], .int 3, .int 3] M = some (.bl true, M) := fun k => is_tuple3 k (.tup [a, b, c]) M
  have ha : [a, b, c].all inD = (inD a && (inD b && (inD c && true))) := rfl
  rw [u_fits_end]
  unfold m_fits_end
  rw [show (E.and (.call 0 (.cons (.var 5) .nil)) (.chn .lt .lt (.neg (.var 1)) (.var 5) (.var 1))) = feE from rfl, ha]
  clear ha
  generalize feE = el at *
  show fin false M.length (execs (callN prog W (k + 1)) W (.cons _ m_fe2) [some (.tup [a, b, c]), some (.int 10000000000000000000000000000000000000000), none, none, none, none] M) = _
  generalize m_fe2 = rest
  generalize inD a = ba at *
  generalize inD b = bb at *
  generalize inD c = bc at *
  cases ba <;> cases bb <;> cases bc <;>
    simp -implicitDefEqProofs only [execs, exec, eval, evals, evalI, conds, bnd_some, bnd_none, bifb_t, bifb_f, bifb_d, bifb_b, iff_t, iff_d, nxt_nx, nxt_rt, binop, cmpop, addOp_ii, addOp_tt, addOp_ll, subOp_ii, mulOp_ii, fdivOp_ii, modOp_ii, cmpI_ii, tru_bl, tru_int, absB_i, intB_i, asM_int, asM_bl, asM_tup, asM_false, isOp_n, isOp_bb, isNon_non, isNon_tup, isNon_int, isNon_bl, isNon_lst, isNon_ref, isNon_rol, isNon_str, isNon_fr, setAll_nil, setAll_cons, bindT_nm, bindT_tp, fin_rt, fin_nx, leave_same, bltOp, idx_tup0, idx_tup1, idx_tup2, idx_tup3, idx_lst0, idx_lst1, idx_lst2, idx_lst3, eqD_ii, eqD_bb, eqD_fr, Option.map_some, Option.map_none, Option.bind_some, List.getElem?_cons_zero, List.getElem?_cons_succ, List.set_cons_zero, List.set_cons_succ, List.length_cons, List.length_nil, if_true, if_false, decide_true, decide_false, Bool.not_true, Bool.not_false, decide_eq_true_eq, sizeL, Nat.reduceAdd, Nat.reduceLeDiff, Nat.zero_add, beq_self_eq_true, seqG_tup, seqG_lst, lenB_tup, lenB_lst, idx_cup0, idx_cup1, setAt0, setAt1, cup, isTy, Bool.false_eq_true, newL_f, newL_t, fin_rtk, List.nil_append, wipeE, Int.reduceNe, Int.reduceEq, Int.reduceLT, Int.reduceLE, Int.reduceAdd, Int.reduceSub, Int.reduceMul, Int.reduceNeg, Int.reduceGT, lcL_n, lcL_c, allB, items, boolsOf, List.all_cons, List.all_nil, id_eq, Bool.and_true, Bool.and_false, Bool.false_and, List.cons_append, cmpop, *]
theorem le_run (k : Nat) (M : Mem) (a b c : PV) (hp : pls [a, b, c] = true) (hd : dpts [a, b, c] ≤ 60) : callN prog W (k + 2) 29 [.tup [a, b, c]] M = fin false M.length (execs (callN prog W (k + 1)) W (if [a, b, c].all inD then m_le2 else .cons (.ret (.cst (.bl false))) .nil) [some (.tup [a, b, c]), none] M) := by
  have h1 : lcL (.nm 1) [] (conds (callN prog W (k + 1)) leC) (eval (callN prog W (k + 1)) (.var 1)) [some (.tup [a, b, c]), none] [a, b, c] [] M = some ([a, b, c].filter fun v => !inD v, M) := by
    rw [lcL_filt rfl (fun v => !inD v)]
    · rfl
    · intro v _
      exact ⟨_, bindT_nm _ _, le_cond k M v _, by walk_at "evf"⟩
  obtain ⟨p1, p2⟩ := pls_filter (fun v => !inD v) [a, b, c] hp
  have h2 := eqD_l0 M ([a, b, c].filter fun v => !inD v) p1 (by omega)
  rw [filter_none] at h2
  have h3 : ([a, b, c].filter fun v => !inD v).length ≤ 16777216 := by
    have := List.length_filter_le (fun v => !inD v) [a, b, c]
    simp only [List.length_cons, List.length_nil] at this
    omega
  rw [u__law_is_end]
  unfold m__law_is_end
  rw [show (Es.cons (.or (.cmp .ne (.call 23 (.cons (.var 1) .nil)) (.cst (.int (2)))) (.cmp .ge (.blt .abs false (.cons (.var 1) .nil)) (.bin .pow false (.cst (.int (10))) (.cst (.int (40)))))) .nil) = leC from rfl]
  show fin false M.length (execs (callN prog W (k + 1)) W (.cons _ m_le2) [some (.tup [a, b, c]), none] M) = _
  generalize m_le2 = rest
  generalize ([a, b, c].filter fun v => !inD v) = fs at *
  generalize ([a, b, c].all inD) = bb at *
  generalize leC = nC at *
  generalize hv : E.var 1 = e2 at *
  clear hp hd p1 p2 hv
  have e3 : decide (((3 : Nat) : Int) = 3) = true := rfl
  cases bb
  · simp -implicitDefEqProofs only [execs, exec, eval, evals, evalI, conds, bnd_some, bnd_none, bifb_t, bifb_f, bifb_d, bifb_b, iff_t, iff_d, nxt_nx, nxt_rt, binop, cmpop, addOp_ii, addOp_tt, addOp_ll, subOp_ii, mulOp_ii, fdivOp_ii, modOp_ii, cmpI_ii, tru_bl, tru_int, absB_i, intB_i, asM_int, asM_bl, asM_tup, asM_false, isOp_n, isOp_bb, isNon_non, isNon_tup, isNon_int, isNon_bl, isNon_lst, isNon_ref, isNon_rol, isNon_str, isNon_fr, setAll_nil, setAll_cons, bindT_nm, bindT_tp, fin_rt, fin_nx, leave_same, bltOp, idx_tup0, idx_tup1, idx_tup2, idx_tup3, idx_lst0, idx_lst1, idx_lst2, idx_lst3, eqD_ii, eqD_bb, eqD_fr, Option.map_some, Option.map_none, Option.bind_some, List.getElem?_cons_zero, List.getElem?_cons_succ, List.set_cons_zero, List.set_cons_succ, List.length_cons, List.length_nil, if_true, if_false, decide_true, decide_false, Bool.not_true, Bool.not_false, decide_eq_true_eq, sizeL, Nat.reduceAdd, Nat.reduceLeDiff, Nat.zero_add, beq_self_eq_true, seqG_tup, seqG_lst, lenB_tup, lenB_lst, idx_cup0, idx_cup1, setAt0, setAt1, cup, isTy, Bool.false_eq_true, newL_f, newL_t, fin_rtk, List.nil_append, wipeE, Int.reduceNe, Int.reduceEq, Int.reduceLT, Int.reduceLE, Int.reduceAdd, Int.reduceSub, Int.reduceMul, Int.reduceNeg, Int.reduceGT, cmpop, *]
  · simp -implicitDefEqProofs only [execs, exec, eval, evals, evalI, conds, bnd_some, bnd_none, bifb_t, bifb_f, bifb_d, bifb_b, iff_t, iff_d, nxt_nx, nxt_rt, binop, cmpop, addOp_ii, addOp_tt, addOp_ll, subOp_ii, mulOp_ii, fdivOp_ii, modOp_ii, cmpI_ii, tru_bl, tru_int, absB_i, intB_i, asM_int, asM_bl, asM_tup, asM_false, isOp_n, isOp_bb, isNon_non, isNon_tup, isNon_int, isNon_bl, isNon_lst, isNon_ref, isNon_rol, isNon_str, isNon_fr, setAll_nil, setAll_cons, bindT_nm, bindT_tp, fin_rt, fin_nx, leave_same, bltOp, idx_tup0, idx_tup1, idx_tup2, idx_tup3, idx_lst0, idx_lst1, idx_lst2, idx_lst3, eqD_ii, eqD_bb, eqD_fr, Option.map_some, Option.map_none, Option.bind_some, List.getElem?_cons_zero, List.getElem?_cons_succ, List.set_cons_zero, List.set_cons_succ, List.length_cons, List.length_nil, if_true, if_false, decide_true, decide_false, Bool.not_true, Bool.not_false, decide_eq_true_eq, sizeL, Nat.reduceAdd, Nat.reduceLeDiff, Nat.zero_add, beq_self_eq_true, seqG_tup, seqG_lst, lenB_tup, lenB_lst, idx_cup0, idx_cup1, setAt0, setAt1, cup, isTy, Bool.false_eq_true, newL_f, newL_t, fin_rtk, List.nil_append, wipeE, Int.reduceNe, Int.reduceEq, Int.reduceLT, Int.reduceLE, Int.reduceAdd, Int.reduceSub, Int.reduceMul, Int.reduceNeg, Int.reduceGT, cmpop, *]
theorem end_three (a b c : PV) (hp : pls [a, b, c] = true) (hd : dpts [a, b, c] ≤ 60) : ∃ r, (∀ k M, callN prog W (k + 2) 8 [.tup [a, b, c], .int 10000000000000000000000000000000000000000] M = some (.bl r, M)) ∧ ∀ k M, callN prog W (k + 2) 29 [.tup [a, b, c]] M = some (.bl r, M) := by
  cases h : [a, b, c].all inD with
  | false =>
    refine ⟨false, fun k M => ?_, fun k M => ?_⟩
    · rw [fe_run, h, if_neg (by decide)]
      clear h hp hd
      walk_at "evf"
    · rw [le_run k M a b c hp hd, h, if_neg (by decide)]
      clear h hp hd
      walk_at "evf"
  | true =>
    have h' : (inD a && (inD b && (inD c && true))) = true := h
    rw [Bool.and_eq_true, Bool.and_eq_true, Bool.and_true] at h'
    obtain ⟨ha, hb, hc⟩ := h'
    match a, b, c, ha, hb, hc with
    | .int x, .int y, .int z, ha, hb, hc =>
    have hb' : (decide (-10000000000000000000000000000000000000000 < y) && decide (y < 10000000000000000000000000000000000000000)) = true := hb
    have hc' : (decide (-10000000000000000000000000000000000000000 < z) && decide (z < 10000000000000000000000000000000000000000)) = true := hc
    simp only [Bool.and_eq_true, decide_eq_true_eq] at hb' hc'
    have ly := lt133 hb'.1 hb'.2
    have lz := lt133 hc'.1 hc'.2
    refine ⟨decide (0 < x) && (decide (0 < z) && decide (((g3 x y z : Nat) : Int) = 1)), fun k M => ?_, fun k M => ?_⟩
    · rw [fe_run, h, if_pos rfl]
      have D1 := fun k => divisor_of_ok k x y M ly (by decide)
      have D2 : ∀ k, callN prog W (k + 1) 4 [.int ((Int.gcd x y : Nat) : Int), .int z] M = some (.int (g3 x y z : Nat), M) := fun k => divisor_of_ok k _ z M lz (by decide)
      unfold m_fe2
      clear h ha hb hc hb' hc' ly lz hp hd
      generalize ((g3 x y z : Nat) : Int) = g at *
      by_cases h1 : 0 < x
      · by_cases h2 : 0 < z
        · walk_at "evf"
          simp only [Bool.true_and]
        · walk_at "evf"
          rfl
      · walk_at "evf"
        rfl
    · rw [le_run k M _ _ _ hp hd, h, if_pos rfl]
      have D1 := fun k => l_divisor_ok k x y M ly (by decide)
      have D2 : ∀ k, callN prog W (k + 1) 26 [.int ((Int.gcd x y : Nat) : Int), .int z] M = some (.int (g3 x y z : Nat), M) := fun k => l_divisor_ok k _ z M lz (by decide)
      unfold m_le2
      clear h ha hb hc hb' hc' ly lz hp hd
      generalize ((g3 x y z : Nat) : Int) = g at *
      by_cases h1 : 0 < x
      · by_cases h2 : 0 < z
        · walk_at "evf"
          simp only [Bool.true_and]
        · walk_at "evf"
          rfl
      · walk_at "evf"
        rfl
theorem end_other (v : PV) (h : trib v = false) : (∀ k M, callN prog W (k + 2) 8 [v, .int 10000000000000000000000000000000000000000] M = some (.bl false, M)) ∧ ∀ k M, callN prog W (k + 2) 29 [v] M = some (.bl false, M) := by
  refine ⟨fun k M => ?_, fun k M => ?_⟩
  · have f1 := fun k => is_tuple3 k v M
    rw [h] at f1
    rw [u_fits_end]
    unfold m_fits_end
    clear h
    walk_at "evf"
  · rw [u__law_is_end]
    unfold m__law_is_end
    cases v with
    | tup xs =>
      have e : decide (xs.length = 3) = false := h
      have h' : ¬ (xs.length : Int) = 3 := by
        have := of_decide_eq_false e
        omega
      clear h e
      walk_at "evf"
    | non => clear h; walk_at "evf"
    | bl x => clear h; walk_at "evf"
    | int x => clear h; walk_at "evf"
    | str x => clear h; walk_at "evf"
    | lst x => clear h; walk_at "evf"
    | rol x => clear h; walk_at "evf"
    | ref x => clear h; walk_at "evf"
    | dct x => clear h; walk_at "evf"
theorem is_endP (v : PV) (hp : pl v = true) (hd : dpt v ≤ 60) : ∃ r, (∀ k M, callN prog W (k + 3) 16 [v] M = some (.bl r, M)) ∧ ∀ k M, callN prog W (k + 2) 29 [v] M = some (.bl r, M) := by
  have H : ∃ r, (∀ k M, callN prog W (k + 2) 8 [v, .int 10000000000000000000000000000000000000000] M = some (.bl r, M)) ∧ ∀ k M, callN prog W (k + 2) 29 [v] M = some (.bl r, M) := by
    cases h : trib v with
    | false => exact ⟨false, end_other v h⟩
    | true =>
      match v, h, hp, hd with
      | .tup xs, h, hp, hd =>
        have h' : xs.length = 3 := of_decide_eq_true h
        match xs, h', hp, hd with
        | [a, b, c], _, hp, hd => exact end_three a b c hp (by have : dpts [a, b, c] + 1 ≤ 60 := hd; omega)
  obtain ⟨r, h1, h2⟩ := H
  refine ⟨r, fun k M => ?_, h2⟩
  have f := fun k => h1 k M
  rw [u_is_end_number]
  unfold m_is_end_number
  clear h1 h2 hp hd
  walk_at "evf"
theorem is_end5 {X Y Z : Int} (h : Ed X Y Z) (k : Nat) (M : Mem) : callN prog W (k + 3) 16 [ev3 X Y Z] M = some (.bl true, M) := by
  have f := fun k => fits_end5 h k M
  rw [u_is_end_number]
  unfold m_is_end_number
  clear h
  walk_at "evf"
/-! the law's own words -/
def lw (x y z a b : Int) : PySem.Str := if a ≤ 0 then "greater" else if wf x y z a b < 0 then "greater" else if wf x y z a b = 0 then "same" else "less"
theorem l_beside5 {x y z a b : Int} {n : Nat} (hx : lt2 n x) (hy : lt2 n y) (hz : lt2 n z) (ha : lt2 n a) (hb : lt2 n b) (hn : n ≤ 1500) (k : Nat) (M : Mem) : callN prog W (k + 1) 31 [ev3 x y z, .int a, .int b] M = some (.str (lw x y z a b), M) := by
  have m1 : mulOk x a = true := mulOk_of hx ha (by omega)
  have m2 : mulOk (x * a) a = true := mulOk_of (hx.mul ha) ha (by omega)
  have m3 : mulOk y a = true := mulOk_of hy ha (by omega)
  have m4 : mulOk (y * a) b = true := mulOk_of (hy.mul ha) hb (by omega)
  have m5 : mulOk z b = true := mulOk_of hz hb (by omega)
  have m6 : mulOk (z * b) b = true := mulOk_of (hz.mul hb) hb (by omega)
  rw [u__law_beside]
  unfold m__law_beside lw ev3
  clear hx hy hz ha hb
  by_cases h1 : a ≤ 0
  · rw [if_pos h1]
    walk_at "evf"
  · rw [if_neg h1]
    have ew : x * a * a + y * a * b - z * b * b = wf x y z a b := rfl
    generalize wf x y z a b = w at *
    by_cases h2 : w < 0
    · rw [if_pos h2]
      walk_at "evf"
    · rw [if_neg h2]
      by_cases h3 : w = 0
      · rw [if_pos h3]
        walk_at "evf"
      · rw [if_neg h3]
        walk_at "evf"
theorem div_parts {a b : Int} (hb : 0 < b) : ∃ g : Int, 0 < g ∧ a = g * (Rat.divInt a b).num ∧ b = g * (Rat.divInt a b).den := by
  have hs : (1 : Int) = b.sign := (Int.sign_eq_one_of_pos hb).symm
  obtain ⟨l1, l2⟩ := low_num (a := a) (show b ≠ 0 by omega) hs
  have hg : 0 < Int.gcd a b := Int.gcd_pos_of_ne_zero_right a (by omega)
  rw [Int.mul_one] at l1 l2
  obtain ⟨u, hu⟩ := Int.gcd_dvd_left a b
  obtain ⟨v, hv⟩ := Int.gcd_dvd_right a b
  refine ⟨((Int.gcd a b : Nat) : Int), by omega, ?_, ?_⟩
  · rw [← l1, fdiv_ex (by omega) hu]; exact hu
  · rw [← l2, fdiv_ex (by omega) hv]; exact hv
theorem sgnI_mul {g n : Int} (hg : 0 < g) : sgnI (g * n) = sgnI n := by
  rcases Int.lt_trichotomy n 0 with h | h | h
  · rw [sgnI_n h, sgnI_n (Int.mul_neg_of_pos_of_neg hg h)]
  · rw [h, Int.mul_zero]
  · rw [sgnI_p h, sgnI_p (Int.mul_pos hg h)]
theorem lw_wI {x y z a b : Int} (hb : 0 < b) : lw x y z a b = wI (bes x y z (Rat.divInt a b)) := by
  obtain ⟨g, hg, e1, e2⟩ := div_parts (a := a) hb
  generalize Rat.divInt a b = q at *
  have hgg := Int.mul_pos hg hg
  have e3 : wf x y z a b = g * g * wf x y z q.num q.den := by
    conv => lhs; rw [e1, e2]
    exact wf_scale x y z g q.num q.den
  have hs := sgnI_mul (n := wf x y z q.num q.den) hgg
  rw [← e3] at hs
  unfold lw bes
  by_cases h1 : a ≤ 0
  · have h2 : q.num ≤ 0 := by
      apply Int.not_lt.mp
      intro p
      have := Int.mul_pos hg p
      omega
    rw [if_pos h1, if_pos h2]; rfl
  · have h2 : ¬ q.num ≤ 0 := by
      intro p
      have := Int.mul_nonpos_of_nonneg_of_nonpos (Int.le_of_lt hg) p
      omega
    rw [if_neg h1, if_neg h2, ← hs]
    rcases sgnI_cases (wf x y z a b) with ⟨h, e⟩ | ⟨h, e⟩ | ⟨h, e⟩
    · rw [e, if_pos h]; rfl
    · rw [e, if_neg (by omega), if_pos h]; rfl
    · rw [e, if_neg (by omega), if_neg (by omega)]; rfl
/-! drawn end numbers -/
theorem divOk_n {n : Nat} {x : Int} {g : Nat} (h : 0 < g) (hg : lt2 n (g : Int)) (hn : n ≤ 8990) : divOk x (g : Int) = true := divOk_of (by omega) hg hn
theorem plain5 {x y z : Int} {n : Nat} (hx : 0 < x) (hz : 0 < z) (ly : lt2 n y) (lz : lt2 n z) (hn : n ≤ 3000) : ∃ (g : Nat) (X Y Z : Int), 0 < g ∧ x = g * X ∧ y = g * Y ∧ z = g * Z ∧ Ep X Y Z ∧ X.natAbs ≤ x.natAbs ∧ Y.natAbs ≤ y.natAbs ∧ Z.natAbs ≤ z.natAbs ∧ ∀ k M, callN prog W (k + 2) 27 [.int x, .int y, .int z] M = some (ev3 X Y Z, M) := by
  obtain ⟨X, Y, Z, e1, e2, e3, ep, g0, v1, v2, v3⟩ := prim (y := y) hx hz
  have lg : lt2 n ((g3 x y z : Nat) : Int) := lt2_gcd lz (by omega)
  have D3 := fun k M => l_divisor_ok k x y M ly (by omega)
  have D4 : ∀ k M, callN prog W (k + 1) 26 [.int ((Int.gcd x y : Nat) : Int), .int z] M = some (.int (g3 x y z : Nat), M) := fun k M => l_divisor_ok k _ _ M lz (by omega)
  have q1' : divOk x (g3 x y z : Nat) = true := divOk_n g0 lg (by omega)
  have q2' : divOk y (g3 x y z : Nat) = true := divOk_n g0 lg (by omega)
  have q3' : divOk z (g3 x y z : Nat) = true := divOk_n g0 lg (by omega)
  generalize g3 x y z = g at *
  have le : ∀ {u w : Int}, u = (g : Int) * w → w.natAbs ≤ u.natAbs := fun {u w} e => by
    rw [e, Int.natAbs_mul, Int.natAbs_natCast]
    exact Nat.le_mul_of_pos_left _ g0
  refine ⟨g, X, Y, Z, g0, e1, e2, e3, ep, le e1, le e2, le e3, fun k M => ?_⟩
  have D3 := fun k => D3 k M
  have D4 := fun k => D4 k M
  rw [u__law_plain]
  unfold m__law_plain ev3
  clear e1 e2 e3 ep g0 lg ly lz hx hz le
  walk_at "evf"
theorem drawn5 (k s : Nat) {x y : Int} (T : Mem) (h : CupB x y) (h1 : 1 ≤ s) (h2 : (s : Int) ≤ 1000000000000000000000000000000) :
    ∃ X Y Z x' y', callN prog W (k + 3) 28 [.ref 0, .int s] (cup x y :: T) = some (ev3 X Y Z, cup x' y' :: T) ∧ CupB x' y' ∧ Ep X Y Z ∧ X ≤ s ∧ -(s : Int) ≤ Y ∧ Y ≤ s ∧ Z ≤ s := by
  have e41 : (1000000000000000000000000000000 : Nat) < 2 ^ 101 := by decide +kernel
  have e42 : (2 : Nat) ^ 103 = 4 * 2 ^ 101 := by decide +kernel
  obtain ⟨r1, x1, y1, d1, c1, p1, q1⟩ := roll_ok (k + 1) (many := (s : Int)) T h (by omega) (lt2.mono (n := 103) (by unfold lt2; omega) (by decide))
  obtain ⟨r2, x2, y2, d2, c2, p2, q2⟩ := roll_ok (k + 1) (many := 2 * (s : Int) + 1) T c1 (by omega) (lt2.mono (n := 103) (by unfold lt2; omega) (by decide))
  obtain ⟨r3, x3, y3, d3, c3, p3, q3⟩ := roll_ok (k + 1) (many := (s : Int)) T c2 (by omega) (lt2.mono (n := 103) (by unfold lt2; omega) (by decide))
  have m1 : mulOk 2 (s : Int) = true := mulOk_a (by decide)
  obtain ⟨g, X, Y, Z, g0, e1, e2, e3, ep, z1, z2, z3, pl⟩ := plain5 (x := 1 + r1) (y := r2 - s) (z := 1 + r3) (n := 103) (by omega) (by omega) (by unfold lt2; omega) (by unfold lt2; omega) (by decide)
  refine ⟨X, Y, Z, x3, y3, ?_, c3, ep, by omega, by omega, by omega, by omega⟩
  have hlv := leave_cup (cup x3 y3) (ev3 X Y Z) T
  have pl := fun k => pl k (cup x3 y3 :: T)
  rw [u__law_drawn]
  unfold m__law_drawn
  clear z1 z2 z3 e1 e2 e3 ep g0 c1 c2 c3 h h1 h2 p1 p2 p3 q1 q2 q3 e41 e42
  walk_at "evf"

/-! ### one end number, the law's questions -/
theorem due_ok {X Y Z R : Int} (h : Ep X Y Z) (hr : IsR (Y * Y + 4 * X * Z) R) (hs : R * R = Y * Y + 4 * X * Z) : 0 < (Rat.divInt (R - Y) (2 * X)).num ∧ wf X Y Z (Rat.divInt (R - Y) (2 * X)).num (Rat.divInt (R - Y) (2 * X)).den = 0 := by
  have x0 := h.x
  have xz := Int.mul_pos (Int.mul_pos (show (0 : Int) < 4 by decide) h.x) h.z
  have ry : Y < R := by
    apply Int.not_le.mp
    intro q
    have := Int.mul_le_mul q q hr.1 (by have := hr.1; omega)
    omega
  have hc := div_cross (a := R - Y) (show 2 * X ≠ 0 by omega)
  have hd := den_posI (Rat.divInt (R - Y) (2 * X))
  generalize Rat.divInt (R - Y) (2 * X) = q at *
  have np : 0 < q.num := by
    have : 0 < q.num * (2 * X) := by rw [hc]; exact Int.mul_pos (by omega) hd
    exact Int.pos_of_mul_pos_left this (by omega)
  refine ⟨np, ?_⟩
  have e := wf_id X Y Z q.num q.den
  have e1 : 2 * X * q.num + Y * q.den = R * q.den := by
    have : (R - Y) * (q.den : Int) = R * q.den - Y * q.den := by rw [Int.sub_mul]
    have : q.num * (2 * X) = 2 * X * q.num := Int.mul_comm _ _
    omega
  rw [e1, ← hs] at e
  have e2 : R * ↑q.den * (R * ↑q.den) - R * R * ↑q.den * ↑q.den = 0 := by grind
  rw [e2] at e
  rcases Int.mul_eq_zero.mp e with h | h
  · omega
  · exact h
theorem eqD_str (M : Mem) (a b : PySem.Str) (ha : PySem.SeqAt.shaped (.str a) = true) (hb : PySem.SeqAt.shaped (.str b) = true) : eqD M (.str a) (.str b) = some (a == b) := by
  show (if (PySem.SeqAt.shaped (.str a) && PySem.SeqAt.shaped (.str b)) = true then some (a == b) else none) = _
  rw [ha, hb, if_pos (by rfl)]
theorem sh_l : PySem.SeqAt.shaped (.str "less") = true := by decide +kernel
theorem sh_s : PySem.SeqAt.shaped (.str "same") = true := by decide +kernel
theorem sh_g : PySem.SeqAt.shaped (.str "greater") = true := by decide +kernel
theorem w_ll (M : Mem) : eqD M (.str "less") (.str "less") = some true := by rw [eqD_str M _ _ sh_l sh_l]; exact congrArg some (by decide +kernel)
theorem w_ls (M : Mem) : eqD M (.str "less") (.str "same") = some false := by rw [eqD_str M _ _ sh_l sh_s]; exact congrArg some (by decide +kernel)
theorem w_lg (M : Mem) : eqD M (.str "less") (.str "greater") = some false := by rw [eqD_str M _ _ sh_l sh_g]; exact congrArg some (by decide +kernel)
theorem w_sl (M : Mem) : eqD M (.str "same") (.str "less") = some false := by rw [eqD_str M _ _ sh_s sh_l]; exact congrArg some (by decide +kernel)
theorem w_ss (M : Mem) : eqD M (.str "same") (.str "same") = some true := by rw [eqD_str M _ _ sh_s sh_s]; exact congrArg some (by decide +kernel)
theorem w_sg (M : Mem) : eqD M (.str "same") (.str "greater") = some false := by rw [eqD_str M _ _ sh_s sh_g]; exact congrArg some (by decide +kernel)
theorem w_gl (M : Mem) : eqD M (.str "greater") (.str "less") = some false := by rw [eqD_str M _ _ sh_g sh_l]; exact congrArg some (by decide +kernel)
theorem w_gs (M : Mem) : eqD M (.str "greater") (.str "same") = some false := by rw [eqD_str M _ _ sh_g sh_s]; exact congrArg some (by decide +kernel)
theorem w_gg (M : Mem) : eqD M (.str "greater") (.str "greater") = some true := by rw [eqD_str M _ _ sh_g sh_g]; exact congrArg some (by decide +kernel)
theorem wI_0 : wI 0 = "same" := rfl
theorem wI_1 : wI 1 = "greater" := rfl
theorem wI_m : wI (-1) = "less" := rfl
theorem eqD_same (M : Mem) {i : Int} (h : i = -1 ∨ i = 0 ∨ i = 1) : eqD M (.str (wI i)) (.str "same") = some (decide (i = 0)) := by
  rcases h with rfl | rfl | rfl
  · rw [wI_m, w_ls]; rfl
  · rw [wI_0, w_ss]; rfl
  · rw [wI_1, w_gs]; rfl
theorem lw_less {x y z a b : Int} (M : Mem) (ha : 0 < a) (h : 0 < wf x y z a b) : eqD M (.str (lw x y z a b)) (.str "less") = some true := by
  unfold lw
  rw [if_neg (by omega), if_neg (by omega), if_neg (by omega)]
  exact w_ll M
theorem lw_nless {x y z a b : Int} (M : Mem) (h : wf x y z a b ≤ 0) : eqD M (.str (lw x y z a b)) (.str "less") = some false := by
  unfold lw
  by_cases h1 : a ≤ 0
  · rw [if_pos h1]; exact w_gl M
  · rw [if_neg h1]
    by_cases h2 : wf x y z a b < 0
    · rw [if_pos h2]; exact w_gl M
    · rw [if_neg h2, if_pos (by omega)]; exact w_sl M
theorem pl_wI (i : Int) : pl (.str (wI i)) = true := by
  unfold wI
  split
  · decide +kernel
  · split <;> decide +kernel
theorem maxB_2i (M : Mem) (a b : Int) : maxB M [.int a, .int b] = some (.int (if b > a then b else a)) := rfl
def prB : Ss := (Ss.cons (.set 14 (.call 25 (.cons (.var 12) (.cons (.var 13) .nil)))) (.cons (.ite (.and (.cmp .lt (.blt .max false (.cons (.blt .abs false (.cons (.idx (.var 14) (.cst (.int (0)))) .nil)) (.cons (.idx (.var 14) (.cst (.int (1)))) .nil))) (.bin .pow false (.cst (.int (10))) (.cst (.int (40))))) (.not (.call 24 (.cons (.call 17 (.cons (.var 1) (.cons (.var 14) .nil))) (.cons (.call 31 (.cons (.var 1) (.cons (.var 12) (.cons (.var 13) .nil)))) .nil))))) (.cons (.ret (.cst (.bl false))) .nil) .nil) .nil))
theorem pair5 (k : Nat) {X Y Z a b : Int} (h : Ed X Y Z) (hb : 0 < b) (la : lt2 1000 a) (lb : lt2 1000 b) (M : Mem) (e0 e2 e3 e4 e5 e6 e7 e8 e9 e10 e11 e14 e15 e16 e17 e18 : Option PV) :
    execs (callN prog W (k + 5)) W prB [e0, some (ev3 X Y Z), e2, e3, e4, e5, e6, e7, e8, e9, e10, e11, some (.int a), some (.int b), e14, e15, e16, e17, e18] M =
      some (.nx [e0, some (ev3 X Y Z), e2, e3, e4, e5, e6, e7, e8, e9, e10, e11, some (.int a), some (.int b), some (fr (Rat.divInt a b)), e15, e16, e17, e18] M) := by
  have f1 := fun k => l_least_ok k a b M lb (by omega) (by decide)
  have p40 : powOp (.int 10) (.int 40) = some (.int 10000000000000000000000000000000000000000) := by rfl
  have mx := maxB_2i M (if (Rat.divInt a b).num < 0 then -(Rat.divInt a b).num else (Rat.divInt a b).num) (Rat.divInt a b).den
  have f2 := fun k => l_beside5 (h.lx.mono (show 133 ≤ 1000 by decide)) (h.ly.mono (show 133 ≤ 1000 by decide)) (h.lz.mono (show 133 ≤ 1000 by decide)) la lb (by decide) k M
  rw [lw_wI hb] at f2
  have f4 := fun k => like_ok k (.str (wI (bes X Y Z (Rat.divInt a b)))) M (pl_wI _) (Nat.zero_le _)
  have f3 := fun p1 p2 p4 k => end_beside5 (q := Rat.divInt a b) h p1 p2 p4 k M
  unfold prB
  clear h la lb hb
  generalize Rat.divInt a b = q at *
  generalize hab : (if q.num < 0 then -q.num else q.num) = ab at *
  by_cases hm : (if (q.den : Int) > ab then (q.den : Int) else ab) < 10000000000000000000000000000000000000000
  · have f3 := f3 (by split at hm <;> split at hab <;> omega) (by split at hm <;> split at hab <;> omega) (by split at hm <;> omega)
    generalize (if (q.den : Int) > ab then (q.den : Int) else ab) = m at *
    generalize wI (bes X Y Z q) = w at *
    walk_at "evf"
  · generalize (if (q.den : Int) > ab then (q.den : Int) else ab) = m at *
    clear f3 f4
    generalize wI (bes X Y Z q) = w at *
    walk_at "evf"
/-! ### the bent values -/
theorem pls_of {n : Nat} : ∀ {ys : List PV}, (∀ v ∈ ys, pl v = true ∧ dpt v ≤ n) → pls ys = true ∧ dpts ys ≤ n
  | [], _ => ⟨rfl, Nat.zero_le _⟩
  | y :: ys, h => by
    obtain ⟨h1, h2⟩ := h y List.mem_cons_self
    obtain ⟨h3, h4⟩ := pls_of fun v hv => h v (List.mem_cons_of_mem _ hv)
    refine ⟨?_, ?_⟩
    · show (pl y && pls ys) = true
      rw [h1, h3]; rfl
    · show max (dpt y) (dpts ys) ≤ n
      omega
theorem cut_mem {xs : List PV} {l h : Option Int} {v : PV} (hv : v ∈ cut xs l h) : v ∈ xs := List.mem_of_mem_drop (List.mem_of_mem_take hv)
theorem cut_len (xs : List PV) (l h : Option Int) : (cut xs l h).length ≤ xs.length := by
  unfold cut
  rw [List.length_take, List.length_drop]
  omega
theorem slc_hi (M : Mem) (xs : List PV) (h : Int) : slcOp M (.tup xs) false true .non (.int h) = some (.tup (cut xs none (some h))) := rfl
theorem slc_lo (M : Mem) (xs : List PV) (l : Int) : slcOp M (.tup xs) true false (.int l) .non = some (.tup (cut xs (some l) none)) := rfl
def apB : Ss := (Ss.cons (.exp (.app (.var 16) (.bin .add false (.bin .add false (.slc (.var 1) false true (.cst .non) (.var 15)) (.tup (.cons (.var 17) .nil))) (.slc (.var 1) true false (.bin .add false (.var 15) (.cst (.int (1)))) (.cst .non))))) .nil)
theorem ap_loop (k : Nat) (c : Cell) (e0 e2 e3 e4 e5 e6 e7 e8 e9 e10 e11 e12 e13 e14 e18 : Option PV) (xs : List PV) (i : Int) (hx : ∀ v ∈ xs, pl v = true ∧ dpt v ≤ 1) (hl : xs.length ≤ 4) : ∀ (odds vs : List PV) (o4 : Option PV), (∀ v ∈ odds, pl v = true ∧ dpt v ≤ 5) → (∀ v ∈ vs, pl v = true ∧ dpt v ≤ 10) → vs.length + odds.length ≤ 1000 →
    ∃ vs' o4', forL (.nm 17) [] (execs (callN prog W k) W apB) odds [e0, some (.tup xs), e2, e3, e4, e5, e6, e7, e8, e9, e10, e11, e12, e13, e14, some (.int i), some (.ref 1), o4, e18] [c, .lst vs] = some (.nx [e0, some (.tup xs), e2, e3, e4, e5, e6, e7, e8, e9, e10, e11, e12, e13, e14, some (.int i), some (.ref 1), o4', e18] [c, .lst vs']) ∧ (∀ v ∈ vs', pl v = true ∧ dpt v ≤ 10) ∧ vs'.length ≤ 1000
  | [], vs, o4, _, hv, hn => ⟨vs, o4, forL_n, hv, by simpa using hn⟩
  | w :: odds, vs, o4, ho, hv, hn => by
    rw [List.length_cons] at hn
    obtain ⟨w1, w2⟩ := ho w List.mem_cons_self
    have l1 := cut_len xs none (some i)
    have l2 := cut_len xs (some (i + 1)) none
    have m1 : ∀ v ∈ cut xs none (some i), pl v = true ∧ dpt v ≤ 1 := fun v h => hx v (cut_mem h)
    have m2 : ∀ v ∈ cut xs (some (i + 1)) none, pl v = true ∧ dpt v ≤ 1 := fun v h => hx v (cut_mem h)
    have s1 := fun M => slc_hi M xs i
    have s2 := fun M => slc_lo M xs (i + 1)
    generalize cut xs none (some i) = A at *
    generalize cut xs (some (i + 1)) none = B at *
    have z1 : A.length + 1 ≤ 16777216 := by omega
    have z2 : (A ++ [w]).length + B.length ≤ 16777216 := by rw [List.length_append]; simp only [List.length_cons, List.length_nil]; omega
    have z3 : vs.length < 16777216 := by omega
    have nv : ∀ v ∈ vs ++ [.tup (A ++ [w] ++ B)], pl v = true ∧ dpt v ≤ 10 := fun v h => by
      rcases List.mem_append.mp h with h | h
      · exact hv v h
      · rw [List.mem_singleton] at h
        subst h
        obtain ⟨q1, q2⟩ := pls_of (n := 5) (ys := A ++ [w] ++ B) fun v h => by
          rcases List.mem_append.mp h with h | h
          · rcases List.mem_append.mp h with h | h
            · have := m1 v h; exact ⟨this.1, by omega⟩
            · rw [List.mem_singleton] at h
              subst h
              exact ⟨w1, w2⟩
          · have := m2 v h; exact ⟨this.1, by omega⟩
        exact ⟨q1, by show dpts _ + 1 ≤ 10; omega⟩
    obtain ⟨vs', o4', e, h1, h2⟩ := ap_loop k c e0 e2 e3 e4 e5 e6 e7 e8 e9 e10 e11 e12 e13 e14 e18 xs i hx hl odds (vs ++ [.tup (A ++ [w] ++ B)]) (some w) (fun v h => ho v (List.mem_cons_of_mem _ h)) nv (by rw [List.length_append]; simp only [List.length_cons, List.length_nil]; omega)
    refine ⟨vs', o4', ?_, h1, h2⟩
    have e1 : execs (callN prog W k) W apB [e0, some (.tup xs), e2, e3, e4, e5, e6, e7, e8, e9, e10, e11, e12, e13, e14, some (.int i), some (.ref 1), some w, e18] [c, .lst vs] = some (.nx [e0, some (.tup xs), e2, e3, e4, e5, e6, e7, e8, e9, e10, e11, e12, e13, e14, some (.int i), some (.ref 1), some w, e18] [c, .lst (vs ++ [.tup (A ++ [w] ++ B)])]) := by
      unfold apB
      clear hx ho hv hn l1 l2 m1 m2 nv e h1 h2 w1 w2
      simp -implicitDefEqProofs only [execs, exec, eval, evals, evalI, conds, bnd_some, bnd_none, bifb_t, bifb_f, bifb_d, bifb_b, iff_t, iff_d, nxt_nx, nxt_rt, binop, cmpop, addOp_ii, addOp_tt, addOp_ll, subOp_ii, mulOp_ii, fdivOp_ii, modOp_ii, cmpI_ii, tru_bl, tru_int, absB_i, intB_i, asM_int, asM_bl, asM_tup, asM_false, isOp_n, isOp_bb, isNon_non, isNon_tup, isNon_int, isNon_bl, isNon_lst, isNon_ref, isNon_rol, isNon_str, isNon_fr, setAll_nil, setAll_cons, bindT_nm, bindT_tp, fin_rt, fin_nx, leave_same, bltOp, idx_tup0, idx_tup1, idx_tup2, idx_tup3, idx_lst0, idx_lst1, idx_lst2, idx_lst3, eqD_ii, eqD_bb, eqD_fr, Option.map_some, Option.map_none, Option.bind_some, List.getElem?_cons_zero, List.getElem?_cons_succ, List.set_cons_zero, List.set_cons_succ, List.length_cons, List.length_nil, if_true, if_false, decide_true, decide_false, Bool.not_true, Bool.not_false, decide_eq_true_eq, sizeL, Nat.reduceAdd, Nat.reduceLeDiff, Nat.zero_add, beq_self_eq_true, seqG_tup, seqG_lst, lenB_tup, lenB_lst, idx_cup0, idx_cup1, setAt0, setAt1, cup, isTy, Bool.false_eq_true, newL_f, newL_t, fin_rtk, List.nil_append, wipeE, Int.reduceNe, Int.reduceEq, Int.reduceLT, Int.reduceLE, Int.reduceAdd, Int.reduceSub, Int.reduceMul, Int.reduceNeg, Int.reduceGT, cmpop, *]
    rw [forL_c, bindT_nm, Option.bind_some]
    show nxt (execs (callN prog W k) W apB [e0, some (.tup xs), e2, e3, e4, e5, e6, e7, e8, e9, e10, e11, e12, e13, e14, some (.int i), some (.ref 1), some w, e18] [c, .lst vs]) _ = _
    rw [e1, nxt_nx]
    exact e

/-! ### the law about one end number -/
def tnB : Ss := (Ss.cons (.set 10 (.bin .mul false (.cst (.int (10))) (.var 10))) .nil)
def fnC : Es := (Es.cons (.not (.call 24 (.cons (.call 16 (.cons (.var 18) .nil)) (.cons (.call 29 (.cons (.var 18) .nil)) .nil)))) .nil)
theorem R_bound {X Y Z R : Int} (h : Ep X Y Z) (b1 : X ≤ 100000000000000000000) (b2 : -100000000000000000000 ≤ Y) (b3 : Y ≤ 100000000000000000000) (b4 : Z ≤ 100000000000000000000) (hr : IsR (Y * Y + 4 * X * Z) R) : R < 300000000000000000000 := by
  have x0 := h.x
  have z0 := h.z
  apply Int.not_le.mp
  intro q
  have h1 : (300000000000000000000 : Int) * 300000000000000000000 ≤ R * R := Int.mul_le_mul q q (by decide) hr.1
  have h2 : Y * Y ≤ 100000000000000000000 * 100000000000000000000 := sq_neg_le b2 b3
  have h3 : X * Z ≤ 100000000000000000000 * 100000000000000000000 := Int.mul_le_mul b1 b4 (by omega) (by decide)
  have h4 : 4 * X * Z = 4 * (X * Z) := Int.mul_assoc _ _ _
  have h5 := hr.2.1
  omega
theorem pl_frD (X Y Z R : Int) : pl (frD X Y Z R) = true ∧ dpt (frD X Y Z R) ≤ 1 := by
  unfold frD
  split
  · exact ⟨rfl, Nat.le_refl _⟩
  · exact ⟨rfl, Nat.zero_le _⟩
def lrT : Ss := (Ss.cons (.set 8 (.call 22 (.cons (.var 0) (.cons (.ite (.cmp .eq (.call 22 (.cons (.var 0) (.cons (.cst (.int (2))) .nil))) (.cst (.int (0)))) (.cst (.int (20))) (.cst (.int (61)))) .nil)))) (.cons (.par 9 10 (.call 20 (.cons (.var 1) (.cons (.var 8) .nil))) (.cst (.int (1)))) (.cons (.for_ (.nm 11) (.rng (.cst (.int 0)) (.var 8)) (.cons (.set 10 (.bin .mul false (.cst (.int (10))) (.var 10))) .nil)) (.cons (.ite (.or (.cmp .ne (.call 23 (.cons (.var 9) .nil)) (.cst (.int (2)))) (.or (.cmp .eq (.call 31 (.cons (.var 1) (.cons (.var 9) (.cons (.var 10) .nil)))) (.cst (.str "less"))) (.cmp .ne (.call 31 (.cons (.var 1) (.cons (.bin .add false (.var 9) (.cst (.int (1)))) (.cons (.var 10) .nil)))) (.cst (.str "less"))))) (.cons (.ret (.cst (.bl false))) .nil) .nil) (.cons (.for_ (.tp [12, 13]) (.seq (.tup (.cons (.tup (.cons (.var 9) (.cons (.var 10) .nil))) (.cons (.tup (.cons (.bin .add false (.var 9) (.cst (.int (1)))) (.cons (.var 10) .nil))) (.cons (.tup (.cons (.bin .sub false (.call 22 (.cons (.var 0) (.cons (.cst (.int (41))) .nil))) (.cst (.int (20)))) (.cons (.bin .add false (.cst (.int (1))) (.call 22 (.cons (.var 0) (.cons (.cst (.int (20))) .nil)))) .nil))) (.cons (.tup (.cons (.cst (.int (0))) (.cons (.cst (.int (1))) .nil))) .nil)))))) (.cons (.set 14 (.call 25 (.cons (.var 12) (.cons (.var 13) .nil)))) (.cons (.ite (.and (.cmp .lt (.blt .max false (.cons (.blt .abs false (.cons (.idx (.var 14) (.cst (.int (0)))) .nil)) (.cons (.idx (.var 14) (.cst (.int (1)))) .nil))) (.bin .pow false (.cst (.int (10))) (.cst (.int (40))))) (.not (.call 24 (.cons (.call 17 (.cons (.var 1) (.cons (.var 14) .nil))) (.cons (.call 31 (.cons (.var 1) (.cons (.var 12) (.cons (.var 13) .nil)))) .nil))))) (.cons (.ret (.cst (.bl false))) .nil) .nil) .nil))) (.cons (.set 15 (.call 22 (.cons (.var 0) (.cons (.cst (.int (3))) .nil)))) (.cons (.set 16 (.lst true (.cons (.var 1) (.cons (.blt .list false (.cons (.var 1) .nil)) (.cons (.slc (.var 1) false true (.cst .non) (.cst (.int (2)))) (.cons (.bin .add false (.var 1) (.tup (.cons (.cst (.int (1))) .nil))) (.cons (.cst .non) (.cons (.tup .nil) (.cons (.cst (.int (5))) (.cons (.tup (.cons (.bin .mul false (.cst (.int (2))) (.var 2)) (.cons (.bin .mul false (.cst (.int (2))) (.var 3)) (.cons (.bin .mul false (.cst (.int (2))) (.var 4)) .nil)))) (.cons (.tup (.cons (.var 2) (.cons (.var 3) (.cons (.neg (.var 4)) .nil)))) (.cons (.tup (.cons (.neg (.var 2)) (.cons (.var 3) (.cons (.var 4) .nil)))) (.cons (.tup (.cons (.cst (.int (0))) (.cons (.var 3) (.cons (.var 4) .nil)))) (.cons (.tup (.cons (.var 2) (.cons (.var 3) (.cons (.cst (.int (0))) .nil)))) .nil)))))))))))))) (.cons (.for_ (.nm 17) (.seq (.tup (.cons (.cst .non) (.cons (.cst (.bl true)) (.cons (.cst (.str "1")) (.cons (.bin .pow false (.cst (.int (10))) (.cst (.int (40)))) (.cons (.tup (.cons (.cst (.int (1))) (.cons (.cst (.int (1))) .nil))) (.cons (.bin .add false (.idx (.var 1) (.var 15)) (.cst (.int (1)))) .nil)))))))) (.cons (.exp (.app (.var 16) (.bin .add false (.bin .add false (.slc (.var 1) false true (.cst .non) (.var 15)) (.tup (.cons (.var 17) .nil))) (.slc (.var 1) true false (.bin .add false (.var 15) (.cst (.int (1)))) (.cst .non))))) .nil)) (.cons (.ret (.cmp .eq (.lc false [18] (.nm 18) (.seq (.var 16)) (.cons (.not (.call 24 (.cons (.call 16 (.cons (.var 18) .nil)) (.cons (.call 29 (.cons (.var 18) .nil)) .nil)))) .nil) (.var 18)) (.lst false .nil))) .nil)))))))))
theorem lr_head (k : Nat) {X Y Z R : Int} (M : Mem) (h : Ed X Y Z) (hr : IsR (Y * Y + 4 * X * Z) R) (rl : lt2 136 R) (rb : R < 300000000000000000000) (b1 : X ≤ 100000000000000000000) (b2 : -100000000000000000000 ≤ Y) (b3 : Y ≤ 100000000000000000000) (lb : ∀ k M, callN prog W (k + 1) 30 [.int (Y * Y + 4 * X * Z)] M = some (.int R, M)) :
    callN prog W (k + 20) 32 [.ref 0, ev3 X Y Z] M = fin false M.length (execs (callN prog W (k + 19)) W lrT [some (.ref 0), some (ev3 X Y Z), some (.int X), some (.int Y), some (.int Z), some (.int (Y * Y + 4 * X * Z)), some (.int R), some (frD X Y Z R), none, none, none, none, none, none, none, none, none, none, none] M) := by
  have x0 := h.ep.x
  have z0 := h.ep.z
  have r0 := hr.1
  have m1 : mulOk Y Y = true := mulOk_of h.ly h.ly (by decide)
  have m2 : mulOk 4 X = true := mulOk_a (by decide)
  have m3 : mulOk (4 * X) Z = true := mulOk_of (lt2.mul (a := 3) (by unfold lt2; decide) h.lx) h.lz (by decide)
  have m7 : mulOk 2 X = true := mulOk_a (by decide)
  have m8 : mulOk R R = true := mulOk_of rl rl (by decide)
  have ed := fun k => is_end5 h k M
  have ef := fun k => as_fraction5 h hr k M
  have lb := fun k => lb k M
  have lo := fun k => l_least_ok k (R - Y) (2 * X) M (n := 136) ((lt2.mul (a := 2) (by unfold lt2; decide) h.lx).mono (by decide)) (by omega) (by decide)
  have bd : ∀ (e : Env), bindT (.tp [2, 3, 4]) (ev3 X Y Z) e = some (((e.set 2 (some (.int X))).set 3 (some (.int Y))).set 4 (some (.int Z))) := fun e => rfl
  rw [u__law_right]
  unfold m__law_right
  show fin false M.length (execs (callN prog W (k + 19)) W (.cons _ (.cons _ (.cons _ (.cons _ (.cons _ (.cons _ lrT)))))) _ M) = _
  by_cases hs : R * R = Y * Y + 4 * X * Z
  · obtain ⟨np, w0⟩ := due_ok h.ep hr hs
    have bs : bes X Y Z (Rat.divInt (R - Y) (2 * X)) = 0 := by
      unfold bes
      rw [if_neg (by omega), w0]; rfl
    obtain ⟨n1, n2⟩ := low_le (R - Y) (2 * X) (by omega)
    have eb := fun k => end_beside5 h (q := Rat.divInt (R - Y) (2 * X)) (by omega) (by omega) (by omega) k M
    rw [bs] at eb
    have es : frD X Y Z R = fr (Rat.divInt (R - Y) (2 * X)) := by unfold frD; rw [if_pos hs]
    rw [es] at ef ⊢
    have lk := fun k => like_ok (k + 2) (.lst [.bl true, fr (Rat.divInt (R - Y) (2 * X))]) M rfl (Nat.le_add_left 2 k)
    have sq : sm 136 (Rat.divInt (R - Y) (2 * X)) := by
      have e : (100000000000000000000 : Nat) < 2 ^ 67 := by decide +kernel
      have e2 : (2 : Nat) ^ 136 = 2 ^ 67 * 2 ^ 69 := by decide +kernel
      have e3 : (8 : Nat) * 2 ^ 67 ≤ 2 ^ 67 * 2 ^ 69 := by decide +kernel
      refine ⟨?_, ?_⟩
      · unfold lt2; omega
      · omega
    generalize Rat.divInt (R - Y) (2 * X) = q at *
    have a1 : mulOk X q.num = true := mulOk_of h.lx sq.1 (by decide)
    have a2 : mulOk (X * q.num) q.num = true := mulOk_of (h.lx.mul sq.1) sq.1 (by decide)
    have a3 : mulOk Y q.num = true := mulOk_of h.ly sq.1 (by decide)
    have a4 : mulOk (Y * q.num) q.den = true := mulOk_of (h.ly.mul sq.1) sq.den (by decide)
    have a5 : mulOk Z q.den = true := mulOk_of h.lz sq.den (by decide)
    have a6 : mulOk (Z * q.den) q.den = true := mulOk_of (h.lz.mul sq.den) sq.den (by decide)
    have w1 : X * q.num * q.num + Y * q.num * q.den = Z * q.den * q.den := by unfold wf at w0; omega
    have ss := eqD_same M (i := 0) (.inr (.inl rfl))
    clear n1 n2 h hr rl rb b1 b2 b3 x0 z0 r0 np w0 bs es sq
    generalize lrT = rest
    generalize wI 0 = w at *
    walk_at "evf"
  · have es : frD X Y Z R = .non := by unfold frD; rw [if_neg hs]
    rw [es] at ef ⊢
    have lk := fun k => like_ok (k + 2) (.lst [.bl true, .non]) M rfl (Nat.le_of_ble_eq_true rfl)
    clear h hr rl rb b1 b2 b3 x0 z0 r0 es
    generalize lrT = rest
    walk_at "evf"

theorem right5 (k : Nat) {x y X Y Z : Int} (hc : CupB x y) (ep : Ep X Y Z) (b1 : X ≤ 100000000000000000000) (b2 : -100000000000000000000 ≤ Y) (b3 : Y ≤ 100000000000000000000) (b4 : Z ≤ 100000000000000000000) :
    ∃ x' y', callN prog W (k + 20) 32 [.ref 0, ev3 X Y Z] [cup x y] = some (.bl true, [cup x' y']) ∧ CupB x' y' := by
  have h : Ed X Y Z := ⟨ep, by omega, by omega, by omega, by omega⟩
  obtain ⟨R, hr, rl, -, lb⟩ := rt5 h
  have rb := R_bound ep b1 b2 b3 b4 hr
  have hh := lr_head k [cup x y] h hr rl rb b1 b2 b3 lb
  -- the two draws of the digits
  obtain ⟨r1, x1, y1, d1, c1, p1, q1⟩ := roll_ok (k + 18) (many := 2) [] hc (by omega) (lt2.mono (n := 4) (by unfold lt2; decide) (by decide))
  obtain ⟨m, hm, hm1, hm2⟩ : ∃ m : Int, (if r1 = 0 then 20 else 61) = m ∧ 1 ≤ m ∧ m ≤ 61 := ⟨_, rfl, by split <;> omega, by split <;> omega⟩
  obtain ⟨r2, x2, y2, d2, c2, p2, q2⟩ := roll_ok (k + 18) (many := m) [] c1 hm1 (lt2.mono (n := 6) (by unfold lt2; omega) (by decide))
  obtain ⟨d, rfl⟩ : ∃ d : Nat, r2 = (d : Int) := ⟨r2.toNat, by omega⟩
  have hd : d ≤ 60 := by omega
  obtain ⟨R2, a, fl, la, eb⟩ := end_below5 h d hd
  have tp := tn_pos d
  have tl := tn_lt hd
  obtain ⟨a0, w1, w2⟩ := fl.floor ep tp
  -- the other draws
  obtain ⟨r3, x3, y3, d3, c3, p3, q3⟩ := roll_ok (k + 18) (many := 41) [] c2 (by omega) (lt2.mono (n := 6) (by unfold lt2; decide) (by decide))
  obtain ⟨r4, x4, y4, d4, c4, p4, q4⟩ := roll_ok (k + 18) (many := 20) [] c3 (by omega) (lt2.mono (n := 6) (by unfold lt2; decide) (by decide))
  obtain ⟨r5, x5, y5, d5, c5, p5, q5⟩ := roll_ok (k + 18) (many := 3) [] c4 (by omega) (lt2.mono (n := 6) (by unfold lt2; decide) (by decide))
  refine ⟨x5, y5, ?_, c5⟩
  rw [hh]
  clear hh lb
  have m7 : mulOk 2 X = true := mulOk_a (by decide)
  have m9 : mulOk 2 Y = true := mulOk_a (by decide)
  have m10 : mulOk 2 Z = true := mulOk_a (by decide)
  -- told
  have eb := fun k M => eb k M
  have sr := fun k M => sort_ok k (.int a) M
  have lx := h.lx.mono (show 133 ≤ 1000 by decide)
  have ly := h.ly.mono (show 133 ≤ 1000 by decide)
  have lz := h.lz.mono (show 133 ≤ 1000 by decide)
  have la1 : lt2 1000 a := la.mono (by decide)
  have la2 : lt2 1000 (a + 1) := (lt2.add la (lt2.mono (n := 2) (by unfold lt2; decide) (by decide))).mono (by decide)
  have lt1 : lt2 1000 (tn d) := tl.mono (by decide)
  have s1 := fun k M => l_beside5 lx ly lz la1 lt1 (by decide) k M
  have s2 := fun k M => l_beside5 lx ly lz la2 lt1 (by decide) k M
  have t1 := fun M => lw_nless (x := X) (y := Y) (z := Z) M w1
  have t2 := fun M => lw_less (x := X) (y := Y) (z := Z) M (show 0 < a + 1 by omega) w2
  -- power
  obtain ⟨o11, e11⟩ := ten_loop (body := execs (callN prog W (k + 19)) W tnB) (t := .nm 11) (fun p o => [some (.ref 0), some (ev3 X Y Z), some (.int X), some (.int Y), some (.int Z), some (.int (Y * Y + 4 * X * Z)), some (.int R), some (frD X Y Z R), some (.int (d : Nat)), some (.int a), some (.int p), o, none, none, none, none, none, none, none]) [cup x2 y2] (fun p i o => by
    have m : mulOk 10 p = true := mulOk_smallL (by decide)
    unfold tnB
    clear d1 d2 d3 d4 d5 eb sr s1 s2 t1 t2
    walk_at "evf") d 0 0 none
  rw [Nat.zero_add, show tn 0 = 1 from rfl] at e11
  have er : rngI 0 ((d : Int) - 0).toNat = rngI 0 d := by rw [show ((d : Int) - 0).toNat = d by omega]
  have eg : (decide (-2 ^ 62 ≤ (0 : Int)) && decide ((0 : Int) < 2 ^ 62) && decide (-2 ^ 62 ≤ (d : Int)) && decide ((d : Int) < 2 ^ 62)) = true := rng_gd (by decide) (by decide) (by omega) (by omega)
  -- the pairs
  have g1 := fun M e0 e2 e3 e4 e5 e6 e7 e8 e9 e10 e11 e14 e15 e16 e17 e18 => pair5 (k + 14) h tp la1 lt1 M e0 e2 e3 e4 e5 e6 e7 e8 e9 e10 e11 e14 e15 e16 e17 e18
  have g2 := fun M e0 e2 e3 e4 e5 e6 e7 e8 e9 e10 e11 e14 e15 e16 e17 e18 => pair5 (k + 14) h tp la2 lt1 M e0 e2 e3 e4 e5 e6 e7 e8 e9 e10 e11 e14 e15 e16 e17 e18
  have g3 := fun M e0 e2 e3 e4 e5 e6 e7 e8 e9 e10 e11 e14 e15 e16 e17 e18 => pair5 (k + 14) h (a := r3 - 20) (b := 1 + r4) (by omega) (lt2.mono (n := 6) (by unfold lt2; omega) (by decide)) (lt2.mono (n := 6) (by unfold lt2; omega) (by decide)) M e0 e2 e3 e4 e5 e6 e7 e8 e9 e10 e11 e14 e15 e16 e17 e18
  have g4 := fun M e0 e2 e3 e4 e5 e6 e7 e8 e9 e10 e11 e14 e15 e16 e17 e18 => pair5 (k + 14) h (a := 0) (b := 1) (by decide) (lt2.mono (n := 6) (by unfold lt2; omega) (by decide)) (lt2.mono (n := 6) (by unfold lt2; omega) (by decide)) M e0 e2 e3 e4 e5 e6 e7 e8 e9 e10 e11 e14 e15 e16 e17 e18
  generalize Rat.divInt a (tn d) = v1 at *
  generalize Rat.divInt (a + 1) (tn d) = v2 at *
  generalize Rat.divInt (r3 - 20) (1 + r4) = v3 at *
  generalize Rat.divInt 0 1 = v4 at *
  -- the bent values
  have hx : ∀ v ∈ [PV.int X, .int Y, .int Z], pl v = true ∧ dpt v ≤ 1 := fun v hv => by
    simp only [List.mem_cons, List.not_mem_nil, or_false] at hv
    rcases hv with rfl | rfl | rfl <;> exact ⟨rfl, Nat.zero_le _⟩
  obtain ⟨w, hw⟩ : ∃ w, ∀ M, idxOp M (ev3 X Y Z) (.int r5) = some (.int w) := by
    rcases (show r5 = 0 ∨ r5 = 1 ∨ r5 = 2 by omega) with rfl | rfl | rfl
    · exact ⟨X, fun M => idx_tup0 _ _ _⟩
    · exact ⟨Y, fun M => idx_tup1 _ _ _ _⟩
    · exact ⟨Z, fun M => idx_tup2 _ _ _ _ _⟩
  have p40 : powOp (.int 10) (.int 40) = some (.int 10000000000000000000000000000000000000000) := by rfl
  have v5 : ∀ M, listB M [ev3 X Y Z] = some (.lst [.int X, .int Y, .int Z]) := fun M => rfl
  have v6 : ∀ M, addOp M (ev3 X Y Z) (.tup [.int 1]) = some (.tup [.int X, .int Y, .int Z, .int 1]) := fun M => rfl
  have v7 : ∀ M, slcOp M (ev3 X Y Z) false true .non (.int 2) = some (.tup [.int X, .int Y]) := fun M => rfl
  obtain ⟨vs, o17, ea, hv, hn⟩ := ap_loop (k + 19) (cup x5 y5) (some (.ref 0)) (some (.int X)) (some (.int Y)) (some (.int Z)) (some (.int (Y * Y + 4 * X * Z))) (some (.int R)) (some (frD X Y Z R)) (some (.int (d : Nat))) (some (.int a)) (some (.int (tn d))) o11 (some (.int 0)) (some (.int 1)) (some (fr v4)) none [.int X, .int Y, .int Z] r5 hx (by simp)
    [.non, .bl true, .str "1", .int 10000000000000000000000000000000000000000, .tup [.int 1, .int 1], .int (w + 1)]
    [ev3 X Y Z, .lst [.int X, .int Y, .int Z], .tup [.int X, .int Y], .tup [.int X, .int Y, .int Z, .int 1], .non, .tup [], .int 5, .tup [.int (2 * X), .int (2 * Y), .int (2 * Z)], .tup [.int X, .int Y, .int (-Z)], .tup [.int (-X), .int Y, .int Z], .tup [.int 0, .int Y, .int Z], .tup [.int X, .int Y, .int 0]] none (fun v hv => by
      simp only [List.mem_cons, List.not_mem_nil, or_false] at hv
      rcases hv with rfl | rfl | rfl | rfl | rfl | rfl <;> first | exact ⟨rfl, Nat.le_of_ble_eq_true rfl⟩ | exact ⟨by decide +kernel, Nat.le_of_ble_eq_true rfl⟩) (fun v hv => by
      simp only [List.mem_cons, List.not_mem_nil, or_false] at hv
      rcases hv with rfl | rfl | rfl | rfl | rfl | rfl | rfl | rfl | rfl | rfl | rfl | rfl <;> exact ⟨rfl, Nat.le_of_ble_eq_true rfl⟩) (by simp)
  rw [show PV.tup [.int X, .int Y, .int Z] = ev3 X Y Z from rfl] at ea
  have hg : gOk [(1, vs)] [cup x5 y5, .lst vs] = true := by
    show (pbeqs vs vs && true) = true
    rw [pbeqs_self]; rfl
  unfold lrT
  rw [show (Ss.cons (.set 10 (.bin .mul false (.cst (.int (10))) (.var 10))) .nil) = tnB from rfl, show (Ss.cons (.set 14 (.call 25 (.cons (.var 12) (.cons (.var 13) .nil)))) (.cons (.ite (.and (.cmp .lt (.blt .max false (.cons (.blt .abs false (.cons (.idx (.var 14) (.cst (.int (0)))) .nil)) (.cons (.idx (.var 14) (.cst (.int (1)))) .nil))) (.bin .pow false (.cst (.int (10))) (.cst (.int (40))))) (.not (.call 24 (.cons (.call 17 (.cons (.var 1) (.cons (.var 14) .nil))) (.cons (.call 31 (.cons (.var 1) (.cons (.var 12) (.cons (.var 13) .nil)))) .nil))))) (.cons (.ret (.cst (.bl false))) .nil) .nil) .nil)) = prB from rfl, show (Ss.cons (.exp (.app (.var 16) (.bin .add false (.bin .add false (.slc (.var 1) false true (.cst .non) (.var 15)) (.tup (.cons (.var 17) .nil))) (.slc (.var 1) true false (.bin .add false (.var 15) (.cst (.int (1)))) (.cst .non))))) .nil) = apB from rfl]
  generalize hC : (Es.cons (.not (.call 24 (.cons (.call 16 (.cons (.var 18) .nil)) (.cons (.call 29 (.cons (.var 18) .nil)) .nil)))) .nil) = cs
  have f3 : ∀ el, lcL (.nm 18) [(1, vs)] (conds (callN prog W (k + 19)) cs) el [some (.ref 0), some (ev3 X Y Z), some (.int X), some (.int Y), some (.int Z), some (.int (Y * Y + 4 * X * Z)), some (.int R), some (frD X Y Z R), some (.int (d : Nat)), some (.int a), some (.int (tn d)), o11, some (.int 0), some (.int 1), some (fr v4), some (.int r5), some (.ref 1), o17, none] vs [] [cup x5 y5, .lst vs] = some ([], [cup x5 y5, .lst vs]) := fun el => by
    refine lcL_none hg vs [] fun v hm => ⟨_, bindT_nm _ _, ?_⟩
    obtain ⟨b, g1, g2⟩ := is_endP v (hv v hm).1 (by have := (hv v hm).2; omega)
    have g3 := fun k => g1 k [cup x5 y5, .lst vs]
    have g5 := fun k => g2 k [cup x5 y5, .lst vs]
    have g6 := fun k => like_ok k (.bl b) [cup x5 y5, .lst vs] rfl (Nat.zero_le _)
    rw [← hC]
    clear g1 g2 hC hv hm hx ea hg d1 d2 d3 d4 d5 eb sr s1 s2 t1 t2 e11
    simp -implicitDefEqProofs only [execs, exec, eval, evals, evalI, conds, bnd_some, bnd_none, bifb_t, bifb_f, bifb_d, bifb_b, iff_t, iff_d, nxt_nx, nxt_rt, binop, cmpop, addOp_ii, addOp_tt, addOp_ll, subOp_ii, mulOp_ii, fdivOp_ii, modOp_ii, cmpI_ii, tru_bl, tru_int, absB_i, intB_i, asM_int, asM_bl, asM_tup, asM_false, isOp_n, isOp_bb, isNon_non, isNon_tup, isNon_int, isNon_bl, isNon_lst, isNon_ref, isNon_rol, isNon_str, isNon_fr, setAll_nil, setAll_cons, bindT_nm, bindT_tp, fin_rt, fin_nx, leave_same, bltOp, idx_tup0, idx_tup1, idx_tup2, idx_tup3, idx_lst0, idx_lst1, idx_lst2, idx_lst3, eqD_ii, eqD_bb, eqD_fr, Option.map_some, Option.map_none, Option.bind_some, List.getElem?_cons_zero, List.getElem?_cons_succ, List.set_cons_zero, List.set_cons_succ, List.length_cons, List.length_nil, if_true, if_false, decide_true, decide_false, Bool.not_true, Bool.not_false, decide_eq_true_eq, sizeL, Nat.reduceAdd, Nat.reduceLeDiff, Nat.zero_add, beq_self_eq_true, seqG_tup, seqG_lst, lenB_tup, lenB_lst, idx_cup0, idx_cup1, setAt0, setAt1, cup, isTy, Bool.false_eq_true, newL_f, newL_t, fin_rtk, List.nil_append, wipeE, Int.reduceNe, Int.reduceEq, Int.reduceLT, Int.reduceLE, Int.reduceAdd, Int.reduceSub, Int.reduceMul, Int.reduceNeg, Int.reduceGT, cmpop, *]
  have gq : ∀ c : Cell, seqG [c, .lst vs] (.ref 1) = some (false, vs, [(1, vs)]) := fun c => rfl
  have lv := leave_len (n := 1) (v := .bl true) (M := [cup x5 y5]) rfl
  have lv2 : leave 1 (.bl true) [cup x5 y5, .lst vs] = some (.bl true, [cup x5 y5]) := rfl
  have en : ∀ M, eqD M (.lst []) (.lst []) = some true := fun M => rfl
  have hm' : ∀ f : Int → Int, f (if r1 = 0 then 20 else 61) = f m := fun f => by rw [hm]
  have f2s : sortP (.int a) = 2 := rfl
  clear hC hx hv hg h hr rl rb b1 b2 b3 b4 ep c1 c2 c3 c4 c5 hc p1 q1 p2 q2 p3 q3 p4 q4 p5 q5 hm1 hm2 hd fl la tp tl a0 w1 w2 lx ly lz la1 la2 lt1 hn
  generalize frD X Y Z R = due at *
  generalize tn d = td at *
  generalize ((d : Nat) : Int) = di at *
  generalize tnB = b0 at *
  generalize prB = b1 at *
  generalize apB = b2 at *
  by_cases hr1 : r1 = 0
  · rw [if_pos hr1] at hm
    subst hm
    simp -implicitDefEqProofs only [execs, exec, eval, evals, evalI, conds, bnd_some, bnd_none, bifb_t, bifb_f, bifb_d, bifb_b, iff_t, iff_d, nxt_nx, nxt_rt, binop, cmpop, addOp_ii, addOp_tt, addOp_ll, subOp_ii, mulOp_ii, fdivOp_ii, modOp_ii, cmpI_ii, tru_bl, tru_int, absB_i, intB_i, asM_int, asM_bl, asM_tup, asM_false, isOp_n, isOp_bb, isNon_non, isNon_tup, isNon_int, isNon_bl, isNon_lst, isNon_ref, isNon_rol, isNon_str, isNon_fr, setAll_nil, setAll_cons, bindT_nm, bindT_tp, fin_rt, fin_nx, leave_same, bltOp, idx_tup0, idx_tup1, idx_tup2, idx_tup3, idx_lst0, idx_lst1, idx_lst2, idx_lst3, eqD_ii, eqD_bb, eqD_fr, Option.map_some, Option.map_none, Option.bind_some, List.getElem?_cons_zero, List.getElem?_cons_succ, List.set_cons_zero, List.set_cons_succ, List.length_cons, List.length_nil, if_true, if_false, decide_true, decide_false, Bool.not_true, Bool.not_false, decide_eq_true_eq, sizeL, Nat.reduceAdd, Nat.reduceLeDiff, Nat.zero_add, beq_self_eq_true, seqG_tup, seqG_lst, lenB_tup, lenB_lst, idx_cup0, idx_cup1, setAt0, setAt1, cup, isTy, Bool.false_eq_true, newL_f, newL_t, fin_rtk, List.nil_append, wipeE, Int.reduceNe, Int.reduceEq, Int.reduceLT, Int.reduceLE, Int.reduceAdd, Int.reduceSub, Int.reduceMul, Int.reduceNeg, Int.reduceGT, cmpop, forL_n, forL_c, List.cons_append, Nat.reduceLT, *]
  · rw [if_neg hr1] at hm
    subst hm
    simp -implicitDefEqProofs only [execs, exec, eval, evals, evalI, conds, bnd_some, bnd_none, bifb_t, bifb_f, bifb_d, bifb_b, iff_t, iff_d, nxt_nx, nxt_rt, binop, cmpop, addOp_ii, addOp_tt, addOp_ll, subOp_ii, mulOp_ii, fdivOp_ii, modOp_ii, cmpI_ii, tru_bl, tru_int, absB_i, intB_i, asM_int, asM_bl, asM_tup, asM_false, isOp_n, isOp_bb, isNon_non, isNon_tup, isNon_int, isNon_bl, isNon_lst, isNon_ref, isNon_rol, isNon_str, isNon_fr, setAll_nil, setAll_cons, bindT_nm, bindT_tp, fin_rt, fin_nx, leave_same, bltOp, idx_tup0, idx_tup1, idx_tup2, idx_tup3, idx_lst0, idx_lst1, idx_lst2, idx_lst3, eqD_ii, eqD_bb, eqD_fr, Option.map_some, Option.map_none, Option.bind_some, List.getElem?_cons_zero, List.getElem?_cons_succ, List.set_cons_zero, List.set_cons_succ, List.length_cons, List.length_nil, if_true, if_false, decide_true, decide_false, Bool.not_true, Bool.not_false, decide_eq_true_eq, sizeL, Nat.reduceAdd, Nat.reduceLeDiff, Nat.zero_add, beq_self_eq_true, seqG_tup, seqG_lst, lenB_tup, lenB_lst, idx_cup0, idx_cup1, setAt0, setAt1, cup, isTy, Bool.false_eq_true, newL_f, newL_t, fin_rtk, List.nil_append, wipeE, Int.reduceNe, Int.reduceEq, Int.reduceLT, Int.reduceLE, Int.reduceAdd, Int.reduceSub, Int.reduceMul, Int.reduceNeg, Int.reduceGT, cmpop, forL_n, forL_c, List.cons_append, Nat.reduceLT, *]

/-! ### two end numbers -/
def wrds : PV := .dct [("less", "greater"), ("greater", "less"), ("same", "same")]
theorem dget_w {i : Int} (h : i = -1 ∨ i = 0 ∨ i = 1) : dgetOp wrds (.str (wI i)) = some (.str (wI (-i))) := by
  rcases h with rfl | rfl | rfl
  · rw [wI_m]; rfl
  · rw [wI_0]; rfl
  · rw [wI_1]; rfl
theorem din_w {i : Int} (h : i = -1 ∨ i = 0 ∨ i = 1) : dinOp true (.str (wI i)) wrds = some (.bl false) := by
  rcases h with rfl | rfl | rfl
  · rw [wI_m]; rfl
  · rw [wI_0]; rfl
  · rw [wI_1]; rfl
theorem eqw (M : Mem) {i j : Int} (h : i = -1 ∨ i = 0 ∨ i = 1) (g : j = -1 ∨ j = 0 ∨ j = 1) : eqD M (.str (wI i)) (.str (wI j)) = some (decide (i = j)) := by
  rcases h with rfl | rfl | rfl <;> rcases g with rfl | rfl | rfl <;> simp only [wI_0, wI_1, wI_m, w_ll, w_ls, w_lg, w_sl, w_ss, w_sg, w_gl, w_gs, w_gg] <;> rfl
theorem cright5 (k : Nat) {x y z u v w : Int} (h : Ed x y z) (g : Ed u v w) (M : Mem) : callN prog W (k + 20) 33 [ev3 x y z, ev3 u v w] M = some (.bl true, M) := by
  obtain ⟨R1, a, fl1, la1, f1⟩ := end_below5 h 60 (by decide)
  obtain ⟨R2, b, fl2, la2, f2⟩ := end_below5 g 60 (by decide)
  have tp := tn_pos 60
  obtain ⟨a0, wa, wa1⟩ := fl1.floor h.ep tp
  obtain ⟨b0, wb, wb1⟩ := fl2.floor g.ep tp
  have s1 := fun k => compare5 h g k M
  have s2 := fun k => compare5 g h k M
  have s3 := fun k => compare5 h h k M
  rw [cmp_anti h.ep.x g.ep.x] at s2
  rw [cmp_self] at s3
  have cc := cmp_cases x y z u v w
  have dg := dget_w cc
  have di := din_w cc
  have lk := fun k => like_ok (k + 1) (.lst [.str (wI (-cmpE x y z u v w)), .str (wI 0)]) M (by show (pl _ && (pl _ && true)) = true; rw [pl_wI, pl_wI]; rfl) (Nat.le_add_left 1 k)
  have f1 : ∀ k, callN prog W (k + 4) 20 [ev3 x y z, .int 60] M = some (.int a, M) := fun k => f1 k M
  have f2 : ∀ k, callN prog W (k + 4) 20 [ev3 u v w, .int 60] M = some (.int b, M) := fun k => f2 k M
  have w0 : PV.str "same" = .str (wI 0) := rfl
  have w1 : PV.str "greater" = .str (wI 1) := rfl
  have wm : PV.str "less" = .str (wI (-1)) := rfl
  have e01 : ((0 : Int) = 1 ∨ (0 : Int) = 0 ∨ (0 : Int) = -1) := .inr (.inl rfl)
  have z0 := eqw M cc (j := 0) (.inr (.inl rfl))
  have z1 := eqw M cc (j := 1) (.inr (.inr rfl))
  have zm := eqw M cc (j := -1) (.inl rfl)
  have dsp : ∀ (env : Env), eval (callN prog W (k + 19)) (.dsp [("less", "greater"), ("greater", "less"), ("same", "same")]) env M = some (wrds, M) := fun env => rfl
  rw [u__law_compared_right]
  unfold m__law_compared_right
  rw [w0, w1, wm]
  generalize hdd : E.dsp [("less", "greater"), ("greater", "less"), ("same", "same")] = dd at *
  clear hdd e01
  by_cases hab : a = b
  · -- the floors agree
    subst hab
    have m1 : mulOk x v = true := mulOk_of h.lx g.ly (by decide)
    have m2 : mulOk u y = true := mulOk_of g.lx h.ly (by decide)
    have m3 : mulOk u z = true := mulOk_of g.lx h.lz (by decide)
    have m4 : mulOk x w = true := mulOk_of h.lx g.lz (by decide)
    have lL : lt2 267 (x * v - u * y) := (h.lx.mul g.ly).sub (g.lx.mul h.ly)
    have lS : lt2 267 (u * z - x * w) := (g.lx.mul h.lz).sub (h.lx.mul g.lz)
    have b3 : ∀ (e : Env), bindT (.tp [6, 7, 8]) (ev3 x y z) e = some (((e.set 6 (some (.int x))).set 7 (some (.int y))).set 8 (some (.int z))) := fun e => rfl
    have b4 : ∀ (e : Env), bindT (.tp [9, 10, 11]) (ev3 u v w) e = some (((e.set 9 (some (.int u))).set 10 (some (.int v))).set 11 (some (.int w))) := fun e => rfl
    by_cases hL : x * v - u * y = 0
    · have ec : cmpE x y z u v w = sgnI (u * z - x * w) := by unfold cmpE; rw [if_pos hL]
      clear fl1 fl2 la1 la2 tp a0 wa wa1 b0 wb wb1 lL lS h g
      rcases sgnI_cases (u * z - x * w) with ⟨h1, e1⟩ | ⟨h1, e1⟩ | ⟨h1, e1⟩
      · rw [e1] at ec
        rw [ec] at s1 s2 dg di lk z0 z1 zm
        have h2 : ¬ u * z - x * w = 0 := by omega
        have h3 : ¬ 0 < u * z - x * w := by omega
        have zm : eqD M (.str (wI (-1))) (.str (wI (-1))) = some true := zm
        rw [show (- (-1 : Int)) = 1 from rfl] at s2 dg lk
        clear e1 ec cc h1 w0 w1 wm z0 z1
        walk_at "evr"
      · rw [e1] at ec
        rw [ec] at s1 s2 dg di lk z0 z1 zm
        have z0 : eqD M (.str (wI 0)) (.str (wI 0)) = some true := z0
        clear e1 ec cc w0 w1 wm z1 zm
        walk_at "evr"
      · rw [e1] at ec
        rw [ec] at s1 s2 dg di lk z0 z1 zm
        have h2 : ¬ u * z - x * w = 0 := by omega
        have z1 : eqD M (.str (wI 1)) (.str (wI 1)) = some true := z1
        clear e1 ec cc w0 w1 wm z0 zm
        walk_at "evr"
    · have ec : cmpE x y z u v w = bes x y z (Rat.divInt (-(u * z - x * w)) (x * v - u * y)) * sgnI (x * v - u * y) := by unfold cmpE; rw [if_neg hL]
      have lo := fun k => l_least_ok k (-(u * z - x * w)) (x * v - u * y) M lL hL (by decide)
      have bd := low_le (-(u * z - x * w)) (x * v - u * y) hL
      have lx := h.lx.mono (show 133 ≤ 267 by decide)
      have ly := h.ly.mono (show 133 ≤ 267 by decide)
      have lz := h.lz.mono (show 133 ≤ 267 by decide)
      have lb := fun k => l_beside5 lx ly lz (a := (Rat.divInt (-(u * z - x * w)) (x * v - u * y)).num) (b := (Rat.divInt (-(u * z - x * w)) (x * v - u * y)).den) (by unfold lt2 at lS ⊢; omega) (by unfold lt2 at lL ⊢; omega) (by decide) k M
      rw [lw_wI (den_posI _), Rat.num_divInt_den] at lb
      have bc := bes_cases x y z (Rat.divInt (-(u * z - x * w)) (x * v - u * y))
      generalize Rat.divInt (-(u * z - x * w)) (x * v - u * y) = q at *
      have y0 := eqw M bc (j := 0) (.inr (.inl rfl))
      have ee : decide (bes x y z q = 0) = decide (cmpE x y z u v w = 0) := by
        rw [ec]
        apply decide_eq_decide.mpr
        constructor
        · intro q; rw [q, Int.zero_mul]
        · intro q
          rcases Int.mul_eq_zero.mp q with q | q
          · exact q
          · rcases sgnI_cases (x * v - u * y) with ⟨h1, e1⟩ | ⟨h1, e1⟩ | ⟨h1, e1⟩ <;> omega
      rw [ee] at y0
      have bd2 : ∀ (e : Env), bindT (.tp [14, 15]) (fr q) e = some ((e.set 14 (some (.int q.num))).set 15 (some (.int q.den))) := fun e => rfl
      generalize decide (cmpE x y z u v w = 0) = bb at *
      have eb := eqD_bb M bb bb
      rw [decide_eq_true rfl] at eb
      clear fl1 fl2 la1 la2 tp a0 wa wa1 b0 wb wb1 lL lS h g lx ly lz bd bc ee ec z1 zm cc w0 w1 wm
      generalize cmpE x y z u v w = c at *
      walk_at "evr"
  · have hc : (a < b ∧ cmpE x y z u v w = -1) ∨ (¬ a < b ∧ cmpE x y z u v w = 1) := by
      rcases Int.lt_or_gt_of_ne hab with q | q
      · exact .inl ⟨q, cmp_less h.ep.x h.ep.z g.ep.x g.ep.z tp a0 q wa1 wb⟩
      · have e := cmp_less g.ep.x g.ep.z h.ep.x h.ep.z tp b0 q wb1 wa
        rw [cmp_anti h.ep.x g.ep.x] at e
        exact .inr ⟨by omega, by omega⟩
    clear fl1 fl2 la1 la2 tp a0 wa wa1 b0 wb wb1 h g
    rcases hc with ⟨q, ec⟩ | ⟨q, ec⟩
    · rw [ec] at s1 s2 dg di lk z0 z1 zm
      have zm : eqD M (.str (wI (-1))) (.str (wI (-1))) = some true := zm
      rw [show (- (-1 : Int)) = 1 from rfl] at s2 dg lk
      clear ec cc w0 w1 wm z0 z1
      walk_at "evr"
    · rw [ec] at s1 s2 dg di lk z0 z1 zm
      have z1 : eqD M (.str (wI 1)) (.str (wI 1)) = some true := z1
      clear ec cc w0 w1 wm z0 zm
      walk_at "evr"

/-! ### written end numbers -/
theorem end_int {x y z : Int} (x1 : -10000000000000000000000000000000000000000 < x) (x2 : x < 10000000000000000000000000000000000000000) (y1 : -10000000000000000000000000000000000000000 < y) (y2 : y < 10000000000000000000000000000000000000000) (z1 : -10000000000000000000000000000000000000000 < z) (z2 : z < 10000000000000000000000000000000000000000) (b : Bool) (hb : (decide (0 < x) && (decide (0 < z) && decide (((g3 x y z : Nat) : Int) = 1))) = b) (k : Nat) (M : Mem) :
    callN prog W (k + 3) 16 [.tup [.int x, .int y, .int z]] M = some (.bl b, M) := by
  subst hb
  have h : [PV.int x, .int y, .int z].all inD = true := by
    show ((decide _ && decide _) && ((decide _ && decide _) && ((decide _ && decide _) && true))) = true
    rw [decide_eq_true x1, decide_eq_true x2, decide_eq_true y1, decide_eq_true y2, decide_eq_true z1, decide_eq_true z2]; rfl
  have f : ∀ k, callN prog W (k + 2) 8 [.tup [.int x, .int y, .int z], .int 10000000000000000000000000000000000000000] M = some (.bl (decide (0 < x) && (decide (0 < z) && decide (((g3 x y z : Nat) : Int) = 1))), M) := fun k => by
    have ly := lt133 y1 y2
    have lz := lt133 z1 z2
    rw [fe_run, h, if_pos rfl]
    have D1 := fun k => divisor_of_ok k x y M ly (by decide)
    have D2 : ∀ k, callN prog W (k + 1) 4 [.int ((Int.gcd x y : Nat) : Int), .int z] M = some (.int (g3 x y z : Nat), M) := fun k => divisor_of_ok k _ z M lz (by decide)
    unfold m_fe2
    clear h ly lz x1 x2 y1 y2 z1 z2
    generalize ((g3 x y z : Nat) : Int) = g at *
    by_cases h1 : 0 < x
    · by_cases h2 : 0 < z
      · walk_at "evf"
        simp only [Bool.true_and]
      · walk_at "evf"
        rfl
    · walk_at "evf"
      rfl
  rw [u_is_end_number]
  unfold m_is_end_number
  clear h x1 x2 y1 y2 z1 z2
  generalize (decide (0 < x) && (decide (0 < z) && decide (((g3 x y z : Nat) : Int) = 1))) = b at *
  walk_at "evf"
theorem E1 : Ed 1 (-1) 1 := ⟨⟨by decide, by decide, by decide +kernel⟩, by decide, by decide, by decide, by decide⟩
theorem E2 : Ed 1 0 4 := ⟨⟨by decide, by decide, by decide +kernel⟩, by decide, by decide, by decide, by decide⟩
theorem E3 : Ed 1 0 2 := ⟨⟨by decide, by decide, by decide +kernel⟩, by decide, by decide, by decide, by decide⟩
theorem E4 : Ed 2 (-1) 6 := ⟨⟨by decide, by decide, by decide +kernel⟩, by decide, by decide, by decide, by decide⟩
theorem E5 : Ed 2 1 3 := ⟨⟨by decide, by decide, by decide +kernel⟩, by decide, by decide, by decide, by decide⟩
def f85 : Rat := ⟨8, 5, by decide, by decide⟩
def f21 : Rat := ⟨2, 1, by decide, by decide⟩
def f51 : Rat := ⟨-5, 1, by decide, by decide⟩
theorem tb1 (k : Nat) (M : Mem) : callN prog W (k + 4) 17 [.tup [.int 1, .int (-1), .int 1], .tup [.int 8, .int 5]] M = some (.str "greater", M) := by
  have f := end_beside5 E1 (q := f85) (by decide) (by decide) (by decide) k M
  rw [show bes 1 (-1) 1 f85 = 1 from rfl] at f
  exact f
theorem tb2 (k : Nat) (M : Mem) : callN prog W (k + 4) 17 [.tup [.int 1, .int 0, .int 4], .tup [.int 2, .int 1]] M = some (.str "same", M) := by
  have f := end_beside5 E2 (q := f21) (by decide) (by decide) (by decide) k M
  rw [show bes 1 0 4 f21 = 0 from rfl] at f
  exact f
theorem tb3 (k : Nat) (M : Mem) : callN prog W (k + 4) 17 [.tup [.int 1, .int 0, .int 2], .tup [.int (-5), .int 1]] M = some (.str "greater", M) := by
  have f := end_beside5 E3 (q := f51) (by decide) (by decide) (by decide) k M
  rw [show bes 1 0 2 f51 = 1 from rfl] at f
  exact f
theorem tc1 (k : Nat) (M : Mem) : callN prog W (k + 4) 18 [.tup [.int 1, .int (-1), .int 1], .tup [.int 1, .int 0, .int 2]] M = some (.str "greater", M) := by
  have f := compare5 E1 E3 k M
  rw [show cmpE 1 (-1) 1 1 0 2 = 1 by decide +kernel] at f
  exact f
theorem tc2 (k : Nat) (M : Mem) : callN prog W (k + 4) 18 [.tup [.int 1, .int 0, .int 4], .tup [.int 2, .int (-1), .int 6]] M = some (.str "same", M) := by
  have f := compare5 E2 E4 k M
  rw [show cmpE 1 0 4 2 (-1) 6 = 0 by decide +kernel] at f
  exact f
theorem ta1 (k : Nat) (M : Mem) : callN prog W (k + 4) 19 [.tup [.int 1, .int 0, .int 4]] M = some (.tup [.int 2, .int 1], M) := by
  have f := as_fraction5 E2 (R := 4) (by unfold IsR; decide) k M
  have e : Rat.divInt (4 - 0) (2 * 1) = f21 := by decide +kernel
  rw [show frD 1 0 4 4 = fr f21 by unfold frD; rw [if_pos (by decide), e]] at f
  exact f
theorem ta2 (k : Nat) (M : Mem) : callN prog W (k + 4) 19 [.tup [.int 1, .int 0, .int 2]] M = some (.non, M) := by
  have f := as_fraction5 E3 (R := 2) (by unfold IsR; decide) k M
  rw [show frD 1 0 2 2 = .non by unfold frD; rw [if_neg (by decide)]] at f
  exact f
theorem ta3 (k : Nat) (M : Mem) : callN prog W (k + 4) 19 [.tup [.int 2, .int 1, .int 3]] M = some (.tup [.int 1, .int 1], M) := by
  have f := as_fraction5 E5 (R := 5) (by unfold IsR; decide) k M
  have e : Rat.divInt (5 - 1) (2 * 2) = 1 := by decide +kernel
  rw [show frD 2 1 3 5 = fr 1 by unfold frD; rw [if_pos (by decide), e]] at f
  exact f
theorem be_told {X Y Z : Int} (h : Ed X Y Z) (d : Nat) (hd : d ≤ 60) {R a : Int} (f : Fl X Y Z (tn d) R a) (k : Nat) (M : Mem) : callN prog W (k + 4) 20 [ev3 X Y Z, .int (d : Nat)] M = some (.int a, M) := by
  obtain ⟨R', a', f', -, e⟩ := end_below5 h d hd
  rw [f.uniq f']
  exact e k M
theorem td1 (k : Nat) (M : Mem) : callN prog W (k + 4) 20 [.tup [.int 1, .int 0, .int 2], .int 5] M = some (.int 141421, M) :=
  be_told E3 5 (by decide) (R := 282842) (a := 141421) ⟨by unfold IsR; decide +kernel, by decide +kernel⟩ k M
theorem td2 (k : Nat) (M : Mem) : callN prog W (k + 4) 20 [.tup [.int 1, .int (-1), .int 1], .int 10] M = some (.int 16180339887, M) :=
  be_told E1 10 (by decide) (R := 22360679774) (a := 16180339887) ⟨by unfold IsR; decide +kernel, by decide +kernel⟩ k M
theorem td3 (k : Nat) (M : Mem) : callN prog W (k + 4) 20 [.tup [.int 1, .int 0, .int 4], .int 0] M = some (.int 2, M) :=
  be_told E2 0 (by decide) (R := 4) (a := 2) ⟨by unfold IsR; decide +kernel, by decide +kernel⟩ k M
def lawT1 : Ss := (Ss.cons (.set 2 (.lc false [17] (.nm 17) (.seq (.tup (.cons (.tup (.cons (.cst (.int (1))) (.cons (.neg (.cst (.int (1)))) (.cons (.cst (.int (1))) .nil)))) (.cons (.tup (.cons (.cst (.int (2))) (.cons (.cst (.int (0))) (.cons (.cst (.int (2))) .nil)))) (.cons (.tup (.cons (.cst (.int (1))) (.cons (.cst (.int (3))) (.cons (.cst (.int (0))) .nil)))) .nil))))) .nil (.call 16 (.cons (.var 17) .nil)))) (.cons (.set 2 (.bin .add false (.var 2) (.lst false (.cons (.call 17 (.cons (.tup (.cons (.cst (.int (1))) (.cons (.neg (.cst (.int (1)))) (.cons (.cst (.int (1))) .nil)))) (.cons (.tup (.cons (.cst (.int (8))) (.cons (.cst (.int (5))) .nil))) .nil))) (.cons (.call 17 (.cons (.tup (.cons (.cst (.int (1))) (.cons (.cst (.int (0))) (.cons (.cst (.int (4))) .nil)))) (.cons (.tup (.cons (.cst (.int (2))) (.cons (.cst (.int (1))) .nil))) .nil))) .nil))))) (.cons (.set 2 (.bin .add false (.var 2) (.lst false (.cons (.call 17 (.cons (.tup (.cons (.cst (.int (1))) (.cons (.cst (.int (0))) (.cons (.cst (.int (2))) .nil)))) (.cons (.tup (.cons (.neg (.cst (.int (5)))) (.cons (.cst (.int (1))) .nil))) .nil))) (.cons (.call 18 (.cons (.tup (.cons (.cst (.int (1))) (.cons (.neg (.cst (.int (1)))) (.cons (.cst (.int (1))) .nil)))) (.cons (.tup (.cons (.cst (.int (1))) (.cons (.cst (.int (0))) (.cons (.cst (.int (2))) .nil)))) .nil))) (.cons (.call 18 (.cons (.tup (.cons (.cst (.int (1))) (.cons (.cst (.int (0))) (.cons (.cst (.int (4))) .nil)))) (.cons (.tup (.cons (.cst (.int (2))) (.cons (.neg (.cst (.int (1)))) (.cons (.cst (.int (6))) .nil)))) .nil))) .nil)))))) (.cons (.ite (.not (.call 24 (.cons (.var 2) (.cons (.lst false (.cons (.cst (.bl true)) (.cons (.cst (.bl false)) (.cons (.cst (.bl false)) (.cons (.cst (.str "greater")) (.cons (.cst (.str "same")) (.cons (.cst (.str "greater")) (.cons (.cst (.str "greater")) (.cons (.cst (.str "same")) .nil))))))))) .nil)))) (.cons (.ret (.cst (.bl false))) .nil) .nil) (.cons (.set 2 (.lst false (.cons (.call 19 (.cons (.tup (.cons (.cst (.int (1))) (.cons (.cst (.int (0))) (.cons (.cst (.int (4))) .nil)))) .nil)) (.cons (.call 19 (.cons (.tup (.cons (.cst (.int (1))) (.cons (.cst (.int (0))) (.cons (.cst (.int (2))) .nil)))) .nil)) (.cons (.call 19 (.cons (.tup (.cons (.cst (.int (2))) (.cons (.cst (.int (1))) (.cons (.cst (.int (3))) .nil)))) .nil)) (.cons (.call 20 (.cons (.tup (.cons (.cst (.int (1))) (.cons (.cst (.int (0))) (.cons (.cst (.int (2))) .nil)))) (.cons (.cst (.int (5))) .nil))) (.cons (.call 20 (.cons (.tup (.cons (.cst (.int (1))) (.cons (.neg (.cst (.int (1)))) (.cons (.cst (.int (1))) .nil)))) (.cons (.cst (.int (10))) .nil))) .nil))))))) (.cons (.ite (.not (.call 24 (.cons (.bin .add false (.var 2) (.lst false (.cons (.call 20 (.cons (.tup (.cons (.cst (.int (1))) (.cons (.cst (.int (0))) (.cons (.cst (.int (4))) .nil)))) (.cons (.cst (.int (0))) .nil))) .nil))) (.cons (.lst false (.cons (.tup (.cons (.cst (.int (2))) (.cons (.cst (.int (1))) .nil))) (.cons (.cst .non) (.cons (.tup (.cons (.cst (.int (1))) (.cons (.cst (.int (1))) .nil))) (.cons (.cst (.int (141421))) (.cons (.cst (.int (16180339887))) (.cons (.cst (.int (2))) .nil))))))) .nil)))) (.cons (.ret (.cst (.bl false))) .nil) .nil) (.cons (.for_ (.nm 3) (.seq (.tup (.cons (.cst (.int (3))) (.cons (.cst (.int (20))) (.cons (.bin .pow false (.cst (.int (10))) (.cst (.int (6)))) (.cons (.bin .pow false (.cst (.int (10))) (.cst (.int (20)))) .nil)))))) (.cons (.ite (.not (.call 32 (.cons (.var 1) (.cons (.call 28 (.cons (.var 1) (.cons (.var 3) .nil))) .nil)))) (.cons (.ret (.cst (.bl false))) .nil) .nil) .nil)) (.cons (.asg (.tp [4, 5]) (.call 25 (.cons (.bin .add false (.cst (.int (1))) (.call 22 (.cons (.var 1) (.cons (.cst (.int (40))) .nil)))) (.cons (.bin .add false (.cst (.int (1))) (.call 22 (.cons (.var 1) (.cons (.cst (.int (20))) .nil)))) .nil)))) (.cons (.for_ (.nm 6) (.rng (.cst (.int 0)) (.cst (.int (2)))) (.cons (.asg (.tp [7, 8]) (.call 25 (.cons (.bin .add false (.cst (.int (1))) (.call 22 (.cons (.var 1) (.cons (.cst (.int (40))) .nil)))) (.cons (.bin .add false (.cst (.int (1))) (.call 22 (.cons (.var 1) (.cons (.cst (.int (20))) .nil)))) .nil)))) (.cons (.set 9 (.call 27 (.cons (.bin .mul false (.var 5) (.var 8)) (.cons (.bin .sub false (.bin .mul false (.var 5) (.var 7)) (.bin .mul false (.var 4) (.var 8))) (.cons (.bin .mul false (.var 4) (.var 7)) .nil))))) (.cons (.ite (.or (.not (.call 32 (.cons (.var 1) (.cons (.var 9) .nil)))) (.not (.call 24 (.cons (.call 19 (.cons (.var 9) .nil)) (.cons (.tup (.cons (.var 4) (.cons (.var 5) .nil))) .nil))))) (.cons (.ret (.cst (.bl false))) .nil) .nil) (.cons (.ite (.or (.not (.call 33 (.cons (.var 9) (.cons (.call 27 (.cons (.cst (.int (1))) (.cons (.cst (.int (0))) (.cons (.cst (.int (1))) .nil)))) .nil)))) (.not (.call 24 (.cons (.call 18 (.cons (.var 9) (.cons (.call 27 (.cons (.bin .mul false (.var 5) (.var 5)) (.cons (.cst (.int (0))) (.cons (.bin .mul false (.var 4) (.var 4)) .nil)))) .nil))) (.cons (.cst (.str "same")) .nil))))) (.cons (.ret (.cst (.bl false))) .nil) .nil) .nil))))) (.cons (.par 10 11 (.call 28 (.cons (.var 1) (.cons (.cst (.int (9))) .nil))) (.call 28 (.cons (.var 1) (.cons (.cst (.int (9))) .nil)))) (.cons (.set 12 (.lst true .nil)) (.cons (.for_ (.nm 13) (.seq (.tup (.cons (.bin .pow false (.cst (.int (10))) (.cst (.int (6)))) (.cons (.bin .pow false (.cst (.int (10))) (.cst (.int (15)))) (.cons (.bin .pow false (.cst (.int (10))) (.cst (.int (25)))) .nil))))) (.cons (.exp (.app (.var 12) (.call 27 (.cons (.bin .sub false (.bin .add false (.bin .mul false (.idx (.var 10) (.cst (.int (0)))) (.var 13)) (.call 22 (.cons (.var 1) (.cons (.cst (.int (3))) .nil)))) (.cst (.int (1)))) (.cons (.bin .sub false (.bin .add false (.bin .mul false (.idx (.var 10) (.cst (.int (1)))) (.var 13)) (.call 22 (.cons (.var 1) (.cons (.cst (.int (3))) .nil)))) (.cst (.int (1)))) (.cons (.bin .add false (.bin .mul false (.idx (.var 10) (.cst (.int (2)))) (.var 13)) (.call 22 (.cons (.var 1) (.cons (.cst (.int (3))) .nil)))) .nil)))))) .nil)) (.cons (.for_ (.nm 14) (.seq (.bin .add false (.var 12) (.lst false (.cons (.var 11) (.cons (.var 10) (.cons (.call 28 (.cons (.var 1) (.cons (.bin .pow false (.cst (.int (10))) (.cst (.int (9)))) .nil))) (.cons (.call 28 (.cons (.var 1) (.cons (.bin .pow false (.cst (.int (10))) (.cst (.int (30)))) .nil))) .nil))))))) (.cons (.ite (.not (.call 33 (.cons (.var 10) (.cons (.var 14) .nil)))) (.cons (.ret (.cst (.bl false))) .nil) .nil) .nil)) (.cons (.set 15 (.bin .add false (.cst (.int (1))) (.call 22 (.cons (.var 1) (.cons (.bin .pow false (.cst (.int (10))) (.cst (.int (12)))) .nil))))) (.cons (.set 16 (.call 30 (.cons (.var 15) .nil))) (.cons (.set 2 (.lst false (.cons (.call 19 (.cons (.tup (.cons (.cst (.int (1))) (.cons (.cst (.int (0))) (.cons (.var 15) .nil)))) .nil)) (.cons (.call 20 (.cons (.tup (.cons (.cst (.int (1))) (.cons (.cst (.int (0))) (.cons (.var 15) .nil)))) (.cons (.cst (.int (0))) .nil))) (.cons (.call 20 (.cons (.tup (.cons (.cst (.int (1))) (.cons (.cst (.int (0))) (.cons (.bin .mul false (.cst (.int (100))) (.var 15)) .nil)))) (.cons (.cst (.int (7))) .nil))) .nil))))) (.cons (.ret (.call 24 (.cons (.var 2) (.cons (.lst false (.cons (.ite (.cmp .eq (.bin .mul false (.var 16) (.var 16)) (.var 15)) (.tup (.cons (.var 16) (.cons (.cst (.int (1))) .nil))) (.cst .non)) (.cons (.var 16) (.cons (.call 20 (.cons (.tup (.cons (.cst (.int (1))) (.cons (.cst (.int (0))) (.cons (.var 15) .nil)))) (.cons (.cst (.int (8))) .nil))) .nil)))) .nil)))) .nil)))))))))))))))))
def lawT7 : Ss := (Ss.cons (.for_ (.nm 3) (.seq (.tup (.cons (.cst (.int (3))) (.cons (.cst (.int (20))) (.cons (.bin .pow false (.cst (.int (10))) (.cst (.int (6)))) (.cons (.bin .pow false (.cst (.int (10))) (.cst (.int (20)))) .nil)))))) (.cons (.ite (.not (.call 32 (.cons (.var 1) (.cons (.call 28 (.cons (.var 1) (.cons (.var 3) .nil))) .nil)))) (.cons (.ret (.cst (.bl false))) .nil) .nil) .nil)) (.cons (.asg (.tp [4, 5]) (.call 25 (.cons (.bin .add false (.cst (.int (1))) (.call 22 (.cons (.var 1) (.cons (.cst (.int (40))) .nil)))) (.cons (.bin .add false (.cst (.int (1))) (.call 22 (.cons (.var 1) (.cons (.cst (.int (20))) .nil)))) .nil)))) (.cons (.for_ (.nm 6) (.rng (.cst (.int 0)) (.cst (.int (2)))) (.cons (.asg (.tp [7, 8]) (.call 25 (.cons (.bin .add false (.cst (.int (1))) (.call 22 (.cons (.var 1) (.cons (.cst (.int (40))) .nil)))) (.cons (.bin .add false (.cst (.int (1))) (.call 22 (.cons (.var 1) (.cons (.cst (.int (20))) .nil)))) .nil)))) (.cons (.set 9 (.call 27 (.cons (.bin .mul false (.var 5) (.var 8)) (.cons (.bin .sub false (.bin .mul false (.var 5) (.var 7)) (.bin .mul false (.var 4) (.var 8))) (.cons (.bin .mul false (.var 4) (.var 7)) .nil))))) (.cons (.ite (.or (.not (.call 32 (.cons (.var 1) (.cons (.var 9) .nil)))) (.not (.call 24 (.cons (.call 19 (.cons (.var 9) .nil)) (.cons (.tup (.cons (.var 4) (.cons (.var 5) .nil))) .nil))))) (.cons (.ret (.cst (.bl false))) .nil) .nil) (.cons (.ite (.or (.not (.call 33 (.cons (.var 9) (.cons (.call 27 (.cons (.cst (.int (1))) (.cons (.cst (.int (0))) (.cons (.cst (.int (1))) .nil)))) .nil)))) (.not (.call 24 (.cons (.call 18 (.cons (.var 9) (.cons (.call 27 (.cons (.bin .mul false (.var 5) (.var 5)) (.cons (.cst (.int (0))) (.cons (.bin .mul false (.var 4) (.var 4)) .nil)))) .nil))) (.cons (.cst (.str "same")) .nil))))) (.cons (.ret (.cst (.bl false))) .nil) .nil) .nil))))) (.cons (.par 10 11 (.call 28 (.cons (.var 1) (.cons (.cst (.int (9))) .nil))) (.call 28 (.cons (.var 1) (.cons (.cst (.int (9))) .nil)))) (.cons (.set 12 (.lst true .nil)) (.cons (.for_ (.nm 13) (.seq (.tup (.cons (.bin .pow false (.cst (.int (10))) (.cst (.int (6)))) (.cons (.bin .pow false (.cst (.int (10))) (.cst (.int (15)))) (.cons (.bin .pow false (.cst (.int (10))) (.cst (.int (25)))) .nil))))) (.cons (.exp (.app (.var 12) (.call 27 (.cons (.bin .sub false (.bin .add false (.bin .mul false (.idx (.var 10) (.cst (.int (0)))) (.var 13)) (.call 22 (.cons (.var 1) (.cons (.cst (.int (3))) .nil)))) (.cst (.int (1)))) (.cons (.bin .sub false (.bin .add false (.bin .mul false (.idx (.var 10) (.cst (.int (1)))) (.var 13)) (.call 22 (.cons (.var 1) (.cons (.cst (.int (3))) .nil)))) (.cst (.int (1)))) (.cons (.bin .add false (.bin .mul false (.idx (.var 10) (.cst (.int (2)))) (.var 13)) (.call 22 (.cons (.var 1) (.cons (.cst (.int (3))) .nil)))) .nil)))))) .nil)) (.cons (.for_ (.nm 14) (.seq (.bin .add false (.var 12) (.lst false (.cons (.var 11) (.cons (.var 10) (.cons (.call 28 (.cons (.var 1) (.cons (.bin .pow false (.cst (.int (10))) (.cst (.int (9)))) .nil))) (.cons (.call 28 (.cons (.var 1) (.cons (.bin .pow false (.cst (.int (10))) (.cst (.int (30)))) .nil))) .nil))))))) (.cons (.ite (.not (.call 33 (.cons (.var 10) (.cons (.var 14) .nil)))) (.cons (.ret (.cst (.bl false))) .nil) .nil) .nil)) (.cons (.set 15 (.bin .add false (.cst (.int (1))) (.call 22 (.cons (.var 1) (.cons (.bin .pow false (.cst (.int (10))) (.cst (.int (12)))) .nil))))) (.cons (.set 16 (.call 30 (.cons (.var 15) .nil))) (.cons (.set 2 (.lst false (.cons (.call 19 (.cons (.tup (.cons (.cst (.int (1))) (.cons (.cst (.int (0))) (.cons (.var 15) .nil)))) .nil)) (.cons (.call 20 (.cons (.tup (.cons (.cst (.int (1))) (.cons (.cst (.int (0))) (.cons (.var 15) .nil)))) (.cons (.cst (.int (0))) .nil))) (.cons (.call 20 (.cons (.tup (.cons (.cst (.int (1))) (.cons (.cst (.int (0))) (.cons (.bin .mul false (.cst (.int (100))) (.var 15)) .nil)))) (.cons (.cst (.int (7))) .nil))) .nil))))) (.cons (.ret (.call 24 (.cons (.var 2) (.cons (.lst false (.cons (.ite (.cmp .eq (.bin .mul false (.var 16) (.var 16)) (.var 15)) (.tup (.cons (.var 16) (.cons (.cst (.int (1))) .nil))) (.cst .non)) (.cons (.var 16) (.cons (.call 20 (.cons (.tup (.cons (.cst (.int (1))) (.cons (.cst (.int (0))) (.cons (.var 15) .nil)))) (.cons (.cst (.int (8))) .nil))) .nil)))) .nil)))) .nil)))))))))))
theorem law_head (k : Nat) (M : Mem) (e0 e3 e4 e5 e6 e7 e8 e9 e10 e11 e12 e13 e14 e15 e16 : Option PV) : ∃ v, execs (callN prog W (k + 20)) W lawT1 [e0, some (.ref 0), none, e3, e4, e5, e6, e7, e8, e9, e10, e11, e12, e13, e14, e15, e16, none] M = execs (callN prog W (k + 20)) W lawT7 [e0, some (.ref 0), some v, e3, e4, e5, e6, e7, e8, e9, e10, e11, e12, e13, e14, e15, e16, none] M := by
  refine ⟨.lst [.tup [.int 2, .int 1], .non, .tup [.int 1, .int 1], .int 141421, .int 16180339887], ?_⟩
  have i1 := fun k => end_int (x := 1) (y := -1) (z := 1) (by decide) (by decide) (by decide) (by decide) (by decide) (by decide) true (by decide +kernel) k M
  have i2 := fun k => end_int (x := 2) (y := 0) (z := 2) (by decide) (by decide) (by decide) (by decide) (by decide) (by decide) false (by decide +kernel) k M
  have i3 := fun k => end_int (x := 1) (y := 3) (z := 0) (by decide) (by decide) (by decide) (by decide) (by decide) (by decide) false (by decide +kernel) k M
  have t1 := fun k => tb1 k M
  have t2 := fun k => tb2 k M
  have t3 := fun k => tb3 k M
  have t4 := fun k => tc1 k M
  have t5 := fun k => tc2 k M
  have t6 := fun k => ta1 k M
  have t7 := fun k => ta2 k M
  have t8 := fun k => ta3 k M
  have t9 := fun k => td1 k M
  have t10 := fun k => td2 k M
  have t11 := fun k => td3 k M
  have l1 := fun k => like_ok (k + 1) (.lst [.bl true, .bl false, .bl false, .str "greater", .str "same", .str "greater", .str "greater", .str "same"]) M (by decide +kernel) (Nat.le_add_left 1 k)
  have l2 := fun k => like_ok (k + 2) (.lst [.tup [.int 2, .int 1], .non, .tup [.int 1, .int 1], .int 141421, .int 16180339887, .int 2]) M (by decide +kernel) (Nat.le_add_left 2 k)
  unfold lawT1
  show execs (callN prog W (k + 20)) W (.cons _ (.cons _ (.cons _ (.cons _ (.cons _ (.cons _ lawT7)))))) _ _ = _
  generalize lawT7 = rest
  simp -implicitDefEqProofs only [execs, exec, eval, evals, evalI, conds, bnd_some, bnd_none, bifb_t, bifb_f, bifb_d, bifb_b, iff_t, iff_d, nxt_nx, nxt_rt, binop, cmpop, addOp_ii, addOp_tt, addOp_ll, subOp_ii, mulOp_ii, fdivOp_ii, modOp_ii, cmpI_ii, tru_bl, tru_int, absB_i, intB_i, asM_int, asM_bl, asM_tup, asM_false, isOp_n, isOp_bb, isNon_non, isNon_tup, isNon_int, isNon_bl, isNon_lst, isNon_ref, isNon_rol, isNon_str, isNon_fr, setAll_nil, setAll_cons, bindT_nm, bindT_tp, fin_rt, fin_nx, leave_same, bltOp, idx_tup0, idx_tup1, idx_tup2, idx_tup3, idx_lst0, idx_lst1, idx_lst2, idx_lst3, eqD_ii, eqD_bb, eqD_fr, Option.map_some, Option.map_none, Option.bind_some, List.getElem?_cons_zero, List.getElem?_cons_succ, List.set_cons_zero, List.set_cons_succ, List.length_cons, List.length_nil, if_true, if_false, decide_true, decide_false, Bool.not_true, Bool.not_false, decide_eq_true_eq, sizeL, Nat.reduceAdd, Nat.reduceLeDiff, Nat.zero_add, beq_self_eq_true, seqG_tup, seqG_lst, lenB_tup, lenB_lst, idx_cup0, idx_cup1, setAt0, setAt1, cup, isTy, Bool.false_eq_true, newL_f, newL_t, fin_rtk, List.nil_append, wipeE, Int.reduceNe, Int.reduceEq, Int.reduceLT, Int.reduceLE, Int.reduceAdd, Int.reduceSub, Int.reduceMul, Int.reduceNeg, Int.reduceGT, lcL_n, lcL_c, List.cons_append, cmpop, *]

/-! ### end numbers of fractions, and roots -/
theorem rat_end {X Y Z R : Int} (h : Ep X Y Z) {f : Rat} (fp : 0 < f.num) (w : wf X Y Z f.num f.den = 0) (hr : IsR (Y * Y + 4 * X * Z) R) : frD X Y Z R = fr f := by
  have x0 := h.x
  have fd := den_posI f
  have e := wf_id X Y Z f.num f.den
  rw [w, Int.mul_zero] at e
  have mp : 0 < 2 * X * f.num + Y * f.den := by
    have e1 : f.num * (X * f.num + Y * f.den) = Z * (f.den * f.den) := by
      have : wf X Y Z f.num f.den = f.num * (X * f.num + Y * f.den) - Z * (f.den * f.den) := by unfold wf; grind
      omega
    have e2 : 0 < Z * ((f.den : Int) * f.den) := Int.mul_pos h.z (Int.mul_pos fd fd)
    have e3 : 0 < X * f.num + Y * f.den := by
      apply Int.not_le.mp
      intro q
      have := Int.mul_nonpos_of_nonneg_of_nonpos (Int.le_of_lt fp) q
      omega
    have e4 := Int.mul_pos x0 fp
    have e5 : 2 * X * f.num = X * f.num + X * f.num := by grind
    omega
  generalize hm : 2 * X * f.num + Y * f.den = m at *
  have hd : (f.den : Int) ∣ m := by
    have h2 : (f.den : Int) ^ 2 ∣ m ^ 2 := ⟨Y * Y + 4 * X * Z, by grind⟩
    exact (Int.pow_dvd_pow_iff (by decide)).mp h2
  obtain ⟨r, hr'⟩ := hd
  have rp : 0 < r := by
    rw [hr'] at mp
    exact Int.pos_of_mul_pos_right mp fd
  have e6 : r * r = Y * Y + 4 * X * Z := by
    have e7 : ((f.den : Int) * f.den) * (r * r) = ((f.den : Int) * f.den) * (Y * Y + 4 * X * Z) := by
      rw [hr'] at e
      grind
    exact Int.eq_of_mul_eq_mul_left (by have := Int.mul_pos fd fd; omega) e7
  have hR : R = r := by
    refine IsR_uniq hr ⟨by omega, by omega, ?_⟩
    rw [← e6]
    exact sq_lt (by omega) (by omega)
  subst hR
  unfold frD
  rw [if_pos e6]
  have e8 : Rat.divInt (R - Y) (2 * X) = f := by
    rw [← Rat.num_divInt_den f]
    refine (Rat.divInt_eq_divInt_iff (by omega) (by omega)).mpr ?_
    grind
  rw [e8]
theorem cmp_zero {x y z u v w p q : Int} (hp : 0 < p) (hq : 0 < q) (h1 : wf x y z p q = 0) (h2 : wf u v w p q = 0) : cmpE x y z u v w = 0 := by
  have e := wf_two x y z u v w p q
  rw [h1, h2, Int.mul_zero, Int.mul_zero] at e
  have e0 : (x * v - u * y) * p + (u * z - x * w) * q = 0 := by
    rcases Int.mul_eq_zero.mp (show ((x * v - u * y) * p + (u * z - x * w) * q) * q = 0 by omega) with h | h
    · exact h
    · omega
  unfold cmpE
  by_cases hL : x * v - u * y = 0
  · rw [if_pos hL]
    rw [hL, Int.zero_mul, Int.zero_add] at e0
    rcases Int.mul_eq_zero.mp e0 with h | h
    · rw [h]; rfl
    · omega
  · rw [if_neg hL]
    have hc := div_cross (a := -(u * z - x * w)) hL
    generalize Rat.divInt (-(u * z - x * w)) (x * v - u * y) = f at *
    have fd := den_posI f
    generalize x * v - u * y = L at *
    generalize u * z - x * w = S at *
    have k : f.num * q = p * f.den := by
      have k1 : L * (f.num * q) = L * (p * f.den) := by
        have : L * (f.num * q) = (f.num * L) * q := by grind
        rw [this, hc]
        have : L * (p * f.den) = (L * p) * f.den := by grind
        rw [this, show L * p = -(S * q) by omega]
        grind
      exact Int.eq_of_mul_eq_mul_left hL k1
    have np : 0 < f.num := by
      have : 0 < f.num * q := by rw [k]; exact Int.mul_pos hp fd
      exact Int.pos_of_mul_pos_left this hq
    have wz : wf x y z f.num f.den = 0 := by
      have a1 := wf_scale x y z q f.num f.den
      have a2 := wf_scale x y z f.den p q
      rw [h1, Int.mul_zero] at a2
      rw [show q * f.num = f.den * p by rw [Int.mul_comm q, k, Int.mul_comm], show q * (f.den : Int) = f.den * q from Int.mul_comm _ _, a2] at a1
      rcases Int.mul_eq_zero.mp a1.symm with h | h
      · have := Int.mul_pos hq hq; omega
      · exact h
    unfold bes
    rw [if_neg (by omega), wz]
    exact Int.zero_mul _
theorem wf_mul (g X Y Z u v : Int) : wf (g * X) (g * Y) (g * Z) u v = g * wf X Y Z u v := by unfold wf; grind
theorem wf_zero {g : Nat} {x y z X Y Z u v : Int} (g0 : 0 < g) (e1 : x = g * X) (e2 : y = g * Y) (e3 : z = g * Z) (h : wf x y z u v = 0) : wf X Y Z u v = 0 := by
  rw [e1, e2, e3, wf_mul] at h
  rcases Int.mul_eq_zero.mp h with h | h
  · omega
  · exact h
theorem Ep_root {w : Int} (h : 0 < w) : Ep 1 0 w := ⟨by decide, h, by
  unfold g3
  rw [show Int.gcd 1 0 = 1 from rfl]
  exact Int.one_gcd⟩
theorem Fl_root {w t R a : Int} (hw : 0 < w) (ht : 0 < t) (f : Fl 1 0 w t R a) : IsR (w * t * t) a := by
  obtain ⟨h1, h2, h3⟩ := f.floor (Ep_root hw) ht
  have e1 : wf 1 0 w a t = a * a - w * t * t := by unfold wf; grind
  have e2 : wf 1 0 w (a + 1) t = (a + 1) * (a + 1) - w * t * t := by unfold wf; grind
  exact ⟨h1, by omega, by omega⟩
theorem fr_root {w r R : Int} (hr : IsR w r) (hR : IsR (0 * 0 + 4 * 1 * w) R) : frD 1 0 w R = if r * r = w then .tup [.int r, .int 1] else .non := by
  have e0 : (0 : Int) * 0 + 4 * 1 * w = 4 * w := by omega
  rw [e0] at hR
  have e4 : (2 * r) * (2 * r) = 4 * (r * r) := by grind
  unfold frD
  rw [e0]
  by_cases h : r * r = w
  · have eR : R = 2 * r := IsR_uniq hR ⟨by have := hr.1; omega, by omega, by
      rw [← h, ← e4]
      exact sq_lt (by have := hr.1; omega) (by omega)⟩
    rw [if_pos h, eR, if_pos (by omega)]
    have e5 : Rat.divInt (2 * r - 0) (2 * 1) = (⟨r, 1, by decide, Nat.coprime_one_right _⟩ : Rat) := by
      rw [← Rat.num_divInt_den (⟨r, 1, by decide, Nat.coprime_one_right _⟩ : Rat)]
      refine (Rat.divInt_eq_divInt_iff (by decide) (by show ((1 : Nat) : Int) ≠ 0; decide)).mpr ?_
      show (2 * r - 0) * 1 = r * (2 * 1)
      omega
    rw [e5]
    rfl
  · rw [if_neg h]
    have hn : ¬ R * R = 4 * w := by
      intro q
      have ev : R % 2 = 0 := by
        rcases (show R % 2 = 0 ∨ R % 2 = 1 by omega) with z | z
        · exact z
        · exfalso
          have : R * R % 2 = 1 := by rw [Int.mul_emod, z]; rfl
          omega
      obtain ⟨s, hs⟩ : ∃ s, R = 2 * s := ⟨R / 2, by omega⟩
      rw [hs] at q
      have q2 : s * s = w := by
        have : (2 * s) * (2 * s) = 4 * (s * s) := by grind
        omega
      have : r = s := IsR_uniq hr ⟨by have := hR.1; omega, by omega, by
        rw [← q2]
        exact sq_lt (by have := hR.1; omega) (by omega)⟩
      rw [this] at h
      exact h q2
    rw [if_neg hn]

/-! ### the law about end numbers -/
theorem lt2_of {n m : Nat} {x : Int} (h : x.natAbs ≤ m) (hm : m < 2 ^ n) : lt2 n x := Nat.lt_of_le_of_lt h hm
def szB : Ss := (Ss.cons (.ite (.not (.call 32 (.cons (.var 1) (.cons (.call 28 (.cons (.var 1) (.cons (.var 3) .nil))) .nil)))) (.cons (.ret (.cst (.bl false))) .nil) .nil) .nil)
theorem siz5 (k s : Nat) {x y : Int} (h : CupB x y) (h1 : 1 ≤ s) (h2 : (s : Int) ≤ 100000000000000000000) (sz : Int) (hs : sz = s) :
    ∃ x' y', CupB x' y' ∧ ∀ (o0 o2 : Option PV) (rest : Env), execs (callN prog W (k + 29)) W szB (o0 :: some (.ref 0) :: o2 :: some (.int sz) :: rest) [cup x y] = some (.nx (o0 :: some (.ref 0) :: o2 :: some (.int sz) :: rest) [cup x' y']) := by
  obtain ⟨X, Y, Z, x1, y1, d1, c1, ep, b1, b2, b3, b4⟩ := drawn5 (k + 26) s [] h h1 (by omega)
  obtain ⟨x2, y2, d2, c2⟩ := right5 (k + 9) c1 ep (by omega) (by omega) (by omega) (by omega)
  rw [← hs] at d1
  refine ⟨x2, y2, c2, fun o0 o2 rest => ?_⟩
  unfold szB
  clear ep b1 b2 b3 b4 c1 c2 h h1 h2 hs
  walk_at "evf"
theorem num_pos {a b : Int} (ha : 0 < a) (hb : 0 < b) : 0 < (Rat.divInt a b).num := by
  obtain ⟨g, hg, e1, -⟩ := div_parts (a := a) hb
  rw [e1] at ha
  exact Int.pos_of_mul_pos_right ha hg
def frB : Ss := (Ss.cons (.asg (.tp [7, 8]) (.call 25 (.cons (.bin .add false (.cst (.int (1))) (.call 22 (.cons (.var 1) (.cons (.cst (.int (40))) .nil)))) (.cons (.bin .add false (.cst (.int (1))) (.call 22 (.cons (.var 1) (.cons (.cst (.int (20))) .nil)))) .nil)))) (.cons (.set 9 (.call 27 (.cons (.bin .mul false (.var 5) (.var 8)) (.cons (.bin .sub false (.bin .mul false (.var 5) (.var 7)) (.bin .mul false (.var 4) (.var 8))) (.cons (.bin .mul false (.var 4) (.var 7)) .nil))))) (.cons (.ite (.or (.not (.call 32 (.cons (.var 1) (.cons (.var 9) .nil)))) (.not (.call 24 (.cons (.call 19 (.cons (.var 9) .nil)) (.cons (.tup (.cons (.var 4) (.cons (.var 5) .nil))) .nil))))) (.cons (.ret (.cst (.bl false))) .nil) .nil) (.cons (.ite (.or (.not (.call 33 (.cons (.var 9) (.cons (.call 27 (.cons (.cst (.int (1))) (.cons (.cst (.int (0))) (.cons (.cst (.int (1))) .nil)))) .nil)))) (.not (.call 24 (.cons (.call 18 (.cons (.var 9) (.cons (.call 27 (.cons (.bin .mul false (.var 5) (.var 5)) (.cons (.cst (.int (0))) (.cons (.bin .mul false (.var 4) (.var 4)) .nil)))) .nil))) (.cons (.cst (.str "same")) .nil))))) (.cons (.ret (.cst (.bl false))) .nil) .nil) .nil))))
theorem frac5 (k : Nat) {x y : Int} (h : CupB x y) {f : Rat} (fp : 0 < f.num) (f1 : f.num ≤ 40) (f2 : (f.den : Int) ≤ 20) :
    ∃ x' y' v7 v8 v9, CupB x' y' ∧ ∀ (o0 o2 o3 o6 o7 o8 o9 : Option PV) (rest : Env), execs (callN prog W (k + 29)) W frB (o0 :: some (.ref 0) :: o2 :: o3 :: some (.int f.num) :: some (.int f.den) :: o6 :: o7 :: o8 :: o9 :: rest) [cup x y] =
      some (.nx (o0 :: some (.ref 0) :: o2 :: o3 :: some (.int f.num) :: some (.int f.den) :: o6 :: some v7 :: some v8 :: some v9 :: rest) [cup x' y']) := by
  obtain ⟨r1, x1, y1, d1, c1, p1, q1⟩ := roll_ok (k + 28) (many := 40) [] h (by omega) (lt2.mono (n := 6) (by unfold lt2; decide) (by decide))
  obtain ⟨r2, x2, y2, d2, c2, p2, q2⟩ := roll_ok (k + 28) (many := 20) [] c1 (by omega) (lt2.mono (n := 6) (by unfold lt2; decide) (by decide))
  have d3 := l_least_ok (k + 28) (1 + r1) (1 + r2) [cup x2 y2] (n := 6) (lt2_of (m := 21) (by omega) (by decide)) (by omega) (by decide)
  have np := num_pos (a := 1 + r1) (b := 1 + r2) (by omega) (by omega)
  obtain ⟨n1, n2⟩ := low_le (1 + r1) (1 + r2) (by omega)
  have g1 : (Rat.divInt (1 + r1) (1 + r2)).num ≤ 40 := by omega
  have g2 : ((Rat.divInt (1 + r1) (1 + r2)).den : Int) ≤ 20 := by omega
  clear n1 n2
  generalize Rat.divInt (1 + r1) (1 + r2) = g at *
  have fd := den_posI f
  have gd := den_posI g
  have bx : ∀ {a b m n : Int}, 0 < a → a ≤ m → 0 < b → b ≤ n → 0 < a * b ∧ a * b ≤ m * n := fun h1 h2 h3 h4 => ⟨Int.mul_pos h1 h3, Int.mul_le_mul h2 h4 (by omega) (by omega)⟩
  have t1 := bx fd f2 gd g2
  have t2 := bx fd f2 np g1
  have t3 := bx fp f1 gd g2
  have t4 := bx fp f1 np g1
  have t5 := bx fd f2 fd f2
  have t6 := bx fp f1 fp f1
  have mm : ∀ {a b : Int}, 0 < a → a ≤ 40 → mulOk a b = true := fun h1 h2 => mulOk_a (by omega)
  have m1 : mulOk f.den g.den = true := mm fd (by omega)
  have m2 : mulOk f.den g.num = true := mm fd (by omega)
  have m3 : mulOk f.num g.den = true := mm fp (by omega)
  have m4 : mulOk f.num g.num = true := mm fp (by omega)
  have m5 : mulOk f.den f.den = true := mm fd (by omega)
  have m6 : mulOk f.num f.num = true := mm fp (by omega)
  -- the end number
  obtain ⟨u1, X, Y, Z, u0, e1, e2, e3, ep, z1, z2, z3, pl⟩ := plain5 (x := f.den * g.den) (y := f.den * g.num - f.num * g.den) (z := f.num * g.num) (n := 12) t1.1 t4.1 (by unfold lt2; omega) (by unfold lt2; omega) (by decide)
  have hE : Ed X Y Z := ⟨ep, by omega, by omega, by omega, by omega⟩
  have w0 : wf X Y Z f.num f.den = 0 := wf_zero u0 e1 e2 e3 (by unfold wf; grind)
  obtain ⟨x3, y3, d4, c3⟩ := right5 (k + 9) c2 ep (by omega) (by omega) (by omega) (by omega)
  obtain ⟨R, hR, -⟩ := rt5 hE
  have af : ∀ k M, callN prog W (k + 4) 19 [ev3 X Y Z] M = some (.tup [.int f.num, .int f.den], M) := fun k M => by
    rw [as_fraction5 hE hR k M, rat_end ep fp w0 hR]; rfl
  -- beside 1
  obtain ⟨u2, X1, Y1, Z1, u20, e21, e22, e23, ep1, z21, z22, z23, pl1⟩ := plain5 (x := 1) (y := 0) (z := 1) (n := 12) (by decide) (by decide) (by unfold lt2; decide) (by unfold lt2; decide) (by decide)
  have hE1 : Ed X1 Y1 Z1 := ⟨ep1, by omega, by omega, by omega, by omega⟩
  have cr := fun M => cright5 (k + 9) hE hE1 M
  -- beside its own square
  obtain ⟨u3, X2, Y2, Z2, u30, e31, e32, e33, ep2, z31, z32, z33, pl2⟩ := plain5 (x := f.den * f.den) (y := 0) (z := f.num * f.num) (n := 12) t5.1 t6.1 (by unfold lt2; omega) (by unfold lt2; omega) (by decide)
  have hE2 : Ed X2 Y2 Z2 := ⟨ep2, by omega, by omega, by omega, by omega⟩
  have w2 : wf X2 Y2 Z2 f.num f.den = 0 := wf_zero u30 e31 e32 e33 (by unfold wf; grind)
  have ce := fun k M => compare5 hE hE2 k M
  rw [cmp_zero fp fd w0 w2] at ce
  replace ce : ∀ k M, callN prog W (k + 4) 18 [ev3 X Y Z, ev3 X2 Y2 Z2] M = some (.str "same", M) := ce
  have l1 := fun k M => like_ok (k + 1) (.tup [.int f.num, .int f.den]) M rfl (Nat.le_add_left 1 k)
  have l2 := fun k M => like_ok k (.str "same") M (by decide +kernel) (Nat.zero_le _)
  have bd : ∀ (e : Env), bindT (.tp [7, 8]) (fr g) e = some ((e.set 7 (some (.int g.num))).set 8 (some (.int g.den))) := fun e => rfl
  refine ⟨x3, y3, .int g.num, .int g.den, ev3 X Y Z, c3, fun o0 o2 o3 o6 o7 o8 o9 rest => ?_⟩
  have a1 : ∀ k M, callN prog W (k + 2) 27 [.int (↑f.den * ↑g.den), .int (↑f.den * g.num - f.num * ↑g.den), .int (f.num * g.num)] M = some (ev3 X Y Z, M) := pl
  unfold frB
  clear pl hE hE1 hE2 ep ep1 ep2 e1 e2 e3 e21 e22 e23 e31 e32 e33 z1 z2 z3 z21 z22 z23 z31 z32 z33 w0 w2 hR t1 t2 t3 t4 t5 t6 mm bx fd gd np g1 g2 fp f1 f2 h c1 c2 c3 p1 p2 q1 q2 u0 u20 u30
  walk_at "evr"
def nrB : Ss := (Ss.cons (.exp (.app (.var 12) (.call 27 (.cons (.bin .sub false (.bin .add false (.bin .mul false (.idx (.var 10) (.cst (.int (0)))) (.var 13)) (.call 22 (.cons (.var 1) (.cons (.cst (.int (3))) .nil)))) (.cst (.int (1)))) (.cons (.bin .sub false (.bin .add false (.bin .mul false (.idx (.var 10) (.cst (.int (1)))) (.var 13)) (.call 22 (.cons (.var 1) (.cons (.cst (.int (3))) .nil)))) (.cst (.int (1)))) (.cons (.bin .add false (.bin .mul false (.idx (.var 10) (.cst (.int (2)))) (.var 13)) (.call 22 (.cons (.var 1) (.cons (.cst (.int (3))) .nil)))) .nil)))))) .nil)
theorem near5 (k : Nat) {x y : Int} (h : CupB x y) {A B C F : Int} (ep : Ep A B C) (a1 : A ≤ 9) (b1 : -9 ≤ B) (b2 : B ≤ 9) (c1 : C ≤ 9) (f1 : 1000000 ≤ F) (f2 : F ≤ 10000000000000000000000000) (vs : List PV) (hv : vs.length ≤ 10) :
    ∃ x' y' X Y Z, CupB x' y' ∧ Ed X Y Z ∧ ∀ (o0 o2 o3 o4 o5 o6 o7 o8 o9 o11 : Option PV) (rest : Env), execs (callN prog W (k + 29)) W nrB (o0 :: some (.ref 0) :: o2 :: o3 :: o4 :: o5 :: o6 :: o7 :: o8 :: o9 :: some (ev3 A B C) :: o11 :: some (.ref 1) :: some (.int F) :: rest) [cup x y, .lst vs] =
      some (.nx (o0 :: some (.ref 0) :: o2 :: o3 :: o4 :: o5 :: o6 :: o7 :: o8 :: o9 :: some (ev3 A B C) :: o11 :: some (.ref 1) :: some (.int F) :: rest) [cup x' y', .lst (vs ++ [ev3 X Y Z])]) := by
  obtain ⟨r1, x1, y1, d1, g1, p1, q1⟩ := roll_ok (k + 28) (many := 3) [.lst vs] h (by omega) (lt2.mono (n := 6) (by unfold lt2; decide) (by decide))
  obtain ⟨r2, x2, y2, d2, g2, p2, q2⟩ := roll_ok (k + 28) (many := 3) [.lst vs] g1 (by omega) (lt2.mono (n := 6) (by unfold lt2; decide) (by decide))
  obtain ⟨r3, x3, y3, d3, g3, p3, q3⟩ := roll_ok (k + 28) (many := 3) [.lst vs] g2 (by omega) (lt2.mono (n := 6) (by unfold lt2; decide) (by decide))
  have x0 := ep.x
  have z0 := ep.z
  have hA : A * 1000000 ≤ A * F ∧ A * F ≤ 9 * 10000000000000000000000000 := ⟨Int.mul_le_mul_of_nonneg_left f1 (by omega), Int.mul_le_mul a1 f2 (by omega) (by decide)⟩
  have hC : C * 1000000 ≤ C * F ∧ C * F ≤ 9 * 10000000000000000000000000 := ⟨Int.mul_le_mul_of_nonneg_left f1 (by omega), Int.mul_le_mul c1 f2 (by omega) (by decide)⟩
  have hB : B * F ≤ 9 * F ∧ -9 * F ≤ B * F := ⟨Int.mul_le_mul_of_nonneg_right b2 (by omega), Int.mul_le_mul_of_nonneg_right b1 (by omega)⟩
  have m1 : mulOk A F = true := mulOk_a (by omega)
  have m2 : mulOk B F = true := mulOk_a (by omega)
  have m3 : mulOk C F = true := mulOk_a (by omega)
  have e90 : (100000000000000000000000000 : Nat) < 2 ^ 90 := by decide +kernel
  obtain ⟨u1, X, Y, Z, u0, e1, e2, e3, ep', z1, z2, z3, pl⟩ := plain5 (x := A * F + r1 - 1) (y := B * F + r2 - 1) (z := C * F + r3) (n := 90) (by omega) (by omega) (by unfold lt2; omega) (by unfold lt2; omega) (by decide)
  refine ⟨x3, y3, X, Y, Z, g3, ⟨ep', by omega, by omega, by omega, by omega⟩, fun o0 o2 o3 o4 o5 o6 o7 o8 o9 o11 rest => ?_⟩
  have i0 : ∀ M, idxOp M (ev3 A B C) (.int 0) = some (.int A) := fun M => idx_tup0 _ _ _
  have i1 : ∀ M, idxOp M (ev3 A B C) (.int 1) = some (.int B) := fun M => idx_tup1 _ _ _ _
  have i2 : ∀ M, idxOp M (ev3 A B C) (.int 2) = some (.int C) := fun M => idx_tup2 _ _ _ _ _
  have z4 : vs.length < 16777216 := by omega
  unfold nrB
  clear e1 e2 e3 ep' ep z1 z2 z3 e90 hA hB hC u0 x0 z0 p1 p2 p3 q1 q2 q3 g1 g2 g3 h a1 b1 b2 c1 f1 f2 hv
  simp -implicitDefEqProofs only [execs, exec, eval, evals, evalI, conds, bnd_some, bnd_none, bifb_t, bifb_f, bifb_d, bifb_b, iff_t, iff_d, nxt_nx, nxt_rt, binop, cmpop, addOp_ii, addOp_tt, addOp_ll, subOp_ii, mulOp_ii, fdivOp_ii, modOp_ii, cmpI_ii, tru_bl, tru_int, absB_i, intB_i, asM_int, asM_bl, asM_tup, asM_false, isOp_n, isOp_bb, isNon_non, isNon_tup, isNon_int, isNon_bl, isNon_lst, isNon_ref, isNon_rol, isNon_str, isNon_fr, setAll_nil, setAll_cons, bindT_nm, bindT_tp, fin_rt, fin_nx, leave_same, bltOp, idx_tup0, idx_tup1, idx_tup2, idx_tup3, idx_lst0, idx_lst1, idx_lst2, idx_lst3, eqD_ii, eqD_bb, eqD_fr, Option.map_some, Option.map_none, Option.bind_some, List.getElem?_cons_zero, List.getElem?_cons_succ, List.set_cons_zero, List.set_cons_succ, List.length_cons, List.length_nil, if_true, if_false, decide_true, decide_false, Bool.not_true, Bool.not_false, decide_eq_true_eq, sizeL, Nat.reduceAdd, Nat.reduceLeDiff, Nat.zero_add, beq_self_eq_true, seqG_tup, seqG_lst, lenB_tup, lenB_lst, idx_cup0, idx_cup1, setAt0, setAt1, cup, isTy, Bool.false_eq_true, newL_f, newL_t, fin_rtk, List.nil_append, wipeE, Int.reduceNe, Int.reduceEq, Int.reduceLT, Int.reduceLE, Int.reduceAdd, Int.reduceSub, Int.reduceMul, Int.reduceNeg, Int.reduceGT, cmpop, *]
def cmB : Ss := (Ss.cons (.ite (.not (.call 33 (.cons (.var 10) (.cons (.var 14) .nil)))) (.cons (.ret (.cst (.bl false))) .nil) .nil) .nil)
theorem cmp_step (k : Nat) {A B C X Y Z : Int} (h : Ed A B C) (g : Ed X Y Z) (M : Mem) (o0 o1 o2 o3 o4 o5 o6 o7 o8 o9 o11 o12 o13 : Option PV) (rest : Env) :
    execs (callN prog W (k + 29)) W cmB (o0 :: o1 :: o2 :: o3 :: o4 :: o5 :: o6 :: o7 :: o8 :: o9 :: some (ev3 A B C) :: o11 :: o12 :: o13 :: some (ev3 X Y Z) :: rest) M =
      some (.nx (o0 :: o1 :: o2 :: o3 :: o4 :: o5 :: o6 :: o7 :: o8 :: o9 :: some (ev3 A B C) :: o11 :: o12 :: o13 :: some (ev3 X Y Z) :: rest) M) := by
  have cr := cright5 (k + 9) h g M
  unfold cmB
  clear h g
  walk_at "evf"

/-! ### the law, whole -/
def lawT10 : Ss := (Ss.cons (.par 10 11 (.call 28 (.cons (.var 1) (.cons (.cst (.int (9))) .nil))) (.call 28 (.cons (.var 1) (.cons (.cst (.int (9))) .nil)))) (.cons (.set 12 (.lst true .nil)) (.cons (.for_ (.nm 13) (.seq (.tup (.cons (.bin .pow false (.cst (.int (10))) (.cst (.int (6)))) (.cons (.bin .pow false (.cst (.int (10))) (.cst (.int (15)))) (.cons (.bin .pow false (.cst (.int (10))) (.cst (.int (25)))) .nil))))) (.cons (.exp (.app (.var 12) (.call 27 (.cons (.bin .sub false (.bin .add false (.bin .mul false (.idx (.var 10) (.cst (.int (0)))) (.var 13)) (.call 22 (.cons (.var 1) (.cons (.cst (.int (3))) .nil)))) (.cst (.int (1)))) (.cons (.bin .sub false (.bin .add false (.bin .mul false (.idx (.var 10) (.cst (.int (1)))) (.var 13)) (.call 22 (.cons (.var 1) (.cons (.cst (.int (3))) .nil)))) (.cst (.int (1)))) (.cons (.bin .add false (.bin .mul false (.idx (.var 10) (.cst (.int (2)))) (.var 13)) (.call 22 (.cons (.var 1) (.cons (.cst (.int (3))) .nil)))) .nil)))))) .nil)) (.cons (.for_ (.nm 14) (.seq (.bin .add false (.var 12) (.lst false (.cons (.var 11) (.cons (.var 10) (.cons (.call 28 (.cons (.var 1) (.cons (.bin .pow false (.cst (.int (10))) (.cst (.int (9)))) .nil))) (.cons (.call 28 (.cons (.var 1) (.cons (.bin .pow false (.cst (.int (10))) (.cst (.int (30)))) .nil))) .nil))))))) (.cons (.ite (.not (.call 33 (.cons (.var 10) (.cons (.var 14) .nil)))) (.cons (.ret (.cst (.bl false))) .nil) .nil) .nil)) (.cons (.set 15 (.bin .add false (.cst (.int (1))) (.call 22 (.cons (.var 1) (.cons (.bin .pow false (.cst (.int (10))) (.cst (.int (12)))) .nil))))) (.cons (.set 16 (.call 30 (.cons (.var 15) .nil))) (.cons (.set 2 (.lst false (.cons (.call 19 (.cons (.tup (.cons (.cst (.int (1))) (.cons (.cst (.int (0))) (.cons (.var 15) .nil)))) .nil)) (.cons (.call 20 (.cons (.tup (.cons (.cst (.int (1))) (.cons (.cst (.int (0))) (.cons (.var 15) .nil)))) (.cons (.cst (.int (0))) .nil))) (.cons (.call 20 (.cons (.tup (.cons (.cst (.int (1))) (.cons (.cst (.int (0))) (.cons (.bin .mul false (.cst (.int (100))) (.var 15)) .nil)))) (.cons (.cst (.int (7))) .nil))) .nil))))) (.cons (.ret (.call 24 (.cons (.var 2) (.cons (.lst false (.cons (.ite (.cmp .eq (.bin .mul false (.var 16) (.var 16)) (.var 15)) (.tup (.cons (.var 16) (.cons (.cst (.int (1))) .nil))) (.cst .non)) (.cons (.var 16) (.cons (.call 20 (.cons (.tup (.cons (.cst (.int (1))) (.cons (.cst (.int (0))) (.cons (.var 15) .nil)))) (.cons (.cst (.int (8))) .nil))) .nil)))) .nil)))) .nil))))))))
theorem law_mid (k : Nat) {x y : Int} (h : CupB x y) (e0 : Option PV) (v : PV) : ∃ x' y' v3 v4 v5 v6 v7 v8 v9, CupB x' y' ∧ execs (callN prog W (k + 29)) W lawT7 [e0, some (.ref 0), some v, none, none, none, none, none, none, none, none, none, none, none, none, none, none, none] [cup x y] = execs (callN prog W (k + 29)) W lawT10 [e0, some (.ref 0), some v, some v3, some v4, some v5, some v6, some v7, some v8, some v9, none, none, none, none, none, none, none, none] [cup x' y'] := by
  obtain ⟨x1, y1, c1, S1⟩ := siz5 k 3 h (by decide) (by decide) 3 rfl
  obtain ⟨x2, y2, c2, S2⟩ := siz5 k 20 c1 (by decide) (by decide) 20 rfl
  obtain ⟨x3, y3, c3, S3⟩ := siz5 k 1000000 c2 (by decide) (by decide) 1000000 rfl
  obtain ⟨x4, y4, c4, S4⟩ := siz5 k 100000000000000000000 c3 (by decide) (by decide) 100000000000000000000 rfl
  obtain ⟨r1, x5, y5, d1, c5, p5, q5⟩ := roll_ok (k + 28) (many := 40) [] c4 (by omega) (lt2.mono (n := 6) (by unfold lt2; decide) (by decide))
  obtain ⟨r2, x6, y6, d2, c6, p6, q6⟩ := roll_ok (k + 28) (many := 20) [] c5 (by omega) (lt2.mono (n := 6) (by unfold lt2; decide) (by decide))
  have d3 := l_least_ok (k + 28) (1 + r1) (1 + r2) [cup x6 y6] (n := 6) (lt2_of (m := 21) (by omega) (by decide)) (by omega) (by decide)
  have np := num_pos (a := 1 + r1) (b := 1 + r2) (by omega) (by omega)
  obtain ⟨n1, n2⟩ := low_le (1 + r1) (1 + r2) (by omega)
  have g1 : (Rat.divInt (1 + r1) (1 + r2)).num ≤ 40 := by omega
  have g2 : ((Rat.divInt (1 + r1) (1 + r2)).den : Int) ≤ 20 := by omega
  clear n1 n2
  generalize Rat.divInt (1 + r1) (1 + r2) = f at *
  obtain ⟨x7, y7, a7, a8, a9, c7, F1⟩ := frac5 k c6 np g1 g2
  obtain ⟨x8, y8, b7, b8, b9, c8, F2⟩ := frac5 k c7 np g1 g2
  have p6' : powOp (.int 10) (.int 6) = some (.int 1000000) := by rfl
  have p20 : powOp (.int 10) (.int 20) = some (.int 100000000000000000000) := by rfl
  have bd : ∀ (e : Env), bindT (.tp [4, 5]) (fr f) e = some ((e.set 4 (some (.int f.num))).set 5 (some (.int f.den))) := fun e => rfl
  have er : rngI 0 (Int.toNat 2) = [.int 0, .int 1] := rfl
  have eg : (decide (-2 ^ 62 ≤ (0 : Int)) && decide ((0 : Int) < 2 ^ 62) && decide (-2 ^ 62 ≤ (2 : Int)) && decide ((2 : Int) < 2 ^ 62)) = true := rng_gd (by decide) (by decide) (by decide) (by decide)
  refine ⟨x8, y8, .int 100000000000000000000, .int f.num, .int f.den, .int 1, b7, b8, b9, c8, ?_⟩
  unfold lawT7
  rw [show (Ss.cons (.ite (.not (.call 32 (.cons (.var 1) (.cons (.call 28 (.cons (.var 1) (.cons (.var 3) .nil))) .nil)))) (.cons (.ret (.cst (.bl false))) .nil) .nil) .nil) = szB from rfl, show (Ss.cons (.asg (.tp [7, 8]) (.call 25 (.cons (.bin .add false (.cst (.int (1))) (.call 22 (.cons (.var 1) (.cons (.cst (.int (40))) .nil)))) (.cons (.bin .add false (.cst (.int (1))) (.call 22 (.cons (.var 1) (.cons (.cst (.int (20))) .nil)))) .nil)))) (.cons (.set 9 (.call 27 (.cons (.bin .mul false (.var 5) (.var 8)) (.cons (.bin .sub false (.bin .mul false (.var 5) (.var 7)) (.bin .mul false (.var 4) (.var 8))) (.cons (.bin .mul false (.var 4) (.var 7)) .nil))))) (.cons (.ite (.or (.not (.call 32 (.cons (.var 1) (.cons (.var 9) .nil)))) (.not (.call 24 (.cons (.call 19 (.cons (.var 9) .nil)) (.cons (.tup (.cons (.var 4) (.cons (.var 5) .nil))) .nil))))) (.cons (.ret (.cst (.bl false))) .nil) .nil) (.cons (.ite (.or (.not (.call 33 (.cons (.var 9) (.cons (.call 27 (.cons (.cst (.int (1))) (.cons (.cst (.int (0))) (.cons (.cst (.int (1))) .nil)))) .nil)))) (.not (.call 24 (.cons (.call 18 (.cons (.var 9) (.cons (.call 27 (.cons (.bin .mul false (.var 5) (.var 5)) (.cons (.cst (.int (0))) (.cons (.bin .mul false (.var 4) (.var 4)) .nil)))) .nil))) (.cons (.cst (.str "same")) .nil))))) (.cons (.ret (.cst (.bl false))) .nil) .nil) .nil)))) = frB from rfl]
  show execs (callN prog W (k + 29)) W (.cons _ (.cons _ (.cons _ lawT10))) _ _ = _
  generalize lawT10 = rest
  generalize szB = sB at *
  generalize frB = fB at *
  clear np g1 g2 c1 c2 c3 c4 c5 c6 c7 c8 h p5 q5 p6 q6
  have e2 : ((2 : Int) - 0) = 2 := rfl
  simp -implicitDefEqProofs only [execs, exec, eval, evals, evalI, conds, bnd_some, bnd_none, bifb_t, bifb_f, bifb_d, bifb_b, iff_t, iff_d, nxt_nx, nxt_rt, binop, cmpop, addOp_ii, addOp_tt, addOp_ll, subOp_ii, mulOp_ii, fdivOp_ii, modOp_ii, cmpI_ii, tru_bl, tru_int, absB_i, intB_i, asM_int, asM_bl, asM_tup, asM_false, isOp_n, isOp_bb, isNon_non, isNon_tup, isNon_int, isNon_bl, isNon_lst, isNon_ref, isNon_rol, isNon_str, isNon_fr, setAll_nil, setAll_cons, bindT_nm, bindT_tp, fin_rt, fin_nx, leave_same, bltOp, idx_tup0, idx_tup1, idx_tup2, idx_tup3, idx_lst0, idx_lst1, idx_lst2, idx_lst3, eqD_ii, eqD_bb, eqD_fr, Option.map_some, Option.map_none, Option.bind_some, List.getElem?_cons_zero, List.getElem?_cons_succ, List.set_cons_zero, List.set_cons_succ, List.length_cons, List.length_nil, if_true, if_false, decide_true, decide_false, Bool.not_true, Bool.not_false, decide_eq_true_eq, sizeL, Nat.reduceAdd, Nat.reduceLeDiff, Nat.zero_add, beq_self_eq_true, seqG_tup, seqG_lst, lenB_tup, lenB_lst, idx_cup0, idx_cup1, setAt0, setAt1, cup, isTy, Bool.false_eq_true, newL_f, newL_t, fin_rtk, List.nil_append, wipeE, Int.reduceNe, Int.reduceEq, Int.reduceLT, Int.reduceLE, Int.reduceAdd, Int.reduceSub, Int.reduceMul, Int.reduceNeg, Int.reduceGT, forL_n, forL_c, List.cons_append, cmpop, *]

theorem addOp_7 (c : Cell) (a b d e f g i : PV) : addOp [c, .lst [a, b, d]] (.ref 1) (.lst [e, f, g, i]) = some (.lst [a, b, d, e, f, g, i]) := rfl
theorem law_end5 (k : Nat) {x y : Int} (h : CupB x y) (e0 e2 e3 e4 e5 e6 e7 e8 e9 : Option PV) : ∃ M', fin false 0 (execs (callN prog W (k + 29)) W lawT10 [e0, some (.ref 0), e2, e3, e4, e5, e6, e7, e8, e9, none, none, none, none, none, none, none, none] [cup x y]) = some (.bl true, M') := by
  obtain ⟨A, B, C, x1, y1, d1, c1, ep, a1, a2, a3, a4⟩ := drawn5 (k + 26) 9 [] h (by decide) (by decide)
  obtain ⟨A', B', C', x2, y2, d2, c2, ep', a1', a2', a3', a4'⟩ := drawn5 (k + 26) 9 [] c1 (by decide) (by decide)
  have hO : Ed A B C := ⟨ep, by omega, by omega, by omega, by omega⟩
  have hP : Ed A' B' C' := ⟨ep', by omega, by omega, by omega, by omega⟩
  have nc9 : ((9 : Nat) : Int) = 9 := rfl
  rw [nc9] at d1 d2
  obtain ⟨x3, y3, X1, Y1, Z1, c3, h1, N1⟩ := near5 k c2 ep (by omega) (by omega) (by omega) (by omega) (F := 1000000) (by decide) (by decide) [] (by decide)
  obtain ⟨x4, y4, X2, Y2, Z2, c4, h2, N2⟩ := near5 k c3 ep (by omega) (by omega) (by omega) (by omega) (F := 1000000000000000) (by decide) (by decide) [ev3 X1 Y1 Z1] (by simp)
  obtain ⟨x5, y5, X3, Y3, Z3, c5, h3, N3⟩ := near5 k c4 ep (by omega) (by omega) (by omega) (by omega) (F := 10000000000000000000000000) (by decide) (by decide) [ev3 X1 Y1 Z1, ev3 X2 Y2 Z2] (by simp)
  obtain ⟨X4, Y4, Z4, x6, y6, d3, c6, ep4, q1, q2, q3, q4⟩ := drawn5 (k + 26) 1000000000 [.lst [ev3 X1 Y1 Z1, ev3 X2 Y2 Z2, ev3 X3 Y3 Z3]] c5 (by decide) (by decide)
  obtain ⟨X5, Y5, Z5, x7, y7, d4, c7, ep5, q5, q6, q7, q8⟩ := drawn5 (k + 26) 1000000000000000000000000000000 [.lst [ev3 X1 Y1 Z1, ev3 X2 Y2 Z2, ev3 X3 Y3 Z3]] c6 (by decide) (by decide)
  have h4 : Ed X4 Y4 Z4 := ⟨ep4, by omega, by omega, by omega, by omega⟩
  have h5 : Ed X5 Y5 Z5 := ⟨ep5, by omega, by omega, by omega, by omega⟩
  have nb9 : ((1000000000 : Nat) : Int) = 1000000000 := rfl
  have nb30 : ((1000000000000000000000000000000 : Nat) : Int) = 1000000000000000000000000000000 := rfl
  rw [nb9] at d3
  rw [nb30] at d4
  have g1 := cmp_step k hO h1
  have g2 := cmp_step k hO h2
  have g3 := cmp_step k hO h3
  have g4 := cmp_step k hO hP
  have g5 := cmp_step k hO hO
  have g6 := cmp_step k hO h4
  have g7 := cmp_step k hO h5
  obtain ⟨r, x8, y8, d5, c8, p1, p2⟩ := roll_ok (k + 28) (many := 1000000000000) [.lst [ev3 X1 Y1 Z1, ev3 X2 Y2 Z2, ev3 X3 Y3 Z3]] c7 (by omega) (lt2.mono (n := 42) (by unfold lt2; decide) (by decide))
  -- the root
  have e42 : (1000000000000 : Nat) < 2 ^ 42 := by decide
  have w0 : 0 < 1 + r := by omega
  have hW : Ed 1 0 (1 + r) := ⟨Ep_root w0, by decide, by decide, by decide, by omega⟩
  have hW2 : Ed 1 0 (100 * (1 + r)) := ⟨Ep_root (by omega), by decide, by decide, by decide, by omega⟩
  obtain ⟨s, hs, -, -, rb⟩ := roots (1 + r) 22 (by omega) (by unfold lt2; omega) (by decide)
  obtain ⟨R, hR, -⟩ := rt5 hW
  have af := fun k M => as_fraction5 hW hR k M
  rw [fr_root hs hR] at af
  obtain ⟨R1, b1, fl1, -, eb1⟩ := end_below5 hW 0 (by decide)
  obtain ⟨R2, b2, fl2, -, eb2⟩ := end_below5 hW2 7 (by decide)
  obtain ⟨R3, b3, fl3, -, eb3⟩ := end_below5 hW 8 (by decide)
  have f1 := Fl_root w0 (tn_pos 0) fl1
  have f2 := Fl_root (by omega) (tn_pos 7) fl2
  have f3 := Fl_root w0 (tn_pos 8) fl3
  have t0 : tn 0 = 1 := rfl
  have t7 : tn 7 = 10000000 := by decide
  have t8 : tn 8 = 100000000 := by decide
  rw [t0, Int.mul_one, Int.mul_one] at f1
  rw [t7] at f2
  rw [t8] at f3
  rw [show 100 * (1 + r) * 10000000 * 10000000 = (1 + r) * 100000000 * 100000000 by omega] at f2
  have E1 : b1 = s := IsR_uniq f1 hs
  have E2 : b3 = b2 := IsR_uniq f3 f2
  rw [E1] at eb1
  rw [E2] at eb3
  replace eb1 : ∀ k M, callN prog W (k + 4) 20 [.tup [.int 1, .int 0, .int (1 + r)], .int 0] M = some (.int s, M) := eb1
  replace eb2 : ∀ k M, callN prog W (k + 4) 20 [.tup [.int 1, .int 0, .int (100 * (1 + r))], .int 7] M = some (.int b2, M) := eb2
  replace eb3 : ∀ k M, callN prog W (k + 4) 20 [.tup [.int 1, .int 0, .int (1 + r)], .int 8] M = some (.int b2, M) := eb3
  replace af : ∀ k M, callN prog W (k + 4) 19 [.tup [.int 1, .int 0, .int (1 + r)]] M = some (if s * s = 1 + r then .tup [.int s, .int 1] else .non, M) := af
  have ms : mulOk s s = true := by
    have : s.natAbs < 2 ^ 64 := by
      have h1 := hs.2.1
      have h0 := hs.1
      have : s < 10000000 := by
        apply Int.not_le.mp
        intro q
        have : (10000000 : Int) * 10000000 ≤ s * s := Int.mul_le_mul q q (by decide) h0
        omega
      omega
    exact mulOk_a this
  have mh : mulOk 100 (1 + r) = true := mulOk_a (by decide)
  have l1 := fun k M => like_ok (k + 2) (.lst [.tup [.int s, .int 1], .int s, .int b2]) M rfl (Nat.le_add_left 2 k)
  have l2 := fun k M => like_ok (k + 2) (.lst [.non, .int s, .int b2]) M rfl (Nat.le_of_ble_eq_true rfl)
  have a7 := fun c => addOp_7 c (ev3 X1 Y1 Z1) (ev3 X2 Y2 Z2) (ev3 X3 Y3 Z3) (ev3 A' B' C') (ev3 A B C) (ev3 X4 Y4 Z4) (ev3 X5 Y5 Z5)
  have p6' : powOp (.int 10) (.int 6) = some (.int 1000000) := by rfl
  have p15 : powOp (.int 10) (.int 15) = some (.int 1000000000000000) := by rfl
  have p25 : powOp (.int 10) (.int 25) = some (.int 10000000000000000000000000) := by rfl
  have p9 : powOp (.int 10) (.int 9) = some (.int 1000000000) := by rfl
  have p30 : powOp (.int 10) (.int 30) = some (.int 1000000000000000000000000000000) := by rfl
  have p12 : powOp (.int 10) (.int 12) = some (.int 1000000000000) := by rfl
  have lv : ∀ (c c' : Cell), leave 0 (.bl true) [c, c'] = some (.bl true, []) := fun c c' => rfl
  refine ⟨[], ?_⟩
  unfold lawT10
  rw [show (Ss.cons (.exp (.app (.var 12) (.call 27 (.cons (.bin .sub false (.bin .add false (.bin .mul false (.idx (.var 10) (.cst (.int (0)))) (.var 13)) (.call 22 (.cons (.var 1) (.cons (.cst (.int (3))) .nil)))) (.cst (.int (1)))) (.cons (.bin .sub false (.bin .add false (.bin .mul false (.idx (.var 10) (.cst (.int (1)))) (.var 13)) (.call 22 (.cons (.var 1) (.cons (.cst (.int (3))) .nil)))) (.cst (.int (1)))) (.cons (.bin .add false (.bin .mul false (.idx (.var 10) (.cst (.int (2)))) (.var 13)) (.call 22 (.cons (.var 1) (.cons (.cst (.int (3))) .nil)))) .nil)))))) .nil) = nrB from rfl, show (Ss.cons (.ite (.not (.call 33 (.cons (.var 10) (.cons (.var 14) .nil)))) (.cons (.ret (.cst (.bl false))) .nil) .nil) .nil) = cmB from rfl]
  generalize nrB = nB at *
  generalize cmB = cB at *
  clear h c1 c2 c3 c4 c5 c6 c7 c8 ep ep' ep4 ep5 a1 a2 a3 a4 a1' a2' a3' a4' q1 q2 q3 q4 q5 q6 q7 q8 hO hP h1 h2 h3 h4 h5 nc9 nb9 nb30 p1 p2 e42 w0 hW hW2 hs hR fl1 fl2 fl3 f1 f2 f3 t0 t7 t8 E1 E2
  by_cases hq : s * s = 1 + r
  · rw [if_pos hq] at af
    simp -implicitDefEqProofs only [execs, exec, eval, evals, evalI, conds, bnd_some, bnd_none, bifb_t, bifb_f, bifb_d, bifb_b, iff_t, iff_d, nxt_nx, nxt_rt, binop, cmpop, addOp_ii, addOp_tt, addOp_ll, subOp_ii, mulOp_ii, fdivOp_ii, modOp_ii, cmpI_ii, tru_bl, tru_int, absB_i, intB_i, asM_int, asM_bl, asM_tup, asM_false, isOp_n, isOp_bb, isNon_non, isNon_tup, isNon_int, isNon_bl, isNon_lst, isNon_ref, isNon_rol, isNon_str, isNon_fr, setAll_nil, setAll_cons, bindT_nm, bindT_tp, fin_rt, fin_nx, leave_same, bltOp, idx_tup0, idx_tup1, idx_tup2, idx_tup3, idx_lst0, idx_lst1, idx_lst2, idx_lst3, eqD_ii, eqD_bb, eqD_fr, Option.map_some, Option.map_none, Option.bind_some, List.getElem?_cons_zero, List.getElem?_cons_succ, List.set_cons_zero, List.set_cons_succ, List.length_cons, List.length_nil, if_true, if_false, decide_true, decide_false, Bool.not_true, Bool.not_false, decide_eq_true_eq, sizeL, Nat.reduceAdd, Nat.reduceLeDiff, Nat.zero_add, beq_self_eq_true, seqG_tup, seqG_lst, lenB_tup, lenB_lst, idx_cup0, idx_cup1, setAt0, setAt1, cup, isTy, Bool.false_eq_true, newL_f, newL_t, fin_rtk, List.nil_append, wipeE, Int.reduceNe, Int.reduceEq, Int.reduceLT, Int.reduceLE, Int.reduceAdd, Int.reduceSub, Int.reduceMul, Int.reduceNeg, Int.reduceGT, forL_n, forL_c, List.cons_append, cmpop, *]
  · rw [if_neg hq] at af
    simp -implicitDefEqProofs only [execs, exec, eval, evals, evalI, conds, bnd_some, bnd_none, bifb_t, bifb_f, bifb_d, bifb_b, iff_t, iff_d, nxt_nx, nxt_rt, binop, cmpop, addOp_ii, addOp_tt, addOp_ll, subOp_ii, mulOp_ii, fdivOp_ii, modOp_ii, cmpI_ii, tru_bl, tru_int, absB_i, intB_i, asM_int, asM_bl, asM_tup, asM_false, isOp_n, isOp_bb, isNon_non, isNon_tup, isNon_int, isNon_bl, isNon_lst, isNon_ref, isNon_rol, isNon_str, isNon_fr, setAll_nil, setAll_cons, bindT_nm, bindT_tp, fin_rt, fin_nx, leave_same, bltOp, idx_tup0, idx_tup1, idx_tup2, idx_tup3, idx_lst0, idx_lst1, idx_lst2, idx_lst3, eqD_ii, eqD_bb, eqD_fr, Option.map_some, Option.map_none, Option.bind_some, List.getElem?_cons_zero, List.getElem?_cons_succ, List.set_cons_zero, List.set_cons_succ, List.length_cons, List.length_nil, if_true, if_false, decide_true, decide_false, Bool.not_true, Bool.not_false, decide_eq_true_eq, sizeL, Nat.reduceAdd, Nat.reduceLeDiff, Nat.zero_add, beq_self_eq_true, seqG_tup, seqG_lst, lenB_tup, lenB_lst, idx_cup0, idx_cup1, setAt0, setAt1, cup, isTy, Bool.false_eq_true, newL_f, newL_t, fin_rtk, List.nil_append, wipeE, Int.reduceNe, Int.reduceEq, Int.reduceLT, Int.reduceLE, Int.reduceAdd, Int.reduceSub, Int.reduceMul, Int.reduceNeg, Int.reduceGT, forL_n, forL_c, List.cons_append, cmpop, *]
def noneE : Nat → Env
  | 0 => []
  | n + 1 => none :: noneE n
theorem law_ok (k : Nat) (ns : List Int) (hl : ns.length ≤ 63) : ∃ M', callN prog W (k + 30) 34 [.rol (ns.map PV.int)] [] = some (.bl true, M') := by
  obtain ⟨x, y, e1, c0⟩ := cup_ok (k + 28) ns hl
  obtain ⟨v, H1⟩ := law_head (k + 9) [cup x y] (some (.rol (ns.map PV.int))) none none none none none none none none none none none none none none
  obtain ⟨x2, y2, v3, v4, v5, v6, v7, v8, v9, c2, H2⟩ := law_mid k c0 (some (.rol (ns.map PV.int))) v
  obtain ⟨M', H3⟩ := law_end5 k c2 (some (.rol (ns.map PV.int))) (some v) (some v3) (some v4) (some v5) (some v6) (some v7) (some v8) (some v9)
  refine ⟨M', ?_⟩
  rw [u_law]
  unfold m_law
  show fin false 0 (execs (callN prog W (k + 29)) W (.cons (.set 1 (.call 21 (.cons (.var 0) .nil))) lawT1) [some (.rol (ns.map PV.int)), none, none, none, none, none, none, none, none, none, none, none, none, none, none, none, none, none] []) = _
  have H0 : execs (callN prog W (k + 29)) W (.cons (.set 1 (.call 21 (.cons (.var 0) .nil))) lawT1) [some (.rol (ns.map PV.int)), none, none, none, none, none, none, none, none, none, none, none, none, none, none, none, none, none] [] = execs (callN prog W (k + 29)) W lawT1 [some (.rol (ns.map PV.int)), some (.ref 0), none, none, none, none, none, none, none, none, none, none, none, none, none, none, none, none] [cup x y] := by
    clear H1 H2 H3 c0 c2 hl
    generalize lawT1 = rest
    simp -implicitDefEqProofs only [execs, exec, eval, evals, evalI, conds, bnd_some, bnd_none, bifb_t, bifb_f, bifb_d, bifb_b, iff_t, iff_d, nxt_nx, nxt_rt, binop, cmpop, addOp_ii, addOp_tt, addOp_ll, subOp_ii, mulOp_ii, fdivOp_ii, modOp_ii, cmpI_ii, tru_bl, tru_int, absB_i, intB_i, asM_int, asM_bl, asM_tup, asM_false, isOp_n, isOp_bb, isNon_non, isNon_tup, isNon_int, isNon_bl, isNon_lst, isNon_ref, isNon_rol, isNon_str, isNon_fr, setAll_nil, setAll_cons, bindT_nm, bindT_tp, fin_rt, fin_nx, leave_same, bltOp, idx_tup0, idx_tup1, idx_tup2, idx_tup3, idx_lst0, idx_lst1, idx_lst2, idx_lst3, eqD_ii, eqD_bb, eqD_fr, Option.map_some, Option.map_none, Option.bind_some, List.getElem?_cons_zero, List.getElem?_cons_succ, List.set_cons_zero, List.set_cons_succ, List.length_cons, List.length_nil, if_true, if_false, decide_true, decide_false, Bool.not_true, Bool.not_false, decide_eq_true_eq, sizeL, Nat.reduceAdd, Nat.reduceLeDiff, Nat.zero_add, beq_self_eq_true, seqG_tup, seqG_lst, lenB_tup, lenB_lst, idx_cup0, idx_cup1, setAt0, setAt1, cup, isTy, Bool.false_eq_true, newL_f, newL_t, fin_rtk, List.nil_append, wipeE, Int.reduceNe, Int.reduceEq, Int.reduceLT, Int.reduceLE, Int.reduceAdd, Int.reduceSub, Int.reduceMul, Int.reduceNeg, Int.reduceGT, *]
  rw [H0]
  have H1' : execs (callN prog W (k + 29)) W lawT1 [some (.rol (ns.map PV.int)), some (.ref 0), none, none, none, none, none, none, none, none, none, none, none, none, none, none, none, none] [cup x y] = _ := H1
  rw [H1']
  have H2' : execs (callN prog W (k + 9 + 20)) W lawT7 [some (.rol (ns.map PV.int)), some (.ref 0), some v, none, none, none, none, none, none, none, none, none, none, none, none, none, none, none] [cup x y] = _ := H2
  rw [H2']
  exact H3

end Lw

namespace Lw
open Ev
theorem pure {P : Prop} (ns : List Int) (hl : ns.length ≤ 63) (_ : P) : ∃ M', callN prog W 30 34 [.rol (ns.map PV.int)] [] = some (.bl true, M') := law_ok 0 ns hl
end Lw
namespace Lw
open PySem PySem.Spec PyProof.Rows L2 Ev
theorem law_end {P : Program} {w : World} {K : PySem.W.Frag} {mg : Str → Option Value} {fa : Addr} {W : Nat} (hfa : mg "law" = some (.ref fa)) (d_is_integer : DefOf K mg "is_integer" s_is_integer) (d_is_whole : DefOf K mg "is_whole" s_is_whole) (d_need_whole : DefOf K mg "need_whole" s_need_whole) (d_is_tuple_of : DefOf K mg "is_tuple_of" s_is_tuple_of) (d_divisor_of : DefOf K mg "divisor_of" s_divisor_of) (d_lowest : DefOf K mg "lowest" s_lowest) (d_fits_fraction : DefOf K mg "fits_fraction" s_fits_fraction) (d_need_fraction : DefOf K mg "need_fraction" s_need_fraction) (d_fits_end : DefOf K mg "fits_end" s_fits_end) (d_need_end : DefOf K mg "need_end" s_need_end) (d_sign_of : DefOf K mg "sign_of" s_sign_of) (d_beside_in : DefOf K mg "beside_in" s_beside_in) (d_compared : DefOf K mg "compared" s_compared) (d_root_below : DefOf K mg "root_below" s_root_below) (d_power_of_ten : DefOf K mg "power_of_ten" s_power_of_ten) (d_below_in : DefOf K mg "below_in" s_below_in) (d_is_end_number : DefOf K mg "is_end_number" s_is_end_number) (d_end_beside : DefOf K mg "end_beside" s_end_beside) (d_compare_ends : DefOf K mg "compare_ends" s_compare_ends) (d_end_as_fraction : DefOf K mg "end_as_fraction" s_end_as_fraction) (d_end_below : DefOf K mg "end_below" s_end_below) (d__law_cup : DefOf K mg "_law_cup" s__law_cup) (d__law_roll : DefOf K mg "_law_roll" s__law_roll) (d__law_sort : DefOf K mg "_law_sort" s__law_sort) (d__law_like : DefOf K mg "_law_like" s__law_like) (d__law_least : DefOf K mg "_law_least" s__law_least) (d__law_divisor : DefOf K mg "_law_divisor" s__law_divisor) (d__law_plain : DefOf K mg "_law_plain" s__law_plain) (d__law_drawn : DefOf K mg "_law_drawn" s__law_drawn) (d__law_is_end : DefOf K mg "_law_is_end" s__law_is_end) (d__law_below : DefOf K mg "_law_below" s__law_below) (d__law_beside : DefOf K mg "_law_beside" s__law_beside) (d__law_right : DefOf K mg "_law_right" s__law_right) (d__law_compared_right : DefOf K mg "_law_compared_right" s__law_compared_right) (d_law : DefOf K mg "law" s_law) (c_DIGITS : ∃ z u, mg "DIGITS" = some u ∧ RelV z u ∧ Con K k_DIGITS z) (c_FIGURES : ∃ z u, mg "FIGURES" = some u ∧ RelV z u ∧ Con K k_FIGURES z) (z_isinstance : mg "isinstance" = none) (z_bool : mg "bool" = none) (z_int : mg "int" = none) (z_len : mg "len" = none) (z_tuple : mg "tuple" = none) (z_abs : mg "abs" = none) (z_all : mg "all" = none) (z_range : mg "range" = none) (z_list : mg "list" = none) (z_str : mg "str" = none) (z_zip : mg "zip" = none) (z_max : mg "max" = none) (t_WORDS : TabAt K mg "WORDS" tb_WORDS) :
    ∃ fd : FuncData, (∀ (s : Shared) (v : Value), BindsTo s fd ⟨[v], []⟩ [("script", v)]) ∧ ∀ base : Heap, K.In base → base.Ns mainGlobals mg → FnOk P w K mg base CX0 30 fa fd ["script"] (spC K (callN prog W 30) 34) := by
  obtain ⟨f, fd, e1, F⟩ := id d_law
  obtain rfl : fa = f := by rw [hfa] at e1; cases e1; rfl
  refine ⟨fd, fun s v => ?_, fun base _ _ => fn_ok F sc_law rfl rfl rfl (b_law (tops (P := P) (w := w) (base := base) (W := W) d_is_integer d_is_whole d_need_whole d_is_tuple_of d_divisor_of d_lowest d_fits_fraction d_need_fraction d_fits_end d_need_end d_sign_of d_beside_in d_compared d_root_below d_power_of_ten d_below_in d_is_end_number d_end_beside d_compare_ends d_end_as_fraction d_end_below d__law_cup d__law_roll d__law_sort d__law_like d__law_least d__law_divisor d__law_plain d__law_drawn d__law_is_end d__law_below d__law_beside d__law_right d__law_compared_right d_law c_DIGITS c_FIGURES z_isinstance z_bool z_int z_len z_tuple z_abs z_all z_range z_list z_str z_zip z_max t_WORDS 29) fa)⟩
  obtain ⟨oc, od, kV, doc, pm, an, cdv, ct, osl, rfl, lk, hcd⟩ := F.ex
  exact .of_eq (bi_law _ _ _ _ _ _ [v] rfl)
end Lw
open PySem PySem.W PyProof.Rows L2 Ev
set_option maxHeartbeats 0 in
theorem PySem.Challenge.cw_endsmeasured_k50_whole_end_numbers_holds : PySem.Challenge.rw_endsmeasured_k50_whole_end_numbers.Holds := by
  w_on; o_law; k_head; (case hw => w_witness2)
  k_fill
  refine L2.walk_ofB (l := PySem.Challenge.rw_endsmeasured_k50_whole_end_numbers) (n := 63) (k := 30) (x := "script") (CX := fun _ => L2.CX0) (sp := fun w => spC _ (callN Lw.prog Lw.W 30) 34) rfl (by decide) rfl ⟨rfl, by decide, by decide⟩ (fun w h Y => PySem.W.kIn_of Y) ?F (fun _ _ a ns hl hb _ hS => let ⟨_, h⟩ := Lw.pure ns hl hb; law_sp hS h) (fun _ _ _ _ _ h => h)
  case F =>
    intro w mg fa h KX G hmg
    refine' Lw.law_end hmg (def_mk (x := "is_integer") (st := Lw.s_is_integer) KX G ?a0 ?l1 ?c2 ?k3)
      (def_mk (x := "is_whole") (st := Lw.s_is_whole) KX G ?a4 ?l5 ?c6 ?k7)
      (def_mk (x := "need_whole") (st := Lw.s_need_whole) KX G ?a8 ?l9 ?c10 ?k11)
      (def_mk (x := "is_tuple_of") (st := Lw.s_is_tuple_of) KX G ?a12 ?l13 ?c14 ?k15)
      (def_mk (x := "divisor_of") (st := Lw.s_divisor_of) KX G ?a16 ?l17 ?c18 ?k19)
      (def_mk (x := "lowest") (st := Lw.s_lowest) KX G ?a20 ?l21 ?c22 ?k23)
      (def_mk (x := "fits_fraction") (st := Lw.s_fits_fraction) KX G ?a24 ?l25 ?c26 ?k27)
      (def_mk (x := "need_fraction") (st := Lw.s_need_fraction) KX G ?a28 ?l29 ?c30 ?k31)
      (def_mk (x := "fits_end") (st := Lw.s_fits_end) KX G ?a32 ?l33 ?c34 ?k35)
      (def_mk (x := "need_end") (st := Lw.s_need_end) KX G ?a36 ?l37 ?c38 ?k39)
      (def_mk (x := "sign_of") (st := Lw.s_sign_of) KX G ?a40 ?l41 ?c42 ?k43)
      (def_mk (x := "beside_in") (st := Lw.s_beside_in) KX G ?a44 ?l45 ?c46 ?k47)
      (def_mk (x := "compared") (st := Lw.s_compared) KX G ?a48 ?l49 ?c50 ?k51)
      (def_mk (x := "root_below") (st := Lw.s_root_below) KX G ?a52 ?l53 ?c54 ?k55)
      (def_mk (x := "power_of_ten") (st := Lw.s_power_of_ten) KX G ?a56 ?l57 ?c58 ?k59)
      (def_mk (x := "below_in") (st := Lw.s_below_in) KX G ?a60 ?l61 ?c62 ?k63)
      (def_mk (x := "is_end_number") (st := Lw.s_is_end_number) KX G ?a64 ?l65 ?c66 ?k67)
      (def_mk (x := "end_beside") (st := Lw.s_end_beside) KX G ?a68 ?l69 ?c70 ?k71)
      (def_mk (x := "compare_ends") (st := Lw.s_compare_ends) KX G ?a72 ?l73 ?c74 ?k75)
      (def_mk (x := "end_as_fraction") (st := Lw.s_end_as_fraction) KX G ?a76 ?l77 ?c78 ?k79)
      (def_mk (x := "end_below") (st := Lw.s_end_below) KX G ?a80 ?l81 ?c82 ?k83)
      (def_mk (x := "_law_cup") (st := Lw.s__law_cup) KX G ?a84 ?l85 ?c86 ?k87)
      (def_mk (x := "_law_roll") (st := Lw.s__law_roll) KX G ?a88 ?l89 ?c90 ?k91)
      (def_mk (x := "_law_sort") (st := Lw.s__law_sort) KX G ?a92 ?l93 ?c94 ?k95)
      (def_mk (x := "_law_like") (st := Lw.s__law_like) KX G ?a96 ?l97 ?c98 ?k99)
      (def_mk (x := "_law_least") (st := Lw.s__law_least) KX G ?a100 ?l101 ?c102 ?k103)
      (def_mk (x := "_law_divisor") (st := Lw.s__law_divisor) KX G ?a104 ?l105 ?c106 ?k107)
      (def_mk (x := "_law_plain") (st := Lw.s__law_plain) KX G ?a108 ?l109 ?c110 ?k111)
      (def_mk (x := "_law_drawn") (st := Lw.s__law_drawn) KX G ?a112 ?l113 ?c114 ?k115)
      (def_mk (x := "_law_is_end") (st := Lw.s__law_is_end) KX G ?a116 ?l117 ?c118 ?k119)
      (def_mk (x := "_law_below") (st := Lw.s__law_below) KX G ?a120 ?l121 ?c122 ?k123)
      (def_mk (x := "_law_beside") (st := Lw.s__law_beside) KX G ?a124 ?l125 ?c126 ?k127)
      (def_mk (x := "_law_right") (st := Lw.s__law_right) KX G ?a128 ?l129 ?c130 ?k131)
      (def_mk (x := "_law_compared_right") (st := Lw.s__law_compared_right) KX G ?a132 ?l133 ?c134 ?k135)
      (def_mk (x := "law") (st := Lw.s_law) KX G ?a136 ?l137 ?c138 ?k139)
      (con_ofI KX G ?v140)
      (con_ofI KX G ?v141)
      (PySem.W.mg_none_of KX G ?z142)
      (PySem.W.mg_none_of KX G ?z143)
      (PySem.W.mg_none_of KX G ?z144)
      (PySem.W.mg_none_of KX G ?z145)
      (PySem.W.mg_none_of KX G ?z146)
      (PySem.W.mg_none_of KX G ?z147)
      (PySem.W.mg_none_of KX G ?z148)
      (PySem.W.mg_none_of KX G ?z149)
      (PySem.W.mg_none_of KX G ?z150)
      (PySem.W.mg_none_of KX G ?z151)
      (PySem.W.mg_none_of KX G ?z152)
      (PySem.W.mg_none_of KX G ?z153)
      (tab_of KX G ?v154 ?l155 ?e156 ?y157)
    (case a0 => k_is)
    (case l1 => k_is)
    (case c2 => k_is)
    (case k3 => k_is)
    (case a4 => k_is)
    (case l5 => k_is)
    (case c6 => k_is)
    (case k7 => k_is)
    (case a8 => k_is)
    (case l9 => k_is)
    (case c10 => k_is)
    (case k11 => k_is)
    (case a12 => k_is)
    (case l13 => k_is)
    (case c14 => k_is)
    (case k15 => k_is)
    (case a16 => k_is)
    (case l17 => k_is)
    (case c18 => k_is)
    (case k19 => k_is)
    (case a20 => k_is)
    (case l21 => k_is)
    (case c22 => k_is)
    (case k23 => k_is)
    (case a24 => k_is)
    (case l25 => k_is)
    (case c26 => k_is)
    (case k27 => k_is)
    (case a28 => k_is)
    (case l29 => k_is)
    (case c30 => k_is)
    (case k31 => k_is)
    (case a32 => k_is)
    (case l33 => k_is)
    (case c34 => k_is)
    (case k35 => k_is)
    (case a36 => k_is)
    (case l37 => k_is)
    (case c38 => k_is)
    (case k39 => k_is)
    (case a40 => k_is)
    (case l41 => k_is)
    (case c42 => k_is)
    (case k43 => k_is)
    (case a44 => k_is)
    (case l45 => k_is)
    (case c46 => k_is)
    (case k47 => k_is)
    (case a48 => k_is)
    (case l49 => k_is)
    (case c50 => k_is)
    (case k51 => k_is)
    (case a52 => k_is)
    (case l53 => k_is)
    (case c54 => k_is)
    (case k55 => k_is)
    (case a56 => k_is)
    (case l57 => k_is)
    (case c58 => k_is)
    (case k59 => k_is)
    (case a60 => k_is)
    (case l61 => k_is)
    (case c62 => k_is)
    (case k63 => k_is)
    (case a64 => k_is)
    (case l65 => k_is)
    (case c66 => k_is)
    (case k67 => k_is)
    (case a68 => k_is)
    (case l69 => k_is)
    (case c70 => k_is)
    (case k71 => k_is)
    (case a72 => k_is)
    (case l73 => k_is)
    (case c74 => k_is)
    (case k75 => k_is)
    (case a76 => k_is)
    (case l77 => k_is)
    (case c78 => k_is)
    (case k79 => k_is)
    (case a80 => k_is)
    (case l81 => k_is)
    (case c82 => k_is)
    (case k83 => k_is)
    (case a84 => k_is)
    (case l85 => k_is)
    (case c86 => k_is)
    (case k87 => k_is)
    (case a88 => k_is)
    (case l89 => k_is)
    (case c90 => k_is)
    (case k91 => k_is)
    (case a92 => k_is)
    (case l93 => k_is)
    (case c94 => k_is)
    (case k95 => k_is)
    (case a96 => k_is)
    (case l97 => k_is)
    (case c98 => k_is)
    (case k99 => k_is)
    (case a100 => k_is)
    (case l101 => k_is)
    (case c102 => k_is)
    (case k103 => k_is)
    (case a104 => k_is)
    (case l105 => k_is)
    (case c106 => k_is)
    (case k107 => k_is)
    (case a108 => k_is)
    (case l109 => k_is)
    (case c110 => k_is)
    (case k111 => k_is)
    (case a112 => k_is)
    (case l113 => k_is)
    (case c114 => k_is)
    (case k115 => k_is)
    (case a116 => k_is)
    (case l117 => k_is)
    (case c118 => k_is)
    (case k119 => k_is)
    (case a120 => k_is)
    (case l121 => k_is)
    (case c122 => k_is)
    (case k123 => k_is)
    (case a124 => k_is)
    (case l125 => k_is)
    (case c126 => k_is)
    (case k127 => k_is)
    (case a128 => k_is)
    (case l129 => k_is)
    (case c130 => k_is)
    (case k131 => k_is)
    (case a132 => k_is)
    (case l133 => k_is)
    (case c134 => k_is)
    (case k135 => k_is)
    (case a136 => k_is)
    (case l137 => k_is)
    (case c138 => k_is)
    (case k139 => k_is)
    (case v140 => k_is)
    (case v141 => k_is)
    (case z142 => k_is)
    (case z143 => k_is)
    (case z144 => k_is)
    (case z145 => k_is)
    (case z146 => k_is)
    (case z147 => k_is)
    (case z148 => k_is)
    (case z149 => k_is)
    (case z150 => k_is)
    (case z151 => k_is)
    (case z152 => k_is)
    (case z153 => k_is)
    (case v154 => k_is)
    (case l155 => k_is)
    (case e156 => rfl)
    (case y157 => decide)
