import PyProof.Rows.All
import HandS.ForMost
import PyProof.MaxThree
import HandS.IsInst
import HandS.TupAny
import HandS.Zip
import HandS.Wide
import HandS.Flow
import HandS.Sort
import HandS.Style
import HandS.Codes
import HandS.TupMul
import HandS.Dict
import HandS.TupLe
import HandS.Iter
import HandS.NoneIn
import KE.GoesMore
import HandS.SortInts
import PyProof.WalkInts
import PyProof.WalksMore
import KE.KDictZip
import HandS.SortRule
import HandS.Keys
import HandS.Words
import PySem.Challenge.RW_endsmeasured_k01_whole_currents_and_powe
import HandS.EndBits
set_option Elab.async false
set_option linter.all false
set_option maxRecDepth 100000
namespace Ev
open PySem PySem.Spec PyProof.Rows L2
theorem args_max4 (a b c d : Value) : argsOk "max" ⟨[a, b, c, d], []⟩ := by unfold argsOk; kernel_rfl
section
variable {prog : Program} {w : World} {A : Around} {E : Value → Shared → Prop} {s : Shared}
theorem call_max_four {a b c d : Value} {Q : Value → Shared → Prop}
    (h : wpAny (model prog w) A.in1 (pyIter (.ref s.heap.objs.size)) (fun it s₂ => ∃ I fp wr n P St bt, it = .ref I ∧ Walks prog w A.in1 I fp wr n P St ∧ St 0 s₂.heap ∧ (∀ b ∈ fp, b < s₂.heap.objs.size) ∧ 0 < n ∧ CmpOf prog w A.in1 .Gt P bt ∧
      ∀ v h' tk, P (argBest bt (n - 1)) v → (∀ b o, b ∉ wr → s₂.heap.get? b = some o → h'.get? b = some o) → Q v { s₂ with heap := h', toks := tk }) E
      { s with heap := s.heap.push { cls := .type "tuple", data := .seq #[a, b, c, d] } }) :
    wpAny (model prog w) A (call (.builtin "max") [a, b, c, d]) Q E s := by
  have hname : (toString "max" ++ toString ".loop" : String) = "max.loop" := by decide
  refine call_function_tree F.kind_max F.plain_max F.entry_max (args_max4 _ _ _ _) ?_
  show wpAny _ A.in1 (Builtin.Builtins.bindParams "max" ["key", "default"] 0 ⟨[], []⟩ >>= _) _ _ s
  refine wpAny_bind (wpAny_of_eq (show Builtin.Builtins.bindParams "max" ["key", "default"] 0 ⟨[], []⟩ = pure [none, none] from rfl) ?_)
  show wpAny _ A.in1 (newTuple [a, b, c, d] >>= _) _ _ s
  refine wpAny_bind (wpAny_newObj_type ?_)
  refine wpAny_bind (wpAny_mono h (fun it s₂ h₂ => ?_) fun _ _ e => e)
  obtain ⟨I, fp, wr, n, P, St, bt, rfl, W, hst, hfp, hn, hcmp, hQ⟩ := h₂
  refine wpAny_bind (wpAny_newObj_type ?_)
  have hSf : s₂.heap.objs.size ∉ fp := fun hm => Nat.lt_irrefl _ (hfp _ hm)
  rw [hname]
  refine wpAny_pure ⟨plainId_quiet F.plain_max_loop _, codeAny_max_loop_first W bt hcmp s₂.heap.objs.size hSf hn (W.frame _ _ _ hst fun b _ o e => Heap.get?_push_of_some _ e) (Heap.get?_push_size _ rfl) fun v h' tk hP hk => ?_⟩
  exact hQ v h' tk hP fun b o hbw e => hk b o hbw (Nat.ne_of_lt (Heap.lt_size e)) (Heap.get?_push_of_some _ e)
theorem max_four_ints {a b c d : Int} {t u x y : Tok} {Q : Value → Shared → Prop} (hh : A.handled = none)
    (h : ∀ h' tk m t', (∀ d o, s.heap.get? d = some o → h'.get? d = some o) → m ∈ [a, b, c, d] → (∀ z ∈ [a, b, c, d], z ≤ m) → Q (.int m t') { s with heap := h', toks := tk }) :
    wpAny (model prog w) A (call (.builtin "max") [.int a t, .int b u, .int c x, .int d y]) Q E s := by
  have hT : (s.heap.push { cls := .type "tuple", data := .seq #[.int a t, .int b u, .int c x, .int d y] }).IsTuple s.heap.objs.size (intItems #[(a, t), (b, u), (c, x), (d, y)]) := ⟨_, Heap.get?_push_size _ rfl, rfl, 0, by simp [intItems]⟩
  refine call_max_four (wpAny_pyIter_tuple hT ?_)
  have hsz : (s.heap.push { cls := .type "tuple", data := .seq #[.int a t, .int b u, .int c x, .int d y] }).objs.size = s.heap.objs.size + 1 := Heap.size_push ..
  refine ⟨_, [_, s.heap.objs.size], [_], _, _, _, _, rfl, Walks.tuple (A := A.in1) hh _ s.heap.objs.size (by rw [hsz]; exact Nat.ne_of_lt (Nat.lt_succ_self _)) (intItems #[(a, t), (b, u), (c, x), (d, y)]),
    ⟨⟨_, Heap.get?_push_size _ rfl, rfl, rfl⟩, hT.push _⟩, fun d hd => ?_, by simp [intItems], CmpOf.ints_gt (numAt #[(a, t), (b, u), (c, x), (d, y)]) (fun _ _ => intItems_at), fun v h' tk hP hk => ?_⟩
  · show d < ((s.heap.push _).push _).objs.size
    rw [Heap.size_push, hsz]
    rcases List.mem_cons.mp hd with rfl | hd
    · rw [hsz]; exact Nat.lt_succ_self _
    · rcases List.mem_cons.mp hd with rfl | hd
      · exact Nat.lt_succ_of_lt (Nat.lt_succ_self _)
      · cases hd
  · have hold : ∀ d o, s.heap.get? d = some o → h'.get? d = some o := fun d o e => by
      refine hk d o (fun hm => ?_) (Heap.get?_push_of_some _ (Heap.get?_push_of_some _ e))
      rcases List.mem_cons.mp hm with e1 | hm
      · have := Heap.lt_size e; rw [e1, hsz] at this; exact Nat.lt_irrefl _ (Nat.lt_of_succ_lt this)
      · cases hm
    have hsz2 : (intItems #[(a, t), (b, u), (c, x), (d, y)]).size - 1 = 3 := by simp [intItems]
    rw [hsz2] at hP
    obtain ⟨t', rfl⟩ := intItems_at hP
    obtain ⟨h1, h2⟩ := argBest_gt (numAt #[(a, t), (b, u), (c, x), (d, y)]) 3
    refine h h' tk _ t' hold ?_ fun z hz => ?_
    · generalize argBest _ 3 = j at h1
      rcases (show j = 0 ∨ j = 1 ∨ j = 2 ∨ j = 3 by omega) with rfl | rfl | rfl | rfl <;> simp [numAt]
    · simp only [List.mem_cons, List.not_mem_nil, or_false] at hz
      rcases hz with rfl | rfl | rfl | rfl
      · exact h2 0 (by omega)
      · exact h2 1 (by omega)
      · exact h2 2 (by omega)
      · exact h2 3 (by omega)
end
theorem call_max4 {X : Cx} (hc : X.calm = true) : CallR X (.builtin "max") (fun xs H Q => ∃ i j k l, xs = [.int i, .int j, .int k, .int l] ∧ ∀ m, m ∈ [i, j, k, l] → (∀ z ∈ [i, j, k, l], z ≤ m) → Q (.int m) H) := by
  intro pins s σ H xs us Q I r h
  obtain ⟨i, j, k, l, rfl, q⟩ := h
  cases r with
  | cons r1 r =>
  cases r with
  | cons r2 r =>
  cases r with
  | cons r3 r =>
  cases r with
  | cons r4 r =>
  cases r
  obtain ⟨t1, rfl⟩ := r1
  obtain ⟨t2, rfl⟩ := r2
  obtain ⟨t3, rfl⟩ := r3
  obtain ⟨t4, rfl⟩ := r4
  exact max_four_ints (I.ok.hd hc) fun h' tk m t' kp h1 h2 => ⟨.int m, H, I.kept kp, ⟨_, rfl⟩, q m h1 h2⟩
end Ev

/-! A pure interpreter for the programs' common subset: values, expressions, statements. -/
namespace Ev
open PySem L2

/-- values: tuples and read-only lists by value; `ref n` is the n-th mutable cell; `rol` a list that is only read -/
inductive PV where
  | non | bl (b : Bool) | int (i : Int) | str (s : Str)
  | tup (xs : List PV) | lst (xs : List PV) | rol (xs : List PV) | ref (n : Nat)
  | dct (kvs : List (Str × Str))
deriving Inhabited

inductive Cell where
  | lst (xs : List PV)
  | dic (kvs : List (List Int × PV))
  | fdi (kvs : List (List Int × PV))
deriving Inhabited

abbrev Mem := List Cell
abbrev Env := List (Option PV)

inductive Bop where | add | sub | mul | fdiv | mod | pow
inductive Cm where | eq | ne | lt | le | gt | ge | is | isn | isin | notin
inductive Ty where | int | bool | str | tuple | list
inductive Bl where | abs | int | list | tuple | len | sum | all | any | max | min | ztup | srt | maxt | srth

/-- a part of a nested target -/
inductive Tp1 where | n (i : Nat) | t (is : List Nat)
mutual
inductive E where
  | var (i : Nat) | cst (v : PV)
  | bin (o : Bop) (f : Bool) (a b : E) | neg (a : E) | not (a : E) | and (a b : E) | or (a b : E)
  | cmp (o : Cm) (a b : E) | chn (o o' : Cm) (a b c : E) | ite (c a b : E)
  | tup (es : Es) | lst (m : Bool) (es : Es)
  | idx (a b : E) | slc (a : E) (bl bh : Bool) (lo hi : E) | rev (a : E)
  | call (f : Nat) (es : Es) | blt (b : Bl) (m : Bool) (es : Es) | isi (a : E) (t : Ty)
  | app (a e : E) | dsp (kvs : List (Str × Str)) | dget (a b : E) | din (n : Bool) (a b : E) | tab (kvs : List (Int × PV)) (e : E)
  | ndic | dgt (a b : E) | dki (n : Bool) (a b : E) | lck (i : Nat) (e : E)
  | lc (m : Bool) (w : List Nat) (t : T) (it : I) (cs : Es) (e : E)
inductive Es where | nil | cons (e : E) (es : Es)
inductive I where | seq (e : E) | rng (a b : E) | zip (a b : E) | enm (e : E) | dks (e : E)
inductive T where | nm (i : Nat) | tp (is : List Nat) | ls (is : List Nat) | t2 (ps : List Tp1)
end

mutual
inductive S where
  | set (i : Nat) (e : E) | par (i j : Nat) (a b : E) | par3 (i j l : Nat) (a b c : E) | asg (t : T) (e : E) | seti (o i e : E) | setd (o a b e : E)
  | exp (e : E) | ite (c : E) (a b : Ss) | whl (c : E) (b : Ss) | for_ (t : T) (it : I) (b : Ss)
  | ret (e : E) | rais
inductive Ss where | nil | cons (s : S) (ss : Ss)
end

/-! ### the operations -/
def items (M : Mem) : PV → Option (List PV)
  | .lst xs | .rol xs => some xs
  | .ref n => match M[n]? with | some (.lst xs) => some xs | _ => none
  | _ => none
def itemsT (M : Mem) : PV → Option (List PV)
  | .tup xs => some xs
  | v => items M v

mutual
def toD : PV → Option PyData
  | .non => some .none
  | .bl b => some (.bool b)
  | .int i => some (.int i)
  | .str s => some (.str s)
  | .tup xs => (toDs xs).map .tuple
  | .lst xs | .rol xs => (toDs xs).map .list
  | .ref _ | .dct _ => none
def toDs : List PV → Option (List PyData)
  | [] => some []
  | x :: xs => match toD x, toDs xs with
    | some d, some ds => some (d :: ds)
    | _, _ => none
end
def toDM (M : Mem) : PV → Option PyData
  | .ref n => match M[n]? with | some (.lst xs) => (toDs xs).map .list | _ => none
  | v => toD v

def truthy (M : Mem) : PV → Option Bool
  | .non => some false
  | .bl b => some b
  | .int i => some (i != 0)
  | .str s => if s.length ≤ sizeLine then some ((s.length : Int) != 0) else none
  | .tup xs | .lst xs | .rol xs => some (!xs.isEmpty)
  | .ref n => match M[n]? with | some (.lst xs) => some (!xs.isEmpty) | _ => none
  | .dct _ => none

def iff' {α : Type} (b : Bool) (x : α) : Option α := match b with
  | true => some x
  | false => none
def mulOk (i j : Int) : Bool := decide ((-(2 ^ 64) < i ∧ i < 2 ^ 64) ∨ (-(2 ^ 64) < j ∧ j < 2 ^ 64)) || decide (i.natAbs.log2 + j.natAbs.log2 < 1000000)
def divOk (_i j : Int) : Bool := decide (j ≠ 0) && decide (j.natAbs.log2 < 9000)

/-- lists that may be joined: not the read-only ones -/
def itemsW (M : Mem) : PV → Option (List PV)
  | .lst xs => some xs
  | .ref n => match M[n]? with | some (.lst xs) => some xs | _ => none
  | _ => none

def addOp (M : Mem) (a b : PV) : Option PV := match a, b with
  | .int i, .int j => some (.int (i + j))
  | .tup xs, .tup ys => if decide (xs.length + ys.length ≤ sizeLine) then some (.tup (xs ++ ys)) else none
  | .str x, .str y => if decide (x.length + y.length ≤ sizeLine) then some (.str (x ++ y)) else none
  | a, b => match itemsW M a, itemsW M b with
    | some xs, some ys => if decide (xs.length + ys.length ≤ sizeLine) then some (.lst (xs ++ ys)) else none
    | _, _ => none
def subOp (a b : PV) : Option PV := match a, b with
  | .int i, .int j => some (.int (i - j))
  | .bl a, .bl b => some (.int ((if a then 1 else 0) - (if b then 1 else 0)))
  | _, _ => none
def mulOp (M : Mem) (a b : PV) : Option PV := match a, b with
  | .int i, .int j => if mulOk i j then some (.int (i * j)) else none
  | .tup [], .int k => if decide (-(2 ^ 63) ≤ k) && decide (k < 2 ^ 63) then some (.tup []) else none
  | .tup (x :: xs), .int k => if decide (-(2 ^ 63) ≤ k) && decide (k ≤ 1000) && decide ((x :: xs).length ≤ 1000) then some (.tup (List.replicate k.toNat (x :: xs)).flatten) else none
  | a, .int k => match itemsW M a with
    | some xs => if decide (-(2 ^ 63) ≤ k) && decide (k < 2 ^ 63) && decide (xs.length * k.toNat ≤ sizeLine) then some (.lst (List.replicate k.toNat xs).flatten) else none
    | _ => none
  | _, _ => none
def fdivOp (a b : PV) : Option PV := match a, b with
  | .int i, .int j => if divOk i j then some (.int (i.fdiv j)) else none
  | _, _ => none
def modOp (a b : PV) : Option PV := match a, b with
  | .int i, .int j => if decide (j ≠ 0) then some (.int (i.fmod j)) else none
  | _, _ => none
def powOp (a b : PV) : Option PV := match a, b with
  | .int i, .int j => if decide (0 ≤ j) && decide (j ≤ 1000000) && decide (i.natAbs < 2 ^ 64) then some (.int (i ^ j.toNat)) else none
  | _, _ => none
def binop (M : Mem) : Bop → PV → PV → Option PV
  | .add => addOp M
  | .sub => subOp
  | .mul => mulOp M
  | .fdiv => fdivOp
  | .mod => modOp
  | .pow => powOp

def eqD (M : Mem) (a b : PV) : Option Bool :=
  match toDM M a, toDM M b with
  | some d, some e => if SeqAt.shaped d && SeqAt.shaped e then some (PyData.eqv d e) else none
  | _, _ => none
/-- x in a list or a tuple of plain values -/
def flatP : PV → Bool
  | .non | .bl _ | .int _ | .str _ => true
  | _ => false
def pvToV : PV → V
  | .non => .non
  | .bl b => .bl b
  | .int i => .int i
  | .str s => .str s
  | _ => .non
def inOp (M : Mem) (a b : PV) : Option Bool :=
  match itemsT M b with
  | some xs => if flatP a && xs.all flatP && (flatV (pvToV a) && (xs.map pvToV).all flatV) then some (inV (pvToV a) (xs.map pvToV)) else none
  | none => none

def cmpI (p : Int → Int → Bool) (a b : PV) : Option Bool := match a, b with
  | .int i, .int j => some (p i j)
  | _, _ => none
/-- tuples of ints: by the first pair that differs -/
def lexLtI (ns ms : List Int) : Bool := Ob.lexAt (fun j => decide (ns.getD j 0 = ms.getD j 0)) (fun j => decide (ns.getD j 0 < ms.getD j 0)) (decide (ns.length < ms.length)) 0 (min ns.length ms.length)
def intsT : List PV → Option (List Int)
  | [] => some []
  | .int i :: xs => (intsT xs).map (i :: ·)
  | _ :: _ => none
def cmpLt (a b : PV) : Option Bool := match a, b with
  | .int i, .int j => some (decide (i < j))
  | .tup xs, .tup ys => (intsT xs).bind fun ns => (intsT ys).map fun ms => lexLtI ns ms
  | _, _ => none
def isNon : PV → Bool
  | .non => true
  | _ => false
def isOp (a b : PV) : Option Bool := match a, b with
  | a, .non => some (isNon a)
  | .bl a, .bl b => some (decide (a = b))
  | _, _ => none
def cmpop (M : Mem) : Cm → PV → PV → Option Bool
  | .eq => eqD M
  | .ne => fun a b => (eqD M a b).map (!·)
  | .lt => cmpLt
  | .le => cmpI fun i j => decide (i ≤ j)
  | .gt => cmpI fun i j => decide (j < i)
  | .ge => cmpI fun i j => decide (j ≤ i)
  | .is => isOp
  | .isn => fun a b => (isOp a b).map (!·)
  | .isin => inOp M
  | .notin => fun a b => (inOp M a b).map (!·)

def idxOp (M : Mem) (a b : PV) : Option PV :=
  match b, itemsT M a with
  | .int i, some xs => atI xs i
  | _, _ => none
def cut (xs : List PV) (lo hi : Option Int) : List PV := (xs.drop (HT.sIx xs.length 0 lo)).take (HT.sIx xs.length xs.length hi - HT.sIx xs.length 0 lo)
def part : Bool → PV → Option (Option Int)
  | false, _ => some none
  | true, .int i => some (some i)
  | true, _ => none
def slcV (M : Mem) (a : PV) (l h : Option Int) : Option PV := match a with
  | .tup xs => some (.tup (cut xs l h))
  | _ => (items M a).map fun xs => .lst (cut xs l h)
def slcOp (M : Mem) (a : PV) (bl bh : Bool) (lo hi : PV) : Option PV :=
  (part bl lo).bind fun l => (part bh hi).bind fun h => slcV M a l h
def revOp (M : Mem) (a : PV) : Option PV :=
  match a with
  | .tup xs => some (.tup xs.reverse)
  | _ => (items M a).map fun xs => .lst xs.reverse

def intsOf : List PV → Option (List Int)
  | [] => some []
  | .int i :: xs => (intsOf xs).map (i :: ·)
  | _ :: _ => none
def boolsOf : List PV → Option (List Bool)
  | [] => some []
  | .bl b :: xs => (boolsOf xs).map (b :: ·)
  | _ :: _ => none

def absB (vs : List PV) : Option PV := match vs with
  | [.int i] => some (.int (if i < 0 then -i else i))
  | _ => none
def intB (vs : List PV) : Option PV := match vs with
  | [.int i] => some (.int i)
  | [.bl b] => some (.int (if b then 1 else 0))
  | _ => none
def listB (M : Mem) (vs : List PV) : Option PV := match vs with
  | [a] => (itemsT M a).map .lst
  | _ => none
def tupleB (M : Mem) (vs : List PV) : Option PV := match vs with
  | [.tup xs] => some (.tup xs)
  | [a] => (items M a).map .tup
  | _ => none
def lenB (M : Mem) (vs : List PV) : Option PV := match vs with
  | [.str s] => iff' (decide (s.length ≤ sizeLine)) (.int s.length)
  | [a] => (itemsT M a).map fun xs => .int xs.length
  | _ => none
def sumB (M : Mem) (vs : List PV) : Option PV := match vs with
  | [a] => (items M a).bind fun xs => (intsOf xs).map fun ns => .int ns.sum
  | _ => none
def allB (M : Mem) (vs : List PV) : Option PV := match vs with
  | [a] => (items M a).bind fun xs => (boolsOf xs).map fun bs => .bl (bs.all id)
  | _ => none
def anyB (M : Mem) (vs : List PV) : Option PV := match vs with
  | [a] => (items M a).bind fun xs => (boolsOf xs).map fun bs => .bl (bs.any id)
  | _ => none
def maxI : List Int → Option Int
  | [] => none
  | x :: xs => some (xs.foldl max x)
def minI : List Int → Option Int
  | [] => none
  | x :: xs => some (xs.foldl min x)
def maxB (M : Mem) (vs : List PV) : Option PV := match vs with
  | [.int i, .int j] => some (.int (if j > i then j else i))
  | [.int i, .int j, .int k, .int l] => some (.int (max (max (max i j) k) l))
  | [a] => (items M a).bind fun xs => (intsOf xs).bind fun ns => (maxI ns).map .int
  | _ => none
def minB (M : Mem) (vs : List PV) : Option PV := match vs with
  | [.int i, .int j] => some (.int (if j < i then j else i))
  | [a] => (items M a).bind fun xs => (intsOf xs).bind fun ns => (minI ns).map .int
  | _ => none
def pairP (x y : PV) : PV := .tup [x, y]
/-- tuple(zip(a, b)) of two lists -/
def ztupB (M : Mem) (vs : List PV) : Option PV := match vs with
  | [a, b] => (items M a).bind fun xs => (items M b).map fun ys => .tup (List.zipWith pairP xs ys)
  | _ => none
/-- sorted tuples that begin with two ints, no two of them alike -/
def hdsOf : List PV → Option (List (Int × Int))
  | [] => some []
  | .tup (.int i :: .int j :: _) :: xs => (hdsOf xs).map ((i, j) :: ·)
  | _ :: _ => none
def lexLe (p q : Int × Int) : Bool := decide (p.1 < q.1 ∨ (p.1 = q.1 ∧ p.2 ≤ q.2))
def srtH (L : List (PV × (Int × Int))) : List PV := (L.mergeSort fun a b => lexLe a.2 b.2).map (·.1)
def srthB (M : Mem) (vs : List PV) : Option PV := match vs with
  | [a] => (items M a).bind fun xs => (hdsOf xs).bind fun ks => if decide ks.Nodup then some (.lst (srtH (xs.zip ks))) else none
  | _ => none
/-- sorted ints -/
def srtI (ns : List Int) : List Int := ns.mergeSort fun a b => decide (a ≤ b)
def srtB (M : Mem) (vs : List PV) : Option PV := match vs with
  | [a] => (itemsT M a).bind fun xs => (intsOf xs).map fun ns => .lst ((srtI ns).map .int)
  | _ => none
/-- max of a tuple of ints -/
def maxtB (_M : Mem) (vs : List PV) : Option PV := match vs with
  | [.tup xs] => (intsOf xs).bind fun ns => (maxI ns).map .int
  | _ => none
def bltOp (M : Mem) : Bl → List PV → Option PV
  | .abs => absB
  | .int => intB
  | .list => listB M
  | .tuple => tupleB M
  | .len => lenB M
  | .sum => sumB M
  | .all => allB M
  | .any => anyB M
  | .max => maxB M
  | .min => minB M
  | .ztup => ztupB M
  | .srt => srtB M
  | .maxt => maxtB M
  | .srth => srthB M

def isTy : Ty → PV → Bool
  | .int, .int _ | .int, .bl _ | .bool, .bl _ | .str, .str _ | .tuple, .tup _ => true
  | .list, .lst _ | .list, .rol _ | .list, .ref _ => true
  | _, _ => false

/-- a mutable thing is a list -/
def isiM (M : Mem) : PV → Bool
  | .ref n => match M[n]? with
    | some (.lst _) => true
    | _ => false
  | _ => true
/-- dicts of texts, only read: their pairs as the display lays them -/
def dkv (kvs : List (Str × Str)) : List (Key × V) := mergeK [] (kvs.map fun p => (Sum.inr p.1, V.str p.2))
def vStr : V → Option PV
  | .str s => some (.str s)
  | _ => none
def dgetOp (a b : PV) : Option PV := match a, b with
  | .dct kvs, .str k => (valV (dkv kvs) (Sum.inr k)).bind vStr
  | _, _ => none
def dinOp (n : Bool) (a b : PV) : Option PV := match a, b with
  | .str k, .dct kvs => some (.bl (if n then !(valV (dkv kvs) (Sum.inr k)).isSome else (valV (dkv kvs) (Sum.inr k)).isSome))
  | _, _ => none
/-- dicts whose keys are tuples of ints -/
def keyP (k : List Int) : PV := .tup (k.map .int)
def keyI : PV → Option (List Int)
  | .tup xs => intsOf xs
  | _ => none
def lookD (kvs : List (List Int × PV)) (k : List Int) : Option PV := (kvs.find? fun p => decide (p.1 = k)).map (·.2)
def putD (kvs : List (List Int × PV)) (k : List Int) (v : PV) : List (List Int × PV) :=
  if (kvs.any fun p => decide (p.1 = k)) = true then kvs.map (fun p => if p.1 = k then (p.1, v) else p) else kvs ++ [(k, v)]
def dicAt (M : Mem) : PV → Option (List (List Int × PV))
  | .ref n => match M[n]? with
    | some (.dic kvs) => some kvs
    | some (.fdi kvs) => some kvs
    | _ => none
  | _ => none
def dgtOp (M : Mem) (a b : PV) : Option PV := (dicAt M a).bind fun kvs => (keyI b).bind fun k => lookD kvs k
def dkiOp (n : Bool) (M : Mem) (a b : PV) : Option PV := (dicAt M b).bind fun kvs => (keyI a).map fun k => .bl (if n then !(lookD kvs k).isSome else (lookD kvs k).isSome)
def setAt (xs : List PV) (i : Int) (v : PV) : Option (List PV) := (ixN xs.length i).map fun j => xs.set j v

mutual
def pbeq : PV → PV → Bool
  | .non, .non => true
  | .bl a, .bl b => a == b
  | .int a, .int b => decide (a = b)
  | .str a, .str b => decide (a = b)
  | .tup a, .tup b => pbeqs a b
  | .lst a, .lst b => pbeqs a b
  | .rol a, .rol b => pbeqs a b
  | .ref a, .ref b => Nat.beq a b
  | .dct a, .dct b => decide (a = b)
  | _, _ => false
def pbeqs : List PV → List PV → Bool
  | [], [] => true
  | x :: xs, y :: ys => pbeq x y && pbeqs xs ys
  | _, _ => false
end
mutual
theorem pbeq_eq : ∀ {a b : PV}, pbeq a b = true → a = b
  | .non, .non, _ => rfl
  | .bl a, .bl b, h => by rw [show a = b from eq_of_beq h]
  | .int a, .int b, h => by rw [show a = b from of_decide_eq_true h]
  | .str a, .str b, h => by rw [show a = b from of_decide_eq_true h]
  | .tup a, .tup b, h => by rw [pbeqs_eq (a := a) (b := b) h]
  | .lst a, .lst b, h => by rw [pbeqs_eq (a := a) (b := b) h]
  | .rol a, .rol b, h => by rw [pbeqs_eq (a := a) (b := b) h]
  | .ref a, .ref b, h => by rw [Nat.eq_of_beq_eq_true h]
  | .dct a, .dct b, h => by rw [show a = b from of_decide_eq_true h]
theorem pbeqs_eq : ∀ {a b : List PV}, pbeqs a b = true → a = b
  | [], [], _ => rfl
  | x :: xs, y :: ys, h => by
    have h' : (pbeq x y && pbeqs xs ys) = true := h
    rw [Bool.and_eq_true] at h'
    rw [pbeq_eq h'.1, pbeqs_eq h'.2]
end
mutual
theorem pbeq_self : ∀ a : PV, pbeq a a = true
  | .non => rfl
  | .bl a => beq_self_eq_true a
  | .int a => decide_eq_true rfl
  | .str a => decide_eq_true rfl
  | .tup a => pbeqs_self a
  | .lst a => pbeqs_self a
  | .rol a => pbeqs_self a
  | .ref a => Nat.beq_refl a
  | .dct a => decide_eq_true rfl
theorem pbeqs_self : ∀ a : List PV, pbeqs a a = true
  | [] => rfl
  | x :: xs => by
    show (pbeq x x && pbeqs xs xs) = true
    rw [pbeq_self x, pbeqs_self xs]
    rfl
end
/-- mutable lists that are walked: they must stay -/
abbrev Gd := List (Nat × List PV)
def gOk : Gd → Mem → Bool
  | [], _ => true
  | (n, xs) :: g, M => (match M[n]? with
    | some (.lst ys) => pbeqs ys xs
    | _ => false) && gOk g M
/-- the items of a sequence that is walked: is it a tuple? the items, what must stay -/
def seqG (M : Mem) : PV → Option (Bool × List PV × Gd)
  | .tup xs => some (true, xs, [])
  | .lst xs => some (false, xs, [])
  | .rol xs => some (false, xs, [])
  | .ref n => match M[n]? with
    | some (.lst xs) => some (false, xs, [(n, xs)])
    | _ => none
  | _ => none

/-- bind a target -/
def setAll (env : Env) : List Nat → List PV → Env
  | i :: is, v :: vs => setAll (env.set i (some v)) is vs
  | _, _ => env
def bindP (p : Tp1) (v : PV) (env : Env) : Option Env :=
  match p with
  | .n i => some (env.set i (some v))
  | .t is => match v with
    | .tup vs => if decide (vs.length = is.length) then some (setAll env is vs) else none
    | _ => none
def bindPs : List Tp1 → List PV → Env → Option Env
  | [], [], env => some env
  | p :: ps, v :: vs, env => (bindP p v env).bind fun env1 => bindPs ps vs env1
  | _, _, _ => none
def bindT (t : T) (v : PV) (env : Env) : Option Env :=
  match t with
  | .nm i => some (env.set i (some v))
  | .tp is => match v with
    | .tup vs => if decide (vs.length = is.length) then some (setAll env is vs) else none
    | _ => none
  | .ls is => match v with
    | .lst vs => if decide (vs.length = is.length) then some (setAll env is vs) else none
    | _ => none
  | .t2 ps => match v with
    | .tup vs => bindPs ps vs env
    | _ => none

def wipeE (env : Env) : List Nat → Env
  | [] => env
  | v :: vs => (wipeE env vs).set v none

/-- a loop over items; the body may end the def -/
inductive R where | nx (env : Env) (M : Mem) | rt (v : PV) (M : Mem)
def forL (t : T) (g : Gd) (body : Env → Mem → Option R) : List PV → Env → Mem → Option R
  | [], env, M => match gOk g M with
    | true => some (.nx env M)
    | false => none
  | x :: xs, env, M => match gOk g M with
    | true => (match bindT t x env with
      | some env1 => (match body env1 M with
        | some (.nx env2 M2) => forL t g body xs env2 M2
        | r => r)
      | none => none)
    | false => none
def whlL (c : Env → Mem → Option (Bool × Mem)) (body : Env → Mem → Option R) : Nat → Env → Mem → Option R
  | 0, _, _ => none
  | n + 1, env, M => match c env M with
    | some (true, M1) => (match body env M1 with
      | some (.nx env2 M2) => whlL c body n env2 M2
      | r => r)
    | some (false, M1) => some (.nx env M1)
    | none => none
/-- a table of the module: ints to plain values -/
def tabV (kvs : List (Int × PV)) (x : PV) : Option PV := match x with
  | .int i => (kvs.find? fun kv => decide (kv.1 = i)).map (·.2)
  | _ => none
/-- a comprehension: acc in order -/
def lcL (t : T) (g : Gd) (cond : Env → Mem → Option (Bool × Mem)) (elt : Env → Mem → Option (PV × Mem)) (env : Env) : List PV → List PV → Mem → Option (List PV × Mem)
  | [], acc, M => match gOk g M with
    | true => some (acc, M)
    | false => none
  | x :: xs, acc, M => match gOk g M with
    | true => (match bindT t x env with
      | some env1 => (match cond env1 M with
        | some (true, M1) => (match elt env1 M1 with
          | some (v, M2) => lcL t g cond elt env xs (acc ++ [v]) M2
          | none => none)
        | some (false, M1) => lcL t g cond elt env xs acc M1
        | none => none)
      | none => none)
    | false => none
def rngI (a : Int) : Nat → List PV
  | 0 => []
  | n + 1 => .int a :: rngI (a + 1) n
def zipP : List PV → List PV → List PV
  | x :: xs, y :: ys => .tup [x, y] :: zipP xs ys
  | _, _ => []
def enmP : Nat → List PV → List PV
  | _, [] => []
  | n, x :: xs => .tup [.int n, x] :: enmP (n + 1) xs

/-- a new list: a mutable cell, or by value -/
def newL (m : Bool) (xs : List PV) (M : Mem) : PV × Mem := if m then (.ref M.length, M ++ [.lst xs]) else (.lst xs, M)
def asM (m : Bool) (v : PV) (M : Mem) : PV × Mem := match m, v with
  | true, .lst xs => (.ref M.length, M ++ [.lst xs])
  | _, _ => (v, M)

/-- a step, then the next with its value and the memory behind it -/
def bnd {α β : Type} (x : Option (α × Mem)) (f : α → Mem → Option β) : Option β := match x with
  | some (a, M) => f a M
  | none => none
def bifb {β : Type} (b : Option Bool) (x y : Option β) : Option β := match b with
  | some true => x
  | some false => y
  | none => none
def iff_ {β : Type} (b : Bool) (x : Option β) : Option β := match b with
  | true => x
  | false => none
def nxt (r : Option R) (f : Env → Mem → Option R) : Option R := match r with
  | some (.nx env M) => f env M
  | r => r
section
variable (call : Nat → List PV → Mem → Option (PV × Mem)) (W : Nat)
mutual
def eval : E → Env → Mem → Option (PV × Mem)
  | .var i, env, M => match env[i]? with | some (some v) => some (v, M) | _ => none
  | .cst v, _, M => some (v, M)
  | .bin o f a b, env, M => bnd (eval a env M) fun x M1 => bnd (eval b env M1) fun y M2 => (binop M2 o x y).map fun z => asM f z M2
  | .neg a, env, M => bnd (eval a env M) fun x M1 => match x with | .int i => some (.int (-i), M1) | _ => none
  | .not a, env, M => bnd (eval a env M) fun x M1 => (truthy M1 x).map fun b => (.bl (!b), M1)
  | .and a b, env, M => bnd (eval a env M) fun x M1 => bifb (truthy M1 x) (eval b env M1) (some (x, M1))
  | .or a b, env, M => bnd (eval a env M) fun x M1 => bifb (truthy M1 x) (some (x, M1)) (eval b env M1)
  | .cmp o a b, env, M => bnd (eval a env M) fun x M1 => bnd (eval b env M1) fun y M2 => (cmpop M2 o x y).map fun z => (.bl z, M2)
  | .chn o o' a b c, env, M => bnd (eval a env M) fun x M1 => bnd (eval b env M1) fun y M2 =>
      bifb (cmpop M2 o x y) (bnd (eval c env M2) fun z M3 => (cmpop M3 o' y z).map fun r => (.bl r, M3)) (some (.bl false, M2))
  | .ite c a b, env, M => bnd (eval c env M) fun x M1 => bifb (truthy M1 x) (eval a env M1) (eval b env M1)
  | .tup es, env, M => bnd (evals es env M) fun vs M1 => iff_ (decide (vs.length ≤ sizeLine)) (some (.tup vs, M1))
  | .lst m es, env, M => bnd (evals es env M) fun vs M1 => iff_ (decide (vs.length ≤ sizeLine)) (some (newL m vs M1))
  | .idx a b, env, M => bnd (eval a env M) fun x M1 => bnd (eval b env M1) fun y M2 => (idxOp M2 x y).map fun z => (z, M2)
  | .slc a bl bh lo hi, env, M => bnd (eval a env M) fun x M1 => bnd (eval lo env M1) fun l M2 => bnd (eval hi env M2) fun h M3 => (slcOp M3 x bl bh l h).map fun z => (z, M3)
  | .rev a, env, M => bnd (eval a env M) fun x M1 => (revOp M1 x).map fun z => (z, M1)
  | .call f es, env, M => bnd (evals es env M) fun vs M1 => call f vs M1
  | .blt b m es, env, M => bnd (evals es env M) fun vs M1 => (bltOp M1 b vs).map fun z => asM m z M1
  | .isi a t, env, M => bnd (eval a env M) fun x M1 => iff_ (isiM M1 x) (some (.bl (isTy t x), M1))
  | .app a e, env, M => bnd (eval a env M) fun x M1 => iff_ (isiM M1 x) (match x with
    | .ref n => bnd (eval e env M1) fun v M2 => (match M2[n]? with
        | some (.lst xs) => iff_ (decide (xs.length < sizeLine)) (some (.non, M2.set n (.lst (xs ++ [v]))))
        | _ => none)
    | _ => none)
  | .dsp kvs, _, M => iff_ (decide (kvs.length ≤ 15)) (some (.dct kvs, M))
  | .dget a b, env, M => bnd (eval a env M) fun x M1 => bnd (eval b env M1) fun y M2 => (dgetOp x y).map fun z => (z, M2)
  | .din n a b, env, M => bnd (eval a env M) fun x M1 => bnd (eval b env M1) fun y M2 => (dinOp n x y).map fun z => (z, M2)
  | .tab kvs e, env, M => bnd (eval e env M) fun x M1 => (tabV kvs x).map fun z => (z, M1)
  | .ndic, _, M => some (.ref M.length, M ++ [.dic []])
  | .dgt a b, env, M => bnd (eval a env M) fun x M1 => bnd (eval b env M1) fun y M2 => (dgtOp M2 x y).map fun z => (z, M2)
  | .dki n a b, env, M => bnd (eval a env M) fun x M1 => bnd (eval b env M1) fun y M2 => (dkiOp n M2 x y).map fun z => (z, M2)
  | .lck i e, env, M => match env[i]? with
    | some (some (.ref n)) => (match M[n]? with
      | some (.dic kvs) => bnd (eval e env (M.set n (.fdi kvs))) fun v M2 => (match M2[n]? with
        | some (.fdi kvs2) => some (v, M2.set n (.dic kvs2))
        | _ => none)
      | _ => none)
    | _ => none
  | .lc m w t it cs e, env, M => bnd (evalI it env M) fun xg M1 => bnd (lcL t xg.2 (conds cs) (eval e) (wipeE env w) xg.1 [] M1) fun vs M2 => iff_ (decide (vs.length ≤ sizeLine)) (some (newL m vs M2))
def evals : Es → Env → Mem → Option (List PV × Mem)
  | .nil, _, M => some ([], M)
  | .cons e es, env, M => bnd (eval e env M) fun v M1 => bnd (evals es env M1) fun vs M2 => some (v :: vs, M2)
def conds : Es → Env → Mem → Option (Bool × Mem)
  | .nil, _, M => some (true, M)
  | .cons e es, env, M => bnd (eval e env M) fun v M1 => bifb (truthy M1 v) (conds es env M1) (some (false, M1))
def evalI : I → Env → Mem → Option ((List PV × Gd) × Mem)
  | .seq e, env, M => bnd (eval e env M) fun x M1 => (seqG M1 x).map fun s => (s.2, M1)
  | .rng a b, env, M => bnd (eval a env M) fun x M1 => bnd (eval b env M1) fun y M2 => match x, y with
    | .int i, .int j => iff_ (decide (-(2 ^ 62) ≤ i) && decide (i < 2 ^ 62) && decide (-(2 ^ 62) ≤ j) && decide (j < 2 ^ 62)) (some ((rngI i (j - i).toNat, []), M2))
    | _, _ => none
  | .zip a b, env, M => bnd (eval a env M) fun x M1 => bnd (eval b env M1) fun y M2 => match seqG M2 x, seqG M2 y with
    | some (_, xs, g), some (_, ys, g') => some ((zipP xs ys, g ++ g'), M2)
    | _, _ => none
  | .enm e, env, M => bnd (eval e env M) fun x M1 => match seqG M1 x with
    | some (k, xs, g) => iff_ (!k) (some ((enmP 0 xs, g), M1))
    | _ => none
  | .dks e, env, M => bnd (eval e env M) fun x M1 => match x with
    | .ref n => (match M1[n]? with
      | some (.fdi kvs) => some ((kvs.map fun p => keyP p.1, []), M1)
      | _ => none)
    | _ => none
end

mutual
def exec : S → Env → Mem → Option R
  | .set i e, env, M => bnd (eval call e env M) fun v M1 => some (.nx (env.set i (some v)) M1)
  | .par i j a b, env, M => bnd (eval call a env M) fun x M1 => bnd (eval call b env M1) fun y M2 => some (.nx ((env.set i (some x)).set j (some y)) M2)
  | .par3 i j l a b c, env, M => bnd (eval call a env M) fun x M1 => bnd (eval call b env M1) fun y M2 => bnd (eval call c env M2) fun z M3 => some (.nx (((env.set i (some x)).set j (some y)).set l (some z)) M3)
  | .asg t e, env, M => bnd (eval call e env M) fun v M1 => (bindT t v env).map fun env1 => .nx env1 M1
  | .seti o i e, env, M => bnd (eval call e env M) fun v M1 => bnd (eval call o env M1) fun x M2 => match x with
    | .ref n => bnd (eval call i env M2) fun y M3 => (match y with
      | .int k => (match M3[n]? with
          | some (.lst xs) => (setAt xs k v).map fun ys => .nx env (M3.set n (.lst ys))
          | _ => none)
      | _ => none)
    | _ => none
  | .setd o a b e, env, M => bnd (eval call e env M) fun v M1 => bnd (eval call o env M1) fun x M2 => bnd (eval call a env M2) fun y M3 => bnd (eval call b env M3) fun z M4 => match x, y, z with
    | .ref n, .int i, .int j => (match M4[n]? with
      | some (.dic kvs) => iff_ (decide (kvs.length < 16777216)) (some (.nx env (M4.set n (.dic (putD kvs [i, j] v)))))
      | _ => none)
    | _, _, _ => none
  | .exp e, env, M => bnd (eval call e env M) fun _ M1 => some (.nx env M1)
  | .ite c a b, env, M => bnd (eval call c env M) fun x M1 => bifb (truthy M1 x) (execs a env M1) (execs b env M1)
  | .whl c b, env, M => whlL (fun env M => bnd (eval call c env M) fun x M1 => (truthy M1 x).map fun k => (k, M1)) (execs b) W env M
  | .for_ t it b, env, M => bnd (evalI call it env M) fun xg M1 => forL t xg.2 (execs b) xg.1 env M1
  | .ret e, env, M => bnd (eval call e env M) fun v M1 => some (.rt v M1)
  | .rais, _, _ => none
def execs : Ss → Env → Mem → Option R
  | .nil, env, M => some (.nx env M)
  | .cons s ss, env, M => nxt (exec s env M) fun env1 M1 => execs ss env1 M1
end
end

/-! ### calls: a def's new cells go when it is left, unless what it hands back is one (kept) -/
mutual
/-- no reference at or above n -/
def under (n : Nat) : PV → Bool
  | .tup xs | .lst xs | .rol xs => unders n xs
  | .ref k => decide (k < n)
  | _ => true
def unders (n : Nat) : List PV → Bool
  | [] => true
  | x :: xs => under n x && unders n xs
end
def cellUnder (n : Nat) : Cell → Bool
  | .lst xs => unders n xs
  | .dic kvs => unders n (kvs.map (·.2))
  | .fdi _ => false
/-- behind a call from memory M0 -/
def leave (n : Nat) (v : PV) (M : Mem) : Option (PV × Mem) :=
  if M.length = n then some (v, M) else
  if (M.take n).all (cellUnder n) then
    (if under n v then some (v, M.take n) else match v with
      | .ref k => (match M[k]? with
        | some (.lst xs) => if unders n xs then some (.lst xs, M.take n) else none
        | _ => none)
      | _ => none)
  else none

structure Fn where
  slots : Nat        -- how many names
  params : Nat
  keep : Bool        -- the new cells stay (what is handed back is one)
  body : Ss

def runFn (call : Nat → List PV → Mem → Option (PV × Mem)) (W : Nat) (f : Fn) (vs : List PV) (M : Mem) : Option (PV × Mem) :=
  if vs.length = f.params then
    match execs call W f.body (vs.map some ++ List.replicate (f.slots - f.params) none) M with
    | some (.rt v M1) => if f.keep then some (v, M1) else leave M.length v M1
    | some (.nx _ M1) => if f.keep then some (.non, M1) else leave M.length .non M1
    | none => none
  else none

def callN (prog : List Fn) (W : Nat) : Nat → Nat → List PV → Mem → Option (PV × Mem)
  | 0, _, _, _ => none
  | k + 1, f, vs, M => match prog[f]? with
    | some fn => runFn (callN prog W k) W fn vs M
    | none => none
end Ev

/-! How the interpreter's values lie in the heap; what a step keeps. -/
namespace Ev
open PySem PySem.Spec PyProof.Rows L2

/-- the cells, by index; and lists that are being made -/
structure Ph where
  c : List Addr
  r : List Addr
def RolAt (K : PySem.W.Frag) (φ : Ph) (H : Hp) (a : Addr) (vs : List V) : Prop :=
  (∃ o, H a = some (.frz o (.lst vs))) ∨ (H a = some (.lst vs) ∧ a ∉ φ.c ∧ a ∉ φ.r) ∨
    ∃ (o : Obj) (its : Array Value) (n : Nat), K.lookup a = some o ∧ o.cls = .type "list" ∧ o.dict = none ∧ o.data = .seq its n ∧ its.size ≤ sizeLine ∧ Vals vs its.toList
theorem RolAt.sq {K : PySem.W.Frag} {φ : Ph} {H : Hp} {a : Addr} {vs : List V} (h : RolAt K φ H a vs) : SqL K H a vs := by
  rcases h with ⟨o, h⟩ | ⟨h, _⟩ | h
  · exact .inl (.inr ⟨o, h⟩)
  · exact .inl (.inl h)
  · exact .inr h
mutual
inductive Rp (K : PySem.W.Frag) (φ : Ph) (H : Hp) : PV → V → Prop
  | non : Rp K φ H .non .non
  | bl (b : Bool) : Rp K φ H (.bl b) (.bl b)
  | int (i : Int) : Rp K φ H (.int i) (.int i)
  | str (s : Str) : Rp K φ H (.str s) (.str s)
  | tup {a : Addr} {vs : List V} {xs : List PV} (h : SqT K H a vs) (r : Rps K φ H xs vs) : Rp K φ H (.tup xs) (.ref a)
  | lst {a : Addr} {vs : List V} {xs : List PV} (h : H a = some (.lst vs)) (n : a ∉ φ.c ∧ a ∉ φ.r) (r : Rps K φ H xs vs) : Rp K φ H (.lst xs) (.ref a)
  | rol {a : Addr} {vs : List V} {xs : List PV} (h : RolAt K φ H a vs) (r : Rps K φ H xs vs) : Rp K φ H (.rol xs) (.ref a)
  | ref {n : Nat} {a : Addr} (h : φ.c[n]? = some a) : Rp K φ H (.ref n) (.ref a)
  | dct {a : Addr} {kvs : List (Str × Str)} (h : H a = some (.dK (dkv kvs))) (n : a ∉ φ.c ∧ a ∉ φ.r) : Rp K φ H (.dct kvs) (.ref a)
inductive Rps (K : PySem.W.Frag) (φ : Ph) (H : Hp) : List PV → List V → Prop
  | nil : Rps K φ H [] []
  | cons {x : PV} {v : V} {xs : List PV} {vs : List V} (h : Rp K φ H x v) (r : Rps K φ H xs vs) : Rps K φ H (x :: xs) (v :: vs)
end

def isCell : HO → Bool
  | .lst _ | .dK _ | .dT _ => true
  | _ => false
structure Xt (φ : Ph) (H : Hp) (φ' : Ph) (H' : Hp) : Prop where
  pre : ∃ e, φ'.c = φ.c ++ e
  res : ∀ a, a ∈ φ.r → a ∈ φ'.r
  keep : ∀ a o, H a = some o → (a ∈ φ.c → isCell o = false) → H' a = some o
  fresh : ∀ a, a ∈ φ'.c → a ∉ φ.c → H a = none
  freshr : ∀ a, a ∈ φ'.r → a ∉ φ.r → H a = none
  there : ∀ a o, H a = some o → ∃ o', H' a = some o'
/-- the pairs of a dict -/
inductive Rds (K : PySem.W.Frag) (φ : Ph) (H : Hp) : List (List Int × PV) → List (List Key × V) → Prop
  | nil : Rds K φ H [] []
  | cons {k : List Int} {x : PV} {v : V} {xs : List (List Int × PV)} {vs : List (List Key × V)} (h : Rp K φ H x v) (r : Rds K φ H xs vs) : Rds K φ H ((k, x) :: xs) ((k.map Sum.inl, v) :: vs)
def CellOk (K : PySem.W.Frag) (φ : Ph) (H : Hp) (a : Addr) : Cell → Prop
  | .lst xs => ∃ vs, H a = some (.lst vs) ∧ Rps K φ H xs vs
  | .dic xs => ∃ vs, H a = some (.dT vs) ∧ Rds K φ H xs vs
  | .fdi xs => ∃ o vs, H a = some (.frz o (.dT vs)) ∧ Rds K φ H xs vs
structure RM (K : PySem.W.Frag) (φ : Ph) (H : Hp) (M : Mem) : Prop where
  len : φ.c.length = M.length
  nd : φ.c.Nodup
  res : ∀ a, a ∈ φ.r → ∃ o, H a = some o
  cells : ∀ (n : Nat) (a : Addr) (c : Cell), φ.c[n]? = some a → M[n]? = some c → CellOk K φ H a c
structure RE (K : PySem.W.Frag) (φ : Ph) (H : Hp) (env : Env) (σ : L2.St) : Prop where
  len : env.length ≤ σ.length
  at_ : ∀ (i : Nat) (v : PV), env[i]? = some (some v) → ∃ u, σ[i]? = some (some u) ∧ Rp K φ H v u

section
variable {K : PySem.W.Frag} {φ φ' φ2 : Ph} {H H' H2 : Hp} {M M' : Mem} {env : Env} {σ : L2.St}
theorem Xt.refl : Xt φ H φ H := ⟨⟨[], by simp⟩, fun _ h => h, fun _ _ h _ => h, fun _ h n => absurd h n, fun _ h n => absurd h n, fun _ o h => ⟨o, h⟩⟩
theorem Xt.back (x : Xt φ H φ' H') {a : Addr} (h : H' a = none) : H a = none := by
  cases e : H a with
  | none => rfl
  | some o =>
    obtain ⟨o', e'⟩ := x.there a o e
    rw [h] at e'; cases e'
theorem Xt.sub (x : Xt φ H φ' H') {a : Addr} (h : a ∈ φ.c) : a ∈ φ'.c := by
  obtain ⟨e, h2⟩ := x.pre
  rw [h2]
  exact List.mem_append_left _ h
theorem Xt.trans (x : Xt φ H φ' H') (y : Xt φ' H' φ2 H2) : Xt φ H φ2 H2 := by
  refine ⟨?_, fun a h => y.res a (x.res a h), fun a o h hc => ?_, fun a h n => ?_, fun a h n => ?_, fun a o h => ?_⟩
  · obtain ⟨e, h1⟩ := x.pre
    obtain ⟨e2, h2⟩ := y.pre
    exact ⟨e ++ e2, by rw [h2, h1, List.append_assoc]⟩
  · refine y.keep a o (x.keep a o h hc) fun h' => ?_
    by_cases k : a ∈ φ.c
    · exact hc k
    · have := x.fresh a h' k
      rw [h] at this; cases this
  · by_cases k : a ∈ φ'.c
    · exact x.fresh a k n
    · exact x.back (y.fresh a h k)
  · by_cases k : a ∈ φ'.r
    · exact x.freshr a k n
    · exact x.back (y.freshr a h k)
  · obtain ⟨o', h'⟩ := x.there a o h
    exact y.there a o' h'
theorem Xt.get (x : Xt φ H φ' H') {n : Nat} {a : Addr} (h : φ.c[n]? = some a) : φ'.c[n]? = some a := by
  obtain ⟨e, h2⟩ := x.pre
  have hl : n < φ.c.length := (List.getElem?_eq_some_iff.mp h).1
  rw [h2, List.getElem?_append_left hl]
  exact h
theorem Xt.tup (x : Xt φ H φ' H') {a : Addr} {vs : List V} (h : SqT K H a vs) : SqT K H' a vs := by
  rcases h with (h | ⟨o, h⟩) | h
  · exact .inl (.inl (x.keep _ _ h fun _ => rfl))
  · exact .inl (.inr ⟨o, x.keep _ _ h fun _ => rfl⟩)
  · exact .inr h
theorem Xt.notin (x : Xt φ H φ' H') {a : Addr} {o : HO} (h : H a = some o) (n : a ∉ φ.c) : a ∉ φ'.c := fun k => by
  have := x.fresh a k n
  rw [h] at this; cases this
theorem Xt.notin2 (x : Xt φ H φ' H') {a : Addr} {o : HO} (h : H a = some o) (n : a ∉ φ.c ∧ a ∉ φ.r) : a ∉ φ'.c ∧ a ∉ φ'.r := ⟨x.notin h n.1, fun k => by
  have := x.freshr a k n.2
  rw [h] at this; cases this⟩
theorem Xt.rol (x : Xt φ H φ' H') {a : Addr} {vs : List V} (h : RolAt K φ H a vs) : RolAt K φ' H' a vs := by
  rcases h with ⟨o, h⟩ | ⟨h, n⟩ | h
  · exact .inl ⟨o, x.keep _ _ h fun _ => rfl⟩
  · exact .inr (.inl ⟨x.keep _ _ h fun z => absurd z n.1, x.notin2 h n⟩)
  · exact .inr (.inr h)
mutual
theorem Rp.mono (x : Xt φ H φ' H') : ∀ {v : PV} {u : V}, Rp K φ H v u → Rp K φ' H' v u
  | _, _, .non => .non
  | _, _, .bl b => .bl b
  | _, _, .int i => .int i
  | _, _, .str s => .str s
  | _, _, .tup h r => .tup (x.tup h) (Rps.mono x r)
  | _, _, .lst h n r => .lst (x.keep _ _ h fun z => absurd z n.1) (x.notin2 h n) (Rps.mono x r)
  | _, _, .rol h r => .rol (x.rol h) (Rps.mono x r)
  | _, _, .ref h => .ref (x.get h)
  | _, _, .dct h n => .dct (x.keep _ _ h fun z => absurd z n.1) (x.notin2 h n)
theorem Rps.mono (x : Xt φ H φ' H') : ∀ {v : List PV} {u : List V}, Rps K φ H v u → Rps K φ' H' v u
  | _, _, .nil => .nil
  | _, _, .cons h r => .cons (Rp.mono x h) (Rps.mono x r)
end
theorem Rds.imp {φ' : Ph} {H' : Hp} (f : ∀ {v : PV} {u : V}, Rp K φ H v u → Rp K φ' H' v u) {xs : List (List Int × PV)} {vs : List (List Key × V)} (r : Rds K φ H xs vs) : Rds K φ' H' xs vs := by
  induction r with
  | nil => exact .nil
  | cons h _ ih => exact .cons (f h) ih
theorem Rds.mono (x : Xt φ H φ' H') {xs : List (List Int × PV)} {vs : List (List Key × V)} (r : Rds K φ H xs vs) : Rds K φ' H' xs vs := r.imp (Rp.mono x)
theorem RE.mono (x : Xt φ H φ' H') (r : RE K φ H env σ) : RE K φ' H' env σ := ⟨r.len, fun i v h => by
  obtain ⟨u, h1, h2⟩ := r.at_ i v h
  exact ⟨u, h1, h2.mono x⟩⟩
theorem RE.set (r : RE K φ H env σ) {v : PV} {u : V} (h : Rp K φ H v u) (i : Nat) : RE K φ H (env.set i (some v)) (σ.set i (some u)) := by
  refine ⟨by simpa using r.len, fun j w e => ?_⟩
  by_cases k : i = j
  · subst k
    have hi : i < env.length := by
      have := (List.getElem?_eq_some_iff.mp e).1
      simpa using this
    rw [List.getElem?_set_self hi] at e
    cases e
    exact ⟨u, List.getElem?_set_self (Nat.lt_of_lt_of_le hi r.len), h⟩
  · rw [List.getElem?_set_ne k] at e
    obtain ⟨u', h1, h2⟩ := r.at_ j w e
    exact ⟨u', by rw [List.getElem?_set_ne k]; exact h1, h2⟩
theorem RM.at_ (r : RM K φ H M) {n : Nat} {c : Cell} (h : M[n]? = some c) : ∃ a, φ.c[n]? = some a ∧ CellOk K φ H a c := by
  have hn : n < φ.c.length := by rw [r.len]; exact (List.getElem?_eq_some_iff.mp h).1
  exact ⟨φ.c[n], List.getElem?_eq_getElem hn, r.cells n _ c (List.getElem?_eq_getElem hn) h⟩
theorem CellOk.some_ {a : Addr} {c : Cell} (h : CellOk K φ H a c) : ∃ o, H a = some o := by
  cases c with
  | lst xs => obtain ⟨vs, h, _⟩ := h; exact ⟨_, h⟩
  | dic k => obtain ⟨vs, h, _⟩ := h; exact ⟨_, h⟩
  | fdi k => obtain ⟨o, vs, h, _⟩ := h; exact ⟨_, h⟩
theorem RM.some_ (r : RM K φ H M) {a : Addr} (h : a ∈ φ.c) : ∃ o, H a = some o := by
  obtain ⟨n, hn, e⟩ := List.getElem_of_mem h
  have hm : n < M.length := by rw [← r.len]; exact hn
  exact (r.cells n a M[n] (by rw [List.getElem?_eq_getElem hn, e]) (List.getElem?_eq_getElem hm)).some_
theorem RM.notin (r : RM K φ H M) {p : Addr} (h : H p = none) : p ∉ φ.c := fun k => by
  obtain ⟨o, e⟩ := r.some_ k
  rw [h] at e; cases e
theorem RM.notin2 (r : RM K φ H M) {p : Addr} (h : H p = none) : p ∉ φ.c ∧ p ∉ φ.r := ⟨r.notin h, fun k => by
  obtain ⟨o, e⟩ := r.res p k
  rw [h] at e; cases e⟩
theorem xt_new {p : Addr} {o : HO} (h : H p = none) : Xt φ H φ (upd H p o) :=
  ⟨⟨[], by simp⟩, fun _ h => h, fun a u e _ => by rw [upd_ne (ne_of_none e h)]; exact e, fun _ a n => absurd a n, fun _ a n => absurd a n, fun a u e => ⟨u, by rw [upd_ne (ne_of_none e h)]; exact e⟩⟩
theorem CellOk.mono_same {a : Addr} {c : Cell} (x : Xt φ H φ' H') (k : ∀ o, H a = some o → H' a = some o) (h : CellOk K φ H a c) : CellOk K φ' H' a c := by
  cases c with
  | lst xs => obtain ⟨vs, h, r⟩ := h; exact ⟨vs, k _ h, r.mono x⟩
  | dic _ => obtain ⟨vs, h, r⟩ := h; exact ⟨vs, k _ h, r.mono x⟩
  | fdi _ => obtain ⟨o, vs, h, r⟩ := h; exact ⟨o, vs, k _ h, r.mono x⟩
theorem res_upd {p : Addr} {o : HO} (r : ∀ a, a ∈ φ.r → ∃ o, H a = some o) : ∀ a, a ∈ φ.r → ∃ o', upd H p o a = some o' := fun a h => by
  by_cases e : a = p
  · subst e; exact ⟨_, upd_same⟩
  · rw [upd_ne e]; exact r a h
theorem RM.new (r : RM K φ H M) {p : Addr} {o : HO} (h : H p = none) : RM K φ (upd H p o) M :=
  ⟨r.len, r.nd, res_upd r.res, fun n a c h1 h2 => (r.cells n a c h1 h2).mono_same (xt_new h) fun u e => by rw [upd_ne (ne_of_none e h)]; exact e⟩
/-- one cell more -/
def Ph.add (φ : Ph) (p : Addr) : Ph := ⟨φ.c ++ [p], φ.r⟩
theorem xt_cell {p : Addr} {o : HO} (h : H p = none) : Xt φ H (φ.add p) (upd H p o) :=
  ⟨⟨[p], rfl⟩, fun _ h => h, fun a u e _ => by rw [upd_ne (ne_of_none e h)]; exact e, fun a k n => by
    rcases List.mem_append.mp k with k | k
    · exact absurd k n
    · have : a = p := by simpa using k
      rw [this]; exact h, fun _ a n => absurd a n, fun a u e => ⟨u, by rw [upd_ne (ne_of_none e h)]; exact e⟩⟩
theorem RM.cellC (r : RM K φ H M) {p : Addr} {c0 : Cell} {ob : HO} (h : H p = none) (q : CellOk K (φ.add p) (upd H p ob) p c0) : RM K (φ.add p) (upd H p ob) (M ++ [c0]) := by
  refine ⟨by simp [r.len, Ph.add], ?_, res_upd r.res, fun n a c h1 h2 => ?_⟩
  · show (φ.c ++ [p]).Nodup
    rw [List.nodup_append]
    refine ⟨r.nd, by simp, fun a ha b hb e => ?_⟩
    have : b = p := by simpa using hb
    subst this
    exact r.notin h (e ▸ ha)
  · change (φ.c ++ [p])[n]? = some a at h1
    by_cases k : n < φ.c.length
    · rw [List.getElem?_append_left k] at h1
      rw [List.getElem?_append_left (by rw [← r.len]; exact k)] at h2
      exact (r.cells n a c h1 h2).mono_same (xt_cell h) fun u e => by rw [upd_ne (ne_of_none e h)]; exact e
    · have k2 : n = φ.c.length := by
        have := (List.getElem?_eq_some_iff.mp h1).1
        simp at this
        omega
      subst k2
      rw [List.getElem?_append_right (Nat.le_refl _)] at h1
      rw [r.len, List.getElem?_append_right (Nat.le_refl _)] at h2
      simp at h1 h2
      subst h1 h2
      exact q
theorem RM.cell (r : RM K φ H M) {p : Addr} {xs : List PV} {vs : List V} (h : H p = none) (q : Rps K φ H xs vs) : RM K (φ.add p) (upd H p (.lst vs)) (M ++ [.lst xs]) := r.cellC h ⟨vs, upd_same, q.mono (xt_cell h)⟩
theorem RM.dcell (r : RM K φ H M) {p : Addr} (h : H p = none) : RM K (φ.add p) (upd H p (.dT [])) (M ++ [.dic []]) := r.cellC h ⟨[], upd_same, .nil⟩
theorem RM.eq_of (r : RM K φ H M) {m n : Nat} {a : Addr} (h : φ.c[m]? = some a) (h' : φ.c[n]? = some a) : m = n := by
  obtain ⟨h1, e1⟩ := List.getElem?_eq_some_iff.mp h
  obtain ⟨h2, e2⟩ := List.getElem?_eq_some_iff.mp h'
  exact (List.getElem_inj r.nd).mp (e1.trans e2.symm)
theorem xt_set {a : Addr} {o0 o : HO} (e0 : H a = some o0) (c0 : isCell o0 = true) (hm : a ∈ φ.c) : Xt φ H φ (upd H a o) := by
  refine ⟨⟨[], by simp⟩, fun _ h => h, fun b u e k => ?_, fun _ k n => absurd k n, fun _ k n => absurd k n, fun b u e => ?_⟩
  rotate_left
  · by_cases z : b = a
    · subst z; exact ⟨_, upd_same⟩
    · exact ⟨u, by rw [upd_ne z]; exact e⟩
  have ne : b ≠ a := fun z => by
    subst z
    rw [e] at e0; cases e0
    rw [k hm] at c0; cases c0
  rw [upd_ne ne]; exact e
theorem RM.setC (r : RM K φ H M) {n : Nat} {a : Addr} {c0 : Cell} {ob : HO} (x : Xt φ H φ (upd H a ob)) (h : φ.c[n]? = some a) (q : CellOk K φ (upd H a ob) a c0) : RM K φ (upd H a ob) (M.set n c0) := by
  refine ⟨by simp [r.len], r.nd, res_upd r.res, fun m b c h1 h2 => ?_⟩
  by_cases k : n = m
  · subst k
    have hn : n < M.length := by rw [← r.len]; exact (List.getElem?_eq_some_iff.mp h).1
    rw [List.getElem?_set_self hn] at h2
    rw [h] at h1
    cases h1; cases h2
    exact q
  · rw [List.getElem?_set_ne k] at h2
    have ne : b ≠ a := fun z => by
      subst z
      exact k (r.eq_of h h1)
    exact (r.cells m b c h1 h2).mono_same x fun u e => by rw [upd_ne ne]; exact e
theorem RM.set (r : RM K φ H M) {n : Nat} {a : Addr} {o0 : HO} {xs : List PV} {vs : List V} (e0 : H a = some o0) (c0 : isCell o0 = true) (h : φ.c[n]? = some a) (q : Rps K φ H xs vs) : RM K φ (upd H a (.lst vs)) (M.set n (.lst xs)) :=
  r.setC (xt_set e0 c0 (List.mem_of_getElem? h)) h ⟨vs, upd_same, q.mono (xt_set e0 c0 (List.mem_of_getElem? h))⟩
/-! ### a list that is being made at D -/
theorem ne_mem {l : List Addr} {a D : Addr} (h : D ∈ l) (n : a ∉ l) : a ≠ D := fun z => n (by rw [z]; exact h)
def Ph.hide (φ : Ph) (D : Addr) : Ph := ⟨φ.c, D :: φ.r⟩
theorem xt_hide {D : Addr} {o : HO} (h : H D = none) : Xt φ H (φ.hide D) (upd H D o) :=
  ⟨⟨[], by simp [Ph.hide]⟩, fun _ k => List.mem_cons_of_mem _ k, fun a u e _ => by rw [upd_ne (ne_of_none e h)]; exact e, fun _ a n => absurd a n, fun a k n => by
    rcases List.mem_cons.mp k with k | k
    · rw [k]; exact h
    · exact absurd k n, fun a u e => ⟨u, by rw [upd_ne (ne_of_none e h)]; exact e⟩⟩
mutual
/-- what lies at a hidden place changes -/
theorem Rp.under {D : Addr} {ws : List V} {o : HO} (h : H D = some (.lst ws)) (hd : D ∈ φ.r) : ∀ {v : PV} {u : V}, Rp K φ H v u → Rp K φ (upd H D o) v u
  | _, _, .non => .non
  | _, _, .bl b => .bl b
  | _, _, .int i => .int i
  | _, _, .str s => .str s
  | _, _, .tup k r => .tup (by
      rcases k with (k | ⟨o, k⟩) | k
      · exact .inl (.inl (by rw [upd_ne (ne_of k h (by intro z; cases z))]; exact k))
      · exact .inl (.inr ⟨o, by rw [upd_ne (ne_of k h (by intro z; cases z))]; exact k⟩)
      · exact .inr k) (Rps.under h hd r)
  | _, _, .lst k n r => .lst (by rw [upd_ne (ne_mem hd n.2)]; exact k) n (Rps.under h hd r)
  | _, _, .rol k r => .rol (by
      rcases k with ⟨o, k⟩ | ⟨k, n⟩ | k
      · exact .inl ⟨o, by rw [upd_ne (ne_of k h (by intro z; cases z))]; exact k⟩
      · exact .inr (.inl ⟨by rw [upd_ne (ne_mem hd n.2)]; exact k, n⟩)
      · exact .inr (.inr k)) (Rps.under h hd r)
  | _, _, .ref k => .ref k
  | _, _, .dct k n => .dct (by rw [upd_ne (ne_mem hd n.2)]; exact k) n
theorem Rps.under {D : Addr} {ws : List V} {o : HO} (h : H D = some (.lst ws)) (hd : D ∈ φ.r) : ∀ {v : List PV} {u : List V}, Rps K φ H v u → Rps K φ (upd H D o) v u
  | _, _, .nil => .nil
  | _, _, .cons k r => .cons (Rp.under h hd k) (Rps.under h hd r)
end
mutual
theorem Rp.less {l : List Addr} (s : ∀ a, a ∈ l → a ∈ φ.r) : ∀ {v : PV} {u : V}, Rp K φ H v u → Rp K ⟨φ.c, l⟩ H v u
  | _, _, .non => .non
  | _, _, .bl b => .bl b
  | _, _, .int i => .int i
  | _, _, .str s => .str s
  | _, _, .tup k r => .tup k (Rps.less s r)
  | _, _, .lst k n r => .lst k ⟨n.1, fun z => n.2 (s _ z)⟩ (Rps.less s r)
  | _, _, .rol k r => .rol (by
      rcases k with ⟨o, k⟩ | ⟨k, n⟩ | k
      · exact .inl ⟨o, k⟩
      · exact .inr (.inl ⟨k, n.1, fun z => n.2 (s _ z)⟩)
      · exact .inr (.inr k)) (Rps.less s r)
  | _, _, .ref k => .ref k
  | _, _, .dct k n => .dct k ⟨n.1, fun z => n.2 (s _ z)⟩
theorem Rps.less {l : List Addr} (s : ∀ a, a ∈ l → a ∈ φ.r) : ∀ {v : List PV} {u : List V}, Rps K φ H v u → Rps K ⟨φ.c, l⟩ H v u
  | _, _, .nil => .nil
  | _, _, .cons k r => .cons (Rp.less s k) (Rps.less s r)
end
mutual
/-- a hidden place becomes a cell -/
theorem Rp.shift {l : List Addr} {D : Addr} (s : ∀ a, a ∈ l → a ∈ φ.r) (hd : D ∈ φ.r) : ∀ {v : PV} {u : V}, Rp K φ H v u → Rp K (Ph.add ⟨φ.c, l⟩ D) H v u
  | _, _, .non => .non
  | _, _, .bl b => .bl b
  | _, _, .int i => .int i
  | _, _, .str s => .str s
  | _, _, .tup k r => .tup k (Rps.shift s hd r)
  | _, _, .lst k n r => .lst k ⟨fun z => (List.mem_append.mp z).elim n.1 fun z => n.2 (by rw [List.mem_singleton.mp z]; exact hd), fun z => n.2 (s _ z)⟩ (Rps.shift s hd r)
  | _, _, .rol k r => .rol (by
      rcases k with ⟨o, k⟩ | ⟨k, n⟩ | k
      · exact .inl ⟨o, k⟩
      · exact .inr (.inl ⟨k, fun z => (List.mem_append.mp z).elim n.1 fun z => n.2 (by rw [List.mem_singleton.mp z]; exact hd), fun z => n.2 (s _ z)⟩)
      · exact .inr (.inr k)) (Rps.shift s hd r)
  | _, _, .ref k => .ref (by
      have hl := (List.getElem?_eq_some_iff.mp k).1
      show (φ.c ++ [D])[_]? = _
      rw [List.getElem?_append_left hl]; exact k)
  | _, _, .dct k n => .dct k ⟨fun z => (List.mem_append.mp z).elim n.1 fun z => n.2 (by rw [List.mem_singleton.mp z]; exact hd), fun z => n.2 (s _ z)⟩
theorem Rps.shift {l : List Addr} {D : Addr} (s : ∀ a, a ∈ l → a ∈ φ.r) (hd : D ∈ φ.r) : ∀ {v : List PV} {u : List V}, Rps K φ H v u → Rps K (Ph.add ⟨φ.c, l⟩ D) H v u
  | _, _, .nil => .nil
  | _, _, .cons k r => .cons (Rp.shift s hd k) (Rps.shift s hd r)
end
theorem RM.enter (m : RM K φ H M) {D : Addr} {o : HO} (h : H D = none) : RM K (φ.hide D) (upd H D o) M :=
  ⟨m.len, m.nd, fun a k => by
    by_cases e : a = D
    · subst e; exact ⟨_, upd_same⟩
    · rw [upd_ne e]
      exact m.res a ((List.mem_cons.mp k).resolve_left e), fun n a c h1 h2 =>
    (m.cells n a c h1 h2).mono_same (xt_hide h) fun u e => by rw [upd_ne (ne_of_none e h)]; exact e⟩
theorem RM.under (m : RM K φ H M) {D : Addr} {ws : List V} {o : HO} (h : H D = some (.lst ws)) (hd : D ∈ φ.r) (hc : D ∉ φ.c) : RM K φ (upd H D o) M :=
  ⟨m.len, m.nd, res_upd m.res, fun n a c h1 h2 => by
    have k := m.cells n a c h1 h2
    have ne : a ≠ D := fun z => hc (z ▸ List.mem_of_getElem? h1)
    cases c with
    | lst xs =>
      obtain ⟨vs, h3, h4⟩ := k
      exact ⟨vs, by rw [upd_ne ne]; exact h3, h4.under h hd⟩
    | dic _ =>
      obtain ⟨vs, h3, h4⟩ := k
      exact ⟨vs, by rw [upd_ne ne]; exact h3, h4.imp (Rp.under h hd)⟩
    | fdi _ =>
      obtain ⟨o', vs, h3, h4⟩ := k
      exact ⟨o', vs, by rw [upd_ne ne]; exact h3, h4.imp (Rp.under h hd)⟩⟩
theorem RM.less (m : RM K φ H M) {l : List Addr} (s : ∀ a, a ∈ l → a ∈ φ.r) : RM K ⟨φ.c, l⟩ H M :=
  ⟨m.len, m.nd, fun a k => m.res a (s a k), fun n a c h1 h2 => by
    have k := m.cells n a c h1 h2
    cases c with
    | lst xs =>
      obtain ⟨vs, h3, h4⟩ := k
      exact ⟨vs, h3, h4.less s⟩
    | dic _ =>
      obtain ⟨vs, h3, h4⟩ := k
      exact ⟨vs, h3, h4.imp (Rp.less s)⟩
    | fdi _ =>
      obtain ⟨o', vs, h3, h4⟩ := k
      exact ⟨o', vs, h3, h4.imp (Rp.less s)⟩⟩

/-! ### lists of values -/
theorem Rps.length : ∀ {xs : List PV} {vs : List V}, Rps K φ H xs vs → xs.length = vs.length
  | _, _, .nil => rfl
  | _, _, .cons _ r => by simp [Rps.length r]
theorem Rps.append : ∀ {xs ys : List PV} {vs ws : List V}, Rps K φ H xs vs → Rps K φ H ys ws → Rps K φ H (xs ++ ys) (vs ++ ws)
  | _, _, _, _, .nil, q => q
  | _, _, _, _, .cons h r, q => .cons h (Rps.append r q)
theorem Rps.get : ∀ {xs : List PV} {vs : List V} {i : Nat} {x : PV}, Rps K φ H xs vs → xs[i]? = some x → ∃ v, vs[i]? = some v ∧ Rp K φ H x v
  | _, _, _, _, .nil, e => by simp at e
  | _, _, 0, _, .cons h _, e => by simp at e; subst e; exact ⟨_, rfl, h⟩
  | _, _, i + 1, _, .cons _ r, e => by
    obtain ⟨v, h1, h2⟩ := Rps.get (i := i) r (by simpa using e)
    exact ⟨v, by simpa using h1, h2⟩
theorem Rps.set : ∀ {xs : List PV} {vs : List V} (i : Nat) {x : PV} {v : V}, Rps K φ H xs vs → Rp K φ H x v → Rps K φ H (xs.set i x) (vs.set i v)
  | _, _, _, _, _, .nil, _ => .nil
  | _, _, 0, _, _, .cons _ r, q => .cons q r
  | _, _, i + 1, _, _, .cons h r, q => .cons h (Rps.set i r q)
theorem Rps.take : ∀ {xs : List PV} {vs : List V} (n : Nat), Rps K φ H xs vs → Rps K φ H (xs.take n) (vs.take n)
  | _, _, 0, _ => .nil
  | _, _, _ + 1, .nil => .nil
  | _, _, n + 1, .cons h r => .cons h (Rps.take n r)
theorem Rps.drop : ∀ {xs : List PV} {vs : List V} (n : Nat), Rps K φ H xs vs → Rps K φ H (xs.drop n) (vs.drop n)
  | _, _, 0, r => r
  | _, _, _ + 1, .nil => .nil
  | _, _, n + 1, .cons _ r => Rps.drop n r
theorem Rps.rev : ∀ {xs : List PV} {vs : List V}, Rps K φ H xs vs → Rps K φ H xs.reverse vs.reverse
  | _, _, .nil => .nil
  | _, _, .cons h r => by
    rw [List.reverse_cons, List.reverse_cons]
    exact (Rps.rev r).append (.cons h .nil)
theorem Rps.rep {xs : List PV} {vs : List V} (r : Rps K φ H xs vs) : ∀ n : Nat, Rps K φ H (List.replicate n xs).flatten (List.replicate n vs).flatten
  | 0 => .nil
  | n + 1 => by
    rw [List.replicate_succ, List.replicate_succ, List.flatten_cons, List.flatten_cons]
    exact r.append (Rps.rep r n)
theorem Rps.atI {xs : List PV} {vs : List V} {i : Int} {x : PV} (r : Rps K φ H xs vs) (h : atI xs i = some x) : ∃ v, L2.atI vs i = some v ∧ Rp K φ H x v := by
  unfold L2.atI at h ⊢
  rw [← r.length]
  cases e : ixN xs.length i with
  | none => rw [e] at h; cases h
  | some j =>
    rw [e] at h
    exact r.get (i := j) h
theorem Rps.isEmpty {xs : List PV} {vs : List V} (r : Rps K φ H xs vs) : xs.isEmpty = vs.isEmpty := by
  cases r <;> rfl
/-- the items of a list -/
theorem items_sq (m : RM K φ H M) {v : PV} {u : V} {xs : List PV} (r : Rp K φ H v u) (h : items M v = some xs) : ∃ a vs, u = .ref a ∧ SqL K H a vs ∧ Rps K φ H xs vs := by
  cases r with
  | lst h1 n r1 => cases h; exact ⟨_, _, rfl, .inl (.inl h1), r1⟩
  | rol h1 r1 => cases h; exact ⟨_, _, rfl, h1.sq, r1⟩
  | @ref n a h1 =>
    unfold items at h
    simp only at h
    split at h
    · rename_i ys e
      cases h
      obtain ⟨b, h2, vs, h3, h4⟩ := m.at_ e
      rw [h1] at h2; cases h2
      exact ⟨_, _, rfl, .inl (.inl h3), h4⟩
    · cases h
  | non | bl | int | str | tup | dct => cases h
theorem itemsW_sq (m : RM K φ H M) {v : PV} {u : V} {xs : List PV} (r : Rp K φ H v u) (h : itemsW M v = some xs) : ∃ a vs, u = .ref a ∧ H a = some (.lst vs) ∧ Rps K φ H xs vs := by
  cases r with
  | lst h1 n r1 => cases h; exact ⟨_, _, rfl, h1, r1⟩
  | @ref n a h1 =>
    unfold itemsW at h
    simp only at h
    split at h
    · rename_i ys e
      cases h
      obtain ⟨b, h2, vs, h3, h4⟩ := m.at_ e
      rw [h1] at h2; cases h2
      exact ⟨_, _, rfl, h3, h4⟩
    · cases h
  | non | bl | int | str | tup | rol | dct => cases h
theorem itemsT_sq (m : RM K φ H M) {v : PV} {u : V} {xs : List PV} (r : Rp K φ H v u) (h : itemsT M v = some xs) : ∃ a vs, u = .ref a ∧ (SqL K H a vs ∨ SqT K H a vs) ∧ Rps K φ H xs vs := by
  cases r with
  | tup h1 r1 => cases h; exact ⟨_, _, rfl, .inr h1, r1⟩
  | lst h1 n r1 =>
    obtain ⟨a, vs, e, h2, h3⟩ := items_sq m (.lst h1 n r1) h
    exact ⟨a, vs, e, .inl h2, h3⟩
  | rol h1 r1 =>
    obtain ⟨a, vs, e, h2, h3⟩ := items_sq m (.rol h1 r1) h
    exact ⟨a, vs, e, .inl h2, h3⟩
  | ref h1 =>
    obtain ⟨a, vs, e, h2, h3⟩ := items_sq m (.ref h1) h
    exact ⟨a, vs, e, .inl h2, h3⟩
  | non | bl | int | str | dct => cases h
/-! ### data -/
mutual
theorem toD_dp : ∀ {v : PV} {u : V} {d : PyData}, Rp K φ H v u → toD v = some d → Dp K H u d
  | .non, _, _, .non, e => by cases e; exact .non
  | .bl b, _, _, .bl _, e => by cases e; exact .bl b
  | .int i, _, _, .int _, e => by cases e; exact .int i
  | .str s, _, _, .str _, e => by cases e; exact .str s
  | .tup xs, _, d, .tup h r, e => by
    unfold toD at e
    cases k : toDs xs with
    | none => rw [k] at e; cases e
    | some ds => rw [k] at e; cases e; exact .tup h (toDs_dp r k)
  | .lst xs, _, d, .lst h n r, e => by
    unfold toD at e
    cases k : toDs xs with
    | none => rw [k] at e; cases e
    | some ds => rw [k] at e; cases e; exact .lst (.inl (.inl h)) (toDs_dp r k)
  | .rol xs, _, d, .rol h r, e => by
    unfold toD at e
    cases k : toDs xs with
    | none => rw [k] at e; cases e
    | some ds => rw [k] at e; cases e; exact .lst h.sq (toDs_dp r k)
  | .ref n, _, _, .ref h, e => by cases e
  | .dct n, _, _, .dct h _, e => by cases e
theorem toDs_dp : ∀ {v : List PV} {u : List V} {d : List PyData}, Rps K φ H v u → toDs v = some d → DpAll K H u d
  | [], _, _, .nil, e => by cases e; exact .nil
  | x :: xs, _, d, .cons h r, e => by
    unfold toDs at e
    cases k1 : toD x with
    | none => rw [k1] at e; cases e
    | some d1 =>
      cases k2 : toDs xs with
      | none => rw [k1, k2] at e; cases e
      | some ds => rw [k1, k2] at e; cases e; exact .cons (toD_dp h k1) (toDs_dp r k2)
end
theorem toDM_dp (m : RM K φ H M) {v : PV} {u : V} {d : PyData} (r : Rp K φ H v u) (e : toDM M v = some d) : Dp K H u d := by
  cases r with
  | ref h1 =>
    unfold toDM at e
    simp only at e
    split at e
    · rename_i xs e1
      obtain ⟨b, h2, vs, h3, h4⟩ := m.at_ e1
      rw [h1] at h2; cases h2
      cases k : toDs xs with
      | none => rw [k] at e; cases e
      | some ds => rw [k] at e; cases e; exact .lst (.inl (.inl h3)) (toDs_dp h4 k)
    · cases e
  | non => exact toD_dp (φ := φ) .non e
  | bl b => exact toD_dp (φ := φ) (.bl b) e
  | int i => exact toD_dp (φ := φ) (.int i) e
  | str i => exact toD_dp (φ := φ) (.str i) e
  | tup h r => exact toD_dp (.tup h r) e
  | lst h n r => exact toD_dp (.lst h n r) e
  | rol h r => exact toD_dp (.rol h r) e
  | dct h n => cases e
theorem truthy_tru (m : RM K φ H M) {v : PV} {u : V} {b : Bool} (r : Rp K φ H v u) (e : truthy M v = some b) : TruV K u H b := by
  cases r with
  | non => cases e; rfl
  | bl b => cases e; rfl
  | int i => cases e; rfl
  | str s =>
    unfold truthy at e
    simp only at e
    split at e
    · rename_i h; cases e; exact ⟨h, rfl⟩
    · cases e
  | tup h r => cases e; exact .inr (.inl ⟨_, h, by rw [r.isEmpty]⟩)
  | lst h n r => cases e; exact .inl ⟨_, .inl (.inl h), by rw [r.isEmpty]⟩
  | rol h r => cases e; exact .inl ⟨_, h.sq, by rw [r.isEmpty]⟩
  | ref h1 =>
    unfold truthy at e
    simp only at e
    split at e
    · rename_i xs e1
      cases e
      obtain ⟨b, h2, vs, h3, h4⟩ := m.at_ e1
      rw [h1] at h2; cases h2
      exact .inl ⟨_, .inl (.inl h3), by rw [h4.isEmpty]⟩
    · cases e
  | dct h n => cases e
end
end Ev

/-! The operations on values, over the interpreter's. -/
namespace Ev
section
open PySem PySem.Spec PyProof.Rows L2
theorem tuple_mulE (l : Addr) (items : Array Value) (n : Nat) (dd : Option Addr) (sl : Array (Option Value)) (x : Int) (u : Tok) (c0 : (decide (x < -(2 ^ 63)) || decide (x ≥ 2 ^ 63)) = false) (c1 : (items.isEmpty || x == 1) = true) :
    Meets (Builtin.«tuple.__mul__» ⟨[.ref l, .int x u], []⟩) (fun _ R s => s.heap.get? l = some { cls := .type "tuple", dict := dd, data := .seq items n, slots := sl } ∧ R (.ok (.ret (.ref l))) s) :=
  .of_wp fun prog w A R s h => by
    obtain ⟨hp, g, d, tk, os⟩ := s
    obtain ⟨hl, h⟩ := h
    have f1 := AutoSeq1.idx_int
    have hT : Shared.TypeIs ⟨hp, g, d, tk, os⟩ (.ref l) "tuple" := ⟨_, hl, rfl⟩
    wp_walk using wpAny_loadPart' hl, wpAny_typeOf hT
    repeat (first
      | (refine wpAny_ite_false (decide_eq_false (by rw [c0]; exact Bool.false_ne_true)) ?_; wp_walk using wpAny_loadPart' hl, wpAny_typeOf hT)
      | (refine wpAny_ite_true (decide_eq_true (by first | exact c1 | rfl)) ?_; wp_walk using wpAny_loadPart' hl, wpAny_typeOf hT))
    exact ⟨_, rfl, h⟩
theorem tuple_mul0 (l : Addr) (items : Array Value) (n : Nat) (dd : Option Addr) (sl : Array (Option Value)) (x : Int) (u : Tok) (c0 : (decide (x < -(2 ^ 63)) || decide (x ≥ 2 ^ 63)) = false) (c1 : (items.isEmpty || x == 1) = false) (c2 : (decide (x ≤ 0) || items.isEmpty) = true) :
    Meets (Builtin.«tuple.__mul__» ⟨[.ref l, .int x u], []⟩) (fun _ R s => s.heap.get? l = some { cls := .type "tuple", dict := dd, data := .seq items n, slots := sl } ∧
      R (.ok (.ret (Value.ref s.heap.objs.size))) { s with heap := s.heap.push { cls := Value.type "tuple", data := Data.seq #[] }, toks := s.toks }) :=
  .of_wp fun prog w A R s h => by
    obtain ⟨hp, g, d, tk, os⟩ := s
    obtain ⟨hl, h⟩ := h
    have f1 := AutoSeq1.idx_int
    wp_walk using wpAny_loadPart' hl
    repeat (first
      | (refine wpAny_ite_false (decide_eq_false (by rw [c0]; exact Bool.false_ne_true)) ?_; wp_walk using wpAny_loadPart' hl)
      | (refine wpAny_ite_false (decide_eq_false (by rw [c1]; exact Bool.false_ne_true)) ?_; wp_walk using wpAny_loadPart' hl)
      | (refine wpAny_ite_true (decide_eq_true (by exact c2)) ?_; wp_walk using wpAny_loadPart' hl))
    exact ⟨_, rfl, h⟩
def rRepT0 (K : PySem.W.Frag) : R2 := fun x y H Q => ∃ l k xs, x = .ref l ∧ y = .int k ∧ SqT K H l xs ∧ (xs = [] ∨ k = 1) ∧ -(2 ^ 63) ≤ k ∧ k < 2 ^ 63 ∧ Q (.ref l) H
theorem op_repT0 {X : Cx} : OpR X (binaryOp .Mult) (rRepT0 X.K) := by
  intro pins s σ H x y v u Q I rx ry h
  obtain ⟨l, k, xs, rfl, rfl, hT, h0, h1, h2, q⟩ := h
  cases rx
  obtain ⟨t, rfl⟩ := ry
  obtain ⟨its, r, ⟨⟨cls, dd, data, sl⟩, ho, hc, n, hd⟩, hs⟩ := I.tuple hT
  simp only at hc hd
  subst hc hd
  have c0 : (decide (k < -(2 ^ 63)) || decide (k ≥ 2 ^ 63)) = false := by
    rw [decide_eq_false (by omega), decide_eq_false (by omega)] <;> rfl
  have c1 : (its.toArray.isEmpty || k == 1) = true := by
    rcases h0 with rfl | rfl
    · cases r; rfl
    · rw [Bool.or_eq_true]; exact .inr rfl
  exact wpAny_binaryOp_repeat_ref (T := "tuple") (U := "int") (by decide) ⟨_, ho, rfl⟩ (fun s' => typeIs_int s' k t) noFill_tuple_mul F.fills_int_mul F.slot_int_rmul repeat_tuple F.slot_int_index.lookup
    (call_meets F.slot_int_rmul (typeIs_int s k t) F.entry_int_rmul (F.args_int_rmul_2 _ _) (int_rmul_tuple k t l its.toArray n dd sl)
      ⟨ho, rfl, ⟨_, ho, rfl⟩, call_meets F.slot_tuple_mul ⟨_, ho, rfl⟩ F.entry_tuple_mul (F.args_tuple_mul_2 _ _) (tuple_mulE l its.toArray n dd sl k t c0 c1) ⟨ho, ⟨.ref l, H, I, rfl, q⟩⟩⟩)
def rRepT1 (K : PySem.W.Frag) : R2 := fun x y H Q => ∃ l k xs, x = .ref l ∧ y = .int k ∧ SqT K H l xs ∧ xs ≠ [] ∧ -(2 ^ 63) ≤ k ∧ k ≤ 0 ∧ ∀ p, H p = none → Q (.ref p) (upd H p (.tup []))
theorem op_repT1 {X : Cx} : OpR X (binaryOp .Mult) (rRepT1 X.K) := by
  intro pins s σ H x y v u Q I rx ry h
  obtain ⟨l, k, xs, rfl, rfl, hT, hne, h1, h2, q⟩ := h
  cases rx
  obtain ⟨t, rfl⟩ := ry
  obtain ⟨its, r, ⟨⟨cls, dd, data, sl⟩, ho, hc, n, hd⟩, hs⟩ := I.tuple hT
  simp only at hc hd
  subst hc hd
  have hi : its.toArray.isEmpty = false := by
    cases its with
    | nil => cases r; exact absurd rfl hne
    | cons a b => rfl
  have c0 : (decide (k < -(2 ^ 63)) || decide (k ≥ 2 ^ 63)) = false := by
    rw [decide_eq_false (by omega), decide_eq_false (by omega)] <;> rfl
  have c1 : (its.toArray.isEmpty || k == 1) = false := by
    rw [hi, Bool.false_or]
    exact beq_eq_false_iff_ne.mpr (by omega)
  have c2 : (decide (k ≤ 0) || its.toArray.isEmpty) = true := by
    rw [decide_eq_true h2]; rfl
  refine wpAny_binaryOp_repeat_ref (T := "tuple") (U := "int") (by decide) ⟨_, ho, rfl⟩ (fun s' => typeIs_int s' k t) noFill_tuple_mul F.fills_int_mul F.slot_int_rmul repeat_tuple F.slot_int_index.lookup
    (call_meets F.slot_int_rmul (typeIs_int s k t) F.entry_int_rmul (F.args_int_rmul_2 _ _) (int_rmul_tuple k t l its.toArray n dd sl)
      ⟨ho, rfl, ⟨_, ho, rfl⟩, call_meets F.slot_tuple_mul ⟨_, ho, rfl⟩ F.entry_tuple_mul (F.args_tuple_mul_2 _ _) (tuple_mul0 l its.toArray n dd sl k t c0 c1 c2) ⟨ho, ?_⟩⟩)
  refine ⟨.ref s.heap.objs.size, _, I.laid (t' := s.toks) (o := .tup []) (fun b ob q => Heap.get?_push_of_some _ q) (Nat.le_refl _) ?_, rfl, q _ (I.hok.fresh (Nat.le_refl _))⟩
  exact ⟨Nat.zero_le _, _, .nil, IsTup.new _ _⟩
end
open PySem PySem.Spec PyProof.Rows L2
section
variable {K : PySem.W.Frag} {φ φ' φ2 : Ph} {H H' H2 : Hp} {M M' : Mem}
/-- what is wanted behind a step -/
def Pst (K : PySem.W.Frag) (φ : Ph) (H : Hp) (M : Mem) (z : PV) (Q : VK) : Prop := ∀ φ' H' u, Xt φ H φ' H' → RM K φ' H' M → Rp K φ' H' z u → Q u H'
theorem Pst.here {z : PV} {u : V} {Q : VK} (k : Pst K φ H M z Q) (m : RM K φ H M) (r : Rp K φ H z u) : Q u H := k φ H u .refl m r
theorem Pst.tup {xs : List PV} {vs : List V} {Q : VK} (k : Pst K φ H M (.tup xs) Q) (m : RM K φ H M) (r : Rps K φ H xs vs) {p : Addr} (h : H p = none) : Q (.ref p) (upd H p (.tup vs)) :=
  k φ _ _ (xt_new h) (m.new h) (.tup (.inl (.inl upd_same)) (r.mono (xt_new h)))
theorem Pst.lst {xs : List PV} {vs : List V} {Q : VK} (k : Pst K φ H M (.lst xs) Q) (m : RM K φ H M) (r : Rps K φ H xs vs) {p : Addr} (h : H p = none) : Q (.ref p) (upd H p (.lst vs)) :=
  k φ _ _ (xt_new h) (m.new h) (.lst upd_same (m.notin2 h) (r.mono (xt_new h)))
theorem Pst.cell {xs : List PV} {vs : List V} {Q : VK} (k : Pst K φ H (M ++ [.lst xs]) (.ref M.length) Q) (m : RM K φ H M) (r : Rps K φ H xs vs) {p : Addr} (h : H p = none) : Q (.ref p) (upd H p (.lst vs)) :=
  k (φ.add p) _ _ (xt_cell h) (m.cell h r) (.ref (by show (φ.c ++ [p])[M.length]? = some p; rw [← m.len, List.getElem?_append_right (Nat.le_refl _)]; simp))
theorem Pst.newL {b : Bool} {xs : List PV} {vs : List V} {Q : VK} (k : Pst K φ H (newL b xs M).2 (newL b xs M).1 Q) (m : RM K φ H M) (r : Rps K φ H xs vs) {p : Addr} (h : H p = none) : Q (.ref p) (upd H p (.lst vs)) := by
  cases b with
  | true => exact Pst.cell k m r h
  | false => exact Pst.lst k m r h
theorem Pst.asM {z : PV} {u : V} {Q : VK} {f : Bool} (k : Pst K φ H (Ev.asM f z M).2 (Ev.asM f z M).1 Q) (m : RM K φ H M) (r : Rp K φ H z u) (h : ∀ xs, z ≠ .lst xs := by intro _ h; cases h) : Q u H := by
  cases f with
  | false => exact k.here m r
  | true => cases z <;> first | exact k.here m r | exact absurd rfl (h _)
theorem Pst.asT {xs : List PV} {vs : List V} {Q : VK} {f : Bool} (k : Pst K φ H (Ev.asM f (.tup xs) M).2 (Ev.asM f (.tup xs) M).1 Q) (m : RM K φ H M) (r : Rps K φ H xs vs) {p : Addr} (h : H p = none) : Q (.ref p) (upd H p (.tup vs)) := by
  have k1 : Pst K φ H M (.tup xs) Q := by cases f <;> exact k
  exact k1.tup m r h
theorem Pst.asL {xs : List PV} {vs : List V} {Q : VK} {f : Bool} (k : Pst K φ H (Ev.asM f (.lst xs) M).2 (Ev.asM f (.lst xs) M).1 Q) (m : RM K φ H M) (r : Rps K φ H xs vs) {p : Addr} (h : H p = none) : Q (.ref p) (upd H p (.lst vs)) := by
  cases f with
  | false => exact Pst.lst k m r h
  | true => exact Pst.cell k m r h
def rB (K : PySem.W.Frag) (g : Bool) (f : Mem → PV → PV → Option PV) : R2 := fun x y H Q => ∃ φ M v w z, RM K φ H M ∧ Rp K φ H v x ∧ Rp K φ H w y ∧ f M v w = some z ∧ Pst K φ H (asM g z M).2 (asM g z M).1 Q
end
section
variable {X : Cx}
theorem op_fdivG : OpR X (binaryOp .FloorDiv) (L2.rI (fun i j => j ≠ 0 ∧ j.natAbs.log2 < 9000) fun i j => .int (i.fdiv j)) := opI fun i j _ _ _ _ _ hc q =>
  floordiv_int hc.1 q (.inl (PyProof.noPylong_of_log2 hc.2))
/-- () + t -/
theorem op_catT0 : OpR X (binaryOp .Add) (fun x y H Q => ∃ a b ys, x = .ref a ∧ y = .ref b ∧ SqT X.K H a [] ∧ SqT X.K H b ys ∧ Q (.ref b) H) := by
  intro pins s σ H x y v u Q I rx ry h
  obtain ⟨a, b, ys, rfl, rfl, ha, hb, q⟩ := h
  cases rx
  cases ry
  obtain ⟨its, r1, p1, _⟩ := I.tuple ha
  obtain ⟨its2, r2, p2, _⟩ := I.tuple hb
  cases r1
  obtain ⟨⟨cls, dd, data, sl⟩, ho, hc, n, hd⟩ := _root_.id p1
  obtain ⟨⟨cls2, dd2, data2, sl2⟩, ho2, hc2, n2, hd2⟩ := _root_.id p2
  simp only at hc hd hc2 hd2
  subst hc hd hc2 hd2
  exact concat_meets ⟨_, ho, rfl⟩ ⟨_, ho2, rfl⟩ noFill_tuple_add seq_tuple_add PySem.F.slot_tuple_add PySem.F.entry_tuple_add (PySem.F.args_tuple_add_2 _ _)
      (tuple_addW0 a b _ _ n n2 dd dd2 sl sl2 (by simp)) ⟨ho, ho2, ⟨.ref b, H, I, rfl, q⟩⟩
theorem orR {f : Value → Value → Sem Value} {r r' : R2} (h : OpR X f r) (h' : OpR X f r') : OpR X f (fun x y H Q => r x y H Q ∨ r' x y H Q) := OpR.or h h'
/-- a rule by another -/
theorem OpR.imp {f : Value → Value → Sem Value} {r r' : R2} (h : OpR X f r) (k : ∀ x y H Q, r' x y H Q → r x y H Q) : OpR X f r' :=
  fun pins s σ H x y v u Q I rx ry q => h pins s σ H x y v u Q I rx ry (k _ _ _ _ q)

theorem o_add {g : Bool} : OpR X (binaryOp .Add) (rB X.K g fun M => binop M .add) := by
  refine OpR.imp (orR op_add (orR op_catT (orR op_catT0 (orR op_add_str op_cat)))) fun x y H Q h => ?_
  obtain ⟨φ, M, v, w, z, m, r1, r2, e, k⟩ := h
  change addOp M v w = some z at e
  unfold addOp at e
  split at e
  · cases e; cases r1; cases r2
    exact .inl ⟨_, _, rfl, rfl, k.asM m (.int _)⟩
  · split at e
    · rename_i hz
      have hz := of_decide_eq_true hz
      cases e
      cases r1 with
      | tup h1 q1 =>
      cases r2 with
      | tup h2 q2 =>
      rename_i xs ys a vs b ws
      by_cases e0 : vs = []
      · subst e0
        cases q1
        exact .inr (.inr (.inl ⟨_, _, _, rfl, rfl, h1, h2, k.asM m (.tup h2 q2)⟩))
      · refine .inr (.inl ⟨_, _, _, _, rfl, rfl, h1, h2, e0, by rw [← q1.length, ← q2.length]; exact hz, fun e1 => ?_, fun _ p hp => k.asT m (q1.append q2) hp⟩)
        subst e1
        cases q2
        refine k.asM m (.tup h1 ?_)
        rw [List.append_nil]; exact q1
    · cases e
  · split at e
    · rename_i hz
      have hz := of_decide_eq_true hz
      cases e; cases r1; cases r2
      exact .inr (.inr (.inr (.inl ⟨_, _, rfl, rfl, hz, k.asM m (.str _)⟩)))
    · cases e
  · split at e
    · rename_i xs ys h1 h2
      split at e
      · rename_i hz
        have hz := of_decide_eq_true hz
        cases e
        obtain ⟨a, vs, rfl, ha, q1⟩ := itemsW_sq m r1 h1
        obtain ⟨b, ws, rfl, hb, q2⟩ := itemsW_sq m r2 h2
        exact .inr (.inr (.inr (.inr ⟨_, _, _, _, rfl, rfl, ha, hb, by rw [← q1.length, ← q2.length]; exact hz, fun p hp => k.asL m (q1.append q2) hp⟩)))
      · cases e
    · cases e
theorem op_subB : OpR X (binaryOp .Sub) (fun x y H Q => ∃ i k, x = .bl i ∧ y = .bl k ∧ Q (.int ((if i then 1 else 0) - (if k then 1 else 0))) H) := by
  intro pins s σ H x y v u Q I rx ry h
  obtain ⟨i, k, rfl, rfl, q⟩ := h
  cases rx
  cases ry
  exact PyProof.Rows.sub_bool ⟨.int ((if i then 1 else 0) - (if k then 1 else 0)), H, I.tok _, ⟨_, rfl⟩, q⟩
theorem o_sub {g : Bool} : OpR X (binaryOp .Sub) (rB X.K g fun M => binop M .sub) := by
  refine OpR.imp (orR op_sub op_subB) fun x y H Q h => ?_
  obtain ⟨φ, M, v, w, z, m, r1, r2, e, k⟩ := h
  change subOp v w = some z at e
  unfold subOp at e
  split at e
  · cases e; cases r1; cases r2
    exact .inl ⟨_, _, rfl, rfl, k.asM m (.int _)⟩
  · cases e; cases r1; cases r2
    exact .inr ⟨_, _, rfl, rfl, k.asM m (.int _)⟩
  · cases e
theorem o_fdiv {g : Bool} : OpR X (binaryOp .FloorDiv) (rB X.K g fun M => binop M .fdiv) := by
  refine OpR.imp op_fdivG fun x y H Q h => ?_
  obtain ⟨φ, M, v, w, z, m, r1, r2, e, k⟩ := h
  change fdivOp v w = some z at e
  unfold fdivOp at e
  split at e
  · split at e
    · rename_i hz
      unfold divOk at hz
      rw [Bool.and_eq_true] at hz
      cases e; cases r1; cases r2
      exact ⟨_, _, rfl, rfl, ⟨of_decide_eq_true hz.1, of_decide_eq_true hz.2⟩, k.asM m (.int _)⟩
    · cases e
  · cases e
theorem o_mod {g : Bool} : OpR X (binaryOp .Mod) (rB X.K g fun M => binop M .mod) := by
  refine OpR.imp op_modN fun x y H Q h => ?_
  obtain ⟨φ, M, v, w, z, m, r1, r2, e, k⟩ := h
  change modOp v w = some z at e
  unfold modOp at e
  split at e
  · split at e
    · rename_i hz
      cases e; cases r1; cases r2
      exact ⟨_, _, rfl, rfl, of_decide_eq_true hz, k.asM m (.int _)⟩
    · cases e
  · cases e
theorem o_pow {g : Bool} : OpR X (binaryOp .Pow) (rB X.K g fun M => binop M .pow) := by
  refine OpR.imp op_pow fun x y H Q h => ?_
  obtain ⟨φ, M, v, w, z, m, r1, r2, e, k⟩ := h
  change powOp v w = some z at e
  unfold powOp at e
  split at e
  · split at e
    · rename_i hz
      rw [Bool.and_eq_true, Bool.and_eq_true] at hz
      cases e; cases r1; cases r2
      exact ⟨_, _, rfl, rfl, ⟨of_decide_eq_true hz.1.1, of_decide_eq_true hz.1.2, of_decide_eq_true hz.2⟩, k.asM m (.int _)⟩
    · cases e
  · cases e
theorem o_mul {g : Bool} : OpR X (binaryOp .Mult) (rB X.K g fun M => binop M .mul) := by
  refine OpR.imp (orR op_mul (orR op_mulW (orR op_repT0 (orR op_repT1 (orR op_repT op_rep))))) fun x y H Q h => ?_
  obtain ⟨φ, M, v, w, z, m, r1, r2, e, k⟩ := h
  change mulOp M v w = some z at e
  unfold mulOp at e
  split at e
  · split at e
    · rename_i hz
      unfold mulOk at hz
      rw [Bool.or_eq_true] at hz
      cases e; cases r1; cases r2
      rcases hz with hz | hz
      · have hz' := of_decide_eq_true hz
        exact .inl ⟨_, _, rfl, rfl, hz', k.asM m (.int _)⟩
      · have hz' := of_decide_eq_true hz
        exact .inr (.inl ⟨_, _, rfl, rfl, hz', k.asM m (.int _)⟩)
    · cases e
  · split at e
    · rename_i hz
      rw [Bool.and_eq_true] at hz
      cases e
      cases r2
      cases r1 with
      | tup ha q1 =>
      cases q1
      exact .inr (.inr (.inl ⟨_, _, _, rfl, rfl, ha, .inl rfl, of_decide_eq_true hz.1, of_decide_eq_true hz.2, k.asM m (.tup ha .nil)⟩))
    · cases e
  · split at e
    · rename_i hz
      rw [Bool.and_eq_true, Bool.and_eq_true] at hz
      obtain ⟨⟨h2, h3⟩, h4⟩ := hz
      replace h2 := of_decide_eq_true h2
      replace h3 := of_decide_eq_true h3
      cases e
      cases r2
      cases r1 with
      | tup ha q1 =>
      rename_i y ys kk aa vs
      have hne : vs ≠ [] := fun z => by subst z; cases q1
      by_cases e1 : kk = 1
      · subst e1
        refine .inr (.inr (.inl ⟨_, _, _, rfl, rfl, ha, .inr rfl, by decide, by decide, k.asM m (.tup ha ?_)⟩))
        have : (List.replicate (1 : Int).toNat (y :: ys)).flatten = y :: ys := by simp
        rw [this]; exact q1
      · by_cases e0 : kk ≤ 0
        · refine .inr (.inr (.inr (.inl ⟨_, _, _, rfl, rfl, ha, hne, h2, e0, fun p hp => ?_⟩)))
          have e2 : kk.toNat = 0 := by omega
          rw [e2] at k
          exact k.asT m .nil hp
        · exact .inr (.inr (.inr (.inr (.inl ⟨_, _, _, rfl, rfl, ha, hne, by omega, h3, by rw [← q1.length]; exact of_decide_eq_true h4, fun p hp => k.asT m (q1.rep _) hp⟩))))
    · cases e
  · split at e
    · rename_i xs h1
      split at e
      · rename_i hz
        rw [Bool.and_eq_true, Bool.and_eq_true] at hz
        cases e
        cases r2
        obtain ⟨a, vs, rfl, ha, q1⟩ := itemsW_sq m r1 h1
        exact .inr (.inr (.inr (.inr (.inr ⟨_, _, _, rfl, rfl, ha, of_decide_eq_true hz.1.1, of_decide_eq_true hz.1.2, by rw [← q1.length]; exact of_decide_eq_true hz.2, fun p hp => k.asL m (q1.rep _) hp⟩))))
      · cases e
    · cases e
  · cases e
/-! ### comparisons -/
def rC (K : PySem.W.Frag) (f : Mem → PV → PV → Option Bool) : R2 := rB K false fun M v w => (f M v w).map .bl
theorem rC_get {f : Mem → PV → PV → Option Bool} {K : PySem.W.Frag} {x y : V} {H : Hp} {Q : VK} (h : rC K f x y H Q) : ∃ φ M v w b, RM K φ H M ∧ Rp K φ H v x ∧ Rp K φ H w y ∧ f M v w = some b ∧ Q (.bl b) H := by
  obtain ⟨φ, M, v, w, z, m, r1, r2, e, k⟩ := h
  cases e1 : f M v w with
  | none => simp only [e1] at e; cases e
  | some b =>
    simp only [e1] at e
    cases e
    exact ⟨φ, M, v, w, b, m, r1, r2, e1, k.here m (.bl b)⟩
theorem o_cmpI {op : CmpOp} {p : Int → Int → Bool} (h : OpR X (compareOp op) (rI0 fun i j => .bl (p i j))) : OpR X (compareOp op) (rC X.K fun _ => cmpI p) := by
  refine OpR.imp h fun x y H Q h => ?_
  obtain ⟨φ, M, v, w, b, m, r1, r2, e, k⟩ := rC_get h
  unfold cmpI at e
  split at e
  · cases e; cases r1; cases r2
    exact ⟨_, _, rfl, rfl, k⟩
  · cases e
def rLtT (K : PySem.W.Frag) : R2 := fun x y H Q => ∃ (a b : Addr) (ns ms : List Int), x = .ref a ∧ y = .ref b ∧ SqT K H a (ns.map V.int) ∧ SqT K H b (ms.map V.int) ∧ Q (.bl (lexLtI ns ms)) H
theorem op_ltT {X : Cx} (hu : X.A.units < cLine) : OpR X (compareOp .Lt) (rLtT X.K) := by
  intro pins s σ H x y v u Q I rx ry h
  obtain ⟨a, b, ns, ms, rfl, rfl, ha, hb, q⟩ := h
  cases rx
  cases ry
  obtain ⟨its, r1, p1, _⟩ := I.tuple ha
  obtain ⟨its2, r2, p2, _⟩ := I.tuple hb
  have i1 : IntsAre its ns := Vals.ints r1
  have i2 : IntsAre its2 ms := Vals.ints r2
  have e1 : its.toArray.size = ns.length := by rw [List.size_toArray]; exact i1.length
  have e2 : its2.toArray.size = ms.length := by rw [List.size_toArray]; exact i2.length
  have at1 : ∀ j (h1 : j < its.toArray.size), ∃ t, its.toArray[j] = .int (ns.getD j 0) t := fun j h1 => PyProof.Rows.IntsAre.int_at i1 _ _ (by simp at h1; simp [h1])
  have at2 : ∀ j (h1 : j < its2.toArray.size), ∃ t, its2.toArray[j] = .int (ms.getD j 0) t := fun j h1 => PyProof.Rows.IntsAre.int_at i2 _ _ (by simp at h1; simp [h1])
  have R := Ob.RcOp.tuples_lt (A := X.A) (s := s) (e := fun j => decide (ns.getD j 0 = ms.getD j 0)) (r := fun j => decide (ns.getD j 0 < ms.getD j 0)) p1 p2 hu (fun j h1 h2 => by
    obtain ⟨t, et⟩ := at1 j h1
    obtain ⟨t', et'⟩ := at2 j h2
    rw [et, et']
    have z : (ns.getD j 0 == ms.getD j 0) = decide (ns.getD j 0 = ms.getD j 0) := by
      by_cases q : ns.getD j 0 = ms.getD j 0
      · rw [decide_eq_true q]; exact beq_iff_eq.mpr q
      · rw [decide_eq_false q]; exact beq_eq_false_iff_ne.mpr q
    rw [← z]
    exact SeqAt.EqAt.int_int _ _ _ _) (fun j h1 h2 _ => by
    obtain ⟨t, et⟩ := at1 j h1
    obtain ⟨t', et'⟩ := at2 j h2
    rw [et, et']
    exact Ob.RcOp.lt_int _ _ _ _)
  rw [e1, e2] at R
  have z : wpAny (model X.prog X.w) X.A (compareOp .Lt (.ref a) (.ref b)) (EP X pins σ Q) X.xe s := R X.prog X.w X.xe (EP X pins σ Q) ⟨.bl _, H, I, rfl, q⟩
  exact z
theorem intsT_rps {K : PySem.W.Frag} {φ : Ph} {H : Hp} : ∀ {xs : List PV} {ns : List Int} {vs : List V}, intsT xs = some ns → Rps K φ H xs vs → vs = ns.map V.int
  | [], ns, vs, h, r => by cases h; cases r; rfl
  | .int i :: xs, ns, vs, h, r => by
    have h' : (intsT xs).map (i :: ·) = some ns := h
    cases e : intsT xs with
    | none => rw [e] at h'; cases h'
    | some l =>
      rw [e] at h'
      cases h'
      cases r with
      | cons q r =>
      cases q
      rw [intsT_rps e r]; rfl
theorem o_lt (hu : X.A.units + 64 < cLine) : OpR X (compareOp .Lt) (rC X.K fun M => cmpop M .lt) := by
  refine OpR.imp (OpR.or op_lt (op_ltT (by omega))) fun x y H Q h => ?_
  obtain ⟨φ, M, v, w, b, m, r1, r2, e, k⟩ := rC_get h
  change cmpLt v w = some b at e
  unfold cmpLt at e
  split at e
  · cases e; cases r1; cases r2
    exact .inl ⟨_, _, rfl, rfl, k⟩
  · rename_i xs ys
    cases e1 : intsT xs with
    | none => rw [e1] at e; cases e
    | some ns =>
      cases e2 : intsT ys with
      | none => rw [e1, e2] at e; cases e
      | some ms =>
        rw [e1, e2] at e
        cases e
        cases r1 with
        | tup h1 q1 =>
        cases r2 with
        | tup h2 q2 =>
        rw [intsT_rps e1 q1] at h1
        rw [intsT_rps e2 q2] at h2
        exact .inr ⟨_, _, ns, ms, rfl, rfl, h1, h2, k⟩
  · cases e
theorem o_le : OpR X (compareOp .LtE) (rC X.K fun M => cmpop M .le) := o_cmpI op_le
theorem o_gt : OpR X (compareOp .Gt) (rC X.K fun M => cmpop M .gt) := o_cmpI op_gt
theorem o_ge : OpR X (compareOp .GtE) (rC X.K fun M => cmpop M .ge) := o_cmpI op_ge
theorem eqD_get {K : PySem.W.Frag} {φ : Ph} {H : Hp} {M : Mem} {v w : PV} {x y : V} {b : Bool} (m : RM K φ H M) (r1 : Rp K φ H v x) (r2 : Rp K φ H w y) (e : eqD M v w = some b) :
    ∃ d f, Dp K H x d ∧ Dp K H y f ∧ SeqAt.shaped d = true ∧ SeqAt.shaped f = true ∧ PyData.eqv d f = b := by
  unfold eqD at e
  split at e
  · rename_i d f h1 h2
    split at e
    · rename_i hz
      rw [Bool.and_eq_true] at hz
      cases e
      exact ⟨d, f, toDM_dp m r1 h1, toDM_dp m r2 h2, hz.1, hz.2, rfl⟩
    · cases e
  · cases e
theorem o_eq (hu : X.A.units + 64 < cLine) : OpR X (compareOp .Eq) (rC X.K fun M => cmpop M .eq) := by
  refine OpR.imp (op_eqD hu) fun x y H Q h => ?_
  obtain ⟨φ, M, v, w, b, m, r1, r2, e, k⟩ := rC_get h
  obtain ⟨d, f, h1, h2, h3, h4, e⟩ := eqD_get m r1 r2 e
  subst e
  exact ⟨d, f, h1, h2, h3, h4, k⟩
theorem o_ne (hu : X.A.units + 64 < cLine) : OpR X (compareOp .NotEq) (rC X.K fun M => cmpop M .ne) := by
  refine OpR.imp (op_neD hu) fun x y H Q h => ?_
  obtain ⟨φ, M, v, w, b, m, r1, r2, e, k⟩ := rC_get h
  change (eqD M v w).map (!·) = some b at e
  cases e1 : eqD M v w with
  | none => rw [e1] at e; cases e
  | some b1 =>
    rw [e1] at e
    cases e
    obtain ⟨d, f, h1, h2, h3, h4, e⟩ := eqD_get m r1 r2 e1
    subst e
    exact ⟨d, f, h1, h2, h3, h4, k⟩
theorem isNon_eq {K : PySem.W.Frag} {φ : Ph} {H : Hp} {v : PV} {x : V} (r : Rp K φ H v x) : isNon v = decide (x = .non) := by
  cases r <;> rfl
theorem isOp_get {K : PySem.W.Frag} {φ : Ph} {H : Hp} {v w : PV} {x y : V} {b : Bool} (r1 : Rp K φ H v x) (r2 : Rp K φ H w y) (e : isOp v w = some b) :
    (y = .non ∧ b = decide (x = .non)) ∨ ∃ p q : Bool, x = .bl p ∧ y = .bl q ∧ b = decide (p = q) := by
  unfold isOp at e
  split at e
  · cases e; cases r2; exact .inl ⟨rfl, isNon_eq r1⟩
  · cases e; cases r1; cases r2; exact .inr ⟨_, _, rfl, rfl, rfl⟩
  · cases e
theorem o_is : OpR X (compareOp .Is) (rC X.K fun M => cmpop M .is) := by
  refine OpR.imp (orR op_isN op_isBl) fun x y H Q h => ?_
  obtain ⟨φ, M, v, w, b, m, r1, r2, e, k⟩ := rC_get h
  rcases isOp_get r1 r2 e with ⟨h1, rfl⟩ | ⟨p, q, h1, h2, rfl⟩
  · exact .inl ⟨h1, k⟩
  · exact .inr ⟨p, q, h1, h2, k⟩
theorem o_isn : OpR X (compareOp .IsNot) (rC X.K fun M => cmpop M .isn) := by
  refine OpR.imp (orR op_notN op_notBl) fun x y H Q h => ?_
  obtain ⟨φ, M, v, w, b, m, r1, r2, e, k⟩ := rC_get h
  change (isOp v w).map (!·) = some b at e
  cases e1 : isOp v w with
  | none => rw [e1] at e; cases e
  | some b1 =>
    rw [e1] at e
    cases e
    rcases isOp_get r1 r2 e1 with ⟨h1, rfl⟩ | ⟨p, q, h1, h2, rfl⟩
    · exact .inl ⟨h1, k⟩
    · exact .inr ⟨p, q, h1, h2, k⟩
theorem flat_pv {K : PySem.W.Frag} {φ : Ph} {H : Hp} {v : PV} {x : V} (r : Rp K φ H v x) (h : flatP v = true) : x = pvToV v := by
  cases r <;> first | rfl | cases h
theorem flat_pvs {K : PySem.W.Frag} {φ : Ph} {H : Hp} : ∀ {v : List PV} {x : List V}, Rps K φ H v x → v.all flatP = true → x = v.map pvToV
  | _, _, .nil, _ => rfl
  | _, _, .cons h r, e => by
    rw [List.all_cons, Bool.and_eq_true] at e
    rw [List.map_cons, flat_pv h e.1, flat_pvs r e.2]
theorem inOp_get {K : PySem.W.Frag} {φ : Ph} {H : Hp} {M : Mem} {v w : PV} {x y : V} {b : Bool} (m : RM K φ H M) (r1 : Rp K φ H v x) (r2 : Rp K φ H w y) (e : inOp M v w = some b) :
    ∃ p xs, y = .ref p ∧ (SqL K H p xs ∨ SqT K H p xs) ∧ flatV x = true ∧ xs.all flatV = true ∧ b = inV x xs := by
  unfold inOp at e
  split at e
  · rename_i xs h1
    split at e
    · rename_i hz
      cases e
      rw [Bool.and_eq_true, Bool.and_eq_true, Bool.and_eq_true] at hz
      obtain ⟨⟨h3, h4⟩, h5, h6⟩ := hz
      obtain ⟨a, vs, rfl, h7, h8⟩ := itemsT_sq m r2 h1
      have e1 := flat_pv r1 h3
      have e2 := flat_pvs h8 h4
      subst e1 e2
      exact ⟨a, _, rfl, h7, h5, h6, rfl⟩
    · cases e
  · cases e
theorem o_in : OpR X (compareOp .In) (rC X.K fun M => cmpop M .isin) := by
  refine OpR.imp op_in_seq fun x y H Q h => ?_
  obtain ⟨φ, M, v, w, b, m, r1, r2, e, k⟩ := rC_get h
  obtain ⟨p, xs, h1, h2, h3, h4, rfl⟩ := inOp_get m r1 r2 e
  exact ⟨p, xs, h1, h2, h3, h4, k⟩
theorem o_nin : OpR X (compareOp .NotIn) (rC X.K fun M => cmpop M .notin) := by
  refine OpR.imp op_notIn_seq fun x y H Q h => ?_
  obtain ⟨φ, M, v, w, b, m, r1, r2, e, k⟩ := rC_get h
  change (inOp M v w).map (!·) = some b at e
  cases e1 : inOp M v w with
  | none => rw [e1] at e; cases e
  | some b1 =>
    rw [e1] at e
    cases e
    obtain ⟨p, xs, h1, h2, h3, h4, rfl⟩ := inOp_get m r1 r2 e1
    exact ⟨p, xs, h1, h2, h3, h4, k⟩
end
end Ev

/-! Expressions: each construct's reading is the interpreter's. -/
namespace Ev
open PySem PySem.Spec PyProof.Rows L2
abbrev Cl := Nat → List PV → Mem → Option (PV × Mem)
section
variable (K : PySem.W.Frag) (call : Cl)
def tI (m : E) : TE := fun σ H Q => ∃ φ M env v M', RM K φ H M ∧ RE K φ H env σ ∧ Ev.eval call m env M = some (v, M') ∧ Pst K φ H M' v Q
def tIs (m : Es) : TA := fun σ H Q => ∃ φ M env vs M', RM K φ H M ∧ RE K φ H env σ ∧ Ev.evals call m env M = some (vs, M') ∧ ∀ φ' H' us, Xt φ H φ' H' → RM K φ' H' M' → Rps K φ' H' vs us → Q us H'
/-- as a test -/
def tT (m : E) : TT := fun σ H Q => ∃ φ M env v M' b, RM K φ H M ∧ RE K φ H env σ ∧ Ev.eval call m env M = some (v, M') ∧ truthy M' v = some b ∧ ∀ φ' H', Xt φ H φ' H' → RM K φ' H' M' → Q b H'
end
theorem _root_.L2.PE.imp {X : Cx} {e : Expr} {t t' : TE} (h : PE X e t) (k : ∀ σ H Q, t' σ H Q → t σ H Q) : PE X e t' := ⟨fun pins s σ H Q I q => h.run pins s σ H Q I (k _ _ _ q)⟩
theorem _root_.L2.PT.imp {X : Cx} {e : Expr} {t t' : TT} (h : PT X e t) (k : ∀ σ H Q, t' σ H Q → t σ H Q) : PT X e t' := ⟨fun pins s σ H Q I q => h.run pins s σ H Q I (k _ _ _ q)⟩
theorem _root_.L2.PW.imp {X : Cx} {e : Expr} {t t' : TT} (h : PW X e t) (k : ∀ σ H Q, t' σ H Q → t σ H Q) : PW X e t' := ⟨fun wh pins s σ H Q I q => h.run wh pins s σ H Q I (k _ _ _ q)⟩
theorem _root_.L2.PA.imp {X : Cx} {e : List Expr} {t t' : TA} (h : PA X e t) (k : ∀ σ H Q, t' σ H Q → t σ H Q) : PA X e t' := ⟨fun pos pins s σ H Q I q => h.run pos pins s σ H Q I (k _ _ _ q)⟩
section
variable {K : PySem.W.Frag} {call : Cl} {φ φ' φ1 : Ph} {H H' H1 : Hp} {M M' M1 : Mem} {env : Env} {σ : L2.St}
theorem Pst.mono {z : PV} {Q : VK} (x : Xt φ H φ1 H1) (k : Pst K φ H M z Q) : Pst K φ1 H1 M z Q := fun φ' H' u y => k φ' H' u (x.trans y)
/-- one part is run, then the rest -/
theorem tI.then_ {a : E} {v : PV} {Q : VK} (m : RM K φ H M) (r : RE K φ H env σ) (e : Ev.eval call a env M = some (v, M1))
    (k : ∀ φ1 H1 u, Xt φ H φ1 H1 → RM K φ1 H1 M1 → RE K φ1 H1 env σ → Rp K φ1 H1 v u → Q u H1) : tI K call a σ H Q :=
  ⟨φ, M, env, v, M1, m, r, e, fun φ' H' u x m' q => k φ' H' u x m' (r.mono x) q⟩
theorem tIs.then_ {a : Es} {v : List PV} {Q : List V → Hp → Prop} (m : RM K φ H M) (r : RE K φ H env σ) (e : Ev.evals call a env M = some (v, M1))
    (k : ∀ φ1 H1 u, Xt φ H φ1 H1 → RM K φ1 H1 M1 → RE K φ1 H1 env σ → Rps K φ1 H1 v u → Q u H1) : tIs K call a σ H Q :=
  ⟨φ, M, env, v, M1, m, r, e, fun φ' H' u x m' q => k φ' H' u x m' (r.mono x) q⟩
theorem tT.then_ {a : E} {v : PV} {b : Bool} {Q : Bool → Hp → Prop} (m : RM K φ H M) (r : RE K φ H env σ) (e : Ev.eval call a env M = some (v, M1)) (t : truthy M1 v = some b)
    (k : ∀ φ1 H1, Xt φ H φ1 H1 → RM K φ1 H1 M1 → RE K φ1 H1 env σ → Q b H1) : tT K call a σ H Q :=
  ⟨φ, M, env, v, M1, b, m, r, e, t, fun φ' H' x m' => k φ' H' x m' (r.mono x)⟩
/-- how an evaluation in two steps comes apart -/
theorem bindE {α β : Type} {x : Option (α × Mem)} {f : α → Mem → Option β} {y : β} (h : bnd x f = some y) : ∃ a, x = some a ∧ f a.1 a.2 = some y := by
  cases x with
  | none => cases h
  | some a => exact ⟨a, rfl, h⟩
theorem ifE {β : Type} {b : Bool} {x : Option β} {y : β} (h : iff_ b x = some y) : b = true ∧ x = some y := by
  cases b with
  | true => exact ⟨rfl, h⟩
  | false => cases h
theorem bifE {β : Type} {b : Option Bool} {x z : Option β} {y : β} (h : bifb b x z = some y) : (b = some true ∧ x = some y) ∨ (b = some false ∧ z = some y) := by
  cases b with
  | none => cases h
  | some b =>
    cases b with
    | true => exact .inl ⟨rfl, h⟩
    | false => exact .inr ⟨rfl, h⟩
theorem mapE {α β : Type} {x : Option α} {f : α → β} {y : β} (h : x.map f = some y) : ∃ a, x = some a ∧ f a = y := by
  cases x with
  | none => cases h
  | some a => exact ⟨a, rfl, Option.some.inj h⟩
end
section
variable {X : Cx} {call : Cl} {a b c : Expr} {ma mb mc : E} {pos : Pos}
theorem i_var {x : Str} (i : Nat) (hN : X.N[i]? = some x := by rfl) (hv : Vis X.env.scope x := by first | exact Or.inl rfl | exact Or.inr (Or.inl rfl) | exact Or.inr (Or.inr rfl)) (hd : (x == ("__debug__" : Str)) = false := by decide)
    (hcd : (x == ("__classdict__" : Str)) = false := by decide) : PE X (.Name x pos) (tI X.K call (.var i)) :=
  (pe_var hN hv hd hcd).imp fun σ H Q ⟨φ, M, env, v, M', m, r, e, k⟩ => by
    unfold Ev.eval at e
    split at e
    · rename_i w h
      cases e
      obtain ⟨u, h1, h2⟩ := r.at_ i _ h
      exact ⟨u, h1, k.here m h2⟩
    · cases e
theorem cst_of {v : PV} {t : TE} {e : Expr} (h : PE X e t) (k : ∀ σ H Q φ M, RM X.K φ H M → Pst X.K φ H M v Q → t σ H Q) : PE X e (tI X.K call (.cst v)) :=
  h.imp fun σ H Q ⟨φ, M, env, w, M', m, r, e, q⟩ => by
    unfold Ev.eval at e
    cases e
    exact k σ H Q φ M m q
theorem i_int {i : Int} {j} : PE X (.Constant (.int i) j pos) (tI X.K call (.cst (.int i))) := cst_of pe_int fun _ _ _ _ _ m k => k.here m (.int i)
theorem i_bl {b : Bool} {j} : PE X (.Constant (.bool b) j pos) (tI X.K call (.cst (.bl b))) := cst_of pe_bl fun _ _ _ _ _ m k => k.here m (.bl b)
theorem i_non {j} : PE X (.Constant .none j pos) (tI X.K call (.cst .non)) := cst_of pe_non fun _ _ _ _ _ m k => k.here m .non
theorem i_str {x : Str} {j} : PE X (.Constant (.str x) j pos) (tI X.K call (.cst (.str x))) := cst_of pe_str fun _ _ _ _ _ m k => k.here m (.str x)
/-- a module's constant -/
def Con (K : PySem.W.Frag) (v : PV) (u : V) : Prop := ∀ φ H, Rp K φ H v u
theorem i_glob {x : Str} {v : PV} {z : V} {u : Value} (hg : Gl X x) (hm : X.mg x = some u) (r : RelV z u) (c : Con X.K v z) (hd : (x == ("__debug__" : Str)) = false := by decide) : PE X (.Name x pos) (tI X.K call (.cst v)) :=
  cst_of (pe_glob hg hm r hd) fun _ _ _ _ _ m k => k.here m (c _ _)
theorem i_bin {op : Operator} {o : Bop} (g : Bool) (ho : OpR X (binaryOp op) (rB X.K g fun M => binop M o)) (ha : PE X a (tI X.K call ma)) (hb : PE X b (tI X.K call mb)) : PE X (.BinOp a op b pos) (tI X.K call (.bin o g ma mb)) :=
  (pe_op ho ha hb).imp fun σ H Q ⟨φ, M, env, v, M', m, r, e, k⟩ => by
    unfold Ev.eval at e
    obtain ⟨⟨x, M1⟩, e1, e⟩ := bindE e
    obtain ⟨⟨y, M2⟩, e2, e⟩ := bindE e
    obtain ⟨z, e3, e⟩ := mapE e
    refine tI.then_ m r e1 fun φ1 H1 u x1 m1 r1 q1 => tI.then_ m1 r1 e2 fun φ2 H2 w x2 m2 r2 q2 => ?_
    refine ⟨φ2, M2, x, y, z, m2, q1.mono x2, q2, e3, ?_⟩
    simp only at e
    rw [e]
    exact k.mono (x1.trans x2)
theorem i_neg (ha : PE X a (tI X.K call ma)) : PE X (.UnaryOp .USub a pos) (tI X.K call (.neg ma)) :=
  (pe_un un_neg ha).imp fun σ H Q ⟨φ, M, env, v, M', m, r, e, k⟩ => by
    unfold Ev.eval at e
    obtain ⟨⟨x, M1⟩, e1, e⟩ := bindE e
    simp only at e
    split at e
    · rename_i i
      cases e
      refine tI.then_ m r e1 fun φ1 H1 u x1 m1 r1 q1 => ?_
      cases q1
      exact ⟨i, rfl, k _ _ _ x1 m1 (.int _)⟩
    · cases e
/-! ### tests -/
theorem t_of (ha : PE X a (tI X.K call ma)) (he : ∀ whole, isTrue a X.env whole = (do let v ← whole; standAt a.pos; holding [v] (PySem.truthy v)) := by intro _; rfl) : PT X a (tT X.K call ma) :=
  (pt_truth ha he).imp fun σ H Q ⟨φ, M, env, v, M', b, m, r, e, t, k⟩ =>
    tI.then_ m r e fun φ1 H1 u x1 m1 r1 q1 => ⟨b, truthy_tru m1 q1 t, k _ _ x1 m1⟩
theorem t_not (ha : PT X a (tT X.K call ma)) : PT X (.UnaryOp .Not a pos) (tT X.K call (.not ma)) :=
  (pt_not ha).imp fun σ H Q ⟨φ, M, env, v, M', b, m, r, e, t, k⟩ => by
    unfold Ev.eval at e
    obtain ⟨⟨x, M1⟩, e1, e⟩ := bindE e
    obtain ⟨c, e2, e⟩ := mapE e
    cases e
    cases t
    exact tT.then_ m r e1 e2 fun φ1 H1 x1 m1 r1 => k _ _ x1 m1
theorem i_not (ha : PE X a (tI X.K call ma)) : PE X (.UnaryOp .Not a pos) (tI X.K call (.not ma)) :=
  (pe_notT ha).imp fun σ H Q ⟨φ, M, env, v, M', m, r, e, k⟩ => by
    unfold Ev.eval at e
    obtain ⟨⟨x, M1⟩, e1, e⟩ := bindE e
    obtain ⟨c, e2, e⟩ := mapE e
    cases e
    exact tI.then_ m r e1 fun φ1 H1 u x1 m1 r1 q1 => ⟨c, truthy_tru m1 q1 e2, k _ _ _ x1 m1 (.bl _)⟩
theorem i_and {rest : List Expr} (ha : PE X a (tI X.K call ma)) (hb : PE X (.BoolOp .And (b :: rest) pos) (tI X.K call mb)) : PE X (.BoolOp .And (a :: b :: rest) pos) (tI X.K call (.and ma mb)) :=
  (pe_andT ha hb).imp fun σ H Q ⟨φ, M, env, v, M', m, r, e, k⟩ => by
    unfold Ev.eval at e
    obtain ⟨⟨x, M1⟩, e1, e⟩ := bindE e
    refine tI.then_ m r e1 fun φ1 H1 u x1 m1 r1 q1 => ?_
    rcases bifE e with ⟨t, e⟩ | ⟨t, e⟩
    · exact ⟨true, truthy_tru m1 q1 t, by rw [if_pos rfl]; exact tI.then_ m1 r1 e fun φ2 H2 w x2 m2 r2 q2 => k _ _ _ (x1.trans x2) m2 q2⟩
    · cases e
      exact ⟨false, truthy_tru m1 q1 t, by rw [if_neg Bool.false_ne_true]; exact k _ _ _ x1 m1 q1⟩
theorem i_or {rest : List Expr} (ha : PE X a (tI X.K call ma)) (hb : PE X (.BoolOp .Or (b :: rest) pos) (tI X.K call mb)) : PE X (.BoolOp .Or (a :: b :: rest) pos) (tI X.K call (.or ma mb)) :=
  (pe_orT ha hb).imp fun σ H Q ⟨φ, M, env, v, M', m, r, e, k⟩ => by
    unfold Ev.eval at e
    obtain ⟨⟨x, M1⟩, e1, e⟩ := bindE e
    refine tI.then_ m r e1 fun φ1 H1 u x1 m1 r1 q1 => ?_
    rcases bifE e with ⟨t, e⟩ | ⟨t, e⟩
    · cases e
      exact ⟨true, truthy_tru m1 q1 t, by rw [if_pos rfl]; exact k _ _ _ x1 m1 q1⟩
    · exact ⟨false, truthy_tru m1 q1 t, by rw [if_neg Bool.false_ne_true]; exact tI.then_ m1 r1 e fun φ2 H2 w x2 m2 r2 q2 => k _ _ _ (x1.trans x2) m2 q2⟩
theorem i_one {op} (ha : PE X a (tI X.K call ma)) : PE X (.BoolOp op [a] pos) (tI X.K call ma) := pe_one ha
theorem w_and1 (ha : PT X a (tT X.K call ma)) : PW X (.BoolOp .And [a] pos) (tT X.K call ma) := pw_and1 ha
theorem w_or1 (ha : PT X a (tT X.K call ma)) : PW X (.BoolOp .Or [a] pos) (tT X.K call ma) := pw_or1 ha
theorem w_and {rest : List Expr} (ha : PT X a (tT X.K call ma)) (hb : PW X (.BoolOp .And (b :: rest) pos) (tT X.K call mb)) : PW X (.BoolOp .And (a :: b :: rest) pos) (tT X.K call (.and ma mb)) :=
  (pw_and ha hb).imp fun σ H Q ⟨φ, M, env, v, M', d, m, r, e, t, k⟩ => by
    unfold Ev.eval at e
    obtain ⟨⟨x, M1⟩, e1, e⟩ := bindE e
    rcases bifE e with ⟨t1, e⟩ | ⟨t1, e⟩
    · exact tT.then_ m r e1 t1 fun φ1 H1 x1 m1 r1 => by rw [if_pos rfl]; exact tT.then_ m1 r1 e t fun φ2 H2 x2 m2 r2 => k _ _ (x1.trans x2) m2
    · cases e
      rw [t1] at t
      cases t
      exact tT.then_ m r e1 t1 fun φ1 H1 x1 m1 r1 => by rw [if_neg Bool.false_ne_true]; exact k _ _ x1 m1
theorem w_or {rest : List Expr} (ha : PT X a (tT X.K call ma)) (hb : PW X (.BoolOp .Or (b :: rest) pos) (tT X.K call mb)) : PW X (.BoolOp .Or (a :: b :: rest) pos) (tT X.K call (.or ma mb)) :=
  (pw_or ha hb).imp fun σ H Q ⟨φ, M, env, v, M', d, m, r, e, t, k⟩ => by
    unfold Ev.eval at e
    obtain ⟨⟨x, M1⟩, e1, e⟩ := bindE e
    rcases bifE e with ⟨t1, e⟩ | ⟨t1, e⟩
    · cases e
      rw [t1] at t
      cases t
      exact tT.then_ m r e1 t1 fun φ1 H1 x1 m1 r1 => by rw [if_pos rfl]; exact k _ _ x1 m1
    · exact tT.then_ m r e1 t1 fun φ1 H1 x1 m1 r1 => by rw [if_neg Bool.false_ne_true]; exact tT.then_ m1 r1 e t fun φ2 H2 x2 m2 r2 => k _ _ (x1.trans x2) m2
theorem t_w (h : PW X a (tT X.K call ma)) : PT X a (tT X.K call ma) := h.pt
theorem cmp_rd {o : Cm} {σ : L2.St} {H : Hp} {Q : VK} (h : tI X.K call (.cmp o ma mb) σ H Q) : tOp (rC X.K fun M => cmpop M o) (tI X.K call ma) (tI X.K call mb) σ H Q := by
  obtain ⟨φ, M, env, v, M', m, r, e, k⟩ := h
  unfold Ev.eval at e
  obtain ⟨⟨x, M1⟩, e1, e⟩ := bindE e
  obtain ⟨⟨y, M2⟩, e2, e⟩ := bindE e
  obtain ⟨z, e3, e⟩ := mapE e
  cases e
  refine tI.then_ m r e1 fun φ1 H1 u x1 m1 r1 q1 => tI.then_ m1 r1 e2 fun φ2 H2 w x2 m2 r2 q2 => ?_
  exact ⟨φ2, M2, x, y, .bl z, m2, q1.mono x2, q2, by simp only [e3]; rfl, k.mono (x1.trans x2)⟩
theorem i_cmp {op : CmpOp} {o : Cm} (ho : OpR X (compareOp op) (rC X.K fun M => cmpop M o)) (ha : PE X a (tI X.K call ma)) (hb : PE X b (tI X.K call mb)) (hm : behindInMarks op b = false) :
    PE X (.Compare a [op] [b] pos) (tI X.K call (.cmp o ma mb)) :=
  (pe_cmpR ho ha hb hm).imp fun σ H Q h => cmp_rd h
theorem cmp_bl {o : Cm} {env : Env} {M M' : Mem} {v : PV} (e : Ev.eval call (.cmp o ma mb) env M = some (v, M')) : ∃ z, v = .bl z := by
  unfold Ev.eval at e
  obtain ⟨⟨x, M1⟩, e1, e⟩ := bindE e
  obtain ⟨⟨y, M2⟩, e2, e⟩ := bindE e
  obtain ⟨z, e3, e⟩ := mapE e
  cases e
  exact ⟨z, rfl⟩
theorem t_cmp {op : CmpOp} {o : Cm} (ho : OpR X (compareOp op) (rC X.K fun M => cmpop M o)) (ha : PE X a (tI X.K call ma)) (hb : PE X b (tI X.K call mb)) (hm : behindInMarks op b = false) :
    PT X (.Compare a [op] [b] pos) (tT X.K call (.cmp o ma mb)) :=
  (pt_cmpR ho ha hb hm).imp fun σ H Q ⟨φ, M, env, v, M', d, m, r, e, t, k⟩ => by
    obtain ⟨z, rfl⟩ := cmp_bl e
    obtain rfl : z = d := Option.some.inj t
    refine cmp_rd ⟨φ, M, env, .bl z, M', m, r, e, fun φ' H' u x m' q => ?_⟩
    cases q
    exact ⟨z, rfl, k _ _ x m'⟩
theorem chn_rd {o o' : Cm} {σ : L2.St} {H : Hp} {Q : VK} (h : tI X.K call (.chn o o' ma mb mc) σ H Q) :
    tChain (rC X.K fun M => cmpop M o) (rC X.K fun M => cmpop M o') (tI X.K call ma) (tI X.K call mb) (tI X.K call mc) σ H Q := by
  obtain ⟨φ, M, env, v, M', m, r, e, k⟩ := h
  unfold Ev.eval at e
  obtain ⟨⟨x, M1⟩, e1, e⟩ := bindE e
  obtain ⟨⟨y, M2⟩, e2, e⟩ := bindE e
  refine tI.then_ m r e1 fun φ1 H1 u x1 m1 r1 q1 => tI.then_ m1 r1 e2 fun φ2 H2 w x2 m2 r2 q2 => ?_
  rcases bifE e with ⟨e3, e⟩ | ⟨e3, e⟩
  · obtain ⟨⟨z, M3⟩, e4, e⟩ := bindE e
    obtain ⟨t, e5, e⟩ := mapE e
    cases e
    refine ⟨φ2, M2, x, y, .bl true, m2, q1.mono x2, q2, by simp only [e3]; rfl, fun φ3 H3 u3 x3 m3 q3 => ?_⟩
    cases q3
    refine ⟨true, rfl, ?_⟩
    rw [if_pos rfl]
    refine tI.then_ m3 (r2.mono x3) e4 fun φ4 H4 w4 x4 m4 r4 q4 => ?_
    exact ⟨φ4, M3, y, z, .bl t, m4, q2.mono (x3.trans x4), q4, by simp only [e5]; rfl, k.mono (x1.trans (x2.trans (x3.trans x4)))⟩
  · cases e
    refine ⟨φ2, M2, x, y, .bl false, m2, q1.mono x2, q2, by simp only [e3]; rfl, fun φ3 H3 u3 x3 m3 q3 => ?_⟩
    cases q3
    refine ⟨false, rfl, ?_⟩
    rw [if_neg Bool.false_ne_true]
    exact k _ _ _ (x1.trans (x2.trans x3)) m3 (.bl false)
theorem i_chn {op op' : CmpOp} {o o' : Cm} (ho : OpR X (compareOp op) (rC X.K fun M => cmpop M o)) (ho' : OpR X (compareOp op') (rC X.K fun M => cmpop M o')) (ha : PE X a (tI X.K call ma)) (hb : PE X b (tI X.K call mb)) (hc : PE X c (tI X.K call mc))
    (hm : lastMarks [op, op'] [b, c] = false := by with_unfolding_all rfl) : PE X (.Compare a [op, op'] [b, c] pos) (tI X.K call (.chn o o' ma mb mc)) :=
  (pe_chain ho ho' ha hb hc hm).imp fun σ H Q h => chn_rd h
theorem chn_bl {o o' : Cm} {env : Env} {M M' : Mem} {v : PV} (e : Ev.eval call (.chn o o' ma mb mc) env M = some (v, M')) : ∃ z, v = .bl z := by
  unfold Ev.eval at e
  obtain ⟨⟨x, M1⟩, e1, e⟩ := bindE e
  obtain ⟨⟨y, M2⟩, e2, e⟩ := bindE e
  rcases bifE e with ⟨e3, e⟩ | ⟨e3, e⟩
  · obtain ⟨⟨z, M3⟩, e4, e⟩ := bindE e
    obtain ⟨t, e5, e⟩ := mapE e
    cases e
    exact ⟨t, rfl⟩
  · cases e; exact ⟨false, rfl⟩
theorem t_chn {op op' : CmpOp} {o o' : Cm} (ho : OpR X (compareOp op) (rC X.K fun M => cmpop M o)) (ho' : OpR X (compareOp op') (rC X.K fun M => cmpop M o')) (ha : PE X a (tI X.K call ma)) (hb : PE X b (tI X.K call mb)) (hc : PE X c (tI X.K call mc))
    (hm : lastMarks [op, op'] [b, c] = false := by with_unfolding_all rfl) : PT X (.Compare a [op, op'] [b, c] pos) (tT X.K call (.chn o o' ma mb mc)) :=
  (pt_chain ho ho' ha hb hc hm).imp fun σ H Q ⟨φ, M, env, v, M', d, m, r, e, t, k⟩ => by
    obtain ⟨z, rfl⟩ := chn_bl e
    obtain rfl : z = d := Option.some.inj t
    refine chn_rd ⟨φ, M, env, .bl z, M', m, r, e, fun φ' H' u x m' q => ?_⟩
    cases q
    exact ⟨z, rfl, k _ _ x m'⟩
theorem i_ite (hc : PT X c (tT X.K call mc)) (ha : PE X a (tI X.K call ma)) (hb : PE X b (tI X.K call mb)) : PE X (.IfExp c a b pos) (tI X.K call (.ite mc ma mb)) :=
  (pe_ifExp hc ha hb).imp fun σ H Q ⟨φ, M, env, v, M', m, r, e, k⟩ => by
    unfold Ev.eval at e
    obtain ⟨⟨x, M1⟩, e1, e⟩ := bindE e
    rcases bifE e with ⟨t1, e⟩ | ⟨t1, e⟩
    · exact tT.then_ m r e1 t1 fun φ1 H1 x1 m1 r1 => by rw [if_pos rfl]; exact tI.then_ m1 r1 e fun φ2 H2 w x2 m2 r2 q2 => k _ _ _ (x1.trans x2) m2 q2
    · exact tT.then_ m r e1 t1 fun φ1 H1 x1 m1 r1 => by rw [if_neg Bool.false_ne_true]; exact tI.then_ m1 r1 e fun φ2 H2 w x2 m2 r2 q2 => k _ _ _ (x1.trans x2) m2 q2
/-! ### lists of expressions, displays -/
theorem is_nil : PA X [] (tIs X.K call .nil) := pa_nil.imp fun σ H Q ⟨φ, M, env, vs, M', m, r, e, k⟩ => by
  unfold Ev.evals at e
  cases e
  exact k _ _ _ .refl m .nil
theorem is_cons {es : List Expr} {ms : Es} (ha : PE X a (tI X.K call ma)) (hr : PA X es (tIs X.K call ms)) (hs : starEach (a :: es) X.env = (false, PySem.eval a X.env) :: starEach es X.env := by rfl) : PA X (a :: es) (tIs X.K call (.cons ma ms)) :=
  (pa_cons ha hr hs).imp fun σ H Q ⟨φ, M, env, vs, M', m, r, e, k⟩ => by
    unfold Ev.evals at e
    obtain ⟨⟨x, M1⟩, e1, e⟩ := bindE e
    obtain ⟨⟨y, M2⟩, e2, e⟩ := bindE e
    cases e
    refine tI.then_ m r e1 fun φ1 H1 u x1 m1 r1 q1 => tIs.then_ m1 r1 e2 fun φ2 H2 w x2 m2 r2 q2 => ?_
    exact k _ _ _ (x1.trans x2) m2 (.cons (q1.mono x2) q2)
theorem i_tup {es : List Expr} {ms : Es} {x1} (h : PA X es (tIs X.K call ms)) : PE X (.Tuple es x1 pos) (tI X.K call (.tup ms)) :=
  (pe_tup h).imp fun σ H Q ⟨φ, M, env, v, M', m, r, e, k⟩ => by
    unfold Ev.eval at e
    obtain ⟨⟨vs, M1⟩, e1, e⟩ := bindE e
    obtain ⟨hz, e⟩ := ifE e
    have hz := of_decide_eq_true hz
    cases e
    refine tIs.then_ m r e1 fun φ1 H1 u x1 m1 r1 q1 => ⟨by rw [← q1.length]; exact hz, fun p hp => ?_⟩
    exact (k.mono x1).tup m1 q1 hp
theorem i_lst {es : List Expr} {ms : Es} (b : Bool) (h : PA X es (tIs X.K call ms)) : PE X (.List es pos) (tI X.K call (.lst b ms)) :=
  (pe_lst h).imp fun σ H Q ⟨φ, M, env, v, M', m, r, e, k⟩ => by
    unfold Ev.eval at e
    obtain ⟨⟨vs, M1⟩, e1, e⟩ := bindE e
    obtain ⟨hz, e⟩ := ifE e
    have hz := of_decide_eq_true hz
    have e := Option.some.inj e
    refine tIs.then_ m r e1 fun φ1 H1 u x1 m1 r1 q1 => ⟨by rw [← q1.length]; exact hz, fun p hp => ?_⟩
    have k1 : Pst X.K φ1 H1 (newL b vs M1).2 (newL b vs M1).1 Q := by rw [e]; exact k.mono x1
    exact k1.newL m1 q1 hp
end
end Ev

/-! Subscripts, slices, calls, built-ins, targets, what a for walks. -/
namespace Ev
open PySem PySem.Spec PyProof.Rows L2
section
variable {prog : Program} {w : World} {A : Around} {E : Value → Shared → Prop} {s : Shared}
theorem places_back (n : Nat) : Builtin.Slice.sliceAdjust none none (-1) (n : Int) = ((n : Int) - 1, -1) := by
  unfold Builtin.Slice.sliceAdjust
  simp
theorem count_back (n : Nat) : Builtin.Slice.slicePlaces ((n : Int) - 1) (-1) (-1) = n := by
  unfold Builtin.Slice.slicePlaces
  have h1 : ¬ ((-1 : Int) > 0) := by omega
  have e : (- -1 : Int) = 1 := by decide
  simp only [h1, if_false, e, Int.ediv_one]
  split <;> omega
theorem fm_congr {α : Type} {f g : Nat → Option α} : ∀ (l : List Nat), (∀ m ∈ l, f m = g m) → l.filterMap f = l.filterMap g
  | [], _ => rfl
  | x :: xs, h => by
    rw [List.filterMap_cons, List.filterMap_cons, h x List.mem_cons_self, fm_congr xs fun m hm => h m (List.mem_cons_of_mem _ hm)]
theorem pick_back (items : Array Value) : ((List.range items.size).filterMap fun (m : Nat) => items[(((items.size : Int) - 1) + (m : Int) * (-1)).toNat]?).toArray = items.toList.reverse.toArray := by
  rw [← PySem.W.krv_pick]
  unfold PySem.slicePick
  rw [PySem.W.krv_bounds]
  show _ = ((PySem.sliceRange ((items.size : Int) - 1) (-1) (-1)).filterMap (items[·]?)).toArray
  rw [PySem.W.krv_sliceRange, List.filterMap_map]
  congr 1
  refine fm_congr _ fun m hm => ?_
  have := List.mem_range.mp hm
  have e : (((items.size : Int) - 1) + (m : Int) * (-1)).toNat = items.size - 1 - m := by omega
  rw [e]
  rfl
theorem getItem_tuple_rev {t sl : Addr} {items : Array Value} {k : Tok} {Q : Value → Shared → Prop} (ht : IsTup s.heap t items) (hs : s.heap.IsSliceOf sl .none .none (.int (-1) k))
    (h : Q (.ref s.heap.objs.size) { s with heap := s.heap.push { cls := .type "tuple", data := .seq items.toList.reverse.toArray } })
    (hsz : items.size ≤ sizeLine) : wpAny (model prog w) A (getItem (.ref t) (.ref sl)) Q E s := by
  have htake : sizeOk (.seq items.toList.reverse.toArray) := by
    show items.toList.reverse.toArray.size ≤ sizeLine
    rw [List.size_toArray, List.length_reverse, Array.length_toList]
    exact hsz
  obtain ⟨os, hos, hcs, hds⟩ := _root_.id hs
  have hTs : s.TypeIs (.ref sl) "slice" := ⟨os, hos, hcs⟩
  unfold getItem
  try with_reducible refine wpAny_holding ?_
  first | refine wpAny_bind (wpAny_pure ?_) | skip
  refine wpAny_bind (wpAny_sequenceKey ht.typeIs (by decide) ?_)
  refine wpAny_bind (wpAny_callSpecial?_slot (name := Str.ofString "__getitem__") ht.typeIs PyProof.Rows.slot_tuple_getitem
    (wpAny_call_entry PyProof.Rows.slot_tuple_getitem ht.typeIs entry_tuple_getitem ?_ (args_tuple_getitem _ _)))
  show wpAny _ _ (Builtin.Tuple.tupleItemsOf (.ref t) >>= _) _ _ s
  refine wpAny_bind (tupleItemsOf_ ht ?_)
  refine wpAny_bind (wpAny_typeOf hTs ?_)
  rw [if_pos (by decide)]
  refine wpAny_bind (m := Builtin.Slice.sliceApplied (.ref sl) (pure (items.size : Int))) ?_
  unfold Builtin.Slice.sliceApplied Builtin.Slice.sliceFields
  refine wpAny_bind (wpAny_bind (wpAny_field hos hds (x := .none) rfl (wpAny_bind (wpAny_field hos hds (x := .none) rfl (wpAny_bind (wpAny_field hos hds (x := .int (-1) k) rfl (wpAny_pure ?_)))))))
  refine wpAny_bind (slicePart_int ?_)
  show wpAny _ _ (if ((-1 : Int) == 0) = true then _ else _) _ _ s
  rw [if_neg (by decide)]
  refine wpAny_bind (HT.slicePart_ .none (wpAny_bind (HT.slicePart_ .none (wpAny_bind (wpAny_pure ?_)))))
  show wpAny _ _ (match Builtin.Slice.sliceAdjust none none (-1) (items.size : Int) with | (lo, hi) => pure (lo, (-1 : Int), Builtin.Slice.slicePlaces lo hi (-1))) _ _ s
  rw [places_back]
  show wpAny _ _ (pure (((items.size : Int) - 1), (-1 : Int), Builtin.Slice.slicePlaces ((items.size : Int) - 1) (-1) (-1))) _ _ s
  rw [count_back]
  refine wpAny_pure ?_
  show wpAny _ _ (if (((items.size : Int) - 1) == 0 && (-1 : Int) == 1 && items.size == items.size) = true then _ else _) _ _ s
  rw [if_neg (by rw [show ((-1 : Int) == 1) = false from rfl, Bool.and_false, Bool.false_and]; exact Bool.false_ne_true), pick_back]
  first
    | exact wpAny_bind (m := Builtin.Tuple.tupleExact _) (wpAny_newObj_type (wpAny_pure ⟨_, rfl, wpAny_pure h⟩) htake)
    | exact wpAny_bind (m := Builtin.Tuple.tupleExact _) (wpAny_newObj_type (wpAny_bind (wpAny_pure (wpAny_pure ⟨_, rfl, wpAny_pure h⟩))) htake)
    | exact wpAny_bind (wpAny_bind (m := Builtin.Tuple.tupleExact _) (wpAny_newObj_type (wpAny_pure (wpAny_pure ⟨_, rfl, wpAny_pure h⟩)) htake))
    | exact wpAny_bind (wpAny_bind (m := Builtin.Tuple.tupleExact _) (wpAny_newObj_type (wpAny_pure ⟨_, rfl, wpAny_pure h⟩) htake))
end
section
variable {X : Cx}
def tRevT (K : PySem.W.Frag) (te : TE) : TE := fun σ H Q => te σ H fun x H1 => ∃ a xs, x = .ref a ∧ SqT K H1 a xs ∧ ∀ p, H1 p = none → Q (.ref p) (upd H1 p (.tup xs.reverse))
theorem pe_revT {e : Expr} {te : TE} {k : Nat} {p1 p2 p3 pos : Pos} (he : PE X e te) : PE X (.Subscript e (.Slice none none (some (.UnaryOp .USub (.Constant (.int 1) k p1) p2)) p3) pos) (tRevT X.K te) := by
  refine ⟨fun pins s σ H Q I h => ?_⟩
  refine Subscript_ (thn (he.run pins s σ H _ I h) fun v s1 ⟨x, H1, I1, r1, q1⟩ => ?_)
  obtain ⟨a, xs, ex, hx, q⟩ := q1
  subst ex
  cases r1
  have hst : PO X (some (.UnaryOp .USub (.Constant (.int 1) k p1) p2)) (tPart (tUn (rU fun i => .int (-i)) (tC (.int 1)))) := po_some (pe_un un_neg pe_int)
  refine wpAny_Slice (thn (po_none.run pins s1 σ H1 (fun o H2 => o = none ∧ H2 = H1) I1 ⟨rfl, rfl⟩) fun vl s2 ⟨l, H2, I2, pl, el, e2⟩ => ?_)
  subst el e2
  refine thn (po_none.run pins s2 σ H2 (fun o H3 => o = none ∧ H3 = H2) I2 ⟨rfl, rfl⟩) fun vu s3 ⟨u, H3, I3, pu, eu, e3⟩ => ?_
  subst eu e3
  refine thn (hst.run pins s3 σ H3 (fun o H4 => o = some (-1) ∧ H4 = H3) I3 ⟨1, rfl, -1, rfl, rfl, rfl⟩) fun vs s4 ⟨o, H4, I4, ps, eo, e4⟩ => ?_
  subst eo e4
  cases pl
  cases pu
  cases ps with
  | int i tk =>
  have I5 : Inv X pins σ H4 { s4 with heap := s4.heap.push { cls := .type "slice", data := .fields #[.none, .none, .int (-1) tk] } } := I4.kept (t' := s4.toks) fun b ob q => Heap.get?_push_of_some _ q
  obtain ⟨its, r, ht, hz⟩ := I5.tuple hx
  have hlen := r.length
  show wpAny (model X.prog X.w) X.A (subscriptTail e (.Slice none none (some (.UnaryOp .USub (.Constant (.int 1) k p1) p2)) p3) (.ref a) (.ref s4.heap.objs.size)) (EP X pins σ Q) X.xe { s4 with heap := s4.heap.push { cls := .type "slice", data := .fields #[.none, .none, .int (-1) tk] } }
  refine tail_any (ops := [.ref a, .ref s4.heap.objs.size]) ht.typeIs (PyProof.Rows.slot_tuple_getitem.lookup) ?_ (by with_unfolding_all rfl)
  refine getItem_tuple_rev ht (Heap.IsSliceOf.new _ .none .none (.int (-1) tk)) ?_ (by rw [List.size_toArray]; omega)
  refine ⟨.ref _, _, I5.laid (t' := s4.toks) (o := .tup xs.reverse) (fun b ob q => Heap.get?_push_of_some _ q) (Nat.le_refl _) ?_, rfl, q _ (I5.hok.fresh (Nat.le_refl _))⟩
  exact ⟨by rw [List.length_reverse]; exact hz, _, r.reverse, IsTup.new _ _⟩
end
section
variable {X : Cx} {call : Cl} {a b c : Expr} {ma mb mc : E} {pos : Pos}
theorem revOp_get {M : Mem} {a z : PV} (e : revOp M a = some z) : (∃ xs, a = .tup xs ∧ z = .tup xs.reverse) ∨ ∃ xs, items M a = some xs ∧ z = .lst xs.reverse := by
  unfold revOp at e
  split at e
  · cases e; exact .inl ⟨_, rfl, rfl⟩
  · obtain ⟨xs, e5, e6⟩ := mapE e
    exact .inr ⟨xs, e5, e6.symm⟩
theorem i_rev {k : Nat} {p1 p2 p3 : Pos} (ha : PE X a (tI X.K call ma)) : PE X (.Subscript a (.Slice none none (some (.UnaryOp .USub (.Constant (.int 1) k p1) p2)) p3) pos) (tI X.K call (.rev ma)) := by
  refine ⟨fun pins s σ H Q I ⟨φ, M, env, v, M', m, r, e, k⟩ => ?_⟩
  unfold Ev.eval at e
  obtain ⟨⟨x, M1⟩, e1, e⟩ := bindE e
  obtain ⟨z, e2, e⟩ := mapE e
  cases e
  rcases revOp_get e2 with ⟨xs, rfl, rfl⟩ | ⟨xs, e3, rfl⟩
  · refine (pe_revT ha).run pins s σ H Q I (tI.then_ m r e1 fun φ1 H1 u x1 m1 r1 q1 => ?_)
    cases q1 with
    | tup h q =>
    exact ⟨_, _, rfl, h, fun p hp => (k.mono x1).tup m1 q.rev hp⟩
  · refine (pe_revL ha).run pins s σ H Q I (tI.then_ m r e1 fun φ1 H1 u x1 m1 r1 q1 => ?_)
    obtain ⟨a, vs, rfl, h, q⟩ := items_sq m1 q1 e3
    exact ⟨_, _, rfl, h, fun p hp => (k.mono x1).lst m1 q.rev hp⟩
theorem idxOp_get {M : Mem} {x y z : PV} (e : idxOp M x y = some z) : ∃ i xs, y = .int i ∧ itemsT M x = some xs ∧ L2.atI xs i = some z := by
  unfold idxOp at e
  split at e
  · rename_i i xs h
    exact ⟨_, _, rfl, h, e⟩
  · cases e
theorem i_idx (ha : PE X a (tI X.K call ma)) (hb : PE X b (tI X.K call mb)) (hs : PlainIx b := by intro _ _; rfl) : PE X (.Subscript a b pos) (tI X.K call (.idx ma mb)) :=
  (pe_ix (IxR.or ix_list ix_tup) ha hb hs).imp fun σ H Q ⟨φ, M, env, v, M', m, r, e, k⟩ => by
    unfold Ev.eval at e
    obtain ⟨⟨x, M1⟩, e1, e⟩ := bindE e
    obtain ⟨⟨y, M2⟩, e2, e⟩ := bindE e
    obtain ⟨z, e3, e⟩ := mapE e
    cases e
    refine tI.then_ m r e1 fun φ1 H1 u x1 m1 r1 q1 => tI.then_ m1 r1 e2 fun φ2 H2 w x2 m2 r2 q2 => ?_
    obtain ⟨i, xs, rfl, e4, e5⟩ := idxOp_get e3
    cases q2
    obtain ⟨p, vs, rfl, h, q⟩ := itemsT_sq m2 (q1.mono x2) e4
    obtain ⟨t, h1, h2⟩ := q.atI e5
    rcases h with h | h
    · exact .inl ⟨p, vs, _, t, rfl, rfl, h, h1, k _ _ _ (x1.trans x2) m2 h2⟩
    · exact .inr ⟨p, vs, _, t, rfl, rfl, h, h1, k _ _ _ (x1.trans x2) m2 h2⟩
/-- a slice's part -/
def tO (K : PySem.W.Frag) (call : Cl) (f : Bool) (m : E) : TO := fun σ H Q => ∃ φ M env v M' o, RM K φ H M ∧ RE K φ H env σ ∧ Ev.eval call m env M = some (v, M') ∧ part f v = some o ∧ ∀ φ' H', Xt φ H φ' H' → RM K φ' H' M' → Q o H'
theorem _root_.L2.PO.imp {X : Cx} {e : Option Expr} {t t' : TO} (h : PO X e t) (k : ∀ σ H Q, t' σ H Q → t σ H Q) : PO X e t' := ⟨fun pins s σ H Q I q => h.run pins s σ H Q I (k _ _ _ q)⟩
theorem o_none : PO X none (tO X.K call false (.cst .non)) := po_none.imp fun σ H Q ⟨φ, M, env, v, M', o, m, r, e, p, k⟩ => by
  unfold Ev.eval at e
  cases e; cases p
  exact k _ _ .refl m
theorem o_some (h : PE X a (tI X.K call ma)) : PO X (some a) (tO X.K call true ma) := (po_some h).imp fun σ H Q ⟨φ, M, env, v, M', o, m, r, e, p, k⟩ => by
  refine tI.then_ m r e fun φ1 H1 u x1 m1 r1 q1 => ?_
  cases q1 <;> try (cases p; done)
  cases p
  exact ⟨_, rfl, k _ _ x1 m1⟩
theorem cut_rps {K : PySem.W.Frag} {φ : Ph} {H : Hp} {xs : List PV} {vs : List V} (r : Rps K φ H xs vs) (l h : Option Int) : Rps K φ H (cut xs l h) (cutV vs l h) := by
  unfold cut cutV
  rw [r.length]
  exact (r.drop _).take _
theorem slcV_get {M : Mem} {a z : PV} {l h : Option Int} (e : slcV M a l h = some z) : (∃ xs, a = .tup xs ∧ z = .tup (cut xs l h)) ∨ ∃ xs, items M a = some xs ∧ z = .lst (cut xs l h) := by
  unfold slcV at e
  split at e
  · cases e; exact .inl ⟨_, rfl, rfl⟩
  · obtain ⟨xs, e5, e6⟩ := mapE e
    exact .inr ⟨xs, e5, e6.symm⟩
theorem i_slc {lo hi : Option Expr} {bl bh : Bool} {p2 : Pos} (ha : PE X a (tI X.K call ma)) (hl : PO X lo (tO X.K call bl mb)) (hh : PO X hi (tO X.K call bh mc)) : PE X (.Subscript a (.Slice lo hi none p2) pos) (tI X.K call (.slc ma bl bh mb mc)) :=
  (pe_slice (SlR.or sl_list sl_tupA) ha hl hh).imp fun σ H Q ⟨φ, M, env, v, M', m, r, e, k⟩ => by
    unfold Ev.eval at e
    obtain ⟨⟨x, M1⟩, e1, e⟩ := bindE e
    obtain ⟨⟨y, M2⟩, e2, e⟩ := bindE e
    obtain ⟨⟨y3, M3⟩, e3, e⟩ := bindE e
    obtain ⟨z, e4, e⟩ := mapE e
    cases e
    unfold slcOp at e4
    simp only at e4
    cases p1 : part bl y with
    | none => rw [p1] at e4; cases e4
    | some l =>
    cases p2 : part bh y3 with
    | none => rw [p1, p2] at e4; cases e4
    | some h =>
    rw [p1, p2] at e4
    change slcV M3 x l h = some _ at e4
    refine tI.then_ m r e1 fun φ1 H1 u x1 m1 r1 q1 => ⟨φ1, M1, env, y, M2, l, m1, r1, e2, p1, fun φ2 H2 x2 m2 => ⟨φ2, M2, env, y3, M3, h, m2, r1.mono x2, e3, p2, fun φ3 H3 x3 m3 => ?_⟩⟩
    have q3 := q1.mono (x2.trans x3)
    have k3 := k.mono (x1.trans (x2.trans x3))
    rcases slcV_get e4 with ⟨xs, rfl, rfl⟩ | ⟨xs, e5, rfl⟩
    · cases q3 with
      | tup h1 q =>
      refine .inr ⟨_, _, rfl, h1, fun ⟨w1, w2⟩ => ?_, fun _ p hp => k3.tup m3 (cut_rps q l h) hp⟩
      refine k3.here m3 (.tup h1 ?_)
      have := cut_rps q l h
      unfold cutV at this
      rw [w1, w2] at this
      simpa using this
    · obtain ⟨a, vs, rfl, h1, q⟩ := items_sq m3 q3 e5
      exact .inl ⟨_, _, rfl, h1, fun p hp => k3.lst m3 (cut_rps q l h) hp⟩
/-! ### calls -/
/-- a def that may be called by its name -/
structure Cal (P : Program) (w : World) (K : PySem.W.Frag) (mg : Str → Option Value) (base : Heap) (k : Nat) (x : Str) (sp : Sp) : Prop where
  ex : ∃ (f : Addr) (fd : FuncData) (ps : List Str), FnOk P w K mg base CX0 k f fd ps sp ∧ mg x = some (.ref f) ∧ PySem.W.keepIn K (.ref f) = true ∧ Binds K fd ps []
def spC (K : PySem.W.Frag) (call : Cl) (f : Nat) : Sp := fun vs H Q _ => ∃ φ M args v M', RM K φ H M ∧ Rps K φ H args vs ∧ call f args M = some (v, M') ∧ Pst K φ H M' v Q
theorem i_call {x : Str} {p : Pos} {k f : Nat} {es : List Expr} {ms : Es} (c : Cal X.prog X.w X.K X.mg X.base k x (spC X.K call f)) (hr : Room k X.A) (hg : Gl X x) (ha : PA X (a :: es) (tIs X.K call ms))
    (hdb : (x == ("__debug__" : Str)) = false := by decide) (he : starEach (a :: es) X.env = (false, PySem.eval a X.env) :: starEach es X.env := by rfl) (hpl : (backTo pos (starEach es X.env)).any (·.1) = false := by rfl) :
    PE X (.Call (.Name x p) (a :: es) [] pos) (tI X.K call (.call f ms)) := by
  obtain ⟨fa, fd, ps, F, hm, kp, b⟩ := c.ex
  refine (pe_call F hr hg hm kp b .nil (E := fun _ _ _ => False) pass0 ha hdb he hpl).imp fun σ H Q ⟨φ, M, env, v, M', m, r, e, k⟩ => ?_
  unfold Ev.eval at e
  obtain ⟨⟨vs, M1⟩, e1, e⟩ := bindE e
  refine tIs.then_ m r e1 fun φ1 H1 u x1 m1 r1 q1 => ?_
  rw [List.append_nil]
  exact ⟨φ1, M1, vs, v, M', m1, q1, e, k.mono x1⟩
theorem i_call0 {x : Str} {p : Pos} {k f : Nat} (c : Cal X.prog X.w X.K X.mg X.base k x (spC X.K call f)) (hr : Room k X.A) (hg : Gl X x)
    (hdb : (x == ("__debug__" : Str)) = false := by decide) : PE X (.Call (.Name x p) [] [] pos) (tI X.K call (.call f .nil)) := by
  obtain ⟨fa, fd, ps, F, hm, kp, b⟩ := c.ex
  refine (pe_call0 F hr hg hm kp b .nil (E := fun _ _ _ => False) pass0 hdb).imp fun σ H Q ⟨φ, M, env, v, M', m, r, e, k⟩ => ?_
  unfold Ev.eval at e
  obtain ⟨⟨vs, M1⟩, e1, e⟩ := bindE e
  unfold Ev.evals at e1
  cases e1
  exact ⟨φ, M, [], v, M', m, .nil, e, k⟩
/-! ### built-ins -/
def rBl (K : PySem.W.Frag) (b : Bl) (f : Bool) : List V → Hp → VK → Prop := fun xs H Q => ∃ φ M vs z, RM K φ H M ∧ Rps K φ H vs xs ∧ bltOp M b vs = some z ∧ Pst K φ H (asM f z M).2 (asM f z M).1 Q
theorem _root_.L2.CallR.imp {X : Cx} {f : Value} {r r' : List V → Hp → VK → Prop} (h : CallR X f r) (k : ∀ xs H Q, r' xs H Q → r xs H Q) : CallR X f r' := fun pins s σ H xs us Q I v q => h pins s σ H xs us Q I v (k _ _ _ q)
theorem blt_rd {bl : Bl} {f : Bool} {ms : Es} {σ : L2.St} {H : Hp} {Q : VK} (h : tI X.K call (.blt bl f ms) σ H Q) : tCB (rBl X.K bl f) (tIs X.K call ms) σ H Q := by
  obtain ⟨φ, M, env, v, M', m, r, e, k⟩ := h
  unfold Ev.eval at e
  obtain ⟨⟨vs, M1⟩, e1, e⟩ := bindE e
  obtain ⟨z, e2, e⟩ := mapE e
  refine tIs.then_ m r e1 fun φ1 H1 u x1 m1 r1 q1 => ⟨φ1, M1, vs, z, m1, q1, e2, ?_⟩
  simp only at e
  rw [e]
  exact k.mono x1
theorem i_bltB {x : Str} {p : Pos} {id : String} {bl : Bl} {f : Bool} {es : List Expr} {ms : Es} (hc : CallR X (.builtin id) (rBl X.K bl f)) (hg : Gl X x) (hm : X.mg x = none) (hv : bootBuiltins x = some (.builtin id)) (ha : PA X (a :: es) (tIs X.K call ms))
    (hn : x ≠ "__name__" := by decide) (hdb : (x == ("__debug__" : Str)) = false := by decide) (he : starEach (a :: es) X.env = (false, PySem.eval a X.env) :: starEach es X.env := by rfl) (hpl : (backTo pos (starEach es X.env)).any (·.1) = false := by rfl) :
    PE X (.Call (.Name x p) (a :: es) [] pos) (tI X.K call (.blt bl f ms)) := (pe_callB hc hg hm hv ha hn hdb he hpl).imp fun _ _ _ h => blt_rd h
theorem i_bltT {x : Str} {p : Pos} {T : String} {bl : Bl} {f : Bool} {es : List Expr} {ms : Es} (hc : CallR X (.type T) (rBl X.K bl f)) (hg : Gl X x) (hm : X.mg x = none) (hv : bootBuiltins x = some (.type T)) (ha : PA X (a :: es) (tIs X.K call ms))
    (hn : x ≠ "__name__" := by decide) (hdb : (x == ("__debug__" : Str)) = false := by decide) (he : starEach (a :: es) X.env = (false, PySem.eval a X.env) :: starEach es X.env := by rfl) (hpl : (backTo pos (starEach es X.env)).any (·.1) = false := by rfl) :
    PE X (.Call (.Name x p) (a :: es) [] pos) (tI X.K call (.blt bl f ms)) := (pe_callTy hc hg hm hv ha hn hdb he hpl).imp fun _ _ _ h => blt_rd h
theorem one_of {K : PySem.W.Frag} {φ : Ph} {H : Hp} {v : PV} {xs : List V} (r : Rps K φ H [v] xs) : ∃ u, xs = [u] ∧ Rp K φ H v u := by
  cases r with
  | cons h r => cases r; exact ⟨_, rfl, h⟩
theorem two_of {K : PySem.W.Frag} {φ : Ph} {H : Hp} {v w : PV} {xs : List V} (r : Rps K φ H [v, w] xs) : ∃ u t, xs = [u, t] ∧ Rp K φ H v u ∧ Rp K φ H w t := by
  cases r with
  | cons h r =>
    obtain ⟨t, rfl, h2⟩ := one_of r
    exact ⟨_, _, rfl, h, h2⟩
theorem c_abs {f : Bool} : CallR X (.builtin "abs") (rBl X.K .abs f) := call_abs.imp fun xs H Q ⟨φ, M, vs, z, m, r, e, k⟩ => by
  change absB vs = some z at e
  unfold absB at e
  split at e
  · cases e
    obtain ⟨u, rfl, h⟩ := one_of r
    cases h
    exact ⟨_, rfl, k.asM m (.int _) fun _ h => nomatch h⟩
  · cases e
theorem c_int {f : Bool} : CallR X (.type "int") (rBl X.K .int f) := call_int1.imp fun xs H Q ⟨φ, M, vs, z, m, r, e, k⟩ => by
  change intB vs = some z at e
  unfold intB at e
  split at e
  · cases e
    obtain ⟨u, rfl, h⟩ := one_of r
    cases h
    exact .inl ⟨_, rfl, k.asM m (.int _) fun _ h => nomatch h⟩
  · cases e
    obtain ⟨u, rfl, h⟩ := one_of r
    cases h
    exact .inr ⟨_, rfl, k.asM m (.int _) fun _ h => nomatch h⟩
  · cases e
theorem c_list {f : Bool} : CallR X (.type "list") (rBl X.K .list f) := call_list_of.imp fun xs H Q ⟨φ, M, vs, z, m, r, e, k⟩ => by
  change listB M vs = some z at e
  unfold listB at e
  split at e
  · obtain ⟨ys, e1, rfl⟩ := mapE e
    obtain ⟨u, rfl, h⟩ := one_of r
    obtain ⟨a, ws, rfl, h1, h2⟩ := itemsT_sq m h e1
    exact ⟨a, ws, rfl, h1, fun l hl => k.asL m h2 hl⟩
  · cases e
theorem c_tuple {f : Bool} : CallR X (.type "tuple") (rBl X.K .tuple f) := call_tuple_of.imp fun xs H Q ⟨φ, M, vs, z, m, r, e, k⟩ => by
  change tupleB M vs = some z at e
  unfold tupleB at e
  split at e
  · cases e
    obtain ⟨u, rfl, h⟩ := one_of r
    cases h with
    | tup h q => exact ⟨_, _, rfl, .inr ⟨h, k.asM m (.tup h q) fun _ h => nomatch h⟩⟩
  · obtain ⟨ys, e1, rfl⟩ := mapE e
    obtain ⟨u, rfl, h⟩ := one_of r
    obtain ⟨a, ws, rfl, h1, h2⟩ := items_sq m h e1
    refine ⟨a, ws, rfl, .inl ⟨h1, fun l hl => ?_⟩⟩
    have k1 : Pst X.K φ H M (.tup ys) Q := by cases f <;> exact k
    exact k1.tup m h2 hl
  · cases e
theorem c_len {f : Bool} : CallR X (.builtin "len") (rBl X.K .len f) := (CallR.or call_len_seq call_len_str).imp fun xs H Q ⟨φ, M, vs, z, m, r, e, k⟩ => by
  change lenB M vs = some z at e
  unfold lenB at e
  split at e
  · obtain ⟨u, rfl, h⟩ := one_of r
    cases h
    unfold iff' at e
    split at e
    · rename_i hz
      cases e
      exact .inr ⟨_, rfl, of_decide_eq_true hz, k.asM m (.int _) fun _ h => nomatch h⟩
    · cases e
  · obtain ⟨ys, e1, rfl⟩ := mapE e
    obtain ⟨u, rfl, h⟩ := one_of r
    obtain ⟨a, ws, rfl, h1, h2⟩ := itemsT_sq m h e1
    exact .inl ⟨a, ws, rfl, h1, by rw [← h2.length]; exact k.asM m (.int _) fun _ h => nomatch h⟩
  · cases e
theorem ints_rps {K : PySem.W.Frag} {φ : Ph} {H : Hp} : ∀ {xs : List PV} {vs : List V} {ns : List Int}, Rps K φ H xs vs → intsOf xs = some ns → vs = ns.map V.int
  | [], _, _, .nil, e => by cases e; rfl
  | x :: xs, _, ns, .cons h r, e => by
    cases h <;> first | (cases e; done) | skip
    obtain ⟨ms, e1, e2⟩ := mapE e
    subst e2
    rw [List.map_cons, ints_rps r e1]
theorem bools_rps {K : PySem.W.Frag} {φ : Ph} {H : Hp} : ∀ {xs : List PV} {vs : List V} {ns : List Bool}, Rps K φ H xs vs → boolsOf xs = some ns → vs = ns.map V.bl
  | [], _, _, .nil, e => by cases e; rfl
  | x :: xs, _, ns, .cons h r, e => by
    cases h <;> first | (cases e; done) | skip
    obtain ⟨ms, e1, e2⟩ := mapE e
    subst e2
    rw [List.map_cons, bools_rps r e1]
theorem obind {α β : Type} {x : Option α} {f : α → Option β} {y : β} (h : x.bind f = some y) : ∃ a, x = some a ∧ f a = some y := by
  cases x with
  | none => cases h
  | some a => exact ⟨a, rfl, h⟩
theorem c_sum (hc : X.calm = true) {f : Bool} : CallR X (.builtin "sum") (rBl X.K .sum f) := (cr_sum hc).imp fun xs H Q ⟨φ, M, vs, z, m, r, e, k⟩ => by
  change sumB M vs = some z at e
  unfold sumB at e
  split at e
  · obtain ⟨ys, e1, e⟩ := obind e
    obtain ⟨ns, e2, rfl⟩ := mapE e
    obtain ⟨u, rfl, h⟩ := one_of r
    obtain ⟨a, ws, rfl, h1, h2⟩ := items_sq m h e1
    exact ⟨a, ns, rfl, by rw [← ints_rps h2 e2]; exact h1, k.asM m (.int _) fun _ h => nomatch h⟩
  · cases e
theorem c_all (hc : X.calm = true) {f : Bool} : CallR X (.builtin "all") (rBl X.K .all f) := (cr_all hc).imp fun xs H Q ⟨φ, M, vs, z, m, r, e, k⟩ => by
  change allB M vs = some z at e
  unfold allB at e
  split at e
  · obtain ⟨ys, e1, e⟩ := obind e
    obtain ⟨ns, e2, rfl⟩ := mapE e
    obtain ⟨u, rfl, h⟩ := one_of r
    obtain ⟨a, ws, rfl, h1, h2⟩ := items_sq m h e1
    exact ⟨a, ns, rfl, by rw [← bools_rps h2 e2]; exact h1, k.asM m (.bl _) fun _ h => nomatch h⟩
  · cases e
theorem c_any (hc : X.calm = true) {f : Bool} : CallR X (.builtin "any") (rBl X.K .any f) := (cr_any hc).imp fun xs H Q ⟨φ, M, vs, z, m, r, e, k⟩ => by
  change anyB M vs = some z at e
  unfold anyB at e
  split at e
  · obtain ⟨ys, e1, e⟩ := obind e
    obtain ⟨ns, e2, rfl⟩ := mapE e
    obtain ⟨u, rfl, h⟩ := one_of r
    obtain ⟨a, ws, rfl, h1, h2⟩ := items_sq m h e1
    exact ⟨a, ns, rfl, by rw [← bools_rps h2 e2]; exact h1, k.asM m (.bl _) fun _ h => nomatch h⟩
  · cases e
theorem maxI_ok : ∀ {ns : List Int} {m n : Int}, maxI ns = some n → m ∈ ns → (∀ y, y ∈ ns → y ≤ m) → m = n := fun {ns m n} h hm hy => by
  cases ns with
  | nil => cases h
  | cons x xs =>
    have h' := Option.some.inj h
    have e : ∀ (l : List Int) (a : Int), (l.foldl max a = a ∨ l.foldl max a ∈ l) ∧ (a ≤ l.foldl max a) ∧ ∀ y ∈ l, y ≤ l.foldl max a := by
      intro l
      induction l with
      | nil => intro a; exact ⟨.inl rfl, Int.le_refl _, fun _ h => nomatch h⟩
      | cons b l ih =>
        intro a
        obtain ⟨h1, h2, h3⟩ := ih (max a b)
        rw [List.foldl_cons]
        refine ⟨?_, by omega, fun y hy => ?_⟩
        · rcases h1 with h1 | h1
          · rw [h1]
            rcases Int.le_total a b with k | k
            · first | (right; rw [Int.max_eq_right k]; exact List.mem_cons_self) | (left; exact Int.min_eq_left k)
            · first | (left; exact Int.max_eq_left k) | (right; rw [Int.min_eq_right k]; exact List.mem_cons_self)
          · exact .inr (List.mem_cons_of_mem _ h1)
        · rcases List.mem_cons.mp hy with rfl | hy
          · omega
          · exact h3 y hy
    obtain ⟨h1, h2, h3⟩ := e xs x
    rw [h'] at h1 h2 h3
    have a1 := hy n (by rcases h1 with h1 | h1; (rw [h1]; exact List.mem_cons_self); exact List.mem_cons_of_mem _ h1)
    rcases List.mem_cons.mp hm with q | q
    · subst q; omega
    · have := h3 m q; omega
theorem c_max (hc : X.calm = true) {f : Bool} : CallR X (.builtin "max") (rBl X.K .max f) := (CallR.or (call_max2 hc) (CallR.or (cr_max hc) (call_max4 hc))).imp fun xs H Q ⟨φ, M, vs, z, m, r, e, k⟩ => by
  change maxB M vs = some z at e
  unfold maxB at e
  split at e
  · cases e
    obtain ⟨u, t, rfl, h, h'⟩ := two_of r
    cases h; cases h'
    exact .inl ⟨_, _, rfl, k.asM m (.int _) fun _ h => nomatch h⟩
  · rename_i i1 i2 i3 i4
    cases e
    cases r with
    | cons h1 r =>
    cases r with
    | cons h2 r =>
    cases r with
    | cons h3 r =>
    cases r with
    | cons h4 r =>
    cases r
    cases h1; cases h2; cases h3; cases h4
    refine .inr (.inr ⟨_, _, _, _, rfl, fun m' hm hz => ?_⟩)
    have e : m' = max (max (max i1 i2) i3) i4 := by
      simp only [List.mem_cons, List.not_mem_nil, or_false] at hm
      have z1 := hz i1 (by simp)
      have z2 := hz i2 (by simp)
      have z3 := hz i3 (by simp)
      have z4 := hz i4 (by simp)
      omega
    rw [e]
    exact k.asM m (.int _) fun _ h => nomatch h
  · rename_i a
    cases h1 : items M a with
    | none => rw [h1] at e; cases e
    | some xs1 =>
    rw [h1] at e
    cases h2 : intsOf xs1 with
    | none => change (intsOf xs1).bind _ = _ at e; rw [h2] at e; cases e
    | some ns =>
    change (intsOf xs1).bind _ = _ at e
    rw [h2] at e
    obtain ⟨n, h3, rfl⟩ := mapE e
    obtain ⟨u, rfl, h⟩ := one_of r
    obtain ⟨p, ws, rfl, h4, h5⟩ := items_sq m h h1
    have e4 := ints_rps h5 h2
    subst e4
    refine .inr (.inl ⟨p, ns, rfl, h4, ?_, fun m' hm hy => ?_⟩)
    · cases ns with
      | nil => cases h3
      | cons _ _ => exact Nat.succ_pos _
    · rw [maxI_ok h3 hm hy]
      exact k.asM m (.int _) fun _ h => nomatch h
  · cases e
theorem minI_ok : ∀ {ns : List Int} {m n : Int}, minI ns = some n → m ∈ ns → (∀ y, y ∈ ns → m ≤ y) → m = n := fun {ns m n} h hm hy => by
  cases ns with
  | nil => cases h
  | cons x xs =>
    have h' := Option.some.inj h
    have e : ∀ (l : List Int) (a : Int), (l.foldl min a = a ∨ l.foldl min a ∈ l) ∧ (l.foldl min a ≤ a) ∧ ∀ y ∈ l, l.foldl min a ≤ y := by
      intro l
      induction l with
      | nil => intro a; exact ⟨.inl rfl, Int.le_refl _, fun _ h => nomatch h⟩
      | cons b l ih =>
        intro a
        obtain ⟨h1, h2, h3⟩ := ih (min a b)
        rw [List.foldl_cons]
        refine ⟨?_, by omega, fun y hy => ?_⟩
        · rcases h1 with h1 | h1
          · rw [h1]
            rcases Int.le_total a b with k | k
            · first | (right; rw [Int.max_eq_right k]; exact List.mem_cons_self) | (left; exact Int.min_eq_left k)
            · first | (left; exact Int.max_eq_left k) | (right; rw [Int.min_eq_right k]; exact List.mem_cons_self)
          · exact .inr (List.mem_cons_of_mem _ h1)
        · rcases List.mem_cons.mp hy with rfl | hy
          · omega
          · exact h3 y hy
    obtain ⟨h1, h2, h3⟩ := e xs x
    rw [h'] at h1 h2 h3
    have a1 := hy n (by rcases h1 with h1 | h1; (rw [h1]; exact List.mem_cons_self); exact List.mem_cons_of_mem _ h1)
    rcases List.mem_cons.mp hm with q | q
    · subst q; omega
    · have := h3 m q; omega
theorem c_min (hc : X.calm = true) {f : Bool} : CallR X (.builtin "min") (rBl X.K .min f) := (CallR.or (call_min2 hc) (cr_min hc)).imp fun xs H Q ⟨φ, M, vs, z, m, r, e, k⟩ => by
  change minB M vs = some z at e
  unfold minB at e
  split at e
  · cases e
    obtain ⟨u, t, rfl, h, h'⟩ := two_of r
    cases h; cases h'
    exact .inl ⟨_, _, rfl, k.asM m (.int _) fun _ h => nomatch h⟩
  · rename_i a
    cases h1 : items M a with
    | none => rw [h1] at e; cases e
    | some xs1 =>
    rw [h1] at e
    cases h2 : intsOf xs1 with
    | none => change (intsOf xs1).bind _ = _ at e; rw [h2] at e; cases e
    | some ns =>
    change (intsOf xs1).bind _ = _ at e
    rw [h2] at e
    obtain ⟨n, h3, rfl⟩ := mapE e
    obtain ⟨u, rfl, h⟩ := one_of r
    obtain ⟨p, ws, rfl, h4, h5⟩ := items_sq m h h1
    have e4 := ints_rps h5 h2
    subst e4
    refine .inr ⟨p, ns, rfl, h4, ?_, fun m' hm hy => ?_⟩
    · cases ns with
      | nil => cases h3
      | cons _ _ => exact Nat.succ_pos _
    · rw [minI_ok h3 hm hy]
      exact k.asM m (.int _) fun _ h => nomatch h
  · cases e
/-! ### isinstance -/
def tyS : Ty → String
  | .int => "int" | .bool => "bool" | .str => "str" | .tuple => "tuple" | .list => "list"
theorem kt_non (t : Ty) : kitB "NoneType" (tyS t) = some false := by cases t <;> decide +kernel
theorem kt_bl (t : Ty) : kitB "bool" (tyS t) = some (match t with | .int => true | .bool => true | _ => false) := by cases t <;> decide +kernel
theorem kt_int (t : Ty) : kitB "int" (tyS t) = some (match t with | .int => true | _ => false) := by cases t <;> decide +kernel
theorem kt_str (t : Ty) : kitB "str" (tyS t) = some (match t with | .str => true | _ => false) := by cases t <;> decide +kernel
theorem kt_tup (t : Ty) : kitB "tuple" (tyS t) = some (match t with | .tuple => true | _ => false) := by cases t <;> decide +kernel
theorem kt_lst (t : Ty) : kitB "list" (tyS t) = some (match t with | .list => true | _ => false) := by cases t <;> decide +kernel
theorem kt_dct (t : Ty) : kitB "dict" (tyS t) = some false := by cases t <;> decide +kernel
theorem isiM_ref {M : Mem} {n : Nat} (h : isiM M (.ref n) = true) : ∃ xs, M[n]? = some (.lst xs) := by
  have h' : (match M[n]? with | some (.lst _) => true | _ => false) = true := h
  cases e : M[n]? with
  | none => rw [e] at h'; cases h'
  | some c =>
    rw [e] at h'
    cases c with
    | lst xs => exact ⟨xs, rfl⟩
    | dic _ => cases h'
    | fdi _ => cases h'
theorem ty_of {K : PySem.W.Frag} {φ : Ph} {H : Hp} {M : Mem} {v : PV} {u : V} (m : RM K φ H M) (r : Rp K φ H v u) (hm : isiM M v = true) (t : Ty) : ∃ s : String, TyX K H u (.type s) ∧ kitB s (tyS t) = some (isTy t v) := by
  cases r with
  | non => exact ⟨_, .base .non, (kt_non t).trans (by cases t <;> rfl)⟩
  | bl b => exact ⟨_, .base (.bl b), (kt_bl t).trans (by cases t <;> rfl)⟩
  | int i => exact ⟨_, .base (.int i), (kt_int t).trans (by cases t <;> rfl)⟩
  | str i => exact ⟨_, .base (.str i), (kt_str t).trans (by cases t <;> rfl)⟩
  | @tup a _ _ h q =>
    have : TyX K H (.ref a) (.type "tuple") := by
      rcases h with (h | ⟨o, h⟩) | ⟨o, its, n, h1, h2, h3⟩
      · exact .base (.tup h)
      · exact .fTuple h
      · exact .kTuple h1 h2
    exact ⟨_, this, (kt_tup t).trans (by cases t <;> rfl)⟩
  | lst h n q => exact ⟨_, .base (.lst h), (kt_lst t).trans (by cases t <;> rfl)⟩
  | @rol a _ _ h q =>
    have : TyX K H (.ref a) (.type "list") := by
      rcases h with ⟨o, h⟩ | ⟨h, _⟩ | ⟨o, its, n, h1, h2, h3⟩
      · exact .base (.frz h)
      · exact .base (.lst h)
      · exact .kList h1 h2
    exact ⟨_, this, (kt_lst t).trans (by cases t <;> rfl)⟩
  | @ref n a h1 =>
    obtain ⟨xs, hx⟩ := isiM_ref hm
    obtain ⟨vs, h4, _⟩ := m.cells n a _ h1 hx
    exact ⟨_, .base (.lst h4), (kt_lst t).trans (by cases t <;> rfl)⟩
  | dct h n => exact ⟨_, .base (.dK h), (kt_dct t).trans (by cases t <;> rfl)⟩
theorem i_isi {p p2 : Pos} {x : Str} {T : Ty} (hg : Gl X "isinstance") (hm : X.mg "isinstance" = none) (hgT : Gl X x) (hmT : X.mg x = none) (hv : bootBuiltins x = some (.type (tyS T))) (ha : PE X a (tI X.K call ma))
    (hn : x ≠ "__name__" := by decide) (hd : (x == ("__debug__" : Str)) = false := by decide) (he : starEach [a, .Name x p2] X.env = (false, PySem.eval a X.env) :: starEach [.Name x p2] X.env := by rfl) (hpl : (backTo pos (starEach [.Name x p2] X.env)).any (·.1) = false := by rfl) :
    PE X (.Call (.Name "isinstance" p) [a, .Name x p2] [] pos) (tI X.K call (.isi ma T)) :=
  (pe_callB call_isi hg hm (by decide +kernel) (pa_cons ha (pa_cons (pe_bltn hgT hmT hv (v := .ty (tyS T)) rfl hn hd) pa_nil) he) (by decide) (by decide) he hpl).imp fun σ H Q ⟨φ, M, env, v, M', m, r, e, k⟩ => by
    unfold Ev.eval at e
    obtain ⟨⟨y, M1⟩, e1, e⟩ := bindE e
    obtain ⟨hm1, e⟩ := ifE e
    cases e
    refine tI.then_ m r e1 fun φ1 H1 u x1 m1 r1 q1 => ?_
    obtain ⟨s, h1, h2⟩ := ty_of m1 q1 hm1 T
    exact ⟨u, .ty (tyS T), .type s, .type (tyS T), _, rfl, .ty _, h1, kit_ty h2, k _ _ _ x1 m1 (.bl _)⟩
/-! ### l.append(e) -/
theorem i_app {apos cpos : Pos} (ha : PE X a (tI X.K call ma)) (hb : PA X [b] (tIs X.K call (.cons mb .nil)))
    (hbase : attributeBase a "append" X.env (PySem.eval a X.env) = PySem.eval a X.env := by rfl)
    (hfew : ((backTo cpos (starEach [b] X.env)).all (fun x => !x.1) && (backToKw cpos (keywordEach [] X.env)).all (fun x => x.1.isSome)
      && decide (([b] : List Expr).length + ([] : List Keyword).length + (if ([] : List Keyword).isEmpty then 0 else 1) < 30)) = true := by rfl)
    (hline : (apos.endLine == cpos.line) = true := by rfl) (hs : starEach [b] X.env = (false, PySem.eval b X.env) :: starEach [] X.env := by rfl) (hplain : (backTo cpos (starEach [] X.env)).any (·.1) = false := by rfl) :
    PE X (.Call (.Attribute a "append" apos) [b] [] cpos) (tI X.K call (.app ma mb)) :=
  (pe_bm PySem.F.plainAttrs_list PySem.F.slot_list_append PySem.F.type_list_append mt_append ha hb hbase hfew hline hs hplain).imp fun σ H Q ⟨φ, M, env, v, M', m, r, e, k⟩ => by
    unfold Ev.eval at e
    obtain ⟨⟨y, M1⟩, e1, e⟩ := bindE e
    obtain ⟨hm1, e'⟩ := ifE e
    clear e
    have e := e'
    clear e'
    simp only at e hm1
    split at e
    · rename_i n
      obtain ⟨⟨t, M2⟩, e2, e⟩ := bindE e
      simp only at e
      split at e
      · rename_i xs e3
        obtain ⟨hz, e⟩ := ifE e
        cases e
        refine tI.then_ m r e1 fun φ1 H1 u x1 m1 r1 q1 => ?_
        cases q1 with
        | @ref _ ad h1 =>
        obtain ⟨xs1, hx1⟩ := isiM_ref hm1
        obtain ⟨ys, h4, _⟩ := m1.cells n _ _ h1 hx1
        have ev : Ev.evals call (.cons mb .nil) env M1 = some ([t], M2) := by
          unfold Ev.evals
          rw [e2]
          unfold Ev.evals
          rfl
        refine ⟨.inl ⟨rfl, ys, .inl (.inl h4)⟩, tIs.then_ m1 r1 ev fun φ2 H2 w x2 m2 r2 q2 => ?_⟩
        obtain ⟨z, rfl, q3⟩ := one_of q2
        have h5 := x2.get h1
        obtain ⟨b, h6, vs, h7, h8⟩ := m2.at_ e3
        rw [h5] at h6
        cases h6
        refine ⟨_, vs, z, rfl, rfl, h7, by rw [← h8.length]; exact of_decide_eq_true hz, ?_⟩
        exact k _ _ _ (x1.trans (x2.trans (xt_set h7 rfl (List.mem_of_getElem? h5)))) (m2.set h7 rfl h5 (h8.append (.cons q3 .nil))) .non
      · cases e
    · cases e
end
end Ev

/-! Targets, what a for walks, comprehensions. -/
namespace Ev
open PySem PySem.Spec PyProof.Rows L2
section
variable {K : PySem.W.Frag} {φ φ' φ1 : Ph} {H H' H1 : Hp} {M M' M1 : Mem} {env : Env} {σ : L2.St}
def gNames : List Nat → TGs
  | [] => gNil
  | i :: is => gCons (gName i) (gNames is)
def gP (K : PySem.W.Frag) : Tp1 → TG
  | .n i => gName i
  | .t is => gTup K is.length (gNames is)
def gPs (K : PySem.W.Frag) : List Tp1 → TGs
  | [] => gNil
  | p :: ps => gCons (gP K p) (gPs K ps)
def Tp1.ids : Tp1 → List Nat
  | .n i => [i]
  | .t is => is
def gT (K : PySem.W.Frag) : T → TG
  | .nm i => gName i
  | .tp is => gTup K is.length (gNames is)
  | .ls is => gUnl K is.length (gNames is)
  | .t2 ps => gTup K ps.length (gPs K ps)
def T.ids : T → List Nat
  | .nm i => [i]
  | .tp is => is
  | .ls is => is
  | .t2 ps => ps.flatMap Tp1.ids
theorem wipe_get (σ : L2.St) (j : Nat) : ∀ vs : List Nat, (wipe σ vs)[j]? = if j ∈ vs then (if j < σ.length then some none else none) else σ[j]?
  | [] => by simp [wipe]
  | v :: vs => by
    unfold wipe
    by_cases e : v = j
    · subst e
      rw [if_pos (by simp), List.getElem?_set]
      simp [wipe_length]
    · rw [List.getElem?_set_ne e, wipe_get σ j vs]
      have : (j ∈ v :: vs) ↔ j ∈ vs := by
        constructor
        · intro h
          rcases List.mem_cons.mp h with h | h
          · exact absurd h.symm e
          · exact h
        · exact List.mem_cons_of_mem _
      by_cases k : j ∈ vs
      · rw [if_pos k, if_pos (this.mpr k)]
      · rw [if_neg k, if_neg fun z => k (this.mp z)]
theorem wipe_set {σ : L2.St} {i : Nat} {x : Option V} {vs : List Nat} (h : i ∈ vs) : wipe (σ.set i x) vs = wipe σ vs := by
  apply List.ext_getElem?
  intro j
  rw [wipe_get, wipe_get, List.length_set]
  by_cases k : j ∈ vs
  · rw [if_pos k, if_pos k]
  · rw [if_neg k, if_neg k, List.getElem?_set_ne (fun e => k (by rw [← e]; exact h))]
theorem wipeE_get (env : Env) (j : Nat) : ∀ vs : List Nat, ∀ v, (wipeE env vs)[j]? = some (some v) → j ∉ vs ∧ env[j]? = some (some v)
  | [], v, h => ⟨by simp, h⟩
  | w :: vs, v, h => by
    unfold wipeE at h
    by_cases e : w = j
    · subst e
      rw [List.getElem?_set] at h
      simp at h
    · rw [List.getElem?_set_ne e] at h
      obtain ⟨h1, h2⟩ := wipeE_get env j vs v h
      refine ⟨fun z => ?_, h2⟩
      rcases List.mem_cons.mp z with z | z
      · exact e z.symm
      · exact h1 z
theorem wipeE_len (env : Env) : ∀ vs : List Nat, (wipeE env vs).length = env.length
  | [] => rfl
  | _ :: vs => by unfold wipeE; rw [List.length_set, wipeE_len env vs]
theorem RE.wipe (r : RE K φ H env σ) (vs : List Nat) : RE K φ H (wipeE env vs) (L2.wipe σ vs) := by
  refine ⟨by rw [wipeE_len, wipe_length]; exact r.len, fun i v h => ?_⟩
  obtain ⟨h1, h2⟩ := wipeE_get env i vs v h
  obtain ⟨u, h3, h4⟩ := r.at_ i v h2
  exact ⟨u, by rw [wipe_get, if_neg h1]; exact h3, h4⟩
/-- the target's reading, from the interpreter's binding -/
theorem names_rd {Q : L2.St → Hp → Prop} (sub : List Nat) : ∀ (is : List Nat) (xs : List PV) (vs : List V) (env : Env) (σ : L2.St), Rps K φ H xs vs → xs.length = is.length → RE K φ H env σ → (∀ i ∈ is, i ∈ sub) →
    (∀ σ', RE K φ H (setAll env is xs) σ' → L2.wipe σ' sub = L2.wipe σ sub → Q σ' H) → gNames is vs σ H Q
  | [], xs, vs, env, σ, r, hl, re, hs, k => by
    cases r with
    | nil => exact ⟨rfl, k σ re rfl⟩
    | cons _ _ => cases hl
  | i :: is, xs, vs, env, σ, r, hl, re, hs, k => by
    cases r with
    | nil => cases hl
    | @cons x v xs vs h r =>
    refine ⟨v, vs, rfl, ?_⟩
    refine names_rd sub is xs vs (env.set i (some x)) (σ.set i (some v)) r (by simpa using hl) (re.set h i) (fun j hj => hs j (List.mem_cons_of_mem _ hj)) fun σ' r' e => k σ' r' ?_
    rw [e, wipe_set (hs i List.mem_cons_self)]
theorem parts_rd {Q : L2.St → Hp → Prop} (sub : List Nat) : ∀ (ps : List Tp1) (xs : List PV) (vs : List V) (env env1 : Env) (σ : L2.St), Rps K φ H xs vs → bindPs ps xs env = some env1 → RE K φ H env σ → (∀ p ∈ ps, ∀ i ∈ p.ids, i ∈ sub) →
    (∀ σ', RE K φ H env1 σ' → L2.wipe σ' sub = L2.wipe σ sub → Q σ' H) → gPs K ps vs σ H Q
  | [], xs, vs, env, env1, σ, r, e, re, hs, k => by
    cases r with
    | nil => cases e; exact ⟨rfl, k σ re rfl⟩
    | cons _ _ => cases e
  | p :: ps, xs, vs, env, env1, σ, r, e, re, hs, k => by
    cases r with
    | nil => cases e
    | @cons x v xs vs h r =>
    have e' : (bindP p x env).bind (fun env1 => bindPs ps xs env1) = some env1 := e
    obtain ⟨env2, e1, e2⟩ := Option.bind_eq_some_iff.mp e'
    refine ⟨v, vs, rfl, ?_⟩
    have hs1 := hs p List.mem_cons_self
    have next : ∀ σ2, RE K φ H env2 σ2 → L2.wipe σ2 sub = L2.wipe σ sub → gPs K ps vs σ2 H Q := fun σ2 r2 w2 =>
      parts_rd sub ps xs vs env2 env1 σ2 r e2 r2 (fun q hq => hs q (List.mem_cons_of_mem _ hq)) fun σ' r' w' => k σ' r' (w'.trans w2)
    cases p with
    | n i =>
      cases e1
      exact next _ (re.set h i) (wipe_set (hs1 i (by simp [Tp1.ids])))
    | t is =>
      unfold bindP at e1
      simp only at e1
      split at e1
      · split at e1
        · rename_i hz
          have hz := of_decide_eq_true hz
          cases e1
          cases h with
          | tup h q =>
          exact ⟨_, _, rfl, h, by rw [← q.length]; exact hz, names_rd sub is _ _ _ _ q hz re hs1 next⟩
        · cases e1
      · cases e1
theorem bindPs_len : ∀ {ps : List Tp1} {xs : List PV} {env env1 : Env}, bindPs ps xs env = some env1 → xs.length = ps.length
  | [], [], _, _, _ => rfl
  | [], _ :: _, _, _, e => by cases e
  | _ :: _, [], _, _, e => by cases e
  | p :: ps, x :: xs, env, env1, e => by
    have e' : (bindP p x env).bind (fun env1 => bindPs ps xs env1) = some env1 := e
    obtain ⟨env2, _, e2⟩ := Option.bind_eq_some_iff.mp e'
    rw [List.length_cons, List.length_cons, bindPs_len e2]
theorem gT_rd {t : T} {v : PV} {u : V} {env1 : Env} {Q : L2.St → Hp → Prop} (r : Rp K φ H v u) (re : RE K φ H env σ) (e : bindT t v env = some env1)
    (k : ∀ σ', RE K φ H env1 σ' → L2.wipe σ' t.ids = L2.wipe σ t.ids → Q σ' H) : gT K t u σ H Q := by
  cases t with
  | nm i =>
    cases e
    exact k _ (re.set r i) (wipe_set (by simp [T.ids]))
  | tp is =>
    unfold bindT at e
    simp only at e
    split at e
    · rename_i xs
      split at e
      · rename_i hz
        have hz := of_decide_eq_true hz
        cases e
        cases r with
        | tup h q =>
        exact ⟨_, _, rfl, h, by rw [← q.length]; exact hz, names_rd is is _ _ _ _ q hz re (fun _ h => h) k⟩
      · cases e
    · cases e
  | ls is =>
    unfold bindT at e
    simp only at e
    split at e
    · rename_i xs
      split at e
      · rename_i hz
        have hz := of_decide_eq_true hz
        cases e
        cases r with
        | lst h n q =>
        exact ⟨_, _, rfl, .inl (.inl h), by rw [← q.length]; exact hz, names_rd is is _ _ _ _ q hz re (fun _ h => h) k⟩
      · cases e
    · cases e
  | t2 ps =>
    unfold bindT at e
    simp only at e
    split at e
    · rename_i xs
      cases r with
      | tup h q =>
      exact ⟨_, _, rfl, h, by rw [← q.length]; exact bindPs_len e, parts_rd _ ps _ _ _ _ _ q e re (fun p hp i hi => List.mem_flatMap.mpr ⟨p, hp, hi⟩) k⟩
    · cases e
theorem wipe_more {σ σ' : L2.St} {a b : List Nat} (h : L2.wipe σ' a = L2.wipe σ a) (hs : ∀ i ∈ a, i ∈ b) (hl : σ'.length = σ.length) : L2.wipe σ' b = L2.wipe σ b := by
  apply List.ext_getElem?
  intro j
  rw [wipe_get, wipe_get, hl]
  by_cases k : j ∈ b
  · rw [if_pos k, if_pos k]
  · rw [if_neg k, if_neg k]
    have := congrArg (·[j]?) h
    simp only [wipe_get] at this
    rw [if_neg fun z => k (hs j z), if_neg fun z => k (hs j z)] at this
    exact this
theorem wipe_len_eq {σ σ' : L2.St} {a : List Nat} (h : L2.wipe σ' a = L2.wipe σ a) : σ'.length = σ.length := by
  have := congrArg List.length h
  rw [wipe_length, wipe_length] at this
  exact this

/-! ### what a for walks -/
/-- an iterator that gives the items xs, from any later heap -/
def ItOk (K : PySem.W.Frag) (φ : Ph) (H : Hp) (J : It) (g : Gd) (xs : List PV) : Prop := ∀ φ2 H2 M2, Xt φ H φ2 H2 → RM K φ2 H2 M2 → gOk g M2 = true →
  (∀ i, i < xs.length → J.go i H2) ∧ (∀ i, xs.length ≤ i → J.stop i H2) ∧
  ∀ i x H3, i < xs.length → J.yld i H2 x H3 → ∃ v, xs[i]? = some v ∧ Rp K φ2 H3 v x ∧ Xt φ2 H2 φ2 H3 ∧ ∀ M, RM K φ2 H2 M → RM K φ2 H3 M
def tIt (K : PySem.W.Frag) (call : Cl) (it : I) : TI := fun σ H R => ∃ φ M env xs M', RM K φ H M ∧ RE K φ H env σ ∧ Ev.evalI call it env M = some (xs, M') ∧
  ∀ φ' H' J, Xt φ H φ' H' → RM K φ' H' M' → ItOk K φ' H' J xs.2 xs.1 → R J H'
/-- the items of a tuple or of a list, as they lie -/
def SqK (K : PySem.W.Frag) (k : Bool) (H : Hp) (a : Addr) (vs : List V) : Prop := match k with
  | true => SqT K H a vs
  | false => SqL K H a vs
/-- they stay, while what must stay stays -/
def SAt (K : PySem.W.Frag) (k : Bool) (φ : Ph) (H : Hp) (g : Gd) (a : Addr) (xs : List PV) : Prop := ∀ φ2 H2 M2, Xt φ H φ2 H2 → RM K φ2 H2 M2 → gOk g M2 = true → ∃ vs, SqK K k H2 a vs ∧ Rps K φ2 H2 xs vs
theorem seq_at {v : PV} {u : V} {k : Bool} {xs : List PV} {g : Gd} (m : RM K φ H M) (r : Rp K φ H v u) (e : seqG M v = some (k, xs, g)) : ∃ a vs, u = .ref a ∧ SqK K k H a vs ∧ SAt K k φ H g a xs := by
  cases r with
  | tup h q => cases e; exact ⟨_, _, rfl, h, fun φ2 H2 M2 x _ _ => ⟨_, x.tup h, q.mono x⟩⟩
  | lst h n q => cases e; exact ⟨_, _, rfl, .inl (.inl h), fun φ2 H2 M2 x _ _ => ⟨_, .inl (.inl (x.keep _ _ h fun z => absurd z n.1)), q.mono x⟩⟩
  | rol h q => cases e; exact ⟨_, _, rfl, h.sq, fun φ2 H2 M2 x _ _ => ⟨_, (x.rol h).sq, q.mono x⟩⟩
  | @ref n a h =>
    unfold seqG at e
    simp only at e
    split at e
    · rename_i ys e1
      cases e
      obtain ⟨b, h2, vs, h3, h4⟩ := m.at_ e1
      rw [h] at h2
      cases h2
      refine ⟨_, vs, rfl, .inl (.inl h3), fun φ2 H2 M2 x m2 hg => ?_⟩
      unfold gOk at hg
      rw [Bool.and_eq_true] at hg
      have hg1 := hg.1
      split at hg1
      · rename_i zs e2
        have := pbeqs_eq hg1
        subst this
        obtain ⟨b, h5, ws, h6, h7⟩ := m2.at_ e2
        rw [x.get h] at h5
        cases h5
        exact ⟨ws, .inl (.inl h6), h7⟩
      · cases hg1
    · cases e
  | non | bl | int | str | dct => cases e
theorem it_tup {a : Addr} {g : Gd} {xs : List PV} (h : SAt K true φ H g a xs) : ItOk K φ H (Itt K a) g xs := fun φ2 H2 M2 x m2 hg => by
  obtain ⟨vs, h2, q2⟩ := h φ2 H2 M2 x m2 hg
  change SqT K H2 a vs at h2
  refine ⟨fun i hi => ?_, fun i hi => ⟨vs, h2, by rw [← q2.length]; exact hi⟩, fun i y H3 hi ⟨e, f⟩ => ?_⟩
  · obtain ⟨v, e, _⟩ := q2.get (List.getElem?_eq_getElem hi)
    exact ⟨vs, v, h2, e⟩
  · subst e
    obtain ⟨v, e, r⟩ := q2.get (List.getElem?_eq_getElem hi)
    have e2 := (f vs h2).symm.trans e
    cases e2
    exact ⟨_, List.getElem?_eq_getElem hi, r, .refl, fun _ m => m⟩
theorem it_lst {a : Addr} {g : Gd} {xs : List PV} (h : SAt K false φ H g a xs) : ItOk K φ H (Itl K a) g xs := fun φ2 H2 M2 x m2 hg => by
  obtain ⟨vs, h2, q2⟩ := h φ2 H2 M2 x m2 hg
  change SqL K H2 a vs at h2
  refine ⟨fun i hi => ?_, fun i hi => ⟨vs, h2, by rw [← q2.length]; exact hi⟩, fun i y H3 hi ⟨e, f⟩ => ?_⟩
  · obtain ⟨v, e, _⟩ := q2.get (List.getElem?_eq_getElem hi)
    exact ⟨vs, v, h2, e⟩
  · subst e
    obtain ⟨v, e, r⟩ := q2.get (List.getElem?_eq_getElem hi)
    have e2 := (f vs h2).symm.trans e
    cases e2
    exact ⟨_, List.getElem?_eq_getElem hi, r, .refl, fun _ m => m⟩
theorem rng_len : ∀ (n : Nat) (a : Int), (rngI a n).length = n
  | 0, _ => rfl
  | n + 1, a => by unfold rngI; rw [List.length_cons, rng_len n]
theorem rng_get : ∀ (n : Nat) (a : Int) (i : Nat), i < n → (rngI a n)[i]? = some (.int (a + i))
  | 0, _, _, h => absurd h (by omega)
  | n + 1, a, 0, _ => by unfold rngI; simp
  | n + 1, a, i + 1, h => by
    unfold rngI
    rw [List.getElem?_cons_succ, rng_get n (a + 1) i (by omega)]
    congr 2
    omega
theorem it_rng (lo : Int) (n : Nat) : ItOk K φ H (Itr lo n) [] (rngI lo n) := fun φ2 H2 M2 x m2 hg => by
  refine ⟨fun i hi => by rw [rng_len] at hi; exact hi, fun i hi => by rw [rng_len] at hi; exact hi, fun i y H3 hi ⟨e, f⟩ => ?_⟩
  subst e f
  rw [rng_len] at hi
  exact ⟨_, rng_get n lo i hi, .int _, .refl, fun _ m => m⟩
theorem zip_get : ∀ (xs ys : List PV) (i : Nat) (x y : PV), xs[i]? = some x → ys[i]? = some y → (zipP xs ys)[i]? = some (.tup [x, y])
  | [], _, _, _, _, h, _ => by simp at h
  | _ :: _, [], _, _, _, _, h => by simp at h
  | a :: xs, b :: ys, 0, x, y, h1, h2 => by simp at h1 h2; subst h1 h2; rfl
  | a :: xs, b :: ys, i + 1, x, y, h1, h2 => by
    unfold zipP
    rw [List.getElem?_cons_succ]
    exact zip_get xs ys i x y (by simpa using h1) (by simpa using h2)
theorem zip_len : ∀ (xs ys : List PV), (zipP xs ys).length = min xs.length ys.length
  | [], _ => by simp [zipP]
  | _ :: _, [] => by simp [zipP]
  | a :: xs, b :: ys => by
    unfold zipP
    rw [List.length_cons, zip_len xs ys, List.length_cons, List.length_cons]
    omega
theorem gOk_app : ∀ {g g' : Gd} {M : Mem}, gOk (g ++ g') M = true → gOk g M = true ∧ gOk g' M = true
  | [], _, _, h => ⟨rfl, h⟩
  | (n, xs) :: g, g', M, h => by
    have h' : ((match M[n]? with | some (.lst ys) => pbeqs ys xs | _ => false) && gOk (g ++ g') M) = true := h
    rw [Bool.and_eq_true] at h'
    obtain ⟨h1, h2⟩ := gOk_app h'.2
    refine ⟨?_, h2⟩
    show ((match M[n]? with | some (.lst ys) => pbeqs ys xs | _ => false) && gOk g M) = true
    rw [Bool.and_eq_true]
    exact ⟨h'.1, h1⟩
end
section
variable {X : Cx} {call : Cl} {a b c : Expr} {ma mb mc : E} {pos : Pos}
theorem it_seq {tg : Expr} (ha : PE X a (tI X.K call ma)) : PI X tg a (tIt X.K call (.seq ma)) := by
  refine ⟨fun pins s σ H R I ⟨φ, M, env, xs, M', m, r, e, k⟩ => ?_⟩
  unfold Ev.evalI at e
  obtain ⟨⟨y, M1⟩, e1, e⟩ := bindE e
  obtain ⟨⟨kd, ys, g⟩, e2, e⟩ := mapE e
  cases e
  cases kd with
  | true =>
    refine (pi_tup ha).run pins s σ H R I (tI.then_ m r e1 fun φ1 H1 u x1 m1 r1 q1 => ?_)
    obtain ⟨ad, vs, rfl, h, st⟩ := seq_at m1 q1 e2
    exact ⟨ad, rfl, ⟨vs, h⟩, k _ _ _ x1 m1 (it_tup st)⟩
  | false =>
    refine (pi_list ha).run pins s σ H R I (tI.then_ m r e1 fun φ1 H1 u x1 m1 r1 q1 => ?_)
    obtain ⟨ad, vs, rfl, h, st⟩ := seq_at m1 q1 e2
    exact ⟨ad, rfl, ⟨vs, h⟩, k _ _ _ x1 m1 (it_lst st)⟩
theorem rng_get2 {x y : PV} {M : Mem} {xs : List PV × Gd} {M' : Mem} (e : (match x, y with
    | .int i, .int j => iff_ (decide (-(2 ^ 62) ≤ i) && decide (i < 2 ^ 62) && decide (-(2 ^ 62) ≤ j) && decide (j < 2 ^ 62)) (some ((rngI i (j - i).toNat, []), M))
    | _, _ => none) = some (xs, M')) : ∃ i j : Int, x = .int i ∧ y = .int j ∧ -(2 ^ 62) ≤ i ∧ i < 2 ^ 62 ∧ -(2 ^ 62) ≤ j ∧ j < 2 ^ 62 ∧ xs = (rngI i (j - i).toNat, []) ∧ M' = M := by
  cases x <;> first | (cases e; done) | skip
  cases y <;> first | (cases e; done) | skip
  obtain ⟨hz, e⟩ := ifE e
  rw [Bool.and_eq_true, Bool.and_eq_true, Bool.and_eq_true] at hz
  cases e
  exact ⟨_, _, rfl, rfl, of_decide_eq_true hz.1.1.1, of_decide_eq_true hz.1.1.2, of_decide_eq_true hz.1.2, of_decide_eq_true hz.2, rfl, rfl⟩
theorem evs1 {env : Env} {M M1 : Mem} {v : PV} (e : Ev.eval call ma env M = some (v, M1)) : Ev.evals call (.cons ma .nil) env M = some (([v] : List PV), M1) := by
  unfold Ev.evals
  rw [e]
  unfold Ev.evals
  rfl
theorem evs2 {env : Env} {M M1 M2 : Mem} {v w : PV} (e : Ev.eval call ma env M = some (v, M1)) (e2 : Ev.eval call mb env M1 = some (w, M2)) : Ev.evals call (.cons ma (.cons mb .nil)) env M = some (([v, w] : List PV), M2) := by
  unfold Ev.evals
  rw [e]
  show bnd (Ev.evals call (.cons mb .nil) env M1) _ = _
  rw [evs1 e2]
  rfl
theorem it_rng1 {tg : Expr} {p : Pos} (hg : Gl X "range") (hm : X.mg "range" = none) (ha : PA X [a] (tIs X.K call (.cons ma .nil)))
    (hs : starEach [a] X.env = (false, PySem.eval a X.env) :: starEach [] X.env := by rfl) (hpl : (backTo pos (starEach [] X.env)).any (·.1) = false := by rfl) :
    PI X tg (.Call (.Name "range" p) [a] [] pos) (tIt X.K call (.rng (.cst (.int 0)) ma)) := by
  refine ⟨fun pins s σ H R I ⟨φ, M, env, xs, M', m, r, e, k⟩ => ?_⟩
  unfold Ev.evalI at e
  obtain ⟨⟨y, M1⟩, e1, e⟩ := bindE e
  unfold Ev.eval at e1
  cases e1
  obtain ⟨⟨y2, M2⟩, e2, e⟩ := bindE e
  obtain ⟨i, j, h1, h2, a1, a2, a3, a4, rfl, rfl⟩ := rng_get2 e
  cases h1
  cases h2
  refine (pi_range1 hg hm ha hs).run pins s σ H R I (tIs.then_ m r (evs1 e2) fun φ1 H1 u x1 m1 r1 q1 => ?_)
  obtain ⟨z, rfl, q⟩ := one_of q1
  cases q
  refine ⟨j, rfl, a3, a4, k _ _ _ x1 m1 ?_⟩
  show ItOk _ _ _ _ [] (rngI 0 (j - 0).toNat)
  rw [show j - 0 = j by omega]
  exact it_rng 0 _
theorem it_rng2 {tg : Expr} {p : Pos} (hg : Gl X "range") (hm : X.mg "range" = none) (ha : PA X [a, b] (tIs X.K call (.cons ma (.cons mb .nil))))
    (hs : starEach [a, b] X.env = (false, PySem.eval a X.env) :: starEach [b] X.env := by rfl) (hs2 : starEach [b] X.env = (false, PySem.eval b X.env) :: starEach [] X.env := by rfl) :
    PI X tg (.Call (.Name "range" p) [a, b] [] pos) (tIt X.K call (.rng ma mb)) := by
  refine ⟨fun pins s σ H R I ⟨φ, M, env, xs, M', m, r, e, k⟩ => ?_⟩
  unfold Ev.evalI at e
  obtain ⟨⟨y, M1⟩, e1, e⟩ := bindE e
  obtain ⟨⟨y2, M2⟩, e2, e⟩ := bindE e
  obtain ⟨i, j, h1, h2, a1, a2, a3, a4, rfl, rfl⟩ := rng_get2 e
  cases h1
  cases h2
  refine (pi_range2 hg hm ha (by rw [hs, hs2]; rfl) hs2).run pins s σ H R I (tIs.then_ m r (evs2 e1 e2) fun φ1 H1 u x1 m1 r1 q1 => ?_)
  obtain ⟨z, t, rfl, q, q'⟩ := two_of q1
  cases q; cases q'
  exact ⟨i, j, rfl, ⟨a1, a2, a3, a4⟩, k _ _ _ x1 m1 (it_rng _ _)⟩
/-! ### targets -/
theorem g_nm {x : Str} (i : Nat) (hN : X.N.Nodup) (hi : X.N[i]? = some x := by rfl) (hx : Loc X.env.scope x := by first | exact .inl rfl | exact .inr rfl) (hf : X.fn x = true ∨ X.env.scope.names.lookup x = some .local := by first | exact .inl rfl | exact .inr rfl | assumption) :
    PG X (.Name x pos) (gT X.K (.nm i)) := pg_name hN hi hx hf
theorem gs_nil : PGs X [] (gNames []) := pgs_nil
theorem gs_cons {x : Str} {es : List Expr} {is : List Nat} (i : Nat) (hN : X.N.Nodup) (h : PGs X es (gNames is)) (hi : X.N[i]? = some x := by rfl) (hx : Loc X.env.scope x := by first | exact .inl rfl | exact .inr rfl) (hf : X.fn x = true ∨ X.env.scope.names.lookup x = some .local := by first | exact .inl rfl | exact .inr rfl | assumption) :
    PGs X (.Name x pos :: es) (gNames (i :: is)) := pgs_cons (pg_name hN hi hx hf) h
theorem g_tp {es : List Expr} {is : List Nat} {kk : Nat} (hc : X.calm = true) (h : PGs X es (gNames is)) (hn : (assignEach es X.env).length = is.length := by rfl) (hst : (assignEach es X.env).findIdx? (·.1) = none := by rfl) :
    PG X (.Tuple es kk pos) (gT X.K (.tp is)) := pg_tup hc h hn hst
theorem gp_nil : PGs X [] (gPs X.K []) := pgs_nil
theorem gp_n {x : Str} {es : List Expr} {ps : List Tp1} (i : Nat) (hN : X.N.Nodup) (h : PGs X es (gPs X.K ps)) (hi : X.N[i]? = some x := by rfl) (hx : Loc X.env.scope x := by first | exact .inl rfl | exact .inr rfl) (hf : X.fn x = true ∨ X.env.scope.names.lookup x = some .local := by first | exact .inl rfl | exact .inr rfl | assumption) :
    PGs X (.Name x pos :: es) (gPs X.K (.n i :: ps)) := pgs_cons (pg_name hN hi hx hf) h
theorem gp_t {fs es : List Expr} {is : List Nat} {ps : List Tp1} {kk : Nat} (hc : X.calm = true) (h1 : PGs X fs (gNames is)) (h : PGs X es (gPs X.K ps)) (hn : (assignEach fs X.env).length = is.length := by rfl) (hst : (assignEach fs X.env).findIdx? (·.1) = none := by rfl) :
    PGs X (.Tuple fs kk pos :: es) (gPs X.K (.t is :: ps)) := pgs_cons (pg_tup hc h1 hn hst) h
theorem g_t2 {es : List Expr} {ps : List Tp1} {kk : Nat} (hc : X.calm = true) (h : PGs X es (gPs X.K ps)) (hn : (assignEach es X.env).length = ps.length := by rfl) (hst : (assignEach es X.env).findIdx? (·.1) = none := by rfl) :
    PG X (.Tuple es kk pos) (gT X.K (.t2 ps)) := pg_tup hc h hn hst
theorem g_ls {es : List Expr} {is : List Nat} {kk : Nat} (hc : X.calm = true) (h : PGs X es (gNames is)) (hn : (assignEach es X.env).length = is.length := by rfl) (hst : (assignEach es X.env).findIdx? (·.1) = none := by rfl) :
    PG X (.Tuple es kk pos) (gT X.K (.ls is)) := pg_unl hc h hn hst
/-! ### comprehensions -/
def tCs (K : PySem.W.Frag) (call : Cl) (cs : Es) : TT := fun σ H Q => ∃ φ M env b M', RM K φ H M ∧ RE K φ H env σ ∧ Ev.conds call cs env M = some (b, M') ∧ ∀ φ' H', Xt φ H φ' H' → RM K φ' H' M' → Q b H'
theorem cs_nil : PTs X [] (tCs X.K call .nil) := ⟨fun pins s σ H Q I ⟨φ, M, env, b, M', m, r, e, k⟩ => pts_nil.run pins s σ H Q I (by
  unfold Ev.conds at e
  cases e
  exact k _ _ .refl m)⟩
theorem cs_one (h : PT X a (tT X.K call ma)) : PTs X [a] (tCs X.K call (.cons ma .nil)) := ⟨fun pins s σ H Q I ⟨φ, M, env, b, M', m, r, e, k⟩ => (pts_one h).run pins s σ H Q I (by
  unfold Ev.conds at e
  obtain ⟨⟨y, M1⟩, e1, e⟩ := bindE e
  rcases bifE e with ⟨t, e⟩ | ⟨t, e⟩
  · unfold Ev.conds at e
    cases e
    exact tT.then_ m r e1 t fun φ1 H1 x1 m1 r1 => k _ _ x1 m1
  · cases e
    exact tT.then_ m r e1 t fun φ1 H1 x1 m1 r1 => k _ _ x1 m1)⟩
theorem lcL_len {t : T} {g : Gd} {cond : Env → Mem → Option (Bool × Mem)} {elt : Env → Mem → Option (PV × Mem)} {env : Env} : ∀ {xs acc : List PV} {M M' : Mem} {vs : List PV}, lcL t g cond elt env xs acc M = some (vs, M') → acc.length ≤ vs.length
  | [], acc, M, M', vs, h => by
    unfold lcL at h
    split at h
    · cases h; exact Nat.le_refl _
    · cases h
  | x :: xs, acc, M, M', vs, h => by
    unfold lcL at h
    split at h
    · split at h
      · split at h
        · split at h
          · have := lcL_len h
            rw [List.length_append] at this
            omega
          · cases h
        · exact lcL_len h
        · cases h
      · cases h
    · cases h
theorem lc_rd {it : I} {t : T} {cs : Es} {w : List Nat} {f : Bool} {σ : L2.St} {H : Hp} {Q : VK} (hw : ∀ i ∈ t.ids, i ∈ w) (h : tI X.K call (.lc f w t it cs ma) σ H Q) :
    tLc (tIt X.K call it) (gT X.K t) (tCs X.K call cs) (tI X.K call ma) w σ H Q := by
  obtain ⟨φ, M, env, v, M', m, r, e, k⟩ := h
  unfold Ev.eval at e
  obtain ⟨⟨⟨xs, g⟩, M1⟩, e1, e⟩ := bindE e
  obtain ⟨⟨vs, M2⟩, e2, e⟩ := bindE e
  obtain ⟨hz, e⟩ := ifE e
  have hz := of_decide_eq_true hz
  have e := Option.some.inj e
  simp only at e2 hz
  refine ⟨φ, M, env, (xs, g), M1, m, r, e1, fun φ1 H1 J x1 m1 ok => fun D hD => ?_⟩
  simp only at ok
  -- ahead of turn i: what is left makes the rest
  refine ⟨fun i n H3 => ∃ (φ3 : Ph) (M3 : Mem) (acc : List PV) (us : List V), i + n = xs.length ∧ Xt φ1 H1 φ3 H3 ∧ RM X.K φ3 H3 M3 ∧ D ∈ φ3.r ∧ D ∉ φ3.c ∧ H3 D = some (.lst us) ∧ Rps X.K φ3 H3 acc us ∧
    lcL t g (Ev.conds call cs) (Ev.eval call ma) (wipeE env w) (xs.drop i) acc M3 = some (vs, M2), ⟨xs.length, φ1.hide D, M1, [], [], by omega, xt_hide hD, m1.enter hD, List.mem_cons_self, m1.notin hD, upd_same, .nil, e2⟩, ?_⟩
  rintro i n H3 ⟨φ3, M3, acc, us, hn, x3, m3, hd, nD, eD, ra, e3⟩
  have hgd : gOk g M3 = true := by
    cases hg : gOk g M3 with
    | true => rfl
    | false =>
      cases hd : xs.drop i with
      | nil => rw [hd] at e3; unfold lcL at e3; rw [hg] at e3; cases e3
      | cons a l => rw [hd] at e3; unfold lcL at e3; rw [hg] at e3; cases e3
  obtain ⟨go, stop, yld⟩ := ok φ3 H3 M3 x3 m3 hgd
  by_cases hi : i < xs.length
  · refine .inr ⟨go i hi, ?_⟩
    rw [List.drop_eq_getElem_cons hi] at e3
    unfold lcL at e3
    rw [hgd] at e3
    simp only at e3
    split at e3
    · rename_i env1 eb
      refine ⟨fun H' => ∃ n', n' < n ∧ ∃ (φ4 : Ph) (M4 : Mem) (acc4 : List PV) (us4 : List V), i + 1 + n' = xs.length ∧ Xt φ1 H1 φ4 H' ∧ RM X.K φ4 H' M4 ∧ D ∈ φ4.r ∧ D ∉ φ4.c ∧ H' D = some (.lst us4) ∧ Rps X.K φ4 H' acc4 us4 ∧
        lcL t g (Ev.conds call cs) (Ev.eval call ma) (wipeE env w) (xs.drop (i + 1)) acc4 M4 = some (vs, M2), fun H' h => ?_, fun x H4 hy => ?_⟩
      · obtain ⟨n', h1, φ4, M4, acc4, us4, h2⟩ := h
        exact ⟨n', h1, φ4, M4, acc4, us4, h2⟩
      · obtain ⟨v0, ev0, rv0, x4, mm⟩ := yld i x H4 hi hy
        rw [List.getElem?_eq_getElem hi] at ev0
        cases ev0
        have m4 := mm M3 m3
        have eD4 : H4 D = some (.lst us) := x4.keep _ _ eD fun z => absurd z nD
        have re4 : RE X.K φ3 H4 (wipeE env w) (L2.wipe σ w) := (r.mono (x1.trans (x3.trans x4))).wipe w
        refine gT_rd rv0 re4 eb fun σ' re' ew => ?_
        have hl := wipe_len_eq ew
        refine ⟨?_, ?_⟩
        · have := wipe_more ew hw hl
          rw [this]
          apply List.ext_getElem?
          intro j
          rw [wipe_get, wipe_get, wipe_length]
          by_cases kj : j ∈ w
          · rw [if_pos kj, if_pos kj]
          · rw [if_neg kj]
        · split at e3
          · rename_i M5 ec
            refine ⟨φ3, M3, env1, true, M5, m4, re', ec, fun φ5 H5 x5 m5 => ?_⟩
            show (if true = true then _ else _)
            rw [if_pos rfl]
            split at e3
            · rename_i v6 M6 ee
              refine tI.then_ m5 (re'.mono x5) ee fun φ6 H6 u6 x6 m6 r6 q6 => ?_
              have x46 : Xt φ3 H4 φ6 H6 := x5.trans x6
              have x36 : Xt φ3 H3 φ6 H6 := x4.trans x46
              have eD6 : H6 D = some (.lst us) := x36.keep _ _ eD fun z => absurd z nD
              have nD6 : D ∉ φ6.c := x36.notin eD nD
              have hd6 : D ∈ φ6.r := x36.res _ hd
              have hlen := lcL_len e3
              rw [List.length_append, List.length_singleton] at hlen
              have xa : Xt φ1 H1 φ6 H6 := x3.trans x36
              refine ⟨us, eD6, by rw [← ra.length]; omega, n - 1, by omega, φ6, M6, acc ++ [v6], us ++ [u6], by omega, ⟨xa.pre, xa.res, fun a o ea hc => ?_, xa.fresh, xa.freshr, fun a o ea => ?_⟩, m6.under eD6 hd6 nD6, hd6, nD6, upd_same, (((ra.mono x36).under eD6 hd6).append (.cons (q6.under eD6 hd6) .nil)), e3⟩
              · rw [upd_ne (ne_of_none ea hD)]
                exact xa.keep a o ea hc
              · obtain ⟨o', e'⟩ := xa.there a o ea
                exact ⟨o', by rw [upd_ne (ne_of_none ea hD)]; exact e'⟩
            · cases e3
          · rename_i M5 ec
            refine ⟨φ3, M3, env1, false, M5, m4, re', ec, fun φ5 H5 x5 m5 => ?_⟩
            show (if false = true then _ else _)
            rw [if_neg Bool.false_ne_true]
            have x35 := x4.trans x5
            exact ⟨n - 1, by omega, φ5, M5, acc, us, by omega, x3.trans x35, m5, x35.res _ hd, x35.notin eD nD, x35.keep _ _ eD fun z => absurd z nD, ra.mono x35, e3⟩
          · cases e3
    · cases e3
  · refine .inl ⟨stop i (by omega), ?_⟩
    rw [List.drop_eq_nil_of_le (by omega)] at e3
    unfold lcL at e3
    rw [hgd] at e3
    cases e3
    have m4 := m3.less (l := φ1.r) x3.res
    have ra4 := ra.less (l := φ1.r) x3.res
    have nD2 : D ∉ φ1.r := (m1.notin2 hD).2
    have x4 : Xt φ1 H1 ⟨φ3.c, φ1.r⟩ H3 := ⟨x3.pre, fun _ h => h, x3.keep, x3.fresh, fun _ h n => absurd h n, x3.there⟩
    cases f with
    | false =>
      cases e
      exact k _ _ _ (x1.trans x4) m4 (.lst eD ⟨nD, nD2⟩ ra4)
    | true =>
      cases e
      -- the list becomes a cell
      have x5 : Xt φ1 H1 (Ph.add ⟨φ3.c, φ1.r⟩ D) H3 := ⟨by
        obtain ⟨e, h⟩ := x3.pre
        exact ⟨e ++ [D], by show φ3.c ++ [D] = _; rw [h, List.append_assoc]⟩, fun _ h => h, x3.keep, fun a h n => by
        rcases List.mem_append.mp h with h | h
        · exact x3.fresh a h n
        · have : a = D := by simpa using h
          rw [this]; exact hD, fun _ h n => absurd h n, x3.there⟩
      have up : ∀ {v : PV} {u : V}, Rp X.K φ3 H3 v u → Rp X.K (Ph.add ⟨φ3.c, φ1.r⟩ D) H3 v u := fun h => h.shift x3.res hd
      refine k (Ph.add ⟨φ3.c, φ1.r⟩ D) H3 _ (x1.trans x5) ?_ (.ref ?_)
      · refine ⟨by simp [Ph.add, m3.len], ?_, m4.res, fun n a c h1 h2 => ?_⟩
        · show (φ3.c ++ [D]).Nodup
          rw [List.nodup_append]
          refine ⟨m3.nd, by simp, fun a ha b hb e => ?_⟩
          have : b = D := by simpa using hb
          subst this
          exact nD (e ▸ ha)
        · change (φ3.c ++ [D])[n]? = some a at h1
          by_cases kk : n < φ3.c.length
          · rw [List.getElem?_append_left kk] at h1
            rw [List.getElem?_append_left (by rw [← m3.len]; exact kk)] at h2
            have h3 := m3.cells n a c h1 h2
            cases c with
            | lst ys =>
              obtain ⟨ws, h4, h5⟩ := h3
              exact ⟨ws, h4, h5.shift x3.res hd⟩
            | dic _ =>
              obtain ⟨ws, h4, h5⟩ := h3
              exact ⟨ws, h4, h5.imp (Rp.shift x3.res hd)⟩
            | fdi _ =>
              obtain ⟨o', ws, h4, h5⟩ := h3
              exact ⟨o', ws, h4, h5.imp (Rp.shift x3.res hd)⟩
          · have k2 : n = φ3.c.length := by
              have := (List.getElem?_eq_some_iff.mp h1).1
              simp at this
              omega
            subst k2
            rw [List.getElem?_append_right (Nat.le_refl _)] at h1
            rw [m3.len, List.getElem?_append_right (Nat.le_refl _)] at h2
            simp at h1 h2
            subst h1 h2
            exact ⟨us, eD, ra.shift x3.res hd⟩
      · show (φ3.c ++ [D])[M2.length]? = some D
        rw [← m3.len, List.getElem?_append_right (Nat.le_refl _)]
        simp
theorem i_lc {elt tg iter : Expr} {ifs : List Expr} {scope : Scope} {own : List (Str × Nat)} {it : I} {t : T} {cs : Es} (f : Bool) (hc : X.calm = true) (hN : X.N.Nodup) (hi : PI X tg iter (tIt X.K call it)) (ok : blkC X.N X.env.scope scope own = true) (hw : (t.ids.all fun i => (own.map (·.2)).contains i) = true)
    (hg : ∀ (s : Shared) (H : Hp) (C : Addr) (cl : List (Str × Addr)) (fp : List Addr), PG (X.blk s H scope (compEnvC scope cl C X.env) fp) tg (gT X.K t)) (ht : ∀ (s : Shared) (H : Hp) (C : Addr) (cl : List (Str × Addr)) (fp : List Addr), PTs (X.blk s H scope (compEnvC scope cl C X.env) fp) ifs (tCs X.K call cs))
    (he : ∀ (s : Shared) (H : Hp) (C : Addr) (cl : List (Str × Addr)) (fp : List Addr), PE (X.blk s H scope (compEnvC scope cl C X.env) fp) elt (tI X.K call ma)) (hs : ∀ x, foldedSetIterable iter X.env x = pure x := by intro _; rfl) :
    PE X (.ListComp elt [⟨tg, iter, ifs, 0⟩] scope pos) (tI X.K call (.lc f (own.map (·.2)) t it cs ma)) :=
  (pe_lc hc hN hi (blkOk_by ok) hg ht he hs).imp fun _ _ _ h => lc_rd (fun i hi => by
    have := List.all_eq_true.mp hw i hi
    simpa using this) h
end
end Ev

/-! zip of a tuple and a list, in either order. -/
namespace Ev
open PySem PySem.Spec PyProof.Rows L2
/-- a place in a walk: over a tuple, or over a list -/
def WkAt : Bool → Heap → Addr → Addr → Nat → Prop
  | true, g, j, l, i => g.IsTupleIter j l i
  | false, g, j, l, i => g.IsListIter j l i
def SeqIn : Bool → Heap → Addr → Array Value → Prop
  | true, g, l, xs => g.IsTuple l xs
  | false, g, l, xs => g.IsList l xs
theorem WkAt.but {b : Bool} {g g' : Heap} {j l x : Addr} {i : Nat} (w : WkAt b g j l i) (e : Heap.ExtBut x g g') (n : j ≠ x) : WkAt b g' j l i := by
  cases b with
  | true => exact Heap.IsTupleIter.extBut w e n
  | false => exact Heap.IsListIter.extBut w e n
theorem SeqIn.but {b : Bool} {g g' : Heap} {l x : Addr} {xs : Array Value} (w : SeqIn b g l xs) (e : Heap.ExtBut x g g') (n : l ≠ x) : SeqIn b g' l xs := by
  cases b with
  | true => exact Heap.IsTuple.extBut w e n
  | false => exact Heap.IsList.extBut w e n
theorem WkAt.at_ {b : Bool} {g g' : Heap} {j l : Addr} {i : Nat} (w : WkAt b g j l i) (k : ∀ o, g.get? j = some o → g'.get? j = some o) : WkAt b g' j l i := by
  cases b with
  | true => exact Heap.IsTupleIter.at w k
  | false => exact Heap.IsListIter.at w k
theorem WkAt.lt {b : Bool} {g : Heap} {j l : Addr} {i : Nat} (w : WkAt b g j l i) : j < g.objs.size := by
  cases b with
  | true => obtain ⟨_, e, _⟩ := (show g.IsTupleIter j l i from w); exact Heap.lt_size e
  | false => obtain ⟨_, e, _⟩ := (show g.IsListIter j l i from w); exact Heap.lt_size e
section
variable {prog : Program} {w : World} {A : Around} {E : Value → Shared → Prop} {s : Shared}
theorem wk_item {b : Bool} {j l : Addr} {i : Nat} {xs : Array Value} {x : Value} {Q : Value → Shared → Prop} (h : WkAt b s.heap j l i) (q : SeqIn b s.heap l xs) (hx : xs[i]? = some x)
    (k : ∀ g, WkAt b g j l (i + 1) → Heap.SameBut j s.heap g → Q x { s with heap := g }) : wpAny (model prog w) A (Builtin.SmallTypes.nextOf (.ref j)) Q E s := by
  cases b with
  | true => exact RZ.nextOf_tuple_item h q hx k
  | false => exact wpAny_nextOf_list_item h q hx k
theorem wk_end {b : Bool} {j l : Addr} {i : Nat} {xs : Array Value} {Q : Value → Shared → Prop} (hh : A.handled = none) (h : WkAt b s.heap j l i) (q : SeqIn b s.heap l xs) (hx : xs[i]? = none)
    (k : ∀ g e, Heap.ExtBut j s.heap g → (∃ o, g.get? e = some o ∧ o.cls = .type "StopIteration") → E (.ref e) { s with heap := g }) : wpAny (model prog w) A (Builtin.SmallTypes.nextOf (.ref j)) Q E s := by
  cases b with
  | true => exact RZ.nextOf_tuple_end hh h q hx k
  | false => exact wpAny_nextOf_list_end hh h q hx k
/-- the outcome of one step of the walk over both -/
def ZwOut (b c : Bool) (s : Shared) (z TI TO j1 j2 l m : Addr) (p q : Nat) (x y : Value) (Q : Value → Shared → Prop) : Prop :=
  ∀ g, IsZip g z TI TO (rawInt s.heap.objs.size) → IsPair g TO x y → WkAt b g j1 l (p + 1) → WkAt c g j2 m (q + 1) → IsPair g s.heap.objs.size x y →
    (∀ a o, a ≠ z ∧ a ≠ TO ∧ a ≠ j1 ∧ a ≠ j2 → s.heap.get? a = some o → g.get? a = some o) → Q (.ref s.heap.objs.size) { s with heap := g }
theorem zw_item {b c : Bool} {z TI TO j1 j2 l m : Addr} {p q : Nat} {xs ys : Array Value} {x y f0 f1 : Value} {Q : Value → Shared → Prop} (Z : ZipApart z TI TO j1 j2 l m)
    (gz : IsZip s.heap z TI TO .none) (gi : IsPair s.heap TI (.ref j1) (.ref j2)) (go : IsPair s.heap TO f0 f1) (w1 : WkAt b s.heap j1 l p) (w2 : WkAt c s.heap j2 m q)
    (q1 : SeqIn b s.heap l xs) (q2 : SeqIn c s.heap m ys) (ex : xs[p]? = some x) (ey : ys[q]? = some y) (K : ZwOut b c s z TI TO j1 j2 l m p q x y Q) :
    wpAny (model prog w) A (Builtin.«zip.__next__» ⟨[.ref z], []⟩) (fun r t => ∃ v, r = .done (.ret v) ∧ Q v t) E s := by
  show wpAny _ _ (field (.ref z) 2 >>= fun _ => _) _ _ _
  refine wpAny_bind (wpAny_field gz rfl (x := .bool false) rfl (?_ : wpAny _ _ (field (.ref z) 3 >>= _) _ _ _))
  refine wpAny_bind (wpAny_field gz rfl (x := .ref TI) rfl (wpAny_bind (wpAny_seqItems gi rfl (?_ : wpAny _ _ (Builtin.SmallTypes.ownedTupleIsFree (.ref z) >>= _) _ _ _))))
  unfold Builtin.SmallTypes.ownedTupleIsFree
  refine wpAny_bind (wpAny_bind (wpAny_field gz rfl (x := .none) rfl (wpAny_pure ?_)))
  simp only [if_true]
  refine wpAny_bind (wpAny_rule (wpAny_bind (wpAny_field gz rfl (x := .ref TO) rfl (wpAny_bind (wpAny_setField_rec gz (by simp) fun k1 z1 s1 => ?_)))))
  have z1 : IsZip k1 z TI TO .ellipsis := z1
  refine wpAny_bind ?_
  simp only [List.zipIdx_cons, List.zipIdx_nil, List.forIn_cons, List.forIn_nil]
  -- the first
  refine wpAny_bind (wpAny_bind (wpAny_onRaise (?_ : wpAny _ _ (Builtin.SmallTypes.nextOf (.ref j1) >>= _) _ _ _)))
  refine wpAny_bind (wk_item (w1.but s1.extBut Z.i1z) (q1.but s1.extBut Z.l1z) ex fun k2 a2 s2 => wpAny_pure ?_)
  have o2 : IsPair k2 TO f0 f1 := s2.extBut _ _ Z.TOi1 (s1.extBut _ _ Z.TOz go)
  refine wpAny_bind (wpAny_seqItems o2 rfl (wpAny_bind (wpAny_updateSeq_pair o2 fun k3 o3 s3 => wpAny_bind (wpAny_letGo (wpAny_pure ?_)))))
  have o3 : IsPair k3 TO x f1 := o3
  -- the second
  refine wpAny_bind (wpAny_bind (wpAny_onRaise (?_ : wpAny _ _ (Builtin.SmallTypes.nextOf (.ref j2) >>= _) _ _ _)))
  have w23 := ((w2.but s1.extBut Z.i2z).but s2.extBut Z.i12.symm).but s3.extBut Z.TOi2.symm
  have q23 := ((q2.but s1.extBut Z.l2z).but s2.extBut Z.l2i1).but s3.extBut Z.l2TO
  refine wpAny_bind (wk_item w23 q23 ey fun k4 a4 s4 => wpAny_pure ?_)
  have o4 : IsPair k4 TO x f1 := s4.extBut _ _ Z.TOi2 o3
  refine wpAny_bind (wpAny_seqItems o4 rfl (wpAny_bind (wpAny_updateSeq_pair o4 fun k5 o5 s5 => wpAny_bind (wpAny_letGo (wpAny_pure (wpAny_pure ?_))))))
  have o5 : IsPair k5 TO x y := o5
  refine wpAny_bind (wpAny_seqItems o5 rfl (wpAny_bind (wpAny_newTuple ?_)))
  have sz : k5.objs.size = s.heap.objs.size := by rw [s5.1, s4.1, s3.1, s2.1, s1.1]
  have old : ∀ a o, a ≠ TO ∧ a ≠ j1 ∧ a ≠ j2 → k1.get? a = some o → k5.get? a = some o := fun a o n e => s5.extBut _ _ n.1 (s4.extBut _ _ n.2.2 (s3.extBut _ _ n.1 (s2.extBut _ _ n.2.1 e)))
  have z5 : IsZip k5 z TI TO .ellipsis := old _ _ ⟨Z.TOz.symm, Z.i1z.symm, Z.i2z.symm⟩ z1
  have b1 : WkAt b k5 j1 l (p + 1) := ((a2.but s3.extBut Z.TOi1.symm).but s4.extBut Z.i12).but s5.extBut Z.TOi1.symm
  have b2 : WkAt c k5 j2 m (q + 1) := a4.but s5.extBut Z.TOi2.symm
  have zl : z < k5.objs.size := Heap.lt_size z5
  show wpAny _ _ (Builtin.SmallTypes.ownedTupleHandOut (.ref z) (.ref k5.objs.size) >>= fun _ => _) _ _ _
  unfold Builtin.SmallTypes.ownedTupleHandOut
  have z6 : IsZip (k5.push { cls := .type "tuple", data := .seq #[x, y] }) z TI TO .ellipsis := Heap.get?_push_of_some _ z5
  refine wpAny_bind (wpAny_bind (wpAny_setField_rec z6 (by simp) fun k7 z7 s7 => ?_))
  have z7 : IsZip k7 z TI TO (rawInt k5.objs.size) := z7
  refine wpAny_setField_rec z7 (by simp) fun k8 z8 s8 => ?_
  have z8 : IsZip k8 z TI TO (rawInt k5.objs.size) := z8
  have up : ∀ a o, a ≠ z → (k5.push { cls := .type "tuple", data := .seq #[x, y] }).get? a = some o → k8.get? a = some o := fun a o n e => s8.extBut _ _ n (s7.extBut _ _ n e)
  have t8 : IsPair k8 k5.objs.size x y := up _ _ (Nat.ne_of_gt zl) (Heap.get?_push_size _ rfl)
  have up5 : ∀ a o, a ≠ z → k5.get? a = some o → k8.get? a = some o := fun a o n e => up a o n (Heap.get?_push_of_some _ e)
  rw [sz] at z8 t8
  refine wpAny_pure ⟨_, rfl, ?_⟩
  show Q (.ref k5.objs.size) _
  rw [sz]
  exact K k8 z8 (up5 _ _ Z.TOz o5) (b1.at_ fun o e => up5 _ o Z.i1z e) (b2.at_ fun o e => up5 _ o Z.i2z e) t8 fun a o n e => up5 a o n.1 (old a o n.2 (s1.extBut _ _ n.1 e))
/-- where one of both is at its end -/
theorem zw_end {b c : Bool} {z TI TO j1 j2 l m : Addr} {p q : Nat} {xs ys : Array Value} {f0 f1 : Value} {Q : PySem.Fin → Shared → Prop} (hh : A.handled = none) (Z : ZipApart z TI TO j1 j2 l m)
    (gz : IsZip s.heap z TI TO .none) (gi : IsPair s.heap TI (.ref j1) (.ref j2)) (go : IsPair s.heap TO f0 f1) (w1 : WkAt b s.heap j1 l p) (w2 : WkAt c s.heap j2 m q)
    (q1 : SeqIn b s.heap l xs) (q2 : SeqIn c s.heap m ys) (en : xs[p]? = none ∨ ys[q]? = none)
    (K : ∀ g e, (∀ a o, a ≠ z ∧ a ≠ TO ∧ a ≠ j1 ∧ a ≠ j2 → s.heap.get? a = some o → g.get? a = some o) → (∃ o, g.get? e = some o ∧ o.cls = .type "StopIteration") → E (.ref e) { s with heap := g }) :
    wpAny (model prog w) A (Builtin.«zip.__next__» ⟨[.ref z], []⟩) Q E s := by
  show wpAny _ _ (field (.ref z) 2 >>= fun _ => _) _ _ _
  refine wpAny_bind (wpAny_field gz rfl (x := .bool false) rfl (?_ : wpAny _ _ (field (.ref z) 3 >>= _) _ _ _))
  refine wpAny_bind (wpAny_field gz rfl (x := .ref TI) rfl (wpAny_bind (wpAny_seqItems gi rfl (?_ : wpAny _ _ (Builtin.SmallTypes.ownedTupleIsFree (.ref z) >>= _) _ _ _))))
  unfold Builtin.SmallTypes.ownedTupleIsFree
  refine wpAny_bind (wpAny_bind (wpAny_field gz rfl (x := .none) rfl (wpAny_pure ?_)))
  simp only [if_true]
  refine wpAny_bind (wpAny_rule (wpAny_bind (wpAny_field gz rfl (x := .ref TO) rfl (wpAny_bind (wpAny_setField_rec gz (by simp) fun k1 z1 s1 => ?_)))))
  have z1 : IsZip k1 z TI TO .ellipsis := z1
  refine wpAny_bind ?_
  simp only [List.zipIdx_cons, List.zipIdx_nil, List.forIn_cons, List.forIn_nil]
  refine wpAny_bind (wpAny_bind (wpAny_onRaise (?_ : wpAny _ _ (Builtin.SmallTypes.nextOf (.ref j1) >>= _) _ _ _)))
  have stop : ∀ {g : Heap} {e : Addr}, IsZip g z TI TO .ellipsis → (∃ o, g.get? e = some o ∧ o.cls = .type "StopIteration") → e ≠ z := fun {g e} hz ⟨o, ho, hc⟩ n => by
    subst n
    rw [hz] at ho
    cases ho
    simp at hc
  cases ex : xs[p]? with
  | none =>
    refine wpAny_bind (wk_end hh (w1.but s1.extBut Z.i1z) (q1.but s1.extBut Z.l1z) ex fun k2 e s2 he => ?_)
    have z2 : IsZip k2 z TI TO .ellipsis := s2 _ _ Z.i1z.symm z1
    have ne := stop z2 he
    refine wpAny_setField_rec z2 (by simp) fun k3 _ s3 => K k3 e (fun a o n h => s3.extBut _ _ n.1 (s2 _ _ n.2.2.1 (s1.extBut _ _ n.1 h))) ?_
    obtain ⟨o, ho, hc⟩ := he
    exact ⟨o, s3.extBut _ _ ne ho, hc⟩
  | some x =>
    have ey : ys[q]? = none := en.resolve_left fun h => by rw [ex] at h; cases h
    refine wpAny_bind (wk_item (w1.but s1.extBut Z.i1z) (q1.but s1.extBut Z.l1z) ex fun k2 a2 s2 => wpAny_pure ?_)
    have o2 : IsPair k2 TO f0 f1 := s2.extBut _ _ Z.TOi1 (s1.extBut _ _ Z.TOz go)
    refine wpAny_bind (wpAny_seqItems o2 rfl (wpAny_bind (wpAny_updateSeq_pair o2 fun k3 o3 s3 => wpAny_bind (wpAny_letGo (wpAny_pure ?_)))))
    refine wpAny_bind (wpAny_bind (wpAny_onRaise (?_ : wpAny _ _ (Builtin.SmallTypes.nextOf (.ref j2) >>= _) _ _ _)))
    have w23 := ((w2.but s1.extBut Z.i2z).but s2.extBut Z.i12.symm).but s3.extBut Z.TOi2.symm
    have q23 := ((q2.but s1.extBut Z.l2z).but s2.extBut Z.l2i1).but s3.extBut Z.l2TO
    refine wpAny_bind (wk_end hh w23 q23 ey fun k4 e s4 he => ?_)
    have z4 : IsZip k4 z TI TO .ellipsis := s4 _ _ Z.i2z.symm (s3.extBut _ _ Z.TOz.symm (s2.extBut _ _ Z.i1z.symm z1))
    have ne := stop z4 he
    refine wpAny_setField_rec z4 (by simp) fun k5 _ s5 => K k5 e (fun a o n h => s5.extBut _ _ n.1 (s4 _ _ n.2.2.2 (s3.extBut _ _ n.2.1 (s2.extBut _ _ n.2.2.1 (s1.extBut _ _ n.1 h))))) ?_
    obtain ⟨o, ho, hc⟩ := he
    exact ⟨o, s5.extBut _ _ ne ho, hc⟩
theorem next_zw {b c : Bool} {z TI TO j1 j2 l m : Addr} {p q : Nat} {xs ys : Array Value} {x y f0 f1 : Value} {Q : Option Value → Shared → Prop} (Z : ZipApart z TI TO j1 j2 l m)
    (gz : IsZip s.heap z TI TO .none) (gi : IsPair s.heap TI (.ref j1) (.ref j2)) (go : IsPair s.heap TO f0 f1) (w1 : WkAt b s.heap j1 l p) (w2 : WkAt c s.heap j2 m q)
    (q1 : SeqIn b s.heap l xs) (q2 : SeqIn c s.heap m ys) (ex : xs[p]? = some x) (ey : ys[q]? = some y) (K : ZwOut b c s z TI TO j1 j2 l m p q x y fun v t => Q (some v) t) : wpAny (model prog w) A (pyNext (.ref z)) Q E s := by
  have ty : s.TypeIs (.ref z) "zip" := ⟨_, gz, rfl⟩
  have st : ZwOut b c s z TI TO j1 j2 l m p q x y fun v t => wpAny (model prog w) A (pure (some v)) Q E t := fun g a1 a2 a3 a4 a5 a6 => wpAny_pure (K g a1 a2 a3 a4 a5 a6)
  unfold pyNext
  refine wpAny_bind (wpAny_attempt (wpAny_callSpecial?_slot (name := Str.ofString "__next__") ty F.slot_zip_next (wpAny_call_entry F.slot_zip_next ty F.entry_zip_next ?_ (F.args_zip_next_1 _))))
  exact zw_item Z gz gi go w1 w2 q1 q2 ex ey st
theorem stop_zw {b c : Bool} {z TI TO j1 j2 l m : Addr} {p q : Nat} {xs ys : Array Value} {f0 f1 : Value} {Q : Option Value → Shared → Prop} (hh : A.handled = none) (Z : ZipApart z TI TO j1 j2 l m)
    (gz : IsZip s.heap z TI TO .none) (gi : IsPair s.heap TI (.ref j1) (.ref j2)) (go : IsPair s.heap TO f0 f1) (w1 : WkAt b s.heap j1 l p) (w2 : WkAt c s.heap j2 m q)
    (q1 : SeqIn b s.heap l xs) (q2 : SeqIn c s.heap m ys) (en : xs[p]? = none ∨ ys[q]? = none)
    (K : ∀ g, (∀ a o, a ≠ z ∧ a ≠ TO ∧ a ≠ j1 ∧ a ≠ j2 → s.heap.get? a = some o → g.get? a = some o) → Q none { s with heap := g }) : wpAny (model prog w) A (pyNext (.ref z)) Q E s := by
  have ty : s.TypeIs (.ref z) "zip" := ⟨_, gz, rfl⟩
  unfold pyNext
  refine wpAny_bind (wpAny_attempt (wpAny_callSpecial?_slot (name := Str.ofString "__next__") ty F.slot_zip_next (wpAny_call_entry F.slot_zip_next ty F.entry_zip_next ?_ (F.args_zip_next_1 _))))
  refine zw_end hh Z gz gi go w1 w2 q1 q2 en fun g e kk ⟨o, ho, hc⟩ => ?_
  exact wpAny_bind (wpAny_isInstance (T := "StopIteration") (b := true) ⟨o, ho, hc⟩ isSubtype_stop (wpAny_pure (K g kk)))
end
/-! ### as a walk of the layer -/
def ItzK (K : PySem.W.Frag) (b c : Bool) (l m : Addr) : It :=
  ⟨fun i H => ∃ (xs ys : List V) (x y : V), (SqK K b H l xs ∧ xs[i]? = some x) ∧ SqK K c H m ys ∧ ys[i]? = some y,
    fun i H v H' => ∃ T x y, (v = .ref T ∧ H T = none ∧ H' = upd H T (.tup [x, y])) ∧ (∀ xs, SqK K b H l xs → xs[i]? = some x) ∧ ∀ ys, SqK K c H m ys → ys[i]? = some y,
    fun i H => ∃ xs ys : List V, SqK K b H l xs ∧ SqK K c H m ys ∧ (xs.length ≤ i ∨ ys.length ≤ i)⟩
section
variable {X : Cx} {pins : List (Addr × Obj)} {σ : L2.St} {H : Hp} {s : Shared}
theorem sqK_in {b : Bool} {a : Addr} {xs : List V} (I : Inv X pins σ H s) (h : SqK X.K b H a xs) : ∃ its : List Value, Vals xs its ∧ SeqIn b s.heap a its.toArray ∧ a < s.heap.objs.size := by
  cases b with
  | true =>
    obtain ⟨its, r, p, _⟩ := I.tuple h
    obtain ⟨o, ho, _⟩ := id p
    exact ⟨its, r, p, Heap.lt_size ho⟩
  | false =>
    obtain ⟨its, r, p, _⟩ := I.list h
    exact ⟨its, r, p.isList, p.lt⟩
theorem sqK_one {b : Bool} {a : Addr} {xs ys : List V} (I : Inv X pins σ H s) (h : SqK X.K b H a xs) (g : SqK X.K b H a ys) : xs = ys := by
  cases b with
  | true => exact I.tuple_inj h g
  | false => exact I.list_inj h g
end
abbrev five (z TI TO j1 j2 : Addr) : List Addr := [z, TI, TO, j1, j2]
theorem five_not {z TI TO j1 j2 a : Addr} (h : a ∉ five z TI TO j1 j2) : a ≠ z ∧ a ≠ TO ∧ a ≠ j1 ∧ a ≠ j2 := by
  simp only [List.mem_cons, List.not_mem_nil, or_false, not_or] at h
  exact ⟨h.1, h.2.2.1, h.2.2.2.1, h.2.2.2.2⟩
/-- what stands ahead of a turn -/
structure ZwAt (b c : Bool) (z TI TO j1 j2 l m : Addr) (i : Nat) (g : Heap) : Prop where
  z : IsZip g z TI TO .none
  t : IsPair g TI (.ref j1) (.ref j2)
  o : ∃ x y, IsPair g TO x y
  a : WkAt b g j1 l i
  b : WkAt c g j2 m i
theorem WkAt.ob {b : Bool} {g : Heap} {j l : Addr} {i : Nat} (w : WkAt b g j l i) : ∃ o, g.get? j = some o ∧ ∀ v, o.data ≠ .cell v := by
  cases b with
  | true =>
    obtain ⟨o, e, _, d⟩ := (show g.IsTupleIter j l i from w)
    exact ⟨o, e, fun v q => by rw [d] at q; cases q⟩
  | false =>
    obtain ⟨o, e, _, d⟩ := (show g.IsListIter j l i from w)
    exact ⟨o, e, fun v q => by rw [d] at q; cases q⟩
theorem turn_zw {P : Program} {w : World} {K : PySem.W.Frag} {elts : List Expr} {kk : Nat} {tpos : Pos} {b c : Bool} {l m z TI TO j1 j2 : Addr} (Z : ZipApart z TI TO j1 j2 l m) :
    Turn P w K (.Tuple elts kk tpos) (ItzK K b c l m) (five z TI TO j1 j2) z (ZwAt b c z TI TO j1 j2 l m) where
  mem := List.mem_cons_self
  obj := fun i g st a ha => by
    obtain ⟨x, y, ho⟩ := st.o
    simp only [List.mem_cons, List.not_mem_nil, or_false] at ha
    rcases ha with rfl | rfl | rfl | rfl | rfl
    · exact ⟨_, st.z, fun v q => nomatch q⟩
    · exact ⟨_, st.t, fun v q => nomatch q⟩
    · exact ⟨_, ho, fun v q => nomatch q⟩
    · exact st.a.ob
    · exact st.b.ob
  keep := fun i g g' st k => by
    obtain ⟨x, y, ho⟩ := st.o
    exact ⟨k z (by simp) _ st.z, k TI (by simp) _ st.t, ⟨x, y, k TO (by simp) _ ho⟩, st.a.at_ fun o e => k j1 (by simp) o e, st.b.at_ fun o e => k j2 (by simp) o e⟩
  item := by
    intro X hP hw hK hc i pins s σ H E I hf st hg
    subst hP hw hK
    obtain ⟨f0, f1, ho⟩ := st.o
    obtain ⟨xs, ys, x, y, ⟨hx, ex⟩, hy, ey⟩ := hg
    obtain ⟨us, ru, su, _⟩ := sqK_in I hx
    obtain ⟨ws, rw', sw, _⟩ := sqK_in I hy
    obtain ⟨u, eu, qu⟩ := ru.get ex
    obtain ⟨v, ev, qv⟩ := rw'.get ey
    have zl : z < s.heap.objs.size := Heap.lt_size st.z
    refine next_zw Z st.z st.t ho st.a st.b su sw (x := u) (y := v) (by simpa using eu) (by simpa using ev) fun g gz go ga gb gt gk => ⟨_, rfl, wpAny_letOwnedTupleGo_zip (s := { s with heap := g }) gz fun g2 gz2 sb => ?_⟩
    have nt : g2.get? s.heap.objs.size = some { cls := .type "tuple", data := .seq #[u, v] } := (sb.2 _ (Nat.ne_of_gt zl)).trans gt
    have ob : ObjOk X.prog X.w (upd H s.heap.objs.size (.tup [x, y])) g2 s.heap.objs.size (.tup [x, y]) := ⟨show 2 ≤ sizeLine by decide, [u, v], .cons qu (.cons qv .nil), ⟨_, nt, rfl, _, rfl⟩⟩
    have J := I.turnedNew (t' := s.toks) (ch := five z TI TO j1 j2) (fun a o n e => (sb.2 a (five_not n).1).trans (gk a o (five_not n) e)) hf (Nat.le_refl _) ob
    refine ⟨.ref s.heap.objs.size, _, J, rfl, ⟨_, x, y, ⟨rfl, I.hok.fresh (Nat.le_refl _), rfl⟩, fun l1 h1 => by rw [sqK_one I h1 hx]; exact ex, fun l1 h1 => by rw [sqK_one I h1 hy]; exact ey⟩, ⟨gz2, ?_, ⟨u, v, (sb.2 _ Z.TOz).trans go⟩, ga.at_ fun o e => (sb.2 _ Z.i1z).trans e, gb.at_ fun o e => (sb.2 _ Z.i2z).trans e⟩, fun a ha => ?_⟩
    · exact (sb.2 _ Z.TIz).trans (gk _ _ ⟨Z.TIz, Z.TITO, Z.TIi1, Z.TIi2⟩ st.t)
    · have al : a < s.heap.objs.size := by
        simp only [List.mem_cons, List.not_mem_nil, or_false] at ha
        rcases ha with rfl | rfl | rfl | rfl | rfl
        · exact zl
        · exact Heap.lt_size st.t
        · exact Heap.lt_size ho
        · exact st.a.lt
        · exact st.b.lt
      rw [upd_ne (Nat.ne_of_lt al)]
      exact (hf a ha).1
  done := by
    intro X hP hw hK hc i pins s σ H E I hf st hg
    subst hP hw hK
    obtain ⟨f0, f1, ho⟩ := st.o
    obtain ⟨xs, ys, hx, hy, en⟩ := hg
    obtain ⟨us, ru, su, _⟩ := sqK_in I hx
    obtain ⟨ws, rw', sw, _⟩ := sqK_in I hy
    have e1 := ru.length
    have e2 := rw'.length
    refine stop_zw (I.ok.hd hc) Z st.z st.t ho st.a st.b su sw (en.imp (fun q => by simp; omega) fun q => by simp; omega) fun g gk => ⟨rfl, ?_⟩
    exact I.turnedL (t' := s.toks) (ch := five z TI TO j1 j2) (fun a o n e => gk a o (five_not n) e) hf
  self := fun A i s Q E st h => wpAny_pyIter_zip st.z h
def walkO (b : Bool) (l : Addr) : Obj := match b with
  | true => { cls := .type "tuple_iterator", data := .fields #[.ref l, .int 0 0] }
  | false => { cls := .type "list_iterator", data := .fields #[.ref l, .int 0 0] }
theorem begins_K (b : Bool) (l : Addr) (its : Array Value) : Begins (.ref l) (walkO b l) fun g => SeqIn b g l its := by
  cases b with
  | true => exact begins_tuple l its
  | false => exact begins_list l its
theorem walkO_at {b : Bool} {g : Heap} {j l : Addr} (h : g.get? j = some (walkO b l)) : WkAt b g j l 0 := by
  cases b with
  | true => exact ⟨_, h, rfl, rfl⟩
  | false => exact ⟨_, h, rfl, rfl⟩
def iZipK (K : PySem.W.Frag) (ta : TA) : TI := fun σ H R => ta σ H fun vs H1 => ∃ (a a' : Addr) (xs ys : List V) (b c : Bool), vs = [.ref a, .ref a'] ∧ SqK K b H1 a xs ∧ SqK K c H1 a' ys ∧ R (ItzK K b c a a') H1
theorem pi_zipK {X : Cx} {e e2 : Expr} {ta : TA} {p pos tpos : Pos} {elts : List Expr} {kk : Nat} (hg : Gl X "zip") (hm : X.mg "zip" = none) (ha : PA X [e, e2] ta)
    (hs : starEach [e, e2] X.env = (false, PySem.eval e X.env) :: starEach [e2] X.env := by rfl) (hpl : (backTo pos (starEach [e2] X.env)).any (·.1) = false := by rfl) :
    PI X (.Tuple elts kk tpos) (.Call (.Name "zip" p) [e, e2] [] pos) (iZipK X.K ta) := by
  refine ⟨fun pins s σ H R I h => ?_⟩
  refine Call_ (ld_blt I hg hm PyProof.Rows.boot_zip (PyProof.Rows.callWith_type1 (thn (ha.run pos pins s σ H _ I h) fun us t ⟨vs, H1, J, r1, a, a', xs, ys, b, c, ev, hx, hy, q⟩ => ?_) hs hpl))
  subst ev
  cases r1 with
  | cons r rr =>
  cases rr with
  | cons r' rr =>
  cases rr; cases r; cases r'
  obtain ⟨us, ru, su, la⟩ := sqK_in J hx
  obtain ⟨ws, rw', sw, la'⟩ := sqK_in J hy
  refine zip_begins2 (begins_K b a us.toArray) (begins_K c a' ws.toArray) su sw fun g gz gt go g1 g2 _ gk => wpAny_pyIter_zip gz ?_
  have J2 : Inv X pins σ H1 { t with heap := g } := J.kept (t' := t.toks) gk
  refine ⟨_, five (t.heap.objs.size + 4) (t.heap.objs.size + 2) (t.heap.objs.size + 3) t.heap.objs.size (t.heap.objs.size + 1), _, _, H1, rfl, J2, turn_zw (PySem.W.ktu_apart t.heap.objs.size a a' la la'), ⟨gz, gt, ⟨_, _, go⟩, walkO_at g1, walkO_at g2⟩, fun x hx => ?_, q⟩
  have le : t.heap.objs.size ≤ x := by
    simp only [List.mem_cons, List.not_mem_nil, or_false] at hx
    rcases hx with rfl | rfl | rfl | rfl | rfl <;> omega
  exact J.fpOk le (J.hok.fresh le)
section
variable {K : PySem.W.Frag} {φ : Ph} {H : Hp} {M : Mem}
theorem it_zw {b c : Bool} {a a' : Addr} {g g' : Gd} {xs ys : List PV} (h : SAt K b φ H g a xs) (h' : SAt K c φ H g' a' ys) : ItOk K φ H (ItzK K b c a a') (g ++ g') (zipP xs ys) := fun φ2 H2 M2 x m2 hg => by
  obtain ⟨vs, h2, q2⟩ := h φ2 H2 M2 x m2 (gOk_app hg).1
  obtain ⟨ws, h3, q3⟩ := h' φ2 H2 M2 x m2 (gOk_app hg).2
  refine ⟨fun i hi => ?_, fun i hi => ⟨vs, ws, h2, h3, ?_⟩, fun i y H3 hi ⟨T, v1, v2, ⟨e, nT, eH⟩, f1, f2⟩ => ?_⟩
  · rw [zip_len] at hi
    obtain ⟨v, e, _⟩ := q2.get (List.getElem?_eq_getElem (show i < xs.length by omega))
    obtain ⟨v', e', _⟩ := q3.get (List.getElem?_eq_getElem (show i < ys.length by omega))
    exact ⟨vs, ws, v, v', ⟨h2, e⟩, h3, e'⟩
  · rw [zip_len] at hi
    have l1 := q2.length
    have l2 := q3.length
    omega
  · subst e eH
    rw [zip_len] at hi
    have k1 := List.getElem?_eq_getElem (show i < xs.length by omega)
    have k2 := List.getElem?_eq_getElem (show i < ys.length by omega)
    obtain ⟨v, e, r⟩ := q2.get k1
    obtain ⟨v', e', r'⟩ := q3.get k2
    cases (f1 vs h2).symm.trans e
    cases (f2 ws h3).symm.trans e'
    exact ⟨_, zip_get xs ys i _ _ k1 k2, .tup (.inl (.inl upd_same)) (.cons (r.mono (xt_new nT)) (.cons (r'.mono (xt_new nT)) .nil)), xt_new nT, fun _ m => m.new nT⟩
end
section
variable {X : Cx} {call : Cl} {a b : Expr} {ma mb : E} {pos : Pos}
theorem it_zip {elts : List Expr} {kk : Nat} {tpos p : Pos} (hg : Gl X "zip") (hm : X.mg "zip" = none) (ha : PA X [a, b] (tIs X.K call (.cons ma (.cons mb .nil))))
    (hs : starEach [a, b] X.env = (false, PySem.eval a X.env) :: starEach [b] X.env := by rfl) (hpl : (backTo pos (starEach [b] X.env)).any (·.1) = false := by rfl) :
    PI X (.Tuple elts kk tpos) (.Call (.Name "zip" p) [a, b] [] pos) (tIt X.K call (.zip ma mb)) := by
  refine ⟨fun pins s σ H R I ⟨φ, M, env, xs, M', m, r, e, k⟩ => ?_⟩
  unfold Ev.evalI at e
  obtain ⟨⟨y, M1⟩, e1, e⟩ := bindE e
  obtain ⟨⟨y2, M2⟩, e2, e⟩ := bindE e
  simp only at e
  cases s1 : seqG M2 y with
  | none => rw [s1] at e; cases e
  | some t1 =>
  cases s2 : seqG M2 y2 with
  | none => rw [s1, s2] at e; cases e
  | some t2 =>
  obtain ⟨k1, xs1, g1⟩ := t1
  obtain ⟨k2, xs2, g2⟩ := t2
  rw [s1, s2] at e
  cases e
  refine (pi_zipK hg hm ha hs hpl).run pins s σ H R I (tIs.then_ m r (evs2 e1 e2) fun φ1 H1 u x1 m1 r1 q1 => ?_)
  obtain ⟨z, t, rfl, q, q'⟩ := two_of q1
  obtain ⟨a1, v1, rfl, h1, t1⟩ := seq_at m1 q s1
  obtain ⟨a2, v2, rfl, h2, t2⟩ := seq_at m1 q' s2
  exact ⟨_, _, _, _, k1, k2, rfl, h1, h2, k _ _ _ x1 m1 (it_zw t1 t2)⟩
end
end Ev

/-! sorted and max of ints in a list or a tuple. -/
namespace Ev
open PySem PySem.Spec PyProof.Rows L2
section
variable {prog : Program} {w : World} {A : Around} {E : Value → Shared → Prop} {s : Shared}
/-- what a tuple holds, gathered -/
theorem gather_tup {t : Addr} {vs : List Value} {Q : List Value → Shared → Prop} (ht : IsTup s.heap t vs.toArray) (hz : vs.length ≤ sizeLine)
    (h : Q vs { s with heap := (s.heap.push (seqObj "list" #[] 0)).update s.heap.objs.size (Obj.mapSeq (· ++ vs.toArray)) }) : wpAny (model prog w) A (collect (.ref t)) Q E s := by
  obtain ⟨o, ho, hc, n, hd⟩ := id ht
  have h0 : (s.heap.push (seqObj "list" #[] 0)).get? s.heap.objs.size = some (seqObj "list" #[] 0) := Heap.get?_push_size _ rfl
  have h1 : (s.heap.push (seqObj "list" #[] 0)).get? t = some o := Heap.get?_push_of_some _ ho
  have h2 : ((s.heap.push (seqObj "list" #[] 0)).update s.heap.objs.size (Obj.mapSeq (· ++ vs.toArray))).get? s.heap.objs.size = _ := get?_update_seq h0 _
  unfold collect
  refine wpAny_bind (wpAny_runValue (codeAny_builtin entry_proto_collect' ?_))
  refine wpAny_bind (m := newList []) (wpAny_newList (wpAny_pure ⟨Code.quiet_builtin _ (by decide +kernel), codeAny_builtin entry_list_iadd' ?_⟩))
  show wpAny _ _ (Builtin.List.listExtendWith (.ref s.heap.objs.size) (.ref t) (.ref s.heap.objs.size)) _ _ _
  unfold Builtin.List.listExtendWith
  refine wpAny_bind (wpAny_typeOf (T := "tuple") ⟨o, h1, hc⟩ ?_)
  have hb : (Value.type "tuple" == Value.type "tuple") = true := by rfl
  rw [hb, Bool.or_true, if_pos rfl]
  refine wpAny_bind (listItems_at h1 hd (wpAny_bind (listItems_at h0 rfl ?_)))
  rw [if_neg (by simp)]
  refine wpAny_bind (listUpdate_at h0 rfl ?_ (Nat.zero_le _) (by simp only [Array.size_append, List.size_toArray, List.length_nil]; omega))
  refine wpAny_pure (wpAny_bind (m := load s.heap.objs.size) (wpAny_load h2 ?_))
  show wpAny _ _ (pure ((#[] : Array Value) ++ vs.toArray).toList) Q E _
  rw [show ((#[] : Array Value) ++ vs.toArray).toList = vs by simp]
  exact wpAny_pure h
theorem sorted_tupI {t : Addr} {vs : List Value} {ns : List Int} {Q : Value → Shared → Prop} (hi : IntsAre vs ns) (ht : IsTup s.heap t vs.toArray) (hz : vs.length ≤ sizeLine)
    (h : ∀ out : List Value, SrtO.Srtd SrtO.ltIv out → SrtO.Stb SrtO.ltIv out vs → Q (.ref (s.heap.objs.size + 1)) { s with heap := sortedAll s.heap vs out.toArray }) :
    wpAny (model prog w) A (call (.builtin "sorted") [.ref t]) Q E s := by
  refine Calls.call_function_entry kind_sorted plain_sorted entry_sorted (args_sorted1 _) ?_
  unfold Builtin.«sorted»
  refine wpAny_bind (m := checkCount "sorted" 1 1 _) (wpAny_pure (wpAny_bind (gather_tup ht hz (wpAny_bind (wpAny_newList ?_ hz)))))
  generalize hG : (s.heap.push (seqObj "list" #[] 0)).update s.heap.objs.size (Obj.mapSeq (· ++ vs.toArray)) = G
  have gs : G.objs.size = s.heap.objs.size + 1 := by rw [← hG, Heap.size_update]; exact size_push' ..
  have ga : (G.push (seqObj "list" vs.toArray 0)).get? (s.heap.objs.size + 1) = some (seqObj "list" vs.toArray 0) := gs ▸ Heap.get?_push_size _ rfl
  refine wpAny_bind (wpAny_holding (wpAny_call_entry slot_list_sort ⟨_, by rw [gs]; exact ga, rfl⟩ entry_list_sort ?_ (args_list_sort _)))
  rw [gs]
  refine SrtO.list_sort_ord SrtO.swo_int ga hz (fun h2 => SrtO.ints_sortable hi h2) fun out hs hb => ⟨_, rfl, wpAny_pure ⟨_, rfl, ?_⟩⟩
  have := h out hs hb
  unfold sortedAll at this
  rw [hG] at this
  exact this
theorem max_tupI {t : Addr} {its : List Value} {ns : List Int} {Q : Value → Shared → Prop} (hh : A.handled = none) (ht : IsTup s.heap t its.toArray) (hi : IntsAre its ns) (h0 : 0 < ns.length)
    (h : ∀ h' tk m t', (∀ b o, s.heap.get? b = some o → h'.get? b = some o) → m ∈ ns → (∀ a, a ∈ ns → a ≤ m) → Q (.int m t') { s with heap := h', toks := tk }) : wpAny (model prog w) A (call (.builtin "max") [.ref t]) Q E s := by
  obtain ⟨xs, e⟩ := hi.allInts.items
  obtain rfl : xs.toList.map (·.1) = ns := by rw [← nums_intItems, ← e]; exact hi.numsOf
  rw [e] at ht
  have hp : 0 < xs.size := by simpa using h0
  have hlt : t < s.heap.objs.size := by obtain ⟨_, q, _⟩ := ht; exact Heap.lt_size q
  have hf : ∀ b ∈ [s.heap.objs.size, t], b < (s.heap.push { cls := .type "tuple_iterator", data := .fields #[.ref t, .int 0 0] }).objs.size := fun b hb => by
    rw [Heap.size_push]
    simp only [List.mem_cons, List.not_mem_nil, or_false] at hb
    rcases hb with rfl | rfl
    · exact Nat.lt_succ_self _
    · exact Nat.lt_succ_of_lt hlt
  have hT : (s.heap.push { cls := .type "tuple_iterator", data := .fields #[.ref t, .int 0 0] }).IsTuple t (intItems xs) := by
    obtain ⟨o, q, r⟩ := ht
    exact ⟨o, Heap.get?_push_of_some _ q, r⟩
  refine call_max_walk (wpAny_pyIter_tuple ht ⟨_, _, _, _, _, _, _, rfl, Walks.tuple (A := A.in1) hh _ t (Nat.ne_of_lt hlt) (intItems xs), ⟨⟨_, Heap.get?_push_size _ rfl, rfl, rfl⟩, hT⟩, hf, by simpa [intItems] using hp,
    CmpOf.ints_gt (numAt xs) (fun _ _ => intItems_at), fun v h' tk hP hk => ?_⟩)
  obtain ⟨t', rfl⟩ := intItems_at hP
  have hz : (intItems xs).size = xs.size := by simp [intItems]
  rw [hz]
  obtain ⟨k1, k2⟩ := argBest_gt (numAt xs) (xs.size - 1)
  refine h h' tk _ t' (fun b o q => hk b o (fun hm => ?_) (Heap.get?_push_of_some _ q)) ?_ fun a ha => ?_
  · have := Heap.lt_size q
    simp only [List.mem_cons, List.not_mem_nil, or_false] at hm
    exact absurd (hm ▸ this) (Nat.lt_irrefl _)
  · rw [numAt_eq]; exact PySem.getD_mem (by rw [List.length_map, Array.length_toList]; exact Nat.lt_of_le_of_lt k1 (by omega))
  · obtain ⟨j, hj, rfl⟩ := mem_getD ha
    rw [List.length_map, Array.length_toList] at hj
    rw [← numAt_eq]; exact k2 j (by omega)
end
section
variable {X : Cx}
def rMaxT (K : PySem.W.Frag) : List V → Hp → VK → Prop := fun vs H Q => ∃ (a : Addr) (ns : List Int), vs = [V.ref a] ∧ SqT K H a (ns.map V.int) ∧ 0 < ns.length ∧ ∀ m, m ∈ ns → (∀ y, y ∈ ns → y ≤ m) → Q (.int m) H
theorem call_maxT (hc : X.calm = true) : CallR X (.builtin "max") (rMaxT X.K) := by
  intro pins s σ H vs us Q I r ⟨a, ns, e, hs, h0, q⟩
  subst e
  obtain ⟨its, rv, pl, _⟩ := I.tuple hs
  rw [Vals.ref1 r]
  exact max_tupI (I.ok.hd hc) pl rv.ints h0 fun h' tk m t' hk k1 k2 => ⟨.int _, H, I.kept hk, ⟨_, rfl⟩, q m k1 k2⟩
def rSrtT (K : PySem.W.Frag) : List V → Hp → VK → Prop := fun vs H Q => ∃ (a : Addr) (ns : List Int), vs = [V.ref a] ∧ SqT K H a (ns.map V.int) ∧
  ∀ (ms : List Int) (p : Addr), ms.Perm ns → ms.Pairwise (· ≤ ·) → H p = none → Q (.ref p) (upd H p (.lst (ms.map V.int)))
theorem call_sortedT : CallR X (.builtin "sorted") (rSrtT X.K) := by
  intro pins s σ H vs us Q I r ⟨a, ns, e, hs, q⟩
  subst e
  obtain ⟨its, rv, pl, hz⟩ := I.tuple hs
  rw [Vals.ref1 r]
  refine sorted_tupI rv.ints pl (by rw [← rv.length]; exact hz) fun out k1 k2 => ?_
  obtain ⟨j1, j2, j3⟩ := SrtO.ints_out rv.ints k1 k2
  obtain ⟨ep, he⟩ := PyProof.Rows.sortedAll_at s.heap its out.toArray
  have hl : ((out.map SrtO.iv).map V.int).length ≤ sizeLine := by
    have := j2.length_eq
    rw [List.length_map] at hz ⊢
    omega
  exact ⟨.ref _, upd H (s.heap.objs.size + 1) (.lst ((out.map SrtO.iv).map V.int)), I.laid (t' := s.toks) (fun _ _ => PyProof.Rows.sortedAll_old) (Nat.le_succ _) ⟨hl, out, ep, vals_of_ints j1, he⟩, rfl, q _ _ j2 j3 (I.hok.fresh (Nat.le_succ _))⟩
theorem srt_uniq {ms ns : List Int} (h : ms.Perm ns) (s : ms.Pairwise (· ≤ ·)) : ms = srtI ns := by
  have p : ms.Perm (srtI ns) := h.trans (List.mergeSort_perm ns _).symm
  refine p.eq_of_pairwise (le := fun a b => a ≤ b) (fun a b _ _ => Int.le_antisymm) s ?_
  have := List.pairwise_mergeSort (le := fun a b : Int => decide (a ≤ b)) (fun a b c => by simp; omega) (fun a b => by simp; omega) ns
  exact this.imp fun h => of_decide_eq_true h
theorem ints_sq {K : PySem.W.Frag} {φ : Ph} {H : Hp} {M : Mem} {v : PV} {u : V} {xs : List PV} {ns : List Int} (m : RM K φ H M) (h : Rp K φ H v u) (e1 : itemsT M v = some xs) (e2 : intsOf xs = some ns) :
    ∃ a, u = .ref a ∧ (SqL K H a (ns.map V.int) ∨ SqT K H a (ns.map V.int)) ∧ Rps K φ H xs (ns.map V.int) := by
  obtain ⟨a, ws, rfl, h1, h2⟩ := itemsT_sq m h e1
  obtain rfl := ints_rps h2 e2
  exact ⟨a, rfl, h1, h2⟩
theorem ints_back {K : PySem.W.Frag} {φ : Ph} {H : Hp} : ∀ ms : List Int, Rps K φ H (ms.map PV.int) (ms.map V.int)
  | [] => .nil
  | x :: xs => .cons (.int x) (ints_back xs)
theorem c_sorted {f : Bool} : CallR X (.builtin "sorted") (rBl X.K .srt f) := (CallR.or cr_sortedI call_sortedT).imp fun xs H Q ⟨φ, M, vs, z, m, r, e, k⟩ => by
  change srtB M vs = some z at e
  unfold srtB at e
  split at e
  · obtain ⟨ys, e1, e⟩ := obind e
    obtain ⟨ns, e2, rfl⟩ := mapE e
    obtain ⟨u, rfl, h⟩ := one_of r
    obtain ⟨a, rfl, h1, h2⟩ := ints_sq m h e1 e2
    have fin : ∀ (ms : List Int) (p : Addr), ms.Perm ns → ms.Pairwise (· ≤ ·) → H p = none → Q (.ref p) (upd H p (.lst (ms.map V.int))) := fun ms p hp hs hn => by
      obtain rfl := srt_uniq hp hs
      exact k.asL m (ints_back _) hn
    exact h1.elim (fun h1 => .inl ⟨a, ns, rfl, h1, fin⟩) fun h1 => .inr ⟨a, ns, rfl, h1, fin⟩
  · cases e
theorem c_maxT (hc : X.calm = true) {f : Bool} : CallR X (.builtin "max") (rBl X.K .maxt f) := (call_maxT hc).imp fun xs H Q ⟨φ, M, vs, z, m, r, e, k⟩ => by
  change maxtB M vs = some z at e
  unfold maxtB at e
  split at e
  · rename_i ys
    obtain ⟨ns, e2, e⟩ := obind e
    obtain ⟨n, e3, rfl⟩ := mapE e
    obtain ⟨u, rfl, h⟩ := one_of r
    cases h with
    | tup h1 h2 =>
    obtain rfl := ints_rps h2 e2
    refine ⟨_, ns, rfl, h1, ?_, fun m' hm hy => ?_⟩
    · cases ns with
      | nil => cases e3
      | cons _ _ => exact Nat.succ_pos _
    · rw [maxI_ok e3 hm hy]
      exact k.asM m (.int _) fun _ h => nomatch h
  · cases e
end
end Ev

/-! tuple(zip(a, b)) of two lists. -/
namespace Ev
open PySem PySem.Spec PyProof.Rows L2
theorem nolen_zip : typeLookup (.type "zip") "__len__" = pure none := by rw [typeLookup_type, builtinLookup_eq_fast]; kernel_rfl
theorem nohint_zip : typeLookup (.type "zip") "__length_hint__" = pure none := by rw [typeLookup_type, builtinLookup_eq_fast]; kernel_rfl

/-- pairs of what is left, each a new tuple -/
inductive Zp : Hp → List V → List V → List V → Hp → Prop
  | nil {H : Hp} {xs ys : List V} (h : xs = [] ∨ ys = []) : Zp H xs ys [] H
  | cons {H H' : Hp} {T : Addr} {x y : V} {xs ys ws : List V} (h : H T = none) (r : Zp (upd H T (.tup [x, y])) xs ys ws H') : Zp H (x :: xs) (y :: ys) (.ref T :: ws) H'

def ZS (z TI TO i1 i2 l1 l2 S : Addr) (xs ys : Array Value) (i : Nat) (h : Heap) : Prop :=
  IsPair h TI (.ref i1) (.ref i2) ∧ h.IsListIter i1 l1 i ∧ h.IsListIter i2 l2 i ∧ h.IsList l1 xs ∧ h.IsList l2 ys ∧ (∃ o, h.get? TO = some o) ∧
    ((IsZip h z TI TO .none ∧ ∃ a b, IsPair h TO a b) ∨ ∃ T f oT, IsZipHeld h z TI TO T f ∧ h.get? T = some oT ∧ T ≠ z ∧ T ≠ i1 ∧ T ≠ i2 ∧ T ≠ S)
theorem ZS.frame {z TI TO i1 i2 l1 l2 S : Addr} {xs ys : Array Value} {i : Nat} {h h' : Heap} (st : ZS z TI TO i1 i2 l1 l2 S xs ys i h)
    (nz : S ≠ z) (nTI : S ≠ TI) (nTO : S ≠ TO) (n1 : S ≠ i1) (n2 : S ≠ i2) (m1 : S ≠ l1) (m2 : S ≠ l2) (hk : ∀ b o, b ≠ S → h.get? b = some o → h'.get? b = some o) : ZS z TI TO i1 i2 l1 l2 S xs ys i h' := by
  obtain ⟨hTI, h1, h2, hl1, hl2, ⟨oo, ho⟩, hz⟩ := st
  refine ⟨hk _ _ (Ne.symm nTI) hTI, h1.at fun o e => hk _ o (Ne.symm n1) e, h2.at fun o e => hk _ o (Ne.symm n2) e, hl1.at fun o e => hk _ o (Ne.symm m1) e, hl2.at fun o e => hk _ o (Ne.symm m2) e, ⟨oo, hk _ _ (Ne.symm nTO) ho⟩, ?_⟩
  rcases hz with ⟨hz, a, b, hTO⟩ | ⟨T, f, oT, hz, hT, r1, r2, r3, r4⟩
  · exact .inl ⟨hk _ _ (Ne.symm nz) hz, a, b, hk _ _ (Ne.symm nTO) hTO⟩
  · exact .inr ⟨T, f, oT, hk _ _ (Ne.symm nz) hz, hk _ _ r4 hT, r1, r2, r3, r4⟩
theorem fpOk_upd {X : Cx} {pins : List (Addr × Obj)} {H : Hp} {b T : Addr} {o : HO} (h : FpOk X pins H b) (n : b ≠ T) : FpOk X pins (upd H T o) b :=
  ⟨by rw [upd_ne n]; exact h.1, h.2⟩
section
variable {X : Cx} {pins : List (Addr × Obj)} {σ : L2.St} {z TI TO i1 i2 l1 l2 S : Addr} {its its2 : List Value} {xs ys : List V} {R : Result → Shared → Prop} {A : Around}
theorem loop_zip (hh : A.handled = none) (D : ZipApart z TI TO i1 i2 l1 l2) (nz : S ≠ z) (nTI : S ≠ TI) (nTO : S ≠ TO) (n1 : S ≠ i1) (n2 : S ≠ i2) (m1 : S ≠ l1) (m2 : S ≠ l2)
    (rx : Vals xs its) (ry : Vals ys its2) (res : Value) (hn : min its.length its2.length ≤ sizeLine) :
    ∀ (k i : Nat) (s : Shared) (acc : Array Value) (c : Nat) (H : Hp) (aV : List V), min its.length its2.length - i = k → i ≤ min its.length its2.length → Inv X pins σ H s → (∀ b ∈ [S, z, TI, TO, i1, i2], FpOk X pins H b) →
      ZS z TI TO i1 i2 l1 l2 S its.toArray its2.toArray i s.heap → s.heap.get? S = some { cls := .type "list", dict := none, data := .seq acc c, slots := #[] } → Vals aV acc.toList → acc.size = i →
      (∀ H' s' acc' c' ws, Inv X pins σ H' s' → Zp H (xs.drop i) (ys.drop i) ws H' → s'.heap.get? S = some { cls := .type "list", dict := none, data := .seq acc' c', slots := #[] } → Vals (aV ++ ws) acc'.toList → acc'.size = min its.length its2.length → H' S = none → R (.ok (.ret res)) s') →
      codeAny (model X.prog X.w) A (.builtin "list.extend.loop" ⟨[.ref S, .ref z, res], []⟩) R s := by
  have lx := rx.length
  have ly := ry.length
  intro k
  induction k with
  | zero =>
    intro i s acc c H aV hk hi I fp st hS ra ha hR
    have hin : i = min its.length its2.length := by omega
    obtain ⟨hTI, h1, h2, hl1, hl2, ⟨oo, ho⟩, hz⟩ := st
    have hend : its.toArray[i]? = none ∨ its2.toArray[i]? = none := by
      rcases Nat.le_total its.length its2.length with h | h
      · exact .inl (by simp; omega)
      · exact .inr (by simp; omega)
    have hd : xs.drop i = [] ∨ ys.drop i = [] := by
      rcases Nat.le_total its.length its2.length with h | h
      · exact .inl (List.drop_eq_nil_of_le (by omega))
      · exact .inr (List.drop_eq_nil_of_le (by omega))
    refine codeAny_builtin F.entry_extend_loop ?_
    rw [Around.under_plainId F.plain_extend_loop _]
    show wpAny _ A.in1 (pyNext (.ref z) >>= _) _ _ s
    have fin : ∀ h' : Heap, (∀ c o, c ≠ z → c ≠ TO → c ≠ i1 → c ≠ i2 → s.heap.get? c = some o → h'.get? c = some o) → R (.ok (.ret res)) { s with heap := h' } := fun h' hk' => by
      have I1 : Inv X pins σ H { s with heap := h' } := I.turnedL (t' := s.toks) (ch := [z, TO, i1, i2]) (fun b o hb e => hk' b o (fun q => hb (by simp [q])) (fun q => hb (by simp [q])) (fun q => hb (by simp [q])) (fun q => hb (by simp [q])) e) (fun b hb => fp b (by simp at hb ⊢; rcases hb with q | q | q | q <;> simp [q]))
      exact hR H _ acc c [] I1 (.nil hd) (hk' S _ nz nTO n1 n2 hS) (by rw [List.append_nil]; exact ra) (by omega) (fp S (by simp)).1
    rcases hz with ⟨hz, a, b, hTO⟩ | ⟨T, f, oT, hz, hT, r1, r2, r3, r4⟩
    · exact wpAny_bind (wpAny_pyNext_zip_end hh D hz hTI hTO h1 h2 hl1 hl2 hend fun h' hk' => wpAny_pure (fin h' hk'))
    · exact wpAny_bind (wpAny_pyNext_zip_end_held hh D hz hT hTI h1 h2 hl1 hl2 hend fun h' hk' => wpAny_pure (fin h' fun c o q1 q2 q3 q4 e => hk' c o q1 q3 q4 e))
  | succ k ih =>
    intro i s acc c H aV hk hi I fp st hS ra ha hR
    obtain ⟨hTI, h1, h2, hl1, hl2, ⟨oo, ho⟩, hz⟩ := st
    have hlt : i < min its.length its2.length := by omega
    have q1 : i < its.length := Nat.lt_of_lt_of_le hlt (Nat.min_le_left ..)
    have q2 : i < its2.length := Nat.lt_of_lt_of_le hlt (Nat.min_le_right ..)
    have p1 : i < xs.length := by omega
    have p2 : i < ys.length := by omega
    obtain ⟨u, eu, ru⟩ := rx.get (i := i) (List.getElem?_eq_getElem p1)
    obtain ⟨u2, eu2, ru2⟩ := ry.get (i := i) (List.getElem?_eq_getElem p2)
    have ex : its.toArray[i]? = some u := by simpa using eu
    have ey : its2.toArray[i]? = some u2 := by simpa using eu2
    have lt : ∀ {c o}, s.heap.get? c = some o → s.heap.objs.size ≠ c := fun e => Nat.ne_of_gt (Heap.lt_size e)
    have N1 : s.heap.objs.size ≠ i1 := let ⟨_, e, _⟩ := h1; lt e
    have N2 : s.heap.objs.size ≠ i2 := let ⟨_, e, _⟩ := h2; lt e
    have NS : s.heap.objs.size ≠ S := lt hS
    have NTI : s.heap.objs.size ≠ TI := lt hTI
    have NTO : s.heap.objs.size ≠ TO := lt ho
    have Nz : s.heap.objs.size ≠ z := by
      rcases hz with ⟨hz, _⟩ | ⟨_, _, _, hz, _⟩
      · exact lt hz
      · exact lt hz
    have Nl1 : s.heap.objs.size ≠ l1 := let ⟨_, e, _⟩ := hl1; lt e
    have Nl2 : s.heap.objs.size ≠ l2 := let ⟨_, e, _⟩ := hl2; lt e
    have dx : xs.drop i = xs[i] :: xs.drop (i + 1) := List.drop_eq_getElem_cons p1
    have dy : ys.drop i = ys[i] :: ys.drop (i + 1) := List.drop_eq_getElem_cons p2
    refine codeAny_builtin F.entry_extend_loop ?_
    rw [Around.under_plainId F.plain_extend_loop _]
    show wpAny _ A.in1 (pyNext (.ref z) >>= _) _ _ s
    have step : ∀ h' : Heap, ZS z TI TO i1 i2 l1 l2 S its.toArray its2.toArray (i + 1) h' → h'.get? s.heap.objs.size = some { cls := .type "tuple", data := .seq #[u, u2] } →
        (∀ c o, c ≠ z → c ≠ TO → c ≠ i1 → c ≠ i2 → s.heap.get? c = some o → h'.get? c = some o) →
        wpAny (model X.prog X.w) A.in1 (updateSeq S (·.push (Value.ref s.heap.objs.size)) >>= fun _ => again (.builtin "list.extend.loop" ⟨[.ref S, .ref z, res], []⟩))
          (fun fin s' => match fin with | .done f => R (.ok f) s' | .again c' => c'.quiet = true ∧ codeAny (model X.prog X.w) A c' R s') (fun e s' => R (.error e) s') { s with heap := h' } := fun h' st' hT hk' => by
      have new : ObjOk X.prog X.w (upd H s.heap.objs.size (.tup [xs[i], ys[i]])) h' s.heap.objs.size (.tup [xs[i], ys[i]]) :=
        ⟨by show 2 ≤ sizeLine; decide, [u, u2], .cons ru (.cons ru2 .nil), ⟨_, hT, rfl, _, rfl⟩⟩
      have I1 : Inv X pins σ (upd H s.heap.objs.size (.tup [xs[i], ys[i]])) { s with heap := h' } :=
        I.turnedNew (t' := s.toks) (ch := [z, TO, i1, i2]) (fun b o hb e => hk' b o (fun q => hb (by simp [q])) (fun q => hb (by simp [q])) (fun q => hb (by simp [q])) (fun q => hb (by simp [q])) e) (fun b hb => fp b (by simp at hb ⊢; rcases hb with q | q | q | q <;> simp [q])) (Nat.le_refl _) new
      have fp1 : ∀ b ∈ [S, z, TI, TO, i1, i2], FpOk X pins (upd H s.heap.objs.size (.tup [xs[i], ys[i]])) b := fun b hb => fpOk_upd (fp b hb) (by
        simp at hb
        rcases hb with q | q | q | q | q | q <;> rw [q]
        · exact Ne.symm NS
        · exact Ne.symm Nz
        · exact Ne.symm NTI
        · exact Ne.symm NTO
        · exact Ne.symm N1
        · exact Ne.symm N2)
      have hS' := hk' S _ nz nTO n1 n2 hS
      obtain ⟨f0, f1, f2, f3, f4, f5⟩ := fp1 S (by simp)
      refine wpAny_bind ?_
      refine wpAny_updateSeq (s := { s with heap := h' }) hS' rfl (wpAny_pure ⟨plainId_quiet F.plain_extend_loop _, ih (i + 1) _ (acc.push (.ref s.heap.objs.size)) _ (upd H s.heap.objs.size (.tup [xs[i], ys[i]])) (aV ++ [.ref s.heap.objs.size]) (by omega) hlt ?_ fp1 ?_ (Heap.get?_update_self _ hS' rfl) ?_ ?_ ?_⟩)
        (by rw [ha]; omega) (by show (acc.push _).size ≤ sizeLine + 1; rw [Array.size_push, ha]; omega)
      · exact I1.turned (t' := s.toks) (it := S) (fun b o hb e => (Heap.get?_update_other _ _ (Ne.symm hb)).trans e) f0 f1 f3 f4 f5
      · exact st'.frame nz nTI nTO n1 n2 m1 m2 fun b o hb e => (Heap.get?_update_other _ _ (Ne.symm hb)).trans e
      · rw [Array.toList_push]; exact ra.append (.cons rfl .nil)
      · rw [Array.size_push, ha]
      · intro H' s' acc' c' ws I' zp e r' l' n'
        refine hR H' s' acc' c' (.ref s.heap.objs.size :: ws) I' ?_ e (by rw [List.append_assoc] at r'; exact r') l' n'
        rw [dx, dy]
        exact .cons (I.hok.fresh (Nat.le_refl _)) zp
    rcases hz with ⟨hz, a, b, hTO⟩ | ⟨T, f, oT, hz, hT, r1, r2, r3, r4⟩
    · refine wpAny_bind (wpAny_pyNext_zip_item D hz hTI hTO h1 h2 hl1 hl2 ex ey fun h' a1 a2 a3 a4 a5 a6 hk' => ?_)
      refine step h' ⟨hk' _ _ D.TIz D.TITO D.TIi1 D.TIi2 hTI, a3, a4, hl1.at fun o e => hk' _ o D.l1z D.l1TO D.l1i1 D.l1i2 e, hl2.at fun o e => hk' _ o D.l2z D.l2TO D.l2i1 D.l2i2 e, ⟨_, a2⟩,
              .inr ⟨s.heap.objs.size, false, _, a1, a5, Nz, N1, N2, NS⟩⟩ a5 hk'
    · refine wpAny_bind (wpAny_pyNext_zip_item_held D hz hT hTI h1 h2 hl1 hl2 ex ey fun h' a1 a3 a4 a5 a6 hk' => ?_)
      have zTO : TO ≠ z := D.TOz
      refine step h' ⟨hk' _ _ D.TIz D.TIi1 D.TIi2 hTI, a3, a4, hl1.at fun o e => hk' _ o D.l1z D.l1i1 D.l1i2 e, hl2.at fun o e => hk' _ o D.l2z D.l2i1 D.l2i2 e, ⟨_, hk' _ _ D.TOz D.TOi1 D.TOi2 ho⟩,
              .inr ⟨T, true, oT, a1, hk' _ _ r1 r2 r3 hT, r1, r2, r3, r4⟩⟩ a5 fun c o q1 _ q3 q4 e => hk' c o q1 q3 q4 e
/-- what stands when a zip of two lists has come -/
structure ZipNew (s : Shared) (z TI TO i1 i2 l1 l2 : Addr) : Prop where
  D : ZipApart z TI TO i1 i2 l1 l2
  hz : IsZip s.heap z TI TO .none
  hTI : IsPair s.heap TI (.ref i1) (.ref i2)
  hTO : ∃ a b, IsPair s.heap TO a b
  h1 : s.heap.IsListIter i1 l1 0
  h2 : s.heap.IsListIter i2 l2 0
theorem collect_zip {s : Shared} {H : Hp} {E : Value → Shared → Prop} {Q : List Value → Shared → Prop} (hh : A.handled = none) (Z : ZipNew s z TI TO i1 i2 l1 l2) (hl1 : s.heap.IsList l1 its.toArray) (hl2 : s.heap.IsList l2 its2.toArray)
    (rx : Vals xs its) (ry : Vals ys its2) (hn : min its.length its2.length ≤ sizeLine) (I : Inv X pins σ H s) (fp : ∀ b ∈ [z, TI, TO, i1, i2], FpOk X pins H b)
    (hQ : ∀ H' s' ws us, Inv X pins σ H' s' → Zp H xs ys ws H' → Vals ws us → us.length ≤ sizeLine → Q us s') :
    wpAny (model X.prog X.w) A (collect (.ref z)) Q E s := by
  obtain ⟨D, hz, hTI, ⟨ta, tb, hTO⟩, h1, h2⟩ := Z
  have lt : ∀ {c o}, s.heap.get? c = some o → s.heap.objs.size ≠ c := fun e => Nat.ne_of_gt (Heap.lt_size e)
  have N1 : s.heap.objs.size ≠ i1 := let ⟨_, e, _⟩ := h1; lt e
  have N2 : s.heap.objs.size ≠ i2 := let ⟨_, e, _⟩ := h2; lt e
  have Nl1 : s.heap.objs.size ≠ l1 := let ⟨_, e, _⟩ := hl1; lt e
  have Nl2 : s.heap.objs.size ≠ l2 := let ⟨_, e, _⟩ := hl2; lt e
  have hT0 : s.TypeIs (.ref z) "zip" := ⟨_, hz, rfl⟩
  unfold collect
  refine wpAny_bind (wpAny_runValue (codeAny_builtin F.entry_proto_collect ?_))
  rw [Around.under_plainId F.plain_proto_collect _]
  show wpAny _ A.in1 (newList [] >>= fun l => again (.builtin "list.__iadd__" ⟨[l, .ref z], []⟩)) _ _ s
  refine wpAny_bind (wpAny_newObj_type ?_)
  refine wpAny_pure ⟨plainId_quiet F.plain_list_iadd _, codeAny_builtin F.entry_list_iadd ?_⟩
  rw [Around.under_plainId F.plain_list_iadd _]
  have up : ∀ b o, s.heap.get? b = some o → (s.heap.push { cls := .type "list", data := .seq ([] : List Value).toArray }).get? b = some o := fun b o e => Heap.get?_push_of_some _ e
  have hz1 := up _ _ hz
  have hT1 : ({ s with heap := s.heap.push { cls := .type "list", data := .seq ([] : List Value).toArray } } : Shared).TypeIs (.ref z) "zip" := ⟨_, hz1, rfl⟩
  show wpAny _ A.in1 (Builtin.List.listExtendWith (.ref s.heap.objs.size) (.ref z) (.ref s.heap.objs.size)) _ _ _
  unfold Builtin.List.listExtendWith
  refine wpAny_bind (wpAny_typeOf hT1 ?_)
  have e1 : Builtin.List.listSameRef (.ref s.heap.objs.size) (.ref z) = false := by simp [Builtin.List.listSameRef, lt hz]
  have e2 : (Value.type "zip" == Value.type "list") = false := by decide
  have e3 : (Value.type "zip" == Value.type "tuple") = false := by decide
  simp only [e1, e2, e3, Bool.or_false, Bool.false_eq_true, if_false]
  refine wpAny_bind (wpAny_pyIter_zip (s := { s with heap := s.heap.push { cls := .type "list", data := .seq ([] : List Value).toArray } }) hz1 ?_)
  refine wpAny_bind (wpAny_holding ?_)
  unfold Builtin.List.listLengthHint
  refine wpAny_bind (wpAny_specialOf hT1 nolen_zip ?_)
  show wpAny _ A.in1 (specialOf (Value.ref z) (Str.ofString "__length_hint__") >>= _) _ _ _
  refine wpAny_bind (wpAny_specialOf hT1 nohint_zip ?_)
  refine wpAny_pure ?_
  show wpAny _ A.in1 (rule "list.extend.makes-room" >>= fun _ => Builtin.List.listTouch (.ref s.heap.objs.size) >>= fun _ =>
    again (.builtin "list.extend.loop" ⟨[.ref s.heap.objs.size, .ref z, .ref s.heap.objs.size], []⟩)) _ _ _
  refine wpAny_bind (wpAny_rule ?_)
  have hS₁ : (s.heap.push { cls := .type "list", data := .seq ([] : List Value).toArray }).get? s.heap.objs.size = some { cls := .type "list", data := .seq ([] : List Value).toArray } := Heap.get?_push_size _ rfl
  refine wpAny_bind ?_
  show wpAny _ A.in1 (updateSeq s.heap.objs.size (·.push .none) >>= fun _ => updateSeq s.heap.objs.size (·.pop)) _ _ _
  refine wpAny_bind (wpAny_updateSeq hS₁ rfl ?_)
  have hS₂ := Heap.get?_update_self (Obj.mapSeq (·.push Value.none)) hS₁ rfl
  refine wpAny_updateSeq hS₂ rfl ?_
  have hS₃ := Heap.get?_update_self (Obj.mapSeq (·.pop)) hS₂ rfl
  have oth : ∀ b o, b ≠ s.heap.objs.size → (s.heap.push { cls := .type "list", data := .seq ([] : List Value).toArray }).get? b = some o →
      (((s.heap.push { cls := .type "list", data := .seq ([] : List Value).toArray }).update s.heap.objs.size (Obj.mapSeq (·.push Value.none))).update s.heap.objs.size (Obj.mapSeq (·.pop))).get? b = some o :=
    fun b o hb e => (Heap.get?_update_other _ _ (Ne.symm hb)).trans ((Heap.get?_update_other _ _ (Ne.symm hb)).trans e)
  have all : ∀ b o, s.heap.get? b = some o → (((s.heap.push { cls := .type "list", data := .seq ([] : List Value).toArray }).update s.heap.objs.size (Obj.mapSeq (·.push Value.none))).update s.heap.objs.size (Obj.mapSeq (·.pop))).get? b = some o :=
    fun b o e => oth b o (Ne.symm (lt e)) (up b o e)
  have I1 := I.kept (t' := s.toks) all
  have fpS : FpOk X pins H s.heap.objs.size := I.fpOk (Nat.le_refl _) (I.hok.fresh (Nat.le_refl _))
  refine wpAny_pure ⟨plainId_quiet F.plain_extend_loop _, loop_zip (R := _) hh D (lt hz) (lt hTI) (lt hTO) N1 N2 Nl1 Nl2 rx ry (.ref s.heap.objs.size) hn _ 0 _ _ _ H [] rfl (Nat.zero_le _) I1 (fun b hb => ?_)
    ⟨all _ _ hTI, h1.at fun o e => all _ o e, h2.at fun o e => all _ o e, hl1.at fun o e => all _ o e, hl2.at fun o e => all _ o e, ⟨_, all _ _ hTO⟩, .inl ⟨all _ _ hz, ta, tb, all _ _ hTO⟩⟩ hS₃ .nil rfl fun H' s' acc' c' ws I' zp e r' l' n' => ?_⟩
  · rcases List.mem_cons.mp hb with q | q
    · rw [q]; exact fpS
    · exact fp b q
  show wpAny _ A (load s.heap.objs.size >>= _) _ _ s'
  refine wpAny_bind (wpAny_load e ?_)
  exact wpAny_pure (hQ H' s' ws acc'.toList I' (by simpa using zp) (by simpa using r') (by rw [Array.length_toList]; omega))
theorem code_tuple_new_zip {s : Shared} {H : Hp} {E : Value → Shared → Prop} {Q₁ : Value → Shared → Prop} (hh : A.handled = none) (Z : ZipNew s z TI TO i1 i2 l1 l2) (hl1 : s.heap.IsList l1 its.toArray) (hl2 : s.heap.IsList l2 its2.toArray)
    (rx : Vals xs its) (ry : Vals ys its2) (hn : min its.length its2.length ≤ sizeLine) (I : Inv X pins σ H s) (fp : ∀ b ∈ [z, TI, TO, i1, i2], FpOk X pins H b)
    (h : ∀ H' s' ws us, Inv X pins σ H' s' → Zp H xs ys ws H' → Vals ws us → us.length ≤ sizeLine → Q₁ (.ref s'.heap.objs.size) { s' with heap := s'.heap.push { cls := .type "tuple", data := .seq us.toArray } }) :
    codeAny (model X.prog X.w) A (.call (.builtin "tuple.__new__") ⟨[.type "tuple", .ref z], []⟩) (wants Q₁ E) s := by
  refine codeAny_of_tree ?_
  show wpAny _ A.in1 (do checkBuiltinCall "tuple.__new__" ⟨[.type "tuple", .ref z], []⟩; again (.builtin "tuple.__new__" ⟨[.type "tuple", .ref z], []⟩)) _ _ s
  refine wpAny_bind (wpAny_of_eq (F.newCall_tuple_1 _) (wpAny_pure ⟨plainId_quiet F.plain_tuple_new _, codeAny_builtin F.entry_tuple_new ?_⟩))
  rw [Around.under_plainId F.plain_tuple_new _]
  have hsub := sub_tuple_self
  have hinit := init_tuple_lookup
  have hmh := madeHere_tuple
  have hTI : s.TypeIs (.ref z) "zip" := ⟨_, Z.hz, rfl⟩
  have hh1 : A.in1.handled = none := hh
  wp_walk using wpAny_typeOf hTI, collect_zip (A := A.in1) hh1 Z hl1 hl2 rx ry hn I fp
  intro H' s' ws us I' zp r' l'
  show wpAny _ _ (Builtin.Tuple.tupleExact us.toArray >>= fun v => ret v) _ _ _
  unfold Builtin.Tuple.tupleExact
  refine wpAny_bind (wpAny_newObj_type ?_ (by show us.toArray.size ≤ sizeLine; simpa using l'))
  exact wpAny_pure (h H' s' ws us I' zp r' l')
theorem call_tuple_zip {s : Shared} {H : Hp} {E : Value → Shared → Prop} {Q : Value → Shared → Prop} (hh : A.handled = none) (Z : ZipNew s z TI TO i1 i2 l1 l2) (hl1 : s.heap.IsList l1 its.toArray) (hl2 : s.heap.IsList l2 its2.toArray)
    (rx : Vals xs its) (ry : Vals ys its2) (hn : min its.length its2.length ≤ sizeLine) (I : Inv X pins σ H s) (fp : ∀ b ∈ [z, TI, TO, i1, i2], FpOk X pins H b)
    (hQ : ∀ H' s' ws us, Inv X pins σ H' s' → Zp H xs ys ws H' → Vals ws us → us.length ≤ sizeLine → Q (.ref s'.heap.objs.size) { s' with heap := s'.heap.push { cls := .type "tuple", data := .seq us.toArray } }) :
    wpAny (model X.prog X.w) A (call (.type "tuple") [.ref z]) Q E s := by
  refine callType_codes (Q₁ := fun obj s₁ => s₁.TypeIs obj "tuple" ∧ Q obj s₁) F.called_tuple (F.typeCall_tuple_1 _) F.entry_object_init
    (code_tuple_new_zip (A := A.in1) hh Z hl1 hl2 rx ry hn I fp fun H' s' ws us I' zp r' l' => ⟨⟨_, Heap.get?_push_size _ rfl, rfl⟩, hQ H' s' ws us I' zp r' l'⟩) fun obj s₁ h₁ => ?_
  exact ⟨h₁.1, F.args_object_init_2 obj _, object_init_meets F.called_tuple.init.lookup F.called_tuple.made (by decide) X.prog X.w A.in1 _ s₁ ⟨h₁.1, rfl, h₁.2⟩⟩
end
/-- tuple(zip(a, b)) of two lists -/
def tZipT (K : PySem.W.Frag) (ta : TA) : TE := fun σ H Q => ta σ H fun vs H1 => ∃ a b xs ys, vs = [.ref a, .ref b] ∧ SqL K H1 a xs ∧ SqL K H1 b ys ∧ ∀ ws H2 q, Zp H1 xs ys ws H2 → H2 q = none → Q (.ref q) (upd H2 q (.tup ws))
section
variable {X : Cx} {a b : Expr} {ta : TA} {p p2 pos pos2 : Pos}
theorem pe_zipT (hc : X.calm = true) (hg : Gl X "tuple") (hm : X.mg "tuple" = none) (hg2 : Gl X "zip") (hm2 : X.mg "zip" = none) (ha : PA X [a, b] ta)
    (hs : starEach [a, b] X.env = (false, PySem.eval a X.env) :: starEach [b] X.env := by rfl) (hpl : (backTo pos2 (starEach [b] X.env)).any (·.1) = false := by rfl)
    (na : starEach [.Call (.Name "zip" p2) [a, b] [] pos2] X.env = (false, PySem.eval (.Call (.Name "zip" p2) [a, b] [] pos2) X.env) :: starEach [] X.env := by rfl) :
    PE X (.Call (.Name "tuple" p) [.Call (.Name "zip" p2) [a, b] [] pos2] [] pos) (tZipT X.K ta) := by
  refine ⟨fun pins s σ H Q I h => ?_⟩
  refine Call_ (ld_blt I hg hm boot_tuple (PyProof.Rows.callWith_type1 (args_cons (thn (Q := fun v s1 => ∃ (z TI TO i1 i2 l1 l2 : Addr) (xs ys : List V) (its its2 : List Value) (H1 : Hp), v = .ref z ∧ ZipNew s1 z TI TO i1 i2 l1 l2 ∧ s1.heap.IsList l1 its.toArray ∧ s1.heap.IsList l2 its2.toArray ∧ Vals xs its ∧ Vals ys its2 ∧ min its.length its2.length ≤ sizeLine ∧ Inv X pins σ H1 s1 ∧ (∀ b ∈ [z, TI, TO, i1, i2], FpOk X pins H1 b) ∧ ∀ ws H2 q, Zp H1 xs ys ws H2 → H2 q = none → Q (.ref q) (upd H2 q (.tup ws))) ?_ fun v s1 hv => args_nil ?_) na) na))
  · refine Call_ (ld_blt I hg2 hm2 PyProof.Rows.boot_zip (PyProof.Rows.callWith_type1 (thn (ha.run pos2 pins s σ H _ I h) fun us s1 ⟨vs, H1, I1, r1, q1⟩ => ?_) hs hpl))
    obtain ⟨l1, l2, xs, ys, ex, hx, hy, q⟩ := q1
    subst ex
    cases r1 with
    | cons r rr =>
      cases rr with
      | cons r' rr =>
        cases rr
        cases r
        cases r'
        obtain ⟨its, rv, p1, z1⟩ := I1.list hx
        obtain ⟨its2, rv2, p2, z2⟩ := I1.list hy
        refine call_zip_2 p1.isList p2.isList fun h' hz hTI hTO h1 h2 hsz hk => ?_
        have I2 : Inv X pins σ H1 { s1 with heap := h' } := I1.kept (t' := s1.toks) hk
        refine ⟨_, _, _, _, _, l1, l2, xs, ys, its, its2, H1, rfl, ⟨PySem.W.ktu_apart s1.heap.objs.size l1 l2 p1.lt p2.lt, hz, hTI, ⟨_, _, hTO⟩, h1, h2⟩, p1.isList.at fun o e => hk _ o e, p2.isList.at fun o e => hk _ o e, rv, rv2, ?_, I2, fun c hcm => ?_, q⟩
        · have := rv.length; omega
        · have hle : s1.heap.objs.size ≤ c := by
            simp at hcm
            rcases hcm with z | z | z | z | z <;> rw [z] <;> first | exact Nat.le_add_right _ _ | exact Nat.le_refl _
          exact I1.fpOk hle (I1.hok.fresh hle)
  · obtain ⟨z, TI, TO, i1, i2, l1, l2, xs, ys, its, its2, H1, rfl, Z, hl1, hl2, rx, ry, hn, I1, fp, q⟩ := hv
    refine call_tuple_zip (I1.ok.hd hc) Z hl1 hl2 rx ry hn I1 fp fun H' s' ws us I' zp r' l' => ?_
    refine ⟨.ref s'.heap.objs.size, upd H' s'.heap.objs.size (.tup ws), I'.laid (t' := s'.toks) (fun b o e => Heap.get?_push_of_some _ e) (Nat.le_refl _) (show ObjOk X.prog X.w _ _ _ (.tup ws) from ⟨?_, us, r', IsTup.new _ _⟩), rfl, q _ _ _ zp (I'.hok.fresh (Nat.le_refl _))⟩
    have := r'.length
    omega
end
theorem Zp.rps {K : PySem.W.Frag} {φ : Ph} {M : Mem} {H H' : Hp} {xs ys ws : List V} (z : Zp H xs ys ws H') : ∀ {ps qs : List PV}, RM K φ H M → Rps K φ H ps xs → Rps K φ H qs ys → Xt φ H φ H' ∧ RM K φ H' M ∧ Rps K φ H' (List.zipWith pairP ps qs) ws := by
  induction z with
  | nil h =>
    intro ps qs m r1 r2
    refine ⟨.refl, m, ?_⟩
    rcases h with h | h
    · subst h; cases r1; exact .nil
    · subst h; cases r2; cases ps <;> exact .nil
  | @cons H H' T x y xs ys ws h r ih =>
    intro ps qs m r1 r2
    cases r1 with
    | cons a1 r1 =>
    cases r2 with
    | cons a2 r2 =>
    have x1 : Xt φ H φ (upd H T (.tup [x, y])) := xt_new h
    obtain ⟨x2, m2, q2⟩ := ih (m.new h) (r1.mono x1) (r2.mono x1)
    refine ⟨x1.trans x2, m2, .cons ?_ q2⟩
    have : Rp K φ (upd H T (.tup [x, y])) (pairP _ _) (.ref T) := .tup (.inl (.inl upd_same)) (.cons (a1.mono x1) (.cons (a2.mono x1) .nil))
    exact this.mono x2
section
variable {X : Cx} {call : Cl} {a b : Expr} {ma mb : E} {p p2 pos pos2 : Pos}
theorem i_ztup {f : Bool} (hc : X.calm = true) (hg : Gl X "tuple") (hm : X.mg "tuple" = none) (hg2 : Gl X "zip") (hm2 : X.mg "zip" = none) (ha : PA X [a, b] (tIs X.K call (.cons ma (.cons mb .nil))))
    (hs : starEach [a, b] X.env = (false, PySem.eval a X.env) :: starEach [b] X.env := by rfl) (hpl : (backTo pos2 (starEach [b] X.env)).any (·.1) = false := by rfl)
    (na : starEach [.Call (.Name "zip" p2) [a, b] [] pos2] X.env = (false, PySem.eval (.Call (.Name "zip" p2) [a, b] [] pos2) X.env) :: starEach [] X.env := by rfl) :
    PE X (.Call (.Name "tuple" p) [.Call (.Name "zip" p2) [a, b] [] pos2] [] pos) (tI X.K call (.blt .ztup f (.cons ma (.cons mb .nil)))) :=
  (pe_zipT hc hg hm hg2 hm2 ha hs hpl na).imp fun σ H Q ⟨φ, M, env, v, M', m, r, e, k⟩ => by
    unfold Ev.eval at e
    obtain ⟨⟨vs, M1⟩, e1, e⟩ := bindE e
    obtain ⟨z, e2, e⟩ := mapE e
    refine tIs.then_ m r e1 fun φ1 H1 u x1 m1 r1 q1 => ?_
    change ztupB M1 vs = some z at e2
    unfold ztupB at e2
    split at e2
    · rename_i pa pb pe
      cases h1 : items M1 pa with
      | none => rw [h1] at e2; cases e2
      | some xs =>
      rw [h1] at e2
      obtain ⟨ys, h2, rfl⟩ := mapE e2
      obtain ⟨u1, t1, rfl, q2, q3⟩ := two_of q1
      obtain ⟨p1, vs1, rfl, g1, g2⟩ := items_sq m1 q2 h1
      obtain ⟨p2, vs2, rfl, g3, g4⟩ := items_sq m1 q3 h2
      refine ⟨p1, p2, vs1, vs2, rfl, g1, g3, fun ws H2 q zp hq => ?_⟩
      obtain ⟨x2, m2, r2⟩ := zp.rps m1 g2 g4
      have k1 : Pst X.K φ H M1 (.tup (List.zipWith pairP xs ys)) Q := by
        cases f <;> (cases e; exact k)
      exact (k1.mono (x1.trans x2)).tup m2 r2 hq
    · cases e2
end
end Ev

/-! A display of texts by texts; what stands in it. -/
namespace Ev
open PySem PySem.Spec PyProof.Rows L2
theorem un1 {n : Nat} (h : n + 64 < cLine) : n + 1 < cLine := by omega
def cTr (kvs : List (Str × Str)) : List (TE × TE) := kvs.map fun p => (tC (.str p.1), tC (.str p.2))
theorem cTr_pairs : ∀ (kvs : List (Str × Str)) (σ : L2.St) (H : Hp) (Q : List (V × V) → Hp → Prop), Q (kvs.map fun p => (V.str p.1, V.str p.2)) H → tPairs (cTr kvs) σ H Q
  | [], _, _, _, h => h
  | p :: ps, σ, H, Q, h => by
    show tPairs (cTr ps) σ H fun ps' H3 => Q ((V.str p.1, V.str p.2) :: ps') H3
    exact cTr_pairs ps σ H _ h
section
variable {X : Cx} {call : Cl} {a b : Expr} {ma mb : E} {pos : Pos}
theorem i_dsp {keys : List (Option Expr)} {values : List Expr} (kvs : List (Str × Str)) (h : PPs X pos keys values (cTr kvs)) (hall : keys.all (·.isSome) = true := by rfl) (hl : keys.length = values.length := by rfl) (h0 : keys ≠ [] := by exact fun z => nomatch z)
    (h15 : keys.length ≤ 15 := by decide) : PE X (.Dict keys values pos) (tI X.K call (.dsp kvs)) :=
  (pe_disp h hall hl h0 h15).imp fun σ H Q ⟨φ, M, env, v, M', m, r, e, k⟩ => by
    unfold Ev.eval at e
    obtain ⟨hz, e⟩ := ifE e
    cases e
    intro p hp
    refine cTr_pairs kvs σ _ _ ⟨upd_same, kvs.map fun q => (Sum.inr q.1, V.str q.2), by rw [List.map_map]; rfl, by rw [List.length_map]; exact of_decide_eq_true hz, ?_⟩
    rw [upd_upd]
    exact k _ _ _ (xt_new hp) (m.new hp) (.dct upd_same (m.notin2 hp))
theorem dget_some {x y z : PV} (e : dgetOp x y = some z) : ∃ kvs key t, x = .dct kvs ∧ y = .str key ∧ valV (dkv kvs) (Sum.inr key) = some (.str t) ∧ z = .str t := by
  unfold dgetOp at e
  split at e
  · rename_i kvs key
    cases hv : valV (dkv kvs) (Sum.inr key) with
    | none => rw [hv] at e; cases e
    | some t =>
      rw [hv] at e
      cases t <;> first | (cases e; done) | skip
      cases e
      exact ⟨_, _, _, rfl, rfl, hv, rfl⟩
  · cases e
theorem i_dget (hu : X.A.units + 1 < cLine) (ha : PE X a (tI X.K call ma)) (hb : PE X b (tI X.K call mb)) (hs : NoSl b := by intro _ _; rfl) : PE X (.Subscript a b pos) (tI X.K call (.dget ma mb)) :=
  (pe_dget hu ha hb hs).imp fun σ H Q ⟨φ, M, env, v, M', m, r, e, k⟩ => by
    unfold Ev.eval at e
    obtain ⟨⟨x, M1⟩, e1, e⟩ := bindE e
    obtain ⟨⟨y, M2⟩, e2, e⟩ := bindE e
    obtain ⟨z, e3, e⟩ := mapE e
    cases e
    refine tI.then_ m r e1 fun φ1 H1 u x1 m1 r1 q1 => tI.then_ m1 r1 e2 fun φ2 H2 w x2 m2 r2 q2 => ?_
    obtain ⟨kvs, key, t, rfl, rfl, hv, rfl⟩ := dget_some e3
    cases q2
    cases q1.mono x2 with
    | @dct p _ h n =>
    refine ⟨p, .str t, rfl, ?_, k _ _ _ (x1.trans x2) m2 (.str t)⟩
    have := DGet.k (k := Sum.inr key) h
    rw [hv] at this
    exact this
theorem din_bl {n : Bool} {x y z : PV} (e : dinOp n x y = some z) : ∃ k kvs, x = .str k ∧ y = .dct kvs ∧ z = .bl (if n then !(valV (dkv kvs) (Sum.inr k)).isSome else (valV (dkv kvs) (Sum.inr k)).isSome) := by
  unfold dinOp at e
  split at e
  · cases e; exact ⟨_, _, rfl, rfl, rfl⟩
  · cases e
theorem din_rd {n : Bool} {σ : L2.St} {H : Hp} {Q : VK} (h : tI X.K call (.din n ma mb) σ H Q) : tI X.K call ma σ H fun y H1 => tI X.K call mb σ H1 fun x H2 => ∃ p o, x = .ref p ∧ DGet H2 p y o ∧ Q (.bl (if n then !o.isSome else o.isSome)) H2 := by
  obtain ⟨φ, M, env, v, M', m, r, e, k⟩ := h
  unfold Ev.eval at e
  obtain ⟨⟨x, M1⟩, e1, e⟩ := bindE e
  obtain ⟨⟨y, M2⟩, e2, e⟩ := bindE e
  obtain ⟨z, e3, e⟩ := mapE e
  cases e
  refine tI.then_ m r e1 fun φ1 H1 u x1 m1 r1 q1 => tI.then_ m1 r1 e2 fun φ2 H2 w x2 m2 r2 q2 => ?_
  obtain ⟨key, kvs, rfl, rfl, rfl⟩ := din_bl e3
  cases q1
  cases q2 with
  | @dct p _ h n' =>
  exact ⟨p, _, rfl, DGet.k (k := Sum.inr key) h, k _ _ _ (x1.trans x2) m2 (.bl _)⟩
theorem i_din (hu : X.A.units + 1 < cLine) (ha : PE X a (tI X.K call ma)) (hb : PE X b (tI X.K call mb)) (hm : behindInMarks .In b = false := by rfl) : PE X (.Compare a [.In] [b] pos) (tI X.K call (.din false ma mb)) :=
  (pe_cmp (pc_din hu ha hb) hm).imp fun σ H Q h => din_rd h
theorem i_dnin (hu : X.A.units + 1 < cLine) (ha : PE X a (tI X.K call ma)) (hb : PE X b (tI X.K call mb)) (hm : behindInMarks .NotIn b = false := by rfl) : PE X (.Compare a [.NotIn] [b] pos) (tI X.K call (.din true ma mb)) :=
  (pe_cmp (pc_dnotin hu ha hb) hm).imp fun σ H Q h => din_rd h
theorem din_isbl {n : Bool} {env : Env} {M M' : Mem} {v : PV} (e : Ev.eval call (.din n ma mb) env M = some (v, M')) : ∃ z, v = .bl z := by
  unfold Ev.eval at e
  obtain ⟨⟨x, M1⟩, e1, e⟩ := bindE e
  obtain ⟨⟨y, M2⟩, e2, e⟩ := bindE e
  obtain ⟨z, e3, e⟩ := mapE e
  cases e
  obtain ⟨_, _, _, _, rfl⟩ := din_bl e3
  exact ⟨_, rfl⟩
theorem din_test {n : Bool} {σ : L2.St} {H : Hp} {Q : Bool → Hp → Prop} (h : tT X.K call (.din n ma mb) σ H Q) : tI X.K call (.din n ma mb) σ H fun x H' => ∃ d, x = .bl d ∧ Q d H' := by
  obtain ⟨φ, M, env, v, M', d, m, r, e, t, k⟩ := h
  obtain ⟨z, rfl⟩ := din_isbl e
  obtain rfl : z = d := Option.some.inj t
  refine ⟨φ, M, env, .bl z, M', m, r, e, fun φ' H' u x m' q => ?_⟩
  cases q
  exact ⟨z, rfl, k _ _ x m'⟩
theorem t_din (hu : X.A.units + 1 < cLine) (ha : PE X a (tI X.K call ma)) (hb : PE X b (tI X.K call mb)) (hm : behindInMarks .In b = false := by rfl) : PT X (.Compare a [.In] [b] pos) (tT X.K call (.din false ma mb)) :=
  (pt_cmp (pc_din hu ha hb) hm).imp fun σ H Q h => din_rd (din_test h)
theorem t_dnin (hu : X.A.units + 1 < cLine) (ha : PE X a (tI X.K call ma)) (hb : PE X b (tI X.K call mb)) (hm : behindInMarks .NotIn b = false := by rfl) : PT X (.Compare a [.NotIn] [b] pos) (tT X.K call (.din true ma mb)) :=
  (pt_cmp (pc_dnotin hu ha hb) hm).imp fun σ H Q h => din_rd (din_test h)
end
end Ev

/-! A table of the module: ints to plain values. -/
namespace Ev
open PySem PySem.Spec PyProof.Rows L2
def absT : Value → Option PV
  | .int i _ => some (.int i)
  | .str s _ => some (.str s)
  | .bool b => some (.bl b)
  | .none => some .non
  | _ => none
def entI (e : DictEntry) : Option (Int × PV) := match e.key with
  | .int k _ => if (e.hash == hashInt k) = true then (absT e.val).map fun v => (k, v) else none
  | _ => none
/-- the name x of the module is a table -/
def TabAt (K : PySem.W.Frag) (mg : Str → Option Value) (x : Str) (kvs : List (Int × PV)) : Prop :=
  ∃ a es ep, mg x = some (.ref a) ∧ K.lookup a = some { cls := .type "dict", dict := none, data := .dict es ep, slots := #[] } ∧ es.toList.map entI = kvs.map some ∧ (kvs.map (·.1)).Nodup
theorem absT_rel {u : Value} {v : PV} (h : absT u = some v) : ∃ z, RelV z u ∧ ∀ (K : PySem.W.Frag) φ H, Rp K φ H v z := by
  unfold absT at h
  split at h <;> cases h
  · exact ⟨.int _, ⟨_, rfl⟩, fun _ _ _ => .int _⟩
  · exact ⟨.str _, ⟨_, rfl⟩, fun _ _ _ => .str _⟩
  · exact ⟨.bl _, rfl, fun _ _ _ => .bl _⟩
  · exact ⟨.non, rfl, fun _ _ _ => .non⟩
theorem entI_get {e : DictEntry} {p : Int × PV} (h : entI e = some p) : (∃ t, e.key = .int p.1 t) ∧ e.hash = hashInt p.1 ∧ absT e.val = some p.2 := by
  unfold entI at h
  split at h
  · rename_i k t hk
    split at h
    · rename_i hh
      cases hv : absT e.val with
      | none => rw [hv] at h; cases h
      | some v =>
        rw [hv] at h
        cases h
        exact ⟨⟨t, hk⟩, eq_of_beq hh, rfl⟩
    · cases h
  · cases h
/-- the entries as keys and values -/
theorem tab_vs {P : Program} {w : World} : ∀ {es : List DictEntry} {kvs : List (Int × PV)}, es.map entI = kvs.map some → ∃ vs : List (Key × Value), Pairs (mixKind P w) es vs ∧ vs.map (·.1) = kvs.map (fun kv => Sum.inl kv.1) ∧ (∀ e ∈ es, ∃ k, (mixKind P w).is k e.key = true ∧ e.hash = (mixKind P w).hash k) ∧
    ∀ i v, (kvs.find? fun kv => decide (kv.1 = i)).map (·.2) = some v → ∃ u, valueAt vs (Sum.inl i) = some u ∧ absT u = some v
  | [], [], _ => ⟨[], .nil, rfl, (fun _ h => nomatch h), fun i v h => by cases h⟩
  | e :: es, p :: kvs, h => by
    rw [List.map_cons, List.map_cons] at h
    injection h with h1 h2
    obtain ⟨⟨t, hk⟩, hh, hv⟩ := entI_get h1
    obtain ⟨vs, a1, a2, a3, a4⟩ := tab_vs (P := P) (w := w) h2
    have hi : (mixKind P w).is (Sum.inl p.1) e.key = true := by rw [hk]; exact kV_is (k := Sum.inl p.1) ⟨t, rfl⟩
    refine ⟨(Sum.inl p.1, e.val) :: vs, .cons hi rfl a1, by rw [List.map_cons, List.map_cons, a2], fun e' he => ?_, fun i v hf => ?_⟩
    · rcases List.mem_cons.mp he with rfl | he
      · exact ⟨Sum.inl p.1, hi, hh⟩
      · exact a3 e' he
    · by_cases c : p.1 = i
      · subst c
        rw [List.find?_cons] at hf
        simp only [decide_true] at hf
        cases hf
        refine ⟨e.val, ?_, hv⟩
        unfold valueAt
        rw [List.find?_cons]
        simp
      · rw [List.find?_cons] at hf
        simp only [c, decide_false] at hf
        obtain ⟨u, b1, b2⟩ := a4 i v hf
        refine ⟨u, ?_, b2⟩
        unfold valueAt at b1 ⊢
        rw [List.find?_cons]
        have : ¬ ((Sum.inl p.1 : Key) = Sum.inl i) := fun z => c (Sum.inl.inj z)
        simp only [this, decide_false]
        exact b1
  | [], p :: kvs, h => by cases h
  | e :: es, [], h => by cases h
def tTab (a : Addr) (kvs : List (Int × PV)) (ty : TE) : TE := fun σ H Q => ty σ H fun y H1 => ∃ i v, y = .int i ∧ tabV kvs (.int i) = some v ∧ ∀ z, (∀ (K : PySem.W.Frag) φ H, Rp K φ H v z) → Q z H1
section
variable {X : Cx} {b : Expr} {p pos : Pos} {ty : TE} {x : Str} {kvs : List (Int × PV)}
theorem i_tab {call : Cl} {mb : E} (hg : Gl X x) (hT : TabAt X.K X.mg x kvs) (hb : PE X b (tI X.K call mb)) (hs : NoSl b := by intro _ _; rfl) (hd : (x == ("__debug__" : Str)) = false := by decide) :
    PE X (.Subscript (.Name x p) b pos) (tI X.K call (.tab kvs mb)) := by
  obtain ⟨a, es, ep, hm, hk, he, hn⟩ := hT
  have main : PE X (.Subscript (.Name x p) b pos) (tTab a kvs (tI X.K call mb)) := by
    refine ⟨fun pins s σ H Q I h => ?_⟩
    refine subD_of PySem.F.slot_dict_getitem.lookup hs (ld_glob I hg hm (thn (hb.run pins s σ H _ I h) fun iv s2 ⟨y, H2, I2, ry, i, v, ey, hv, q2⟩ => ?_) hd)
    subst ey
    have ho := I2.kIn a _ hk
    obtain ⟨vs, a1, a2, a3, a4⟩ := tab_vs (P := X.prog) (w := X.w) he
    obtain ⟨u, hu, hau⟩ := a4 i v hv
    obtain ⟨z, rz, rp⟩ := absT_rel hau
    have dd : s2.heap.DictOf (mixKind X.prog X.w) a vs := ⟨_, es, ep, ho, ⟨rfl, rfl, rfl⟩, rfl, fun e he' => a3 e (by simpa using he'), a1, by
      rw [a2]
      have : (kvs.map fun kv => (Sum.inl kv.1 : Key)) = (kvs.map (·.1)).map Sum.inl := by rw [List.map_map]; rfl
      rw [this]
      exact List.Pairwise.map _ (fun a b h z => h (Sum.inl.inj z)) hn⟩
    exact ⟨⟨_, ho, rfl⟩, wpAny_getItem_of (kV_is (k := Sum.inl i) ry) dd.mapOf hu ⟨z, H2, I2.tok _, rz, q2 z rp⟩⟩
  exact main.imp fun σ H Q ⟨φ, M, env, v, M', m, r, e, k⟩ => by
    unfold Ev.eval at e
    obtain ⟨⟨y, M1⟩, e1, e⟩ := bindE e
    obtain ⟨z, e2, e⟩ := mapE e
    cases e
    refine tI.then_ m r e1 fun φ1 H1 u x1 m1 r1 q1 => ?_
    have hi : ∃ i, y = .int i := by
      change tabV kvs y = some v at e2
      unfold tabV at e2
      split at e2
      · exact ⟨_, rfl⟩
      · cases e2
    obtain ⟨i, rfl⟩ := hi
    cases q1
    exact ⟨i, v, rfl, e2, fun w hw => k _ _ _ x1 m1 (hw _ _ _)⟩
end
end Ev
namespace Ev
open PySem PySem.Spec PyProof.Rows L2
theorem tab_of {K : PySem.W.Frag} {h : Heap} {mg : Str → Option Value} {x : Str} {kvs : List (Int × PV)} {a : Addr} {es : Array DictEntry} {ep : Nat} (X : K.In h) (G : h.Ns mainGlobals mg) (hn : PySem.W.nsIn K mainGlobals x = some (some (.ref a)))
    (hk : K.lookup a = some { cls := .type "dict", dict := none, data := .dict es ep, slots := #[] }) (e : es.toList.map entI = kvs.map some) (nd : (kvs.map (·.1)).Nodup) : TabAt K mg x kvs :=
  ⟨a, es, ep, PySem.W.mg_of X G hn, hk, e, nd⟩
end Ev

/-! sorted of tuples that begin with two ints, no two of them alike. -/
namespace Ev
open PySem PySem.Spec PyProof.Rows L2
/-! ### in the heap -/
def IsHd (h : Heap) (v : Value) (x y : Int) : Prop := ∃ a o t u n, ∃ rest : List Value, v = .ref a ∧ h.get? a = some o ∧ o.cls = .type "tuple" ∧ o.data = .seq (Value.int x t :: Value.int y u :: rest).toArray n
theorem IsHd.keeps {h h' : Heap} {v : Value} {x y : Int} (p : IsHd h v x y) (k : ∀ b o, h.get? b = some o → o.cls = .type "tuple" → h'.get? b = some o) : IsHd h' v x y := by
  obtain ⟨a, o, t, u, n, r, e, ho, hc, hd⟩ := p
  exact ⟨a, o, t, u, n, r, e, k _ _ ho hc, hc, hd⟩
def hdOf (h : Heap) (v : Value) : Int × Int := match v with
  | .ref a => match h.get? a with
    | some o => match o.data with
      | .seq xs _ => match xs.toList with
        | .int x _ :: .int y _ :: _ => (x, y)
        | _ => (0, 0)
      | _ => (0, 0)
    | none => (0, 0)
  | _ => (0, 0)
theorem IsHd.of {h : Heap} {v : Value} {x y : Int} (p : IsHd h v x y) : hdOf h v = (x, y) := by
  obtain ⟨a, o, t, u, n, r, e, ho, hc, hd⟩ := p
  subst e
  unfold hdOf
  simp only [ho, hd]
section
variable {prog : Program} {w : World} {A : Around} {E : Value → Shared → Prop} {s : Shared}
theorem lex_same {b fin : Bool} {Q : Bool → Shared → Prop} : ∀ (l : List Value) (i : Nat), Q fin s → PySem.W.KatLex prog w A b fin Q (l.zip l) i s
  | [], _, h => PySem.W.kat_nil h
  | v :: l, i, h => PySem.W.kat_cons (SeqAt.EqAt.same v prog w _ _ (PySem.W.kat_yes (lex_same l (i + 1) h)))
theorem hd_cmp {vs : List Value} {k : Value → Int × Int} (hp : ∀ v ∈ vs, IsHd s.heap v (k v).1 (k v).2) (inj : ∀ v ∈ vs, ∀ u ∈ vs, k v = k u → v = u) : SrtO.Cmp prog w A s (tuples' true) (fun p => p.1 ∈ vs) (SrtO.lt2 fun v u => SrtO.lexB (k v) (k u)) := by
  intro p q hm hm'
  have h1 := hp _ hm
  have h2 := hp _ hm'
  have h3 := inj _ hm _ hm'
  show wpAny (model prog w) A (keyLt' (tuples' true) p.1 q.1) (fun r s' => s' = s ∧ r = SrtO.lexB (k p.1) (k q.1)) (fun _ _ => False) s
  unfold SrtO.lexB
  generalize hx : (k p.1).1 = x at h1 ⊢
  generalize hy : (k p.1).2 = y at h1 ⊢
  generalize hx' : (k q.1).1 = x' at h2 ⊢
  generalize hy' : (k q.1).2 = y' at h2 ⊢
  obtain ⟨a, o, t, u, n, r, e, ho, hc, hd⟩ := h1
  obtain ⟨a', o', t', u', n', r', e', ho', hc', hd'⟩ := h2
  rw [e, e']
  refine PySem.W.kat_lt ho hd ho' hd' ?_
  show PySem.W.KatLex prog w A true (decide ((Value.int x t :: Value.int y u :: r).toArray.size < (Value.int x' t' :: Value.int y' u' :: r').toArray.size)) _ ((.int x t, .int x' t') :: (.int y u, .int y' u') :: r.zip r') 0 s
  refine PySem.W.kat_cons (SeqAt.EqAt.int_int x t x' t' prog w _ _ ?_)
  refine PySem.W.kat_go (fun e1 => ?_) (fun e1 => ?_)
  · have ex : x = x' := by simpa using e1
    refine PySem.W.kat_yes (PySem.W.kat_cons (SeqAt.EqAt.int_int y u y' u' prog w _ _ ?_))
    refine PySem.W.kat_go (fun e2 => ?_) (fun e2 => ?_)
    · have ey : y = y' := by simpa using e2
      have es : p.1 = q.1 := h3 (Prod.ext (by rw [hx, hx', ex]) (by rw [hy, hy', ey]))
      rw [e, e'] at es
      cases es
      rw [ho] at ho'
      cases ho'
      rw [hd] at hd'
      injection hd' with hd1 _
      have hd2 : (Value.int x t :: Value.int y u :: r) = (Value.int x' t' :: Value.int y' u' :: r') := by simpa using hd1
      injection hd2 with _ hd3
      injection hd3 with _ hd4
      subst hd4
      have e3 : (if x = x' then decide (y < y') else decide (x < x')) = false := by
        rw [if_pos ex, ey]
        exact decide_eq_false (Int.lt_irrefl _)
      refine PySem.W.kat_yes (lex_same r _ ⟨rfl, ?_⟩)
      rw [e3]
      simp
    · have e3 : (if x = x' then decide (y < y') else decide (x < x')) = decide (y < y') := if_pos ex
      refine PySem.W.kat_no (PySem.W.kat_one _ _ (PyProof.Rows.lt_int ?_))
      exact (show s = s ∧ decide (y < y') = (if x = x' then decide (y < y') else decide (x < x')) from ⟨rfl, e3.symm⟩)
  · have ex : ¬ x = x' := by simpa using e1
    have e3 : (if x = x' then decide (y < y') else decide (x < x')) = decide (x < x') := if_neg ex
    exact PySem.W.kat_no (oneLt_int ⟨rfl, e3.symm⟩)
theorem firsts_hd {h : Heap} : ∀ {vs : List Value}, (∀ v ∈ vs, ∃ x y, IsHd h v x y) → ∃ fs : List Value, PySem.W.KatTups h vs fs ∧ fs.length = vs.length ∧ ∀ f ∈ fs, ∃ x t, f = Value.int x t
  | [], _ => ⟨[], PySem.W.KatTups.nil, rfl, fun _ hm => by simp at hm⟩
  | v :: vs, hp => by
    obtain ⟨fs, h1, h2, h3⟩ := firsts_hd (vs := vs) fun v' hm => hp v' (List.mem_cons_of_mem _ hm)
    obtain ⟨x, y, a, o, t, u, n, r, e, ho, hc, hd⟩ := hp v (List.mem_cons_self ..)
    subst e
    refine ⟨.int x t :: fs, PySem.W.KatTups.cons ho hc hd rfl h1, by rw [List.length_cons, List.length_cons, h2], fun f hm => ?_⟩
    rcases List.mem_cons.mp hm with rfl | hm
    · exact ⟨x, t, rfl⟩
    · exact h3 f hm
theorem sorted_hd {l : Addr} {vs : List Value} {k : Value → Int × Int} {Q : Value → Shared → Prop} (hl : s.heap.IsList l vs.toArray) (hz : vs.length ≤ sizeLine) (hp : ∀ v ∈ vs, IsHd s.heap v (k v).1 (k v).2) (inj : ∀ v ∈ vs, ∀ u ∈ vs, k v = k u → v = u)
    (h : ∀ (h' : Heap) (d : Addr) (out : List Value), SrtO.Srtd (fun v u => SrtO.lexB (k v) (k u)) out → SrtO.Stb (fun v u => SrtO.lexB (k v) (k u)) out vs → (∀ b o, s.heap.get? b = some o → h'.get? b = some o) → s.heap.objs.size ≤ d → (∃ n, h'.get? d = some (seqObj "list" out.toArray n)) → Q (.ref d) { s with heap := h' }) :
    wpAny (model prog w) A (call (.builtin "sorted") [.ref l]) Q E s := by
  refine SrtO.sorted_ord (SrtO.swo_lex k) hl hz (fun h2 h₁ a ha kk => ?_) fun out hs hb => ?_
  · intro h' keep
    have hp' : ∀ v ∈ vs, IsHd h' v (k v).1 (k v).2 := fun v hm => (hp v hm).keeps fun b o e c => keep b o (fun z => by
      subst z
      have e' := ((kk _ _ e).2).symm.trans ha
      cases e'
      exact absurd (Value.type.inj c) (by decide)) (kk b o e).2
    obtain ⟨fs, h1, h2', h3⟩ := firsts_hd fun v hm => ⟨_, _, hp' v hm⟩
    refine ⟨tuples' true, fun Q E hq => ?_, hd_cmp hp' inj⟩
    refine PySem.W.kat_kind (T := .type "int") h1 (by omega) (fun f hm => ?_) (by rfl) ?_
    · obtain ⟨x, t, rfl⟩ := h3 f hm
      exact PySem.W.Looks.now
    · have e : (Value.type "int" != Value.type "tuple") = true := by first | decide +kernel | rfl | decide
      rw [e]
      exact hq
  · exact h _ _ out hs hb (fun b o e => sortedAll_old e) (Nat.le_succ _) (sortedAll_at s.heap vs out.toArray)
end
/-! ### as a rule -/
inductive Hds (K : PySem.W.Frag) (H : Hp) : List V → List (Int × Int) → Prop
  | nil : Hds K H [] []
  | cons {t : Addr} {k : Int × Int} {r xs : List V} {ks : List (Int × Int)} (h : SqT K H t (.int k.1 :: .int k.2 :: r)) (q : Hds K H xs ks) : Hds K H (.ref t :: xs) (k :: ks)
def rSrtH (K : PySem.W.Frag) : List V → Hp → VK → Prop := fun vs H Q => ∃ (a : Addr) (xs : List V) (ks : List (Int × Int)), vs = [V.ref a] ∧ SqL K H a xs ∧ Hds K H xs ks ∧ ks.Nodup ∧
  ∀ (L : List (V × (Int × Int))) (p : Addr), L.Perm (xs.zip ks) → (L.map (·.2)).Pairwise (fun a b => lexLe a b = true) → H p = none → Q (.ref p) (upd H p (.lst (L.map (·.1))))
section
variable {X : Cx} {pins : List (Addr × Obj)} {σ : L2.St} {H : Hp} {s : Shared}
theorem hds_vals (I : Inv X pins σ H s) {xs : List V} {ks : List (Int × Int)} (h : Hds X.K H xs ks) : ∀ {us : List Value}, Vals xs us → xs = us.map backV ∧ us.length = ks.length ∧ (∀ z ∈ us.zip ks, IsHd s.heap z.1 z.2.1 z.2.2) ∧ ∀ u ∈ us, ∃ a, u = Value.ref a := by
  induction h with
  | nil =>
    intro us r
    cases r
    exact ⟨rfl, rfl, fun z hz => by simp at hz, fun u hu => by simp at hu⟩
  | @cons t k r xs ks ht q ih =>
    intro us rv
    cases rv with
    | cons ru rv =>
      rename_i u us
      obtain rfl : u = Value.ref t := ru
      obtain ⟨e1, e2, e3, e4⟩ := ih rv
      obtain ⟨its, r3, ⟨o, ho, hc, n, hd⟩, _⟩ := I.tuple ht
      cases r3 with
      | cons ra r3 =>
      rename_i va l1
      cases r3 with
      | cons rb r3 =>
      rename_i vb l2
      obtain ⟨t1, rfl⟩ := ra
      obtain ⟨t2, rfl⟩ := rb
      refine ⟨by rw [List.map_cons, ← e1]; rfl, by rw [List.length_cons, List.length_cons, e2], fun z hz => ?_, fun u hu => ?_⟩
      · rw [List.zip_cons_cons] at hz
        rcases List.mem_cons.mp hz with rfl | hz
        · exact ⟨t, o, t1, t2, n, l2, rfl, ho, hc, hd⟩
        · exact e3 z hz
      · rcases List.mem_cons.mp hu with rfl | hu
        · exact ⟨t, rfl⟩
        · exact e4 u hu
theorem lexB_le {p q : Int × Int} (h : SrtO.lexB q p = false) : lexLe p q = true := by
  have a := SrtO.lexB_no.mp h
  unfold lexLe
  exact decide_eq_true (by omega)
theorem map_zip_fst {α β : Type} : ∀ (l : List α) (m : List β), l.length = m.length → (l.zip m).map (·.1) = l
  | [], [], _ => rfl
  | a :: l, b :: m, h => by rw [List.zip_cons_cons, List.map_cons, map_zip_fst l m (by simpa using h)]
theorem map_zip_snd {α β : Type} : ∀ (l : List α) (m : List β), l.length = m.length → (l.zip m).map (·.2) = m
  | [], [], _ => rfl
  | a :: l, b :: m, h => by rw [List.zip_cons_cons, List.map_cons, map_zip_snd l m (by simpa using h)]
theorem mem_zip_nodup {α β : Type} : ∀ {l : List α} {m : List β}, m.Nodup → ∀ {a b : α} {k : β}, (a, k) ∈ l.zip m → (b, k) ∈ l.zip m → a = b
  | [], _, _, _, _, _, h, _ => by simp at h
  | _ :: _, [], _, _, _, _, h, _ => by simp at h
  | x :: l, y :: m, hn, a, b, k, h1, h2 => by
    rw [List.nodup_cons] at hn
    rw [List.zip_cons_cons] at h1 h2
    rcases List.mem_cons.mp h1 with e1 | h1
    · cases e1
      rcases List.mem_cons.mp h2 with e2 | h2
      · cases e2; rfl
      · exact absurd (List.of_mem_zip h2).2 hn.1
    · rcases List.mem_cons.mp h2 with e2 | h2
      · cases e2
        exact absurd (List.of_mem_zip h1).2 hn.1
      · exact mem_zip_nodup hn.2 h1 h2
theorem mem_zip_of {α β : Type} : ∀ {l : List α} {m : List β}, l.length = m.length → ∀ {a : α}, a ∈ l → ∃ k, (a, k) ∈ l.zip m
  | [], _, _, _, h => by simp at h
  | x :: l, y :: m, hl, a, h => by
    rw [List.zip_cons_cons]
    rcases List.mem_cons.mp h with rfl | h
    · exact ⟨y, List.mem_cons_self⟩
    · obtain ⟨k, hk⟩ := mem_zip_of (m := m) (by simpa using hl) h
      exact ⟨k, List.mem_cons_of_mem _ hk⟩
theorem zip_mapL {α β γ : Type} (f : α → γ) : ∀ (l : List α) (m : List β), (l.map f).zip m = (l.zip m).map fun z => (f z.1, z.2)
  | [], _ => by simp
  | _ :: _, [] => by simp
  | a :: l, b :: m => by rw [List.map_cons, List.zip_cons_cons, List.zip_cons_cons, List.map_cons, zip_mapL f l m]
theorem call_srtH : CallR X (.builtin "sorted") (rSrtH X.K) := by
  intro pins s σ H vs us Q I r ⟨a, xs, ks, e, hs, hh, hn, q⟩
  subst e
  obtain ⟨its, rv, hl, hz⟩ := I.list hs
  rw [Vals.ref1 r]
  obtain ⟨e1, e2, e3, e4⟩ := hds_vals I hh rv
  have key : ∀ z ∈ its.zip ks, hdOf s.heap z.1 = z.2 := fun z hz => (e3 z hz).of
  refine sorted_hd (k := hdOf s.heap) hl.isList (by rw [← rv.length]; exact hz) (fun v hv => ?_) (fun v hv u hu ek => ?_) fun h' d out h1 h2 kp hd ⟨n, hn'⟩ => ?_
  · obtain ⟨kk, hk⟩ := mem_zip_of e2 hv
    rw [key _ hk]
    exact e3 _ hk
  · obtain ⟨k1, h1⟩ := mem_zip_of e2 hv
    obtain ⟨k2, h2⟩ := mem_zip_of e2 hu
    rw [key _ h1, key _ h2] at ek
    have ek : k1 = k2 := ek
    subst ek
    exact mem_zip_nodup hn h1 h2
  · obtain ⟨Z, hZ, eZ⟩ := perm_lift (·.1) h2.perm (its.zip ks) (map_zip_fst its ks e2)
    have kz : ∀ z ∈ Z, hdOf s.heap z.1 = z.2 := fun z hz => key z (hZ.mem_iff.mp hz)
    have out_ref : ∀ u ∈ out, ∃ a, u = Value.ref a := fun u hu => e4 u (h2.perm.mem_iff.mp hu)
    have hlen : (out.map backV).length ≤ sizeLine := by
      rw [List.length_map, h2.perm.length_eq, ← rv.length]
      exact hz
    have hq := q (Z.map fun z => (backV z.1, z.2)) d ?_ ?_ (I.hok.fresh hd)
    · rw [List.map_map] at hq
      have em : Z.map ((fun x => x.1) ∘ fun z : Value × (Int × Int) => (backV z.1, z.2)) = out.map backV := by
        rw [← eZ, List.map_map]; rfl
      rw [em] at hq
      exact ⟨.ref d, upd H d (.lst (out.map backV)), I.laid (t' := s.toks) kp hd ⟨hlen, out, n, vals_back out_ref, hn'⟩, rfl, hq⟩
    · have ez : xs.zip ks = (its.zip ks).map fun z => (backV z.1, z.2) := by
        rw [e1]
        exact zip_mapL _ its ks
      rw [ez]
      exact hZ.map _
    · rw [List.map_map]
      have em : Z.map ((fun x => x.2) ∘ fun z : Value × (Int × Int) => (backV z.1, z.2)) = out.map (hdOf s.heap) := by
        rw [← eZ, List.map_map]
        exact List.map_congr_left fun z hz => (kz z hz).symm
      rw [em]
      exact List.pairwise_map.mpr (List.Pairwise.imp (fun h => lexB_le h) h1)
end
/-! ### the interpreter's -/
section
variable {K : PySem.W.Frag} {φ : Ph} {H : Hp} {M : Mem}
theorem hds_of : ∀ {xs : List PV} {ks : List (Int × Int)} {vs : List V}, hdsOf xs = some ks → Rps K φ H xs vs → Hds K H vs ks
  | [], ks, vs, h, r => by
    cases h; cases r
    exact .nil
  | .tup (.int i :: .int j :: ys) :: xs, ks, vs, h, r => by
    have h' : (hdsOf xs).map ((i, j) :: ·) = some ks := h
    cases e : hdsOf xs with
    | none => rw [e] at h'; cases h'
    | some l =>
      rw [e] at h'
      cases h'
      cases r with
      | cons q r =>
      cases q with
      | tup ht rt =>
      cases rt with
      | cons ra rt =>
      cases rt with
      | cons rb rt =>
      cases ra; cases rb
      exact .cons ht (hds_of e r)
theorem lexLe_total (p q : Int × Int) : (lexLe p q || lexLe q p) = true := by
  unfold lexLe
  rw [Bool.or_eq_true, decide_eq_true_eq, decide_eq_true_eq]
  omega
theorem lexLe_trans (p q r : Int × Int) (h1 : lexLe p q = true) (h2 : lexLe q r = true) : lexLe p r = true := by
  unfold lexLe at *
  rw [decide_eq_true_eq] at *
  omega
theorem lexLe_anti {p q : Int × Int} (h1 : lexLe p q = true) (h2 : lexLe q p = true) : p = q := by
  unfold lexLe at *
  rw [decide_eq_true_eq] at *
  exact Prod.ext (by omega) (by omega)
/-- a sorted list without like heads is the only one -/
theorem srtH_uniq {xs : List PV} {ks : List (Int × Int)} (hn : ks.Nodup) (hl : xs.length = ks.length) {L : List (PV × (Int × Int))} (h : L.Perm (xs.zip ks)) (s : (L.map (·.2)).Pairwise fun a b => lexLe a b = true) : L.map (·.1) = srtH (xs.zip ks) := by
  unfold srtH
  have p : L.Perm ((xs.zip ks).mergeSort fun a b => lexLe a.2 b.2) := h.trans (List.mergeSort_perm _ _).symm
  have e : L = (xs.zip ks).mergeSort fun a b => lexLe a.2 b.2 := by
    refine p.eq_of_pairwise (le := fun a b => lexLe a.2 b.2 = true) (fun a b ha hb h1 h2 => ?_) (List.pairwise_map.mp s) ?_
    · have e2 := lexLe_anti h1 h2
      have ha' : a ∈ xs.zip ks := h.mem_iff.mp ha
      have hb' : b ∈ xs.zip ks := (List.mergeSort_perm _ _).mem_iff.mp hb
      obtain ⟨a1, a2⟩ := a
      obtain ⟨b1, b2⟩ := b
      have e2 : a2 = b2 := e2
      subst e2
      rw [mem_zip_nodup hn ha' hb']
    · exact List.pairwise_mergeSort (le := fun a b : PV × (Int × Int) => lexLe a.2 b.2) (fun a b c => lexLe_trans _ _ _) (fun a b => lexLe_total _ _) _
  rw [← e]
theorem hdsOf_len : ∀ {xs : List PV} {ks : List (Int × Int)}, hdsOf xs = some ks → xs.length = ks.length
  | [], ks, h => by cases h; rfl
  | .tup (.int i :: .int j :: ys) :: xs, ks, h => by
    have h' : (hdsOf xs).map ((i, j) :: ·) = some ks := h
    cases e : hdsOf xs with
    | none => rw [e] at h'; cases h'
    | some l =>
      rw [e] at h'
      cases h'
      rw [List.length_cons, List.length_cons, hdsOf_len e]
theorem Rps.of_zip : ∀ {L : List (PV × V)}, (∀ p ∈ L, Rp K φ H p.1 p.2) → Rps K φ H (L.map (·.1)) (L.map (·.2))
  | [], _ => .nil
  | p :: L, h => .cons (h p List.mem_cons_self) (Rps.of_zip fun q hq => h q (List.mem_cons_of_mem _ hq))
theorem Rps.to_zip : ∀ {xs : List PV} {vs : List V}, Rps K φ H xs vs → ∀ p ∈ xs.zip vs, Rp K φ H p.1 p.2
  | _, _, .nil, p, h => by simp at h
  | _, _, .cons q r, p, h => by
    rw [List.zip_cons_cons] at h
    rcases List.mem_cons.mp h with rfl | h
    · exact q
    · exact Rps.to_zip r p h
end
theorem c_srtH {X : Cx} {f : Bool} : CallR X (.builtin "sorted") (rBl X.K .srth f) := call_srtH.imp fun xs H Q ⟨φ, M, vs, z, m, r, e, k⟩ => by
  change srthB M vs = some z at e
  unfold srthB at e
  split at e
  · obtain ⟨ys, e1, e⟩ := obind e
    obtain ⟨ks, e2, e⟩ := obind e
    split at e
    · rename_i hnd
      have hnd := of_decide_eq_true hnd
      cases e
      obtain ⟨u, rfl, h⟩ := one_of r
      obtain ⟨a, ws, rfl, h1, h2⟩ := items_sq m h e1
      have hlen := hdsOf_len e2
      refine ⟨a, ws, ks, rfl, h1, hds_of e2 h2, hnd, fun L p hp hs hn => ?_⟩
      -- the values beside the interpreter's
      have l2 : ws.length = ks.length := by rw [← h2.length]; exact hlen
      obtain ⟨N, hN, eN⟩ := perm_lift (fun z : (PV × V) × (Int × Int) => (z.1.2, z.2)) hp (((ys.zip ws).zip ks)) (by
        have := zip_mapL (fun z : PV × V => z.2) (ys.zip ws) ks
        rw [map_zip_snd ys ws h2.length] at this
        rw [this])
      have e3 : L.map (·.1) = (N.map (·.1)).map (·.2) := by rw [← eN, List.map_map, List.map_map]; rfl
      have e4 : L.map (·.2) = N.map (·.2) := by rw [← eN, List.map_map]; rfl
      have hN1 : (N.map (·.1)).Perm (ys.zip ws) := by
        have := hN.map (·.1)
        rw [map_zip_fst (ys.zip ws) ks (by rw [List.length_zip, ← h2.length, Nat.min_self]; exact hlen)] at this
        exact this
      have rN : ∀ q ∈ N.map (·.1), Rp X.K φ H q.1 q.2 := fun q hq => h2.to_zip q (hN1.mem_iff.mp hq)
      have hM : (N.map fun z => (z.1.1, z.2)).Perm (ys.zip ks) := by
        have := hN.map fun z : (PV × V) × (Int × Int) => (z.1.1, z.2)
        rw [← zip_mapL (fun z : PV × V => z.1) (ys.zip ws) ks, map_zip_fst ys ws h2.length] at this
        exact this
      have hu := srtH_uniq hnd hlen hM (by
        rw [List.map_map]
        have : N.map ((fun x => x.2) ∘ fun z : (PV × V) × (Int × Int) => (z.1.1, z.2)) = N.map (·.2) := rfl
        rw [this, ← e4]
        exact hs)
      rw [List.map_map] at hu
      have e5 : N.map ((fun x => x.1) ∘ fun z : (PV × V) × (Int × Int) => (z.1.1, z.2)) = (N.map (·.1)).map (·.1) := by rw [List.map_map]; rfl
      rw [e5] at hu
      rw [e3]
      have := Rps.of_zip rN
      rw [hu] at this
      exact k.asL m this hn
    · cases e
  · cases e
end Ev

/-! Statements, defs. -/
namespace Ev
open PySem PySem.Spec PyProof.Rows L2
/-- what is wanted behind a statement, by the interpreter's result -/
def RK (K : PySem.W.Frag) (φ : Ph) (H : Hp) (D : Ends) : R → Prop
  | .nx env' M' => ∀ φ' H' σ', Xt φ H φ' H' → RM K φ' H' M' → RE K φ' H' env' σ' → D.nx σ' H'
  | .rt v M' => ∀ φ' H' u, Xt φ H φ' H' → RM K φ' H' M' → Rp K φ' H' v u → D.rt u H'
def tS (K : PySem.W.Frag) (call : Cl) (W : Nat) (s : S) : TS := fun D σ H => ∃ φ M env r, RM K φ H M ∧ RE K φ H env σ ∧ Ev.exec call W s env M = some r ∧ RK K φ H D r
def tSs (K : PySem.W.Frag) (call : Cl) (W : Nat) (s : Ss) : TS := fun D σ H => ∃ φ M env r, RM K φ H M ∧ RE K φ H env σ ∧ Ev.execs call W s env M = some r ∧ RK K φ H D r
theorem _root_.L2.PS.imp {X : Cx} {e : Stmt} {t t' : TS} (h : PS X e t) (k : ∀ D σ H, t' D σ H → t D σ H) : PS X e t' := ⟨fun pins s σ H D I q => h.run pins s σ H D I (k _ _ _ q)⟩
theorem _root_.L2.PSs.imp {X : Cx} {e : List Stmt} {t t' : TS} (h : PSs X e t) (k : ∀ D σ H, t' D σ H → t D σ H) : PSs X e t' := ⟨fun pins s σ H D I q => h.run pins s σ H D I (k _ _ _ q)⟩
theorem RK.mono {K : PySem.W.Frag} {φ φ1 : Ph} {H H1 : Hp} {D : Ends} {r : R} (x : Xt φ H φ1 H1) (k : RK K φ H D r) : RK K φ1 H1 D r := by
  cases r with
  | nx env M => exact fun φ' H' σ' y => k φ' H' σ' (x.trans y)
  | rt v M => exact fun φ' H' u y => k φ' H' u (x.trans y)
section
variable {X : Cx} {call : Cl} {W : Nat} {a b c : Expr} {ma mb mc : E} {pos : Pos}
theorem s_set {x : Str} {pos' : Pos} (i : Nat) (hN : X.N.Nodup) (ha : PE X a (tI X.K call ma)) (hi : X.N[i]? = some x := by rfl) (hx : Loc X.env.scope x := by first | exact .inl rfl | exact .inr rfl) (hs : swapsWith a (some (.Name x pos')) pos.line X.env = pure false := by rfl)
    (hf : X.fn x = true ∨ X.env.scope.names.lookup x = some .local := by first | exact .inl rfl | exact .inr rfl | assumption) : PS X (.Assign [.Name x pos'] a pos) (tS X.K call W (.set i ma)) :=
  (ps_set hN hi hx ha hs hf).imp fun D σ H ⟨φ, M, env, r, m, re, e, k⟩ => by
    unfold Ev.exec at e
    obtain ⟨⟨v, M1⟩, e1, e⟩ := bindE e
    cases e
    exact tI.then_ m re e1 fun φ1 H1 u x1 m1 r1 q1 => k _ _ _ x1 m1 (r1.set q1 i)
theorem s_setLc {y : Str} {py : Pos} {elt tg iter : Expr} {ifs : List Expr} {scope : Scope} {own : List (Str × Nat)} {pos spos : Pos} {it : I} {t : T} {cs : Es} (i : Nat) (f : Bool) (hc : X.calm = true) (hN : X.N.Nodup) (hI : PI X tg iter (tIt X.K call it)) (ok : blkC X.N X.env.scope scope own = true) (hw : (t.ids.all fun i => (own.map (·.2)).contains i) = true)
    (hg : ∀ (s : Shared) (H : Hp) (C : Addr) (cl : List (Str × Addr)) (fp : List Addr), PG (X.blk s H scope (compEnvC scope cl C X.env) fp) tg (gT X.K t)) (ht : ∀ (s : Shared) (H : Hp) (C : Addr) (cl : List (Str × Addr)) (fp : List Addr), PTs (X.blk s H scope (compEnvC scope cl C X.env) fp) ifs (tCs X.K call cs))
    (he : ∀ (s : Shared) (H : Hp) (C : Addr) (cl : List (Str × Addr)) (fp : List Addr), PE (X.blk s H scope (compEnvC scope cl C X.env) fp) elt (tI X.K call ma))
    (hy : X.N[i]? = some y := by rfl) (hyl : X.env.scope.names.lookup y = some .local := by rfl)
    (hsw : swapsWith (.ListComp elt [⟨tg, iter, ifs, 0⟩] scope pos) (some (.Name y py)) spos.line X.env = pure true := by exact sw_true rfl rfl rfl (by decide +kernel)) (hs : ∀ x, foldedSetIterable iter X.env x = pure x := by intro _; rfl) :
    PS X (.Assign [.Name y py] (.ListComp elt [⟨tg, iter, ifs, 0⟩] scope pos) spos) (tS X.K call W (.set i (.lc f (own.map (·.2)) t it cs ma))) :=
  (ps_setLc hc hN hy hyl hsw hI (blkOk_by ok) hg ht he hs).imp fun D σ H ⟨φ, M, env, r, m, re, e, k⟩ => by
    unfold Ev.exec at e
    obtain ⟨⟨v, M1⟩, e1, e⟩ := bindE e
    cases e
    refine lc_rd (fun i hi => by
      have := List.all_eq_true.mp hw i hi
      simpa using this) (Q := fun x H1 => gName i x σ H1 D.nx) (tI.then_ m re e1 fun φ1 H1 u x1 m1 r1 q1 => ?_)
    exact k _ _ _ x1 m1 (r1.set q1 i)
theorem s_asg {tg : Expr} {t : T} (ha : PE X a (tI X.K call ma)) (hg : PG X tg (gT X.K t)) (hs : swapsWithSole [tg] a pos.line X.env = pure false := by rfl) (hw : swappedStores [tg] a X.env = pure none := by rfl)
    (h1 : (assignEach [tg] X.env).map (·.2) = [assign tg X.env] := by rfl) : PS X (.Assign [tg] a pos) (tS X.K call W (.asg t ma)) :=
  (ps_asg ha hg hs hw h1).imp fun D σ H ⟨φ, M, env, r, m, re, e, k⟩ => by
    unfold Ev.exec at e
    obtain ⟨⟨v, M1⟩, e1, e⟩ := bindE e
    obtain ⟨env1, e2, e⟩ := mapE e
    subst e
    exact tI.then_ m re e1 fun φ1 H1 u x1 m1 r1 q1 => gT_rd q1 r1 e2 fun σ' r' _ => k _ _ _ x1 m1 r'
theorem s_par {x y : Str} {px py pt : Pos} {kt k2 pt2} (i j : Nat) (hc : X.calm = true) (hN : X.N.Nodup) (ha : PA X [a, b] (tIs X.K call (.cons ma (.cons mb .nil)))) (hi : X.N[i]? = some x := by rfl) (hj : X.N[j]? = some y := by rfl) (hij : i ≠ j := by decide)
    (hx : X.env.scope.names.lookup x = some .local := by rfl) (hy : X.env.scope.names.lookup y = some .local := by rfl)
    (hw : swappedStores [.Tuple [.Name x px, .Name y py] kt pt] (.Tuple [a, b] k2 pt2) X.env = pure (some [x, y]) := by rfl)
    (hs : swapsWithSole [.Tuple [.Name x px, .Name y py] kt pt] (.Tuple [a, b] k2 pt2) pos.line X.env = pure false := by rfl) :
    PS X (.Assign [.Tuple [.Name x px, .Name y py] kt pt] (.Tuple [a, b] k2 pt2) pos) (tS X.K call W (.par i j ma mb)) :=
  (ps_par hc hN hi hj hij hx hy ha hw hs).imp fun D σ H ⟨φ, M, env, r, m, re, e, k⟩ => by
    unfold Ev.exec at e
    obtain ⟨⟨v, M1⟩, e1, e⟩ := bindE e
    obtain ⟨⟨w, M2⟩, e2, e⟩ := bindE e
    cases e
    have ev : Ev.evals call (.cons ma (.cons mb .nil)) env M = some ([v, w], M2) := by
      unfold Ev.evals
      rw [e1]
      show bnd (Ev.evals call (.cons mb .nil) env M1) _ = _
      unfold Ev.evals
      rw [e2]
      unfold Ev.evals
      rfl
    refine tIs.then_ m re ev fun φ1 H1 u x1 m1 r1 q1 => ?_
    obtain ⟨z, t, rfl, q, q'⟩ := two_of q1
    exact ⟨z, t, rfl, k _ _ _ x1 m1 ((r1.set q i).set q' j)⟩
theorem three_of {xs : List PV} {a b c : PV} {vs : List V} {K : PySem.W.Frag} {φ : Ph} {H : Hp} (e : xs = [a, b, c]) (q : Rps K φ H xs vs) : ∃ z t s, vs = [z, t, s] ∧ Rp K φ H a z ∧ Rp K φ H b t ∧ Rp K φ H c s := by
  subst e
  cases q with
  | cons p q =>
    cases q with
    | cons p' q =>
      cases q with
      | cons p'' q =>
        cases q
        exact ⟨_, _, _, rfl, p, p', p''⟩
theorem s_par3 {x y z : Str} {c : Expr} {mc : E} {px py pz pt : Pos} {kt k2 pt2} (i j l : Nat) (hc : X.calm = true) (hN : X.N.Nodup) (ha : PA X [a, b, c] (tIs X.K call (.cons ma (.cons mb (.cons mc .nil))))) (hi : X.N[i]? = some x := by rfl) (hj : X.N[j]? = some y := by rfl) (hl : X.N[l]? = some z := by rfl)
    (hij : i ≠ j := by decide) (hil : i ≠ l := by decide) (hjl : j ≠ l := by decide)
    (hx : X.env.scope.names.lookup x = some .local := by rfl) (hy : X.env.scope.names.lookup y = some .local := by rfl) (hz : X.env.scope.names.lookup z = some .local := by rfl)
    (hw : swappedStores [.Tuple [.Name x px, .Name y py, .Name z pz] kt pt] (.Tuple [a, b, c] k2 pt2) X.env = pure (some [x, y, z]) := by rfl)
    (hs : swapsWithSole [.Tuple [.Name x px, .Name y py, .Name z pz] kt pt] (.Tuple [a, b, c] k2 pt2) pos.line X.env = pure false := by rfl) :
    PS X (.Assign [.Tuple [.Name x px, .Name y py, .Name z pz] kt pt] (.Tuple [a, b, c] k2 pt2) pos) (tS X.K call W (.par3 i j l ma mb mc)) :=
  (ps_par3 hc hN hi hj hl hij hil hjl hx hy hz ha hw hs).imp fun D σ H ⟨φ, M, env, r, m, re, e, k⟩ => by
    unfold Ev.exec at e
    obtain ⟨⟨v, M1⟩, e1, e⟩ := bindE e
    obtain ⟨⟨w, M2⟩, e2, e⟩ := bindE e
    obtain ⟨⟨u, M3⟩, e3, e⟩ := bindE e
    cases e
    have ev : Ev.evals call (.cons ma (.cons mb (.cons mc .nil))) env M = some ([v, w, u], M3) := by
      unfold Ev.evals
      rw [e1]
      show bnd (Ev.evals call (.cons mb (.cons mc .nil)) env M1) _ = _
      unfold Ev.evals
      rw [e2]
      show bnd (bnd (Ev.evals call (.cons mc .nil) env M2) _) _ = _
      unfold Ev.evals
      rw [e3]
      unfold Ev.evals
      rfl
    refine tIs.then_ m re ev fun φ1 H1 us x1 m1 r1 q1 => ?_
    obtain ⟨z, t, s, rfl, q, q', q''⟩ := three_of rfl q1
    exact ⟨z, t, s, rfl, k _ _ _ x1 m1 (((r1.set q i).set q' j).set q'' l)⟩
theorem s_seti {i : Expr} {mi : E} {spos : Pos} (ha : PE X a (tI X.K call ma)) (hb : PE X b (tI X.K call mb)) (hi : PE X i (tI X.K call mi)) (hp : ∀ v, assign (.Subscript b i spos) X.env v = (do
      let ov ← holding [v] (PySem.eval b X.env)
      let iv ← holding [v, ov] (PySem.eval i X.env)
      standAt spos
      holding [v, ov, iv] (setItem ov iv v)
      release [v, ov, iv] []) := by intro _; rfl) (hs : swapsWithSole [.Subscript b i spos] a pos.line X.env = pure false := by rfl) (hw : swappedStores [.Subscript b i spos] a X.env = pure none := by rfl)
    (h1 : (assignEach [.Subscript b i spos] X.env).map (·.2) = [assign (.Subscript b i spos) X.env] := by rfl) : PS X (.Assign [.Subscript b i spos] a pos) (tS X.K call W (.seti mb mi ma)) :=
  (ps_asg ha (pg_sub hb hi set_list hp) hs hw h1).imp fun D σ H ⟨φ, M, env, r, m, re, e, k⟩ => by
    unfold Ev.exec at e
    obtain ⟨⟨v, M1⟩, e1, e⟩ := bindE e
    obtain ⟨⟨o, M2⟩, e2, e⟩ := bindE e
    cases o with
    | ref n =>
      obtain ⟨⟨y, M3⟩, e3, e⟩ := bindE e
      cases y with
      | int z =>
        simp only at e
        split at e
        · rename_i xs e4
          obtain ⟨ys, e5, e⟩ := mapE e
          subst e
          refine tI.then_ m re e1 fun φ1 H1 u x1 m1 r1 q1 => tI.then_ m1 r1 e2 fun φ2 H2 u2 x2 m2 r2 q2 => tI.then_ m2 r2 e3 fun φ3 H3 u3 x3 m3 r3 q3 => ?_
          cases q3
          cases q2 with
          | ref h2 =>
          have h3 := x3.get h2
          obtain ⟨ad, h6, vs, h7, h8⟩ := m3.at_ e4
          rw [h3] at h6
          cases h6
          obtain ⟨j, e6, e7⟩ := mapE e5
          subst e7
          refine ⟨_, vs, z, j, rfl, rfl, h7, by rw [← h8.length]; exact e6, ?_⟩
          have xs3 := xt_set (φ := φ3) (o := .lst (vs.set j u)) h7 rfl (List.mem_of_getElem? h3)
          exact k _ _ _ (x1.trans (x2.trans (x3.trans xs3))) (m3.set h7 rfl h3 (h8.set j (q1.mono (x2.trans x3)))) (r3.mono xs3)
        · cases e
      | non | bl | str | tup | lst | rol | ref | dct => cases e
    | non | bl | int | str | tup | lst | rol | dct => cases e
theorem s_exp (h : PS X (.Expr a pos) (tDrop (tI X.K call ma))) : PS X (.Expr a pos) (tS X.K call W (.exp ma)) :=
  h.imp fun D σ H ⟨φ, M, env, r, m, re, e, k⟩ => by
    unfold Ev.exec at e
    obtain ⟨⟨v, M1⟩, e1, e⟩ := bindE e
    cases e
    exact tI.then_ m re e1 fun φ1 H1 u x1 m1 r1 q1 => k _ _ _ x1 m1 r1
theorem s_ite {p q : List Stmt} {sp sq : Ss} (hc : PT X c (tT X.K call mc)) (hp : PSs X p (tSs X.K call W sp)) (hq : PSs X q (tSs X.K call W sq)) : PS X (.If c p q pos) (tS X.K call W (.ite mc sp sq)) :=
  (ps_if hc hp hq).imp fun D σ H ⟨φ, M, env, r, m, re, e, k⟩ => by
    unfold Ev.exec at e
    obtain ⟨⟨v, M1⟩, e1, e⟩ := bindE e
    rcases bifE e with ⟨t, e⟩ | ⟨t, e⟩
    · exact tT.then_ m re e1 t fun φ1 H1 x1 m1 r1 => by rw [if_pos rfl]; exact ⟨φ1, M1, env, r, m1, r1, e, k.mono x1⟩
    · exact tT.then_ m re e1 t fun φ1 H1 x1 m1 r1 => by rw [if_neg Bool.false_ne_true]; exact ⟨φ1, M1, env, r, m1, r1, e, k.mono x1⟩
theorem s_ret (ha : PE X a (tI X.K call ma)) : PS X (.Return (some a) pos) (tS X.K call W (.ret ma)) :=
  (ps_ret ha).imp fun D σ H ⟨φ, M, env, r, m, re, e, k⟩ => by
    unfold Ev.exec at e
    obtain ⟨⟨v, M1⟩, e1, e⟩ := bindE e
    cases e
    exact tI.then_ m re e1 fun φ1 H1 u x1 m1 r1 q1 => k _ _ _ x1 m1 q1
theorem s_rais {st : Stmt} : PS X st (tS X.K call W .rais) := ps_never.imp fun D σ H ⟨φ, M, env, r, m, re, e, k⟩ => by
  unfold Ev.exec at e
  cases e
theorem ss_nil : PSs X [] (tSs X.K call W .nil) := pss_nil.imp fun D σ H ⟨φ, M, env, r, m, re, e, k⟩ => by
  unfold Ev.execs at e
  cases e
  exact k _ _ _ .refl m re
theorem ss_cons {st : Stmt} {rest : List Stmt} {s : S} {ss : Ss} (h : PS X st (tS X.K call W s)) (hr : PSs X rest (tSs X.K call W ss)) : PSs X (st :: rest) (tSs X.K call W (.cons s ss)) :=
  (pss_cons h hr).imp fun D σ H ⟨φ, M, env, r, m, re, e, k⟩ => by
    unfold Ev.execs at e
    cases e1 : Ev.exec call W s env M with
    | none => rw [e1] at e; cases e
    | some r1 =>
      rw [e1] at e
      refine ⟨φ, M, env, r1, m, re, e1, ?_⟩
      cases r1 with
      | nx env1 M1 => exact fun φ' H' σ' x m' re' => ⟨φ', M1, env1, r, m', re', e, k.mono x⟩
      | rt v M1 =>
        cases e
        exact k
theorem s_for {tg iter : Expr} {body : List Stmt} {it : I} {t : T} {sb : Ss} (hp : PassesOwn (model X.prog X.w) X.A X.env X.xe) (hc : X.calm = true) (hi : PI X tg iter (tIt X.K call it)) (hg : PG X tg (gT X.K t)) (hb : PSs X body (tSs X.K call W sb))
    (hs : ∀ x, foldedSetIterable iter X.env x = pure x := by intro _; rfl) : PS X (.For tg iter body [] pos) (tS X.K call W (.for_ t it sb)) :=
  (ps_for hp hc hi hg hb hs).imp fun D σ H ⟨φ, M, env, r, m, re, e, k⟩ => by
    unfold Ev.exec at e
    obtain ⟨⟨⟨xs, g⟩, M1⟩, e1, e⟩ := bindE e
    refine ⟨φ, M, env, (xs, g), M1, m, re, e1, fun φ1 H1 J x1 m1 ok => ?_⟩
    simp only at ok e
    refine ⟨fun i n σ2 H2 => ∃ (φ2 : Ph) (M2 : Mem) (env2 : Env), i + n = xs.length ∧ Xt φ1 H1 φ2 H2 ∧ RM X.K φ2 H2 M2 ∧ RE X.K φ2 H2 env2 σ2 ∧ forL t g (Ev.execs call W sb) (xs.drop i) env2 M2 = some r,
      ⟨xs.length, φ1, M1, env, by omega, .refl, m1, re.mono x1, e⟩, ?_⟩
    rintro i n σ2 H2 ⟨φ2, M2, env2, hn, x2, m2, re2, e2⟩
    have hgd : gOk g M2 = true := by
      cases hg : gOk g M2 with
      | true => rfl
      | false =>
        cases hd : xs.drop i with
        | nil => rw [hd] at e2; unfold forL at e2; rw [hg] at e2; cases e2
        | cons a l => rw [hd] at e2; unfold forL at e2; rw [hg] at e2; cases e2
    obtain ⟨go, stop, yld⟩ := ok φ2 H2 M2 x2 m2 hgd
    by_cases hi : i < xs.length
    · refine .inr ⟨go i hi, ?_⟩
      rw [List.drop_eq_getElem_cons hi] at e2
      unfold forL at e2
      rw [hgd] at e2
      simp only at e2
      split at e2
      · rename_i env3 eb
        refine ⟨fun σ' H' => ∃ n', n' < n ∧ ∃ (φ4 : Ph) (M4 : Mem) (env4 : Env), i + 1 + n' = xs.length ∧ Xt φ1 H1 φ4 H' ∧ RM X.K φ4 H' M4 ∧ RE X.K φ4 H' env4 σ' ∧ forL t g (Ev.execs call W sb) (xs.drop (i + 1)) env4 M4 = some r, fun σ' H' h => h, fun x H3 hy => ?_⟩
        obtain ⟨v0, ev0, rv0, x3, mm⟩ := yld i x H3 hi hy
        rw [List.getElem?_eq_getElem hi] at ev0
        cases ev0
        have m3 := mm M2 m2
        refine gT_rd rv0 (re2.mono x3) eb fun σ' re' _ => ?_
        cases er : Ev.execs call W sb env3 M2 with
        | none => rw [er] at e2; cases e2
        | some r3 =>
          rw [er] at e2
          refine ⟨φ2, M2, env3, r3, m3, re', er, ?_⟩
          cases r3 with
          | nx env5 M5 => exact fun φ5 H5 σ5 x5 m5 re5 => ⟨n - 1, by omega, φ5, M5, env5, by omega, x2.trans (x3.trans x5), m5, re5, e2⟩
          | rt v M5 =>
            cases e2
            exact fun φ5 H5 u x5 m5 q5 => k _ _ _ (x1.trans (x2.trans (x3.trans x5))) m5 q5
      · cases e2
    · refine .inl ⟨stop i (by omega), ?_⟩
      rw [List.drop_eq_nil_of_le (by omega)] at e2
      unfold forL at e2
      rw [hgd] at e2
      cases e2
      exact k _ _ _ (x1.trans x2) m2 re2
theorem s_whl {body : List Stmt} {sb : Ss} (hp : PassesOwn (model X.prog X.w) X.A X.env X.xe) (hc : PT X c (tT X.K call mc)) (hb : PSs X body (tSs X.K call W sb)) : PS X (.While c body [] pos) (tS X.K call W (.whl mc sb)) :=
  (ps_while hp hc hb).imp fun D σ H ⟨φ, M, env, r, m, re, e, k⟩ => by
    unfold Ev.exec at e
    refine ⟨fun n σ2 H2 => ∃ (φ2 : Ph) (M2 : Mem) (env2 : Env), Xt φ H φ2 H2 ∧ RM X.K φ2 H2 M2 ∧ RE X.K φ2 H2 env2 σ2 ∧ whlL (fun env M => bnd (Ev.eval call mc env M) fun x M1 => (truthy M1 x).map fun k => (k, M1)) (Ev.execs call W sb) n env2 M2 = some r,
      ⟨W, φ, M, env, .refl, m, re, e⟩, ?_⟩
    rintro n σ2 H2 ⟨φ2, M2, env2, x2, m2, re2, e2⟩
    cases n with
    | zero => unfold whlL at e2; cases e2
    | succ n =>
      unfold whlL at e2
      cases ec : Ev.eval call mc env2 M2 with
      | none => rw [ec] at e2; cases e2
      | some vc =>
        obtain ⟨v, M3⟩ := vc
        rw [ec] at e2
        simp only [bnd] at e2
        cases tc : truthy M3 v with
        | none => rw [tc] at e2; cases e2
        | some b =>
          rw [tc] at e2
          refine tT.then_ m2 re2 ec tc fun φ3 H3 x3 m3 re3 => ?_
          cases b with
          | true =>
            rw [if_pos rfl]
            refine ⟨fun σ' H' => ∃ n', n' < n + 1 ∧ ∃ (φ4 : Ph) (M4 : Mem) (env4 : Env), Xt φ H φ4 H' ∧ RM X.K φ4 H' M4 ∧ RE X.K φ4 H' env4 σ' ∧ whlL (fun env M => bnd (Ev.eval call mc env M) fun x M1 => (truthy M1 x).map fun k => (k, M1)) (Ev.execs call W sb) n' env4 M4 = some r, fun σ' H' h => h, ?_⟩
            simp only [Option.map] at e2
            cases er : Ev.execs call W sb env2 M3 with
            | none => rw [er] at e2; cases e2
            | some r3 =>
              rw [er] at e2
              refine ⟨φ3, M3, env2, r3, m3, re3, er, ?_⟩
              cases r3 with
              | nx env5 M5 => exact fun φ5 H5 σ5 x5 m5 re5 => ⟨n, by omega, φ5, M5, env5, x2.trans (x3.trans x5), m5, re5, e2⟩
              | rt v M5 =>
                cases e2
                exact fun φ5 H5 u x5 m5 q5 => k _ _ _ (x2.trans (x3.trans x5)) m5 q5
          | false =>
            rw [if_neg Bool.false_ne_true]
            simp only [Option.map] at e2
            cases e2
            exact k _ _ _ (x2.trans x3) m3 re3
end
/-! ### leaving a def -/
section
variable {K : PySem.W.Frag} {φ φ' : Ph} {H H' : Hp} {M M' : Mem}
mutual
theorem under_rp {e : List Addr} {l : List Addr} (hl : ∀ a, a ∈ l → a ∈ φ.r) : ∀ {v : PV} {u : V} {c : List Addr}, φ.c = c ++ e → Rp K φ H v u → under c.length v = true → Rp K ⟨c, l⟩ H v u
  | _, _, _, _, .non, _ => .non
  | _, _, _, _, .bl b, _ => .bl b
  | _, _, _, _, .int i, _ => .int i
  | _, _, _, _, .str s, _ => .str s
  | .tup xs, _, c, hc, .tup k r, h => .tup k (unders_rp hl hc r h)
  | .lst xs, _, c, hc, .lst k n r, h => .lst k ⟨fun z => n.1 (by rw [hc]; exact List.mem_append_left _ z), fun z => n.2 (hl _ z)⟩ (unders_rp hl hc r h)
  | .rol xs, _, c, hc, .rol k r, h => .rol (by
      rcases k with ⟨o, k⟩ | ⟨k, n⟩ | k
      · exact .inl ⟨o, k⟩
      · exact .inr (.inl ⟨k, fun z => n.1 (by rw [hc]; exact List.mem_append_left _ z), fun z => n.2 (hl _ z)⟩)
      · exact .inr (.inr k)) (unders_rp hl hc r h)
  | .ref n, _, c, hc, .ref k, h => .ref (by
      have h1 : n < c.length := of_decide_eq_true h
      show c[n]? = _
      rw [hc, List.getElem?_append_left h1] at k
      exact k)
  | .dct kvs, _, c, hc, .dct k n, h => .dct k ⟨fun z => n.1 (by rw [hc]; exact List.mem_append_left _ z), fun z => n.2 (hl _ z)⟩
theorem unders_rp {e : List Addr} {l : List Addr} (hl : ∀ a, a ∈ l → a ∈ φ.r) : ∀ {v : List PV} {u : List V} {c : List Addr}, φ.c = c ++ e → Rps K φ H v u → unders c.length v = true → Rps K ⟨c, l⟩ H v u
  | _, _, _, _, .nil, _ => .nil
  | x :: xs, _, c, hc, .cons k r, h => by
    unfold unders at h
    rw [Bool.and_eq_true] at h
    exact .cons (under_rp hl hc k h.1) (unders_rp hl hc r h.2)
end
theorem underD_rp {e : List Addr} {l : List Addr} (hl : ∀ a, a ∈ l → a ∈ φ.r) {xs : List (List Int × PV)} {vs : List (List Key × V)} {c : List Addr} (hc : φ.c = c ++ e) (r : Rds K φ H xs vs) : unders c.length (xs.map (·.2)) = true → Rds K ⟨c, l⟩ H xs vs := by
  induction r with
  | nil => exact fun _ => .nil
  | cons k _ ih =>
    intro h
    rw [List.map_cons] at h
    unfold unders at h
    rw [Bool.and_eq_true] at h
    exact .cons (under_rp hl hc k h.1) (ih h.2)
theorem leave_ok {v w : PV} {u : V} (m00 : RM K φ H M) (x : Xt φ H φ' H') (m : RM K φ' H' M') (r : Rp K φ' H' v u) {M2 : Mem} (h : leave M.length v M' = some (w, M2)) : ∃ φ2, Xt φ H φ2 H' ∧ RM K φ2 H' M2 ∧ Rp K φ2 H' w u := by
  unfold leave at h
  split at h
  · cases h
    exact ⟨φ', x, m, r⟩
  · split at h
    · rename_i hall
      obtain ⟨e, he⟩ := x.pre
      have hlen : φ.c.length = M.length := m00.len
      have hx : Xt φ H φ H' := ⟨⟨[], by simp⟩, fun _ h => h, x.keep, fun _ h n => absurd h n, fun _ h n => absurd h n, x.there⟩
      have hm : RM K φ H' (M'.take M.length) := by
        refine ⟨?_, ?_, fun a ha => m.res a (x.res a ha), fun n a c h1 h2 => ?_⟩
        · have := m.len
          rw [he, List.length_append] at this
          rw [List.length_take]
          omega
        · have := m.nd
          rw [he] at this
          exact (List.nodup_append.mp this).1
        · have hn : n < φ.c.length := (List.getElem?_eq_some_iff.mp h1).1
          rw [List.getElem?_take_of_lt (by omega)] at h2
          have h1' : φ'.c[n]? = some a := x.get h1
          have h3 := m.cells n a c h1' h2
          have hmem : c ∈ M'.take M.length := by
            apply List.mem_of_getElem? (i := n)
            rw [List.getElem?_take_of_lt (by omega)]
            exact h2
          have hu := List.all_eq_true.mp hall c hmem
          cases c with
          | lst xs =>
            obtain ⟨vs, h4, h5⟩ := h3
            refine ⟨vs, h4, ?_⟩
            have hu' : unders φ.c.length xs = true := by rw [hlen]; exact hu
            exact unders_rp (l := φ.r) x.res he h5 hu'
          | dic xs =>
            obtain ⟨vs, h4, h5⟩ := h3
            refine ⟨vs, h4, ?_⟩
            have hu' : unders φ.c.length (xs.map (·.2)) = true := by rw [hlen]; exact hu
            exact underD_rp (l := φ.r) x.res he h5 hu'
          | fdi _ => cases hu
      split at h
      · rename_i hu
        cases h
        exact ⟨φ, hx, hm, under_rp (l := φ.r) x.res he r (by rw [hlen]; exact hu)⟩
      · split at h
        · rename_i k hu
          split at h
          · rename_i xs hk
            split at h
            · rename_i hxs
              cases h
              cases r with
              | @ref _ a h1 =>
              obtain ⟨a', h2, vs, h3, h4⟩ := m.at_ hk
              rw [h1] at h2
              cases h2
              have hk2 : ¬ k < M.length := fun z => hu (decide_eq_true z)
              have hnc : a ∉ φ.c := fun z => by
                obtain ⟨j, hj, ej⟩ := List.getElem_of_mem z
                have h5 : φ'.c[j]? = some a := x.get (by rw [List.getElem?_eq_getElem hj, ej])
                have := m.eq_of h1 h5
                omega
              refine ⟨φ, hx, hm, .lst h3 ⟨hnc, fun z => ?_⟩ (unders_rp (l := φ.r) x.res he h4 (by rw [hlen]; exact hxs))⟩
              obtain ⟨o, eo⟩ := m00.res a z
              have := x.fresh a (List.mem_of_getElem? h1) hnc
              rw [eo] at this
              cases this
            · cases h
          · cases h
        · cases h
    · cases h
end
end Ev

/-! Dicts whose keys are tuples of ints, as cells. -/
namespace Ev
open PySem PySem.Spec PyProof.Rows L2
/-! ### the pairs -/
section
variable {K : PySem.W.Frag} {φ φ' : Ph} {H H' : Hp} {M M' : Mem}
theorem inl_inj : ∀ {a b : List Int}, a.map (Sum.inl (β := Str)) = b.map Sum.inl → a = b
  | [], [], _ => rfl
  | x :: xs, y :: ys, h => by
    rw [List.map_cons, List.map_cons] at h
    injection h with h1 h2
    injection h1 with h1
    rw [h1, inl_inj h2]
  | [], _ :: _, h => by cases h
  | _ :: _, [], h => by cases h
theorem Rds.length {xs : List (List Int × PV)} {vs : List (List Key × V)} (r : Rds K φ H xs vs) : xs.length = vs.length := by
  induction r with
  | nil => rfl
  | cons _ _ ih => rw [List.length_cons, List.length_cons, ih]
theorem Rds.look {xs : List (List Int × PV)} {vs : List (List Key × V)} (r : Rds K φ H xs vs) {k : List Int} {z : PV} (h : lookD xs k = some z) : ∃ v, valV vs (k.map Sum.inl) = some v ∧ Rp K φ H z v := by
  induction r with
  | nil => cases h
  | @cons k0 x v xs vs hx r ih =>
    unfold lookD at h
    rw [List.find?_cons] at h
    by_cases e : k0 = k
    · subst e
      rw [decide_eq_true rfl] at h
      cases h
      exact ⟨v, valV_pos rfl, hx⟩
    · rw [decide_eq_false e] at h
      obtain ⟨u, h1, h2⟩ := ih h
      exact ⟨u, by rw [valV_neg (fun z => e (inl_inj z))]; exact h1, h2⟩
theorem Rds.any {xs : List (List Int × PV)} {vs : List (List Key × V)} (r : Rds K φ H xs vs) (k : List Int) : (xs.any fun p => decide (p.1 = k)) = (vs.any fun p => decide (p.1 = k.map Sum.inl)) := by
  induction r with
  | nil => rfl
  | @cons k0 x v xs vs hx r ih =>
    rw [List.any_cons, List.any_cons, ih]
    congr 1
    exact decide_eq_decide.mpr ⟨fun e => congrArg (List.map Sum.inl) e, fun e => inl_inj e⟩
theorem Rds.repl {xs : List (List Int × PV)} {vs : List (List Key × V)} (r : Rds K φ H xs vs) (k : List Int) {x : PV} {v : V} (q : Rp K φ H x v) : Rds K φ H (xs.map fun p => if p.1 = k then (p.1, x) else p) (vs.map fun p => if p.1 = k.map Sum.inl then (p.1, v) else p) := by
  induction r with
  | nil => exact .nil
  | @cons k0 x0 v0 xs vs hx r ih =>
    rw [List.map_cons, List.map_cons]
    by_cases e : k0 = k
    · rw [if_pos (show (k0, x0).1 = k from e), if_pos (show (k0.map (Sum.inl (β := Str)), v0).1 = k.map Sum.inl from congrArg (List.map Sum.inl) e)]
      exact .cons q ih
    · rw [if_neg (show ¬ (k0, x0).1 = k from e), if_neg (show ¬ (k0.map (Sum.inl (β := Str)), v0).1 = k.map Sum.inl from fun z => e (inl_inj z))]
      exact .cons hx ih
theorem Rds.snoc {xs : List (List Int × PV)} {vs : List (List Key × V)} (r : Rds K φ H xs vs) (k : List Int) {x : PV} {v : V} (q : Rp K φ H x v) : Rds K φ H (xs ++ [(k, x)]) (vs ++ [(k.map Sum.inl, v)]) := by
  induction r with
  | nil => exact .cons q .nil
  | cons hx r ih => exact .cons hx ih
theorem Rds.put {xs : List (List Int × PV)} {vs : List (List Key × V)} (r : Rds K φ H xs vs) (k : List Int) {x : PV} {v : V} (q : Rp K φ H x v) : Rds K φ H (putD xs k x) (putK vs (k.map Sum.inl) v) := by
  unfold putD putK
  rw [r.any k]
  split
  · exact r.repl k q
  · exact r.snoc k q
theorem Rds.key {xs : List (List Int × PV)} {vs : List (List Key × V)} (r : Rds K φ H xs vs) : ∀ {i : Nat} {k : List Key} {v : V}, vs[i]? = some (k, v) → ∃ k0 x, xs[i]? = some (k0, x) ∧ k = k0.map Sum.inl := by
  induction r with
  | nil => intro i k v h; cases h
  | @cons k0 x0 v0 xs vs hx r ih =>
    intro i k v h
    cases i with
    | zero =>
      rw [List.getElem?_cons_zero] at h
      cases h
      exact ⟨k0, x0, rfl, rfl⟩
    | succ i =>
      rw [List.getElem?_cons_succ] at h ⊢
      exact ih h
theorem ints_kV : ∀ {k : List Int} {vs : List V}, Rps K φ H (k.map PV.int) vs → vs = (k.map Sum.inl).map kV
  | [], _, .nil => rfl
  | i :: k, _, .cons h r => by
    cases h
    rw [ints_kV r]
    rfl
theorem kV_ints : ∀ (k : List Int), Rps K φ H (k.map PV.int) ((k.map Sum.inl).map kV)
  | [] => .nil
  | i :: k => .cons (.int i) (kV_ints k)
theorem intsOf_eq : ∀ {xs : List PV} {k : List Int}, intsOf xs = some k → xs = k.map PV.int
  | [], k, h => by cases h; rfl
  | .int i :: xs, k, h => by
    have h' : (intsOf xs).map (i :: ·) = some k := h
    cases e : intsOf xs with
    | none => rw [e] at h'; cases h'
    | some l =>
      rw [e] at h'
      cases h'
      rw [intsOf_eq e]; rfl
  | .non :: _, _, h | .bl _ :: _, _, h | .str _ :: _, _, h | .tup _ :: _, _, h | .lst _ :: _, _, h | .rol _ :: _, _, h | .ref _ :: _, _, h | .dct _ :: _, _, h => by cases h
theorem keyI_eq {v : PV} {k : List Int} (h : keyI v = some k) : v = keyP k := by
  cases v with
  | tup xs => rw [intsOf_eq (show intsOf xs = some k from h)]; rfl
  | non | bl | int | str | lst | rol | ref | dct => cases h
theorem dicAt_ref {v : PV} {kvs : List (List Int × PV)} (h : dicAt M v = some kvs) : ∃ n, v = .ref n ∧ (M[n]? = some (.dic kvs) ∨ M[n]? = some (.fdi kvs)) := by
  cases v with
  | ref n =>
    have h' : (match M[n]? with | some (.dic kvs) => some kvs | some (.fdi kvs) => some kvs | _ => none) = some kvs := h
    refine ⟨n, rfl, ?_⟩
    cases e : M[n]? with
    | none => rw [e] at h'; cases h'
    | some c =>
      rw [e] at h'
      cases c with
      | lst _ => cases h'
      | dic x => cases h'; exact .inl rfl
      | fdi x => cases h'; exact .inr rfl
  | non | bl | int | str | lst | rol | tup | dct => cases h
theorem dic_rd (m : RM K φ H M) {n : Nat} {a : Addr} {kvs : List (List Int × PV)} (hc : φ.c[n]? = some a) (h : M[n]? = some (.dic kvs) ∨ M[n]? = some (.fdi kvs)) : ∃ vs, Rd H a (.dT vs) ∧ Rds K φ H kvs vs := by
  rcases h with h | h
  · obtain ⟨vs, h1, h2⟩ := m.cells n a _ hc h
    exact ⟨vs, .inl h1, h2⟩
  · obtain ⟨o, vs, h1, h2⟩ := m.cells n a _ hc h
    exact ⟨vs, .inr ⟨o, h1⟩, h2⟩
end
/-! ### d[y], the key any tuple -/
def TGet (K : PySem.W.Frag) (H : Hp) (a : Addr) (y : V) (r : Option V) : Prop := ∃ kvs k b, Rd H a (.dT kvs) ∧ y = .ref b ∧ SqT K H b (k.map kV) ∧ r = valV kvs k
section
variable {X : Cx} {pins : List (Addr × Obj)} {σ : L2.St} {H : Hp} {s : Shared} {a : Addr} {y v : V} {u r : Value} {o : Option V} {A : Around} {E : Value → Shared → Prop}
theorem key_ofS {ks : List Key} (I : Inv X pins σ H s) (e : SqT X.K H a (ks.map kV)) : (tupleKind (mixKind X.prog X.w)).is s.heap ks a := by
  obtain ⟨its, rv, ⟨ob, h1, h2, n, h3⟩, _⟩ := I.tuple e
  exact ⟨ob, its.toArray, n, h1, h2, h3, by simpa using items_are rv⟩
theorem t_typeIs (I : Inv X pins σ H s) (g : TGet X.K H a y o) : s.TypeIs (.ref a) "dict" := by
  obtain ⟨kvs, k, b, e, _, _, _⟩ := g
  obtain ⟨_, _, xs, _, dd⟩ := dt_rd I.hok e
  exact dd.typeIs
theorem t_getItem {Q : Value → Shared → Prop} (hu : A.units + 1 < cLine) (I : Inv X pins σ H s) (g : TGet X.K H a y (some v)) (ry : RelV y u) (h : ∀ w' s', Inv X pins σ H s' → RelV v w' → Q w' s') :
    wpAny (model X.prog X.w) A (getItem (.ref a) u) Q E s := by
  obtain ⟨kvs, k, b, e, ey, eb, l⟩ := g
  subst ey
  cases (show u = Value.ref b from ry)
  obtain ⟨z, hd, xs, rel, dd⟩ := dt_rd I.hok e
  obtain ⟨w', hw, rw'⟩ := RelO.some_of (v := v) (o := (atKey xs k).map (·.2)) (by rw [l]; exact rel.val k)
  obtain ⟨p, hp, hp2⟩ := Option.map_eq_some_iff.mp hw
  refine wpAny_getItem_heap (tupleKind_room_in1 hu) (key_ofS I eb) dd hp ?_
  rw [hp2]
  exact h w' _ (I.tok _) rw'
end
def tTGet (K : PySem.W.Frag) (td ty : TE) : TE := fun σ H Q => td σ H fun x H1 => ty σ H1 fun y H2 => ∃ a v, x = .ref a ∧ TGet K H2 a y (some v) ∧ Q v H2
theorem pe_tget {X : Cx} {o i : Expr} {pos : Pos} {td ty : TE} (hu : X.A.units + 1 < cLine) (ho : PE X o td) (hi : PE X i ty) (hs : NoSl i) : PE X (.Subscript o i pos) (tTGet X.K td ty) := by
  refine ⟨fun pins s σ H Q I h => ?_⟩
  refine subD_of PySem.F.slot_dict_getitem.lookup hs (thn (ho.run pins s σ H _ I h) fun u s1 ⟨x, H1, I1, rx, q1⟩ => thn (hi.run pins s1 σ H1 _ I1 q1) fun iv s2 ⟨y, H2, I2, ry, a, v, ex, g, q2⟩ => ?_)
  subst ex
  obtain rfl : u = Value.ref a := rx
  exact ⟨t_typeIs I2 g, t_getItem hu I2 g ry fun w' s3 I3 rw' => ⟨v, H2, I3, rw', q2⟩⟩
section
variable {X : Cx} {call : Cl} {W : Nat} {a b c : Expr} {ma mb mc : E} {pos : Pos}
theorem i_dgt (hu : X.A.units + 1 < cLine) (ha : PE X a (tI X.K call ma)) (hb : PE X b (tI X.K call mb)) (hs : NoSl b := by intro _ _; rfl) : PE X (.Subscript a b pos) (tI X.K call (.dgt ma mb)) :=
  (pe_tget hu ha hb hs).imp fun σ H Q ⟨φ, M, env, v, M', m, r, e, k⟩ => by
    unfold Ev.eval at e
    obtain ⟨⟨x, M1⟩, e1, e⟩ := bindE e
    obtain ⟨⟨y, M2⟩, e2, e⟩ := bindE e
    obtain ⟨z, e3, e⟩ := mapE e
    cases e
    unfold dgtOp at e3
    cases ed : dicAt M2 x with
    | none => rw [ed] at e3; cases e3
    | some kvs =>
    rw [ed] at e3
    cases ek : keyI y with
    | none => rw [Option.bind_some, ek] at e3; cases e3
    | some key =>
    rw [Option.bind_some, ek] at e3
    have e4 : lookD kvs key = some v := e3
    obtain ⟨n, rfl, hn⟩ := dicAt_ref ed
    have hy := keyI_eq ek
    subst hy
    refine tI.then_ m r e1 fun φ1 H1 u x1 m1 r1 q1 => tI.then_ m1 r1 e2 fun φ2 H2 w x2 m2 r2 q2 => ?_
    cases q1.mono x2 with
    | @ref _ ad hc =>
    cases q2 with
    | @tup bd vs _ hb2 rb =>
    obtain ⟨ws, h1, h2⟩ := dic_rd m2 hc hn
    obtain ⟨t, h3, h4⟩ := h2.look e4
    have ev := ints_kV rb
    subst ev
    exact ⟨ad, t, rfl, ⟨ws, _, bd, h1, rfl, hb2, h3.symm⟩, k _ _ _ (x1.trans x2) m2 h4⟩
theorem i_ndic : PE X (.Dict [] [] pos) (tI X.K call .ndic) :=
  pe_dnewT.imp fun σ H Q ⟨φ, M, env, v, M', m, r, e, k⟩ => by
    unfold Ev.eval at e
    cases e
    intro p hp
    refine k (φ.add p) _ _ (xt_cell hp) (m.dcell hp) (.ref ?_)
    show (φ.c ++ [p])[M.length]? = some p
    rw [← m.len, List.getElem?_append_right (Nat.le_refl _)]
    simp
end
/-! ### a dict is locked while it is walked -/
section
variable {K : PySem.W.Frag} {φ φ' : Ph} {H H' : Hp} {M M' : Mem}
mutual
theorem Rp.unl {D : Addr} {ws : List (List Key × V)} {od : Obj} {o : HO} (h : H D = some (.frz od (.dT ws))) (hd : D ∈ φ.c) : ∀ {v : PV} {u : V}, Rp K φ H v u → Rp K φ (upd H D o) v u
  | _, _, .non => .non
  | _, _, .bl b => .bl b
  | _, _, .int i => .int i
  | _, _, .str s => .str s
  | _, _, .tup k r => .tup (by
      rcases k with (k | ⟨o, k⟩) | k
      · exact .inl (.inl (by rw [upd_ne (ne_of k h (by intro z; cases z))]; exact k))
      · exact .inl (.inr ⟨o, by rw [upd_ne (ne_of k h (by intro z; cases z))]; exact k⟩)
      · exact .inr k) (Rps.unl h hd r)
  | _, _, .lst k n r => .lst (by rw [upd_ne (ne_mem hd n.1)]; exact k) n (Rps.unl h hd r)
  | _, _, .rol k r => .rol (by
      rcases k with ⟨o, k⟩ | ⟨k, n⟩ | k
      · exact .inl ⟨o, by rw [upd_ne (ne_of k h (by intro z; cases z))]; exact k⟩
      · exact .inr (.inl ⟨by rw [upd_ne (ne_mem hd n.1)]; exact k, n⟩)
      · exact .inr (.inr k)) (Rps.unl h hd r)
  | _, _, .ref k => .ref k
  | _, _, .dct k n => .dct (by rw [upd_ne (ne_mem hd n.1)]; exact k) n
theorem Rps.unl {D : Addr} {ws : List (List Key × V)} {od : Obj} {o : HO} (h : H D = some (.frz od (.dT ws))) (hd : D ∈ φ.c) : ∀ {v : List PV} {u : List V}, Rps K φ H v u → Rps K φ (upd H D o) v u
  | _, _, .nil => .nil
  | _, _, .cons k r => .cons (Rp.unl h hd k) (Rps.unl h hd r)
end
theorem RM.unl (m : RM K φ H M) {D : Addr} {ws : List (List Key × V)} {od : Obj} {n : Nat} {kvs : List (List Int × PV)} (h : H D = some (.frz od (.dT ws))) (hc : φ.c[n]? = some D) (hm : M[n]? = some (.fdi kvs)) : RM K φ (upd H D (.dT ws)) (M.set n (.dic kvs)) := by
  have hd := List.mem_of_getElem? hc
  refine ⟨by rw [List.length_set]; exact m.len, m.nd, res_upd m.res, fun j b c h1 h2 => ?_⟩
  by_cases k : n = j
  · subst k
    have hn : n < M.length := (List.getElem?_eq_some_iff.mp hm).1
    rw [List.getElem?_set_self hn] at h2
    rw [hc] at h1
    cases h1; cases h2
    obtain ⟨o', vs, h3, h4⟩ := m.cells n D _ hc hm
    rw [h] at h3
    cases h3
    exact ⟨ws, upd_same, h4.imp (Rp.unl h hd)⟩
  · rw [List.getElem?_set_ne k] at h2
    have ne : b ≠ D := fun z => by
      subst z
      exact k (m.eq_of hc h1)
    have q := m.cells j b c h1 h2
    cases c with
    | lst xs =>
      obtain ⟨vs, h3, h4⟩ := q
      exact ⟨vs, by rw [upd_ne ne]; exact h3, h4.unl h hd⟩
    | dic xs =>
      obtain ⟨vs, h3, h4⟩ := q
      exact ⟨vs, by rw [upd_ne ne]; exact h3, h4.imp (Rp.unl h hd)⟩
    | fdi xs =>
      obtain ⟨o', vs, h3, h4⟩ := q
      exact ⟨o', vs, by rw [upd_ne ne]; exact h3, h4.imp (Rp.unl h hd)⟩
theorem xt_unl {D : Addr} {o fz : HO} (h : H D = some o) (hd : D ∈ φ.c) (hf : H' D = some fz) (x : Xt φ (upd H D fz) φ' H') : Xt φ H φ' (upd H' D o) := by
  refine ⟨x.pre, x.res, fun b u e c => ?_, fun b k n => ?_, fun b k n => ?_, fun b u e => ?_⟩
  · by_cases z : b = D
    · subst z
      rw [h] at e; cases e
      exact upd_same
    · rw [upd_ne z]
      exact x.keep b u (by rw [upd_ne z]; exact e) c
  · have := x.fresh b k n
    have z : b ≠ D := fun z => n (z ▸ hd)
    rw [upd_ne z] at this
    exact this
  · have := x.freshr b k n
    by_cases z : b = D
    · rw [z, upd_same] at this; cases this
    · rw [upd_ne z] at this
      exact this
  · by_cases z : b = D
    · subst z; exact ⟨_, upd_same⟩
    · obtain ⟨o', e'⟩ := x.there b u (by rw [upd_ne z]; exact e)
      exact ⟨o', by rw [upd_ne z]; exact e'⟩
end
section
variable {X : Cx} {call : Cl} {W : Nat} {a b c : Expr} {ma mb mc md : E} {pos : Pos}
theorem lck_get {i : Nat} {env : Env} {M M' : Mem} {v : PV} (e : Ev.eval call (.lck i ma) env M = some (v, M')) : ∃ n kvs M2 kvs2, env[i]? = some (some (.ref n)) ∧ M[n]? = some (.dic kvs) ∧ Ev.eval call ma env (M.set n (.fdi kvs)) = some (v, M2) ∧ M2[n]? = some (.fdi kvs2) ∧ M' = M2.set n (.dic kvs2) := by
  unfold Ev.eval at e
  split at e
  · rename_i n ei
    split at e
    · rename_i kvs en
      obtain ⟨⟨v1, M2⟩, e1, e⟩ := bindE e
      simp only at e
      split at e
      · rename_i kvs2 e2
        cases e
        exact ⟨n, kvs, M2, kvs2, ei, en, e1, e2, rfl⟩
      · cases e
    · cases e
  · cases e
theorem i_lck (i : Nat) (h : PE X a (tI X.K call ma)) : PE X a (tI X.K call (.lck i ma)) :=
  (pe_lock h).imp fun σ H Q ⟨φ, M, env, v, M', m, r, e, k⟩ => by
    obtain ⟨n, kvs, M2, kvs2, ei, en, e1, e2, rfl⟩ := lck_get e
    obtain ⟨u, hu, q⟩ := r.at_ i _ ei
    cases q with
    | @ref _ D hc =>
    obtain ⟨vs, h1, h2⟩ := m.cells n D _ hc en
    have hd := List.mem_of_getElem? hc
    refine ⟨D, .dT vs, h1, True.intro, fun od => ?_⟩
    have xl : Xt φ H φ (upd H D (.frz od (.dT vs))) := xt_set h1 rfl hd
    refine ⟨φ, M.set n (.fdi kvs), env, v, M2, m.setC xl hc ⟨od, vs, upd_same, h2.mono xl⟩, r.mono xl, e1, fun φ' H' u' x' m' q' => ?_⟩
    have hf : H' D = some (.frz od (.dT vs)) := x'.keep _ _ upd_same fun _ => rfl
    exact ⟨hf, k φ' _ u' (xt_unl h1 hd hf x') (m'.unl hf (x'.get hc) e2) (q'.unl hf (x'.sub hd))⟩
theorem it_dks {tg : Expr} (ha : PE X a (tI X.K call ma)) : PI X tg a (tIt X.K call (.dks ma)) := by
  refine ⟨fun pins s σ H R I ⟨φ, M, env, xs, M', m, r, e, k⟩ => ?_⟩
  unfold Ev.evalI at e
  obtain ⟨⟨y, M1⟩, e1, e⟩ := bindE e
  cases y with
  | ref n =>
    simp only at e
    split at e
    · rename_i kvs en
      cases e
      refine (pi_keys ha).run pins s σ H R I (tI.then_ m r e1 fun φ1 H1 u x1 m1 r1 q1 => ?_)
      cases q1 with
      | @ref _ D hc =>
      obtain ⟨o, vs, h1, h2⟩ := m1.cells n D _ hc en
      refine ⟨D, o, rfl, .inr ⟨vs, h1, k _ _ _ x1 m1 fun φ2 H2 M2 x m2 hg => ?_⟩⟩
      have h1' := x.keep _ _ h1 fun _ => rfl
      refine ⟨fun i hi => ⟨h1', by rw [List.length_map] at hi; rw [← h2.length]; exact hi⟩, fun i hi => ⟨h1', by rw [List.length_map] at hi; rw [← h2.length]; exact hi⟩, fun i z H3 hi ⟨e, kk, v, q, hk, ex, hq⟩ => ?_⟩
      subst e ex
      obtain ⟨k0, x0, h3, rfl⟩ := h2.key hk
      refine ⟨keyP k0, by rw [List.getElem?_map, h3]; rfl, .tup (.inl (.inl hq)) (kV_ints k0), .refl, fun _ m => m⟩
    · cases e
  | non | bl | int | str | tup | lst | rol | dct => cases e
theorem setd_get {mo mp mq mv : E} {env : Env} {M : Mem} {r : Ev.R} (e : Ev.exec call W (.setd mo mp mq mv) env M = some r) : ∃ v M1 n M2 i M3 j M4 kvs, Ev.eval call mv env M = some (v, M1) ∧ Ev.eval call mo env M1 = some (.ref n, M2) ∧ Ev.eval call mp env M2 = some (.int i, M3) ∧ Ev.eval call mq env M3 = some (.int j, M4) ∧ M4[n]? = some (.dic kvs) ∧ kvs.length < 16777216 ∧ r = .nx env (M4.set n (.dic (putD kvs [i, j] v))) := by
  unfold Ev.exec at e
  obtain ⟨⟨v, M1⟩, e1, ea⟩ := bindE e
  obtain ⟨⟨x, M2⟩, e2, eb⟩ := bindE ea
  obtain ⟨⟨y, M3⟩, e3, ec⟩ := bindE eb
  obtain ⟨⟨z, M4⟩, e4, ed⟩ := bindE ec
  clear e ea eb ec
  cases x with
  | ref n =>
    cases y with
    | int i =>
      cases z with
      | int j =>
        have ed' : (match M4[n]? with | some (.dic kvs) => iff_ (decide (kvs.length < 16777216)) (some (Ev.R.nx env (M4.set n (.dic (putD kvs [i, j] v))))) | _ => none) = some r := ed
        clear ed
        cases e5 : M4[n]? with
        | none => rw [e5] at ed'; cases ed'
        | some c =>
          rw [e5] at ed'
          cases c with
          | dic kvs =>
            obtain ⟨hz, e6⟩ := ifE ed'
            cases e6
            exact ⟨v, M1, n, M2, i, M3, j, M4, kvs, e1, e2, e3, e4, e5, of_decide_eq_true hz, rfl⟩
          | lst _ => cases ed'
          | fdi _ => cases ed'
      | non | bl | str | tup | lst | rol | ref | dct => cases ed
    | non | bl | str | tup | lst | rol | ref | dct => cases ed
  | non | bl | int | str | tup | lst | rol | dct => cases ed
theorem s_setd {o p q value : Expr} {mo mp mq mv : E} {pos' tpos : Pos} {kt} (hu : X.A.units + 1 < cLine) (ho : PE X o (tI X.K call mo)) (hp : PA X [p, q] (tIs X.K call (.cons mp (.cons mq .nil)))) (hv : PE X value (tI X.K call mv))
    (hs : swapsWith value (some (.Subscript o (.Tuple [p, q] kt tpos) pos')) pos.line X.env = pure false := by rfl) :
    PS X (.Assign [.Subscript o (.Tuple [p, q] kt tpos) pos'] value pos) (tS X.K call W (.setd mo mp mq mv)) :=
  (ps_dput hu ho (pe_tup hp) hv hs).imp fun D σ H ⟨φ, M, env, r, m, re, e, k⟩ => by
    obtain ⟨v, M1, n, M2, i, M3, j, M4, kvs, e1, e2, e3, e4, e5, hz, rfl⟩ := setd_get e
    have ev : Ev.evals call (.cons mp (.cons mq .nil)) env M2 = some ([.int i, .int j], M4) := by
      unfold Ev.evals
      rw [e3]
      show bnd (Ev.evals call (.cons mq .nil) env M3) _ = _
      unfold Ev.evals
      rw [e4]
      unfold Ev.evals
      rfl
    refine tI.then_ m re e1 fun φ1 H1 u1 x1 m1 r1 q1 => tI.then_ m1 r1 e2 fun φ2 H2 u2 x2 m2 r2 q2 => tIs.then_ m2 r2 ev fun φ3 H3 u3 x3 m3 r3 q3 => ?_
    obtain ⟨z1, z2, rfl, qa, qb⟩ := two_of q3
    cases qa; cases qb
    refine ⟨by show 2 ≤ sizeLine; rw [sizeLine_eq]; decide, fun t ht => ?_⟩
    cases q2 with
    | @ref _ D hc =>
    have hc3 := x3.get hc
    obtain ⟨ws, h6, h7⟩ := m3.cells n D _ hc3 e5
    have ne : D ≠ t := fun z => by rw [z, ht] at h6; cases h6
    have h6' : upd H3 t (.tup [.int i, .int j]) D = some (.dT ws) := by rw [upd_ne ne]; exact h6
    have hl : ws.length < sizeLine := by rw [← h7.length, sizeLine_eq]; exact hz
    refine ⟨D, _, rfl, DPut.t (k := [Sum.inl i, Sum.inl j]) h6' upd_same hl, ?_⟩
    have xn := xt_new (φ := φ3) (o := .tup [.int i, .int j]) ht
    have xs := xt_set (φ := φ3) (o := .dT (putK ws [Sum.inl i, Sum.inl j] u1)) h6' rfl (List.mem_of_getElem? hc3)
    have xa := x2.trans (x3.trans (xn.trans xs))
    refine k _ _ _ (x1.trans xa) ((m3.new ht).setC xs hc3 ⟨_, upd_same, ?_⟩) (r3.mono (xn.trans xs))
    exact Rds.put (h7.mono (xn.trans xs)) [i, j] (q1.mono xa)
end
end Ev

/-! Defs, the whole program. -/
namespace Ev
open PySem PySem.Spec PyProof.Rows L2
section
variable {P : Program} {w : World} {K : PySem.W.Frag} {mg : Str → Option Value} {base : Heap} {prog : List Fn} {W k : Nat}
theorem callN_get {i : Nat} {fn : Fn} {args : List PV} {M M' : Mem} {v : PV} (hp : prog[i]? = some fn) (h : callN prog W (k + 1) i args M = some (v, M')) :
    args.length = fn.params ∧ ∃ r, execs (callN prog W k) W fn.body (args.map some ++ List.replicate (fn.slots - fn.params) none) M = some r ∧
      ∃ v1 M1, (r = .rt v1 M1 ∨ ∃ env, r = .nx env M1 ∧ v1 = .non) ∧ (if fn.keep then some (v1, M1) else leave M.length v1 M1) = some (v, M') := by
  unfold callN at h
  rw [hp] at h
  simp only at h
  unfold runFn at h
  split at h
  · rename_i hl
    refine ⟨hl, ?_⟩
    cases e : execs (callN prog W k) W fn.body (args.map some ++ List.replicate (fn.slots - fn.params) none) M with
    | none => rw [e] at h; cases h
    | some r =>
      rw [e] at h
      cases r with
      | nx env M1 => exact ⟨_, rfl, .non, M1, .inr ⟨env, rfl, rfl⟩, h⟩
      | rt v1 M1 => exact ⟨_, rfl, v1, M1, .inl rfl, h⟩
  · cases h
theorem start_re {φ : Ph} {H : Hp} {args : List PV} {vs : List V} {N : List Str} {n p : Nat} (r : Rps K φ H args vs) (h1 : n = N.length) (h2 : p = args.length) : RE K φ H (args.map some ++ List.replicate (n - p) none) (L2.start N vs) := by
  unfold L2.start
  have hl := r.length
  refine ⟨by rw [List.length_append, List.length_append, List.length_map, List.length_map, List.length_replicate, List.length_replicate]; omega, fun i v e => ?_⟩
  by_cases hi : i < args.length
  · rw [List.getElem?_append_left (by rw [List.length_map]; exact hi), List.getElem?_map, List.getElem?_eq_getElem hi] at e
    cases e
    obtain ⟨u, h3, h4⟩ := r.get (List.getElem?_eq_getElem hi)
    exact ⟨u, by rw [List.getElem?_append_left (by rw [List.length_map, ← hl]; exact hi), List.getElem?_map, h3]; rfl, h4⟩
  · rw [List.getElem?_append_right (by rw [List.length_map]; omega)] at e
    have := List.mem_of_getElem? e
    have := List.eq_of_mem_replicate this
    cases this
/-- a def keeps the interpreter's promise -/
theorem fn_ok {x : Str} {st : Stmt} {f : Addr} {fd : FuncData} {N ps : List Str} {i : Nat} {fn : Fn} (F : L2.Fun K x x st f fd) (S : FnScope N ps (defScope st)) (hp : prog[i]? = some fn) (h1 : fn.slots = N.length) (h2 : fn.params = ps.length)
    (body : ∀ (cdv : Value) (A : Around) (outer : List PySem.Env) (s : Shared) (H : Hp) (E : XK), Room k (A.deeper (envOfC x (defScope st) s.heap.objs.size f cdv)) → PSs (cxOf CX0 P w K mg base N x (defScope st) f cdv A outer s H E).nox (defBody st) (tSs K (callN prog W k) W fn.body)) :
    FnOk P w K mg base CX0 (k + 1) f fd ps (spC K (callN prog W (k + 1)) i) := by
  refine F.ok S (fun vs H Q E h => ?_) (fun cdv A outer s H vs Q E hr h => ⟨_, body cdv A outer s H E hr, ?_⟩)
  · obtain ⟨φ, M, args, v, M', m, r, e, _⟩ := h
    obtain ⟨hl, _⟩ := callN_get hp e
    rw [← r.length, hl, h2]
  · obtain ⟨φ, M, args, v, M', m, r, e, kk⟩ := h
    obtain ⟨hl, res, e1, v1, M1, hr1, e2⟩ := callN_get hp e
    refine ⟨φ, M, _, res, m, start_re r h1 hl.symm, e1, ?_⟩
    have fin : ∀ φ' H' u, Xt φ H φ' H' → RM K φ' H' M1 → Rp K φ' H' v1 u → Q u H' := fun φ' H' u x' m' q' => by
      cases hk : fn.keep with
      | true =>
        rw [hk, if_pos rfl] at e2
        cases e2
        exact kk φ' H' u x' m' q'
      | false =>
        rw [hk, if_neg Bool.false_ne_true] at e2
        obtain ⟨φ2, x2, m2, q2⟩ := leave_ok m x' m' q' e2
        exact kk φ2 H' u x2 m2 q2
    rcases hr1 with rfl | ⟨env, rfl, rfl⟩
    · exact fin
    · exact fun φ' H' σ' x' m' _ => fin φ' H' .non x' m' .non
end
/-- what the top has left: the defs' names by index, the constants, the built-ins' names -/
structure Top (P : Program) (w : World) (K : PySem.W.Frag) (mg : Str → Option Value) (base : Heap) (prog : List Fn) (W k : Nat) (names : List Str) (consts : List (Str × PV)) (blts : List Str) : Prop where
  cal : ∀ (i : Nat) (x : Str), names[i]? = some x → Cal P w K mg base k x (spC K (callN prog W k) i)
  con : ∀ (i : Nat) (x : Str) (v : PV), consts[i]? = some (x, v) → ∃ z u, mg x = some u ∧ RelV z u ∧ Con K v z
  blt : ∀ (i : Nat) (x : Str), blts[i]? = some x → mg x = none
/-- a def of the text -/
def DefOf (K : PySem.W.Frag) (mg : Str → Option Value) (x : Str) (st : Stmt) : Prop := ∃ (f : Addr) (fd : FuncData), mg x = some (.ref f) ∧ L2.Fun K x x st f fd
theorem def_mk {K : PySem.W.Frag} {h : Heap} {mg : Str → Option Value} {x : Str} {st : Stmt} {f : Addr} {oc : Value} {od an : Option Addr} {osl : Array (Option Value)} {kV doc pm cdv ct : Value} (X : K.In h) (G : h.Ns mainGlobals mg)
    (a : PySem.W.nsIn K mainGlobals x = some (some (.ref f))) (l : K.lookup f = some ⟨oc, od, .func (PySem.W.fnOf x x (defArgs st) (defBody st) (defScope st) .none kV doc pm an cdv ct), osl⟩)
    (c : PySem.W.codeIn K cdv x = true) (k : PySem.W.keepIn K (.ref f) = true) : DefOf K mg x st := ⟨f, _, PySem.W.mg_of X G a, L2.fun_mk l c k⟩
section
variable {P : Program} {w : World} {K : PySem.W.Frag} {mg : Str → Option Value} {base : Heap} {prog : List Fn} {W k : Nat}
/-- how the arguments bind, whatever the def's object -/
abbrev BindsP (st : Stmt) (x : Str) (ps : List Str) : Prop := ∀ (kV doc pm : Value) (an : Option Addr) (cdv ct : Value) (us : List Value), us.length = ps.length → bindArgs (PySem.W.fnOf x x (defArgs st) (defBody st) (defScope st) .none kV doc pm an cdv ct) ⟨us, []⟩ = pure (ps.zip us)
theorem cal_zero {x : Str} {st : Stmt} {ps : List Str} {i : Nat} (d : DefOf K mg x st) (b : BindsP st x ps) : Cal P w K mg base 0 x (spC K (callN prog W 0) i) := by
  obtain ⟨f, fd, h1, F⟩ := d
  refine ⟨f, fd, ps, ⟨fun vs H Q E h => ?_, fun A outer s H args us vs Q E _ _ _ _ h => ?_⟩, h1, F.kp, F.binds b⟩
  · obtain ⟨φ, M, args, v, M', m, r, e, _⟩ := h
    unfold callN at e
    cases e
  · obtain ⟨φ, M, args, v, M', m, r, e, _⟩ := h
    unfold callN at e
    cases e
theorem cal_succ {x : Str} {st : Stmt} {N ps : List Str} {i : Nat} {fn : Fn} (d : DefOf K mg x st) (b : BindsP st x ps) (S : FnScope N ps (defScope st)) (hp : prog[i]? = some fn) (h1 : fn.slots = N.length) (h2 : fn.params = ps.length)
    (body : ∀ (f : Addr) (cdv : Value) (A : Around) (outer : List PySem.Env) (s : Shared) (H : Hp) (E : XK), Room k (A.deeper (envOfC x (defScope st) s.heap.objs.size f cdv)) → PSs (cxOf CX0 P w K mg base N x (defScope st) f cdv A outer s H E).nox (defBody st) (tSs K (callN prog W k) W fn.body)) :
    Cal P w K mg base (k + 1) x (spC K (callN prog W (k + 1)) i) := by
  obtain ⟨f, fd, e1, F⟩ := d
  exact ⟨f, fd, ps, fn_ok F S hp h1 h2 (body f), e1, F.kp, F.binds b⟩
end
section
variable {X : Cx} {call : Cl} {pos : Pos}
theorem i_con {x : Str} {v : PV} (hg : Gl X x) (h : ∃ z u, X.mg x = some u ∧ RelV z u ∧ Con X.K v z) (hd : (x == ("__debug__" : Str)) = false := by decide) : PE X (.Name x pos) (tI X.K call (.cst v)) := by
  obtain ⟨z, u, h1, h2, h3⟩ := h
  exact i_glob hg h1 h2 h3 hd
end
/-- constants -/
theorem con_int {K : PySem.W.Frag} (i : Int) : Con K (.int i) (.int i) := fun _ _ => .int i
theorem con_str {K : PySem.W.Frag} (s : Str) : Con K (.str s) (.str s) := fun _ _ => .str s
inductive Cons (K : PySem.W.Frag) : List PV → List V → Prop
  | nil : Cons K [] []
  | cons {v : PV} {z : V} {vs : List PV} {zs : List V} : Con K v z → Cons K vs zs → Cons K (v :: vs) (z :: zs)
theorem Cons.rps {K : PySem.W.Frag} {vs : List PV} {zs : List V} (h : Cons K vs zs) (φ : Ph) (H : Hp) : Rps K φ H vs zs := by
  induction h with
  | nil => exact .nil
  | cons h _ ih => exact .cons (h φ H) ih
theorem con_tup {K : PySem.W.Frag} {vs : List PV} {zs : List V} {a : Addr} {od : Option Addr} {its : Array Value} {n : Nat} {sl : Array (Option Value)} (hk : K.lookup a = some ⟨.type "tuple", od, .seq its n, sl⟩) (hz : its.size ≤ sizeLine) (hv : Vals zs its.toList) (h : Cons K vs zs) : Con K (.tup vs) (.ref a) :=
  fun φ H => .tup (.inr ⟨_, its, n, hk, rfl, rfl, hz, hv⟩) (h.rps φ H)
inductive ConVals (K : PySem.W.Frag) : List PV → List Value → Prop
  | nil : ConVals K [] []
  | cons {v : PV} {u : Value} {vs : List PV} {us : List Value} : (∃ z, RelV z u ∧ Con K v z) → ConVals K vs us → ConVals K (v :: vs) (u :: us)
theorem ConVals.split {K : PySem.W.Frag} {vs : List PV} {us : List Value} (h : ConVals K vs us) : ∃ zs, Vals zs us ∧ Cons K vs zs := by
  induction h with
  | nil => exact ⟨[], .nil, .nil⟩
  | cons h _ ih =>
    obtain ⟨z, h1, h2⟩ := h
    obtain ⟨zs, h3, h4⟩ := ih
    exact ⟨z :: zs, .cons h1 h3, .cons h2 h4⟩
theorem con_tupR {K : PySem.W.Frag} {vs : List PV} {a : Addr} {od : Option Addr} {its : Array Value} {n : Nat} {sl : Array (Option Value)} (hk : K.lookup a = some ⟨.type "tuple", od, .seq its n, sl⟩) (h : ConVals K vs its.toList) (hz : its.size ≤ sizeLine) : Con K (.tup vs) (.ref a) := by
  obtain ⟨zs, h1, h2⟩ := h.split
  exact con_tup hk hz h1 h2
def absP : Value → Option PV
  | .int i _ => some (.int i)
  | .str s _ => some (.str s)
  | .bool b => some (.bl b)
  | .none => some .non
  | _ => none
theorem absP_con {K : PySem.W.Frag} {u : Value} {v : PV} (h : absP u = some v) : ∃ z, RelV z u ∧ Con K v z := by
  unfold absP at h
  split at h <;> cases h
  · exact ⟨.int _, ⟨_, rfl⟩, fun _ _ => .int _⟩
  · exact ⟨.str _, ⟨_, rfl⟩, fun _ _ => .str _⟩
  · exact ⟨.bl _, rfl, fun _ _ => .bl _⟩
  · exact ⟨.non, rfl, fun _ _ => .non⟩
theorem absPs_con {K : PySem.W.Frag} : ∀ {us : List Value} {vs : List PV}, us.map absP = vs.map some → ConVals K vs us
  | [], [], _ => .nil
  | u :: us, v :: vs, h => by
    rw [List.map_cons, List.map_cons] at h
    injection h with h1 h2
    exact .cons (absP_con h1) (absPs_con h2)
  | [], v :: vs, h => by cases h
  | u :: us, [], h => by cases h
theorem con_tupA {K : PySem.W.Frag} {vs : List PV} {a : Addr} {od : Option Addr} {its : Array Value} {n : Nat} {sl : Array (Option Value)} (hk : K.lookup a = some ⟨.type "tuple", od, .seq its n, sl⟩) (e : its.toList.map absP = vs.map some) (hz : its.size ≤ sizeLine) : Con K (.tup vs) (.ref a) :=
  con_tupR hk (absPs_con e) hz
theorem con_of {K : PySem.W.Frag} {h : Heap} {mg : Str → Option Value} {x : Str} {v : PV} {z : V} {u : Value} (X : K.In h) (G : h.Ns mainGlobals mg) (a : PySem.W.nsIn K mainGlobals x = some (some u)) (r : RelV z u) (c : Con K v z) : ∃ z u, mg x = some u ∧ RelV z u ∧ Con K v z :=
  ⟨z, u, PySem.W.mg_of X G a, r, c⟩
theorem con_ofI {K : PySem.W.Frag} {h : Heap} {mg : Str → Option Value} {x : Str} {i : Int} {t : Tok} (X : K.In h) (G : h.Ns mainGlobals mg) (a : PySem.W.nsIn K mainGlobals x = some (some (.int i t))) : ∃ z u, mg x = some u ∧ RelV z u ∧ Con K (.int i) z := con_of (z := .int i) X G a ⟨t, rfl⟩ (con_int i)
theorem con_ofS {K : PySem.W.Frag} {h : Heap} {mg : Str → Option Value} {x : Str} {i : Str} {t : Tok} (X : K.In h) (G : h.Ns mainGlobals mg) (a : PySem.W.nsIn K mainGlobals x = some (some (.str i t))) : ∃ z u, mg x = some u ∧ RelV z u ∧ Con K (.str i) z := con_of (z := .str i) X G a ⟨t, rfl⟩ (con_str i)
theorem blk_ok {N : List Str} {sc scope : Scope} {own : List (Str × Nat)} (h : blkC N sc scope own = true) : blkC N sc scope own = true := h
/-- the built-ins' names -/
theorem bb_abs : bootBuiltins "abs" = some (.builtin "abs") := by decide +kernel
theorem bb_len : bootBuiltins "len" = some (.builtin "len") := by decide +kernel
theorem bb_sum : bootBuiltins "sum" = some (.builtin "sum") := by decide +kernel
theorem bb_all : bootBuiltins "all" = some (.builtin "all") := by decide +kernel
theorem bb_any : bootBuiltins "any" = some (.builtin "any") := by decide +kernel
theorem bb_max : bootBuiltins "max" = some (.builtin "max") := by decide +kernel
theorem bb_sorted : bootBuiltins "sorted" = some (.builtin "sorted") := by decide +kernel
theorem bb_min : bootBuiltins "min" = some (.builtin "min") := by decide +kernel
theorem bb_int : bootBuiltins "int" = some (.type "int") := by decide +kernel
theorem bb_bool : bootBuiltins "bool" = some (.type "bool") := by decide +kernel
theorem bb_str : bootBuiltins "str" = some (.type "str") := by decide +kernel
theorem bb_tuple : bootBuiltins "tuple" = some (.type "tuple") := by decide +kernel
theorem bb_list : bootBuiltins "list" = some (.type "list") := by decide +kernel
/-- the law's call, from its promise -/
theorem law_sp {K : PySem.W.Frag} {call : Cl} {i : Nat} {H : Hp} {a : Addr} {ns : List Int} {M' : Mem} (hS : SqL K H a (ns.map V.int)) (h : call i [.rol (ns.map PV.int)] [] = some (.bl true, M')) : spC K call i [.ref a] H (fun v _ => v = .bl true) fun _ _ _ => False := by
  have hr : ∀ ms : List Int, Rps K ⟨[], []⟩ H (ms.map PV.int) (ms.map V.int) := fun ms => by
    induction ms with
    | nil => exact .nil
    | cons x xs ih => exact .cons (.int x) ih
  have hR : RolAt K ⟨[], []⟩ H a (ns.map V.int) := by
    rcases hS with (h | ⟨o, h⟩) | h
    · exact .inr (.inl ⟨h, by simp, by simp⟩)
    · exact .inl ⟨o, h⟩
    · exact .inr (.inr h)
  refine ⟨⟨[], []⟩, [], [.rol (ns.map PV.int)], .bl true, M', ⟨rfl, by simp, fun a h => by simp at h, fun n a c h => by simp at h⟩, .cons (.rol hR (hr ns)) .nil, h, fun φ' H' u x m q => ?_⟩
  cases q
  rfl
end Ev

/-! The plain side: how the interpreter's steps reduce; fractions; loops. -/
namespace Ev
section
variable {α β : Type} {M M' : Mem} {env : Env}
theorem bnd_some (a : α) (M : Mem) (f : α → Mem → Option β) : bnd (some (a, M)) f = f a M := rfl
theorem bnd_none (f : α → Mem → Option β) : bnd none f = none := rfl
theorem bifb_t (x y : Option β) : bifb (some true) x y = x := rfl
theorem bifb_f (x y : Option β) : bifb (some false) x y = y := rfl
theorem bifb_d {p : Prop} [Decidable p] (x y : Option β) : bifb (some (decide p)) x y = if p then x else y := by
  by_cases h : p
  · rw [decide_eq_true h, if_pos h]; rfl
  · rw [decide_eq_false h, if_neg h]; rfl
theorem bifb_b (b : Bool) (x y : Option β) : bifb (some b) x y = if b = true then x else y := by cases b <;> rfl
theorem iff_t (x : Option β) : iff_ true x = x := rfl
theorem iff_d {p : Prop} [Decidable p] (x : Option β) : iff_ (decide p) x = if p then x else none := by
  by_cases h : p
  · rw [decide_eq_true h, if_pos h]; rfl
  · rw [decide_eq_false h, if_neg h]; rfl
theorem nxt_nx (env : Env) (M : Mem) (f : Env → Mem → Option R) : nxt (some (.nx env M)) f = f env M := rfl
theorem nxt_rt (v : PV) (M : Mem) (f : Env → Mem → Option R) : nxt (some (.rt v M)) f = some (.rt v M) := rfl
theorem addOp_ii (i j : Int) : addOp M (.int i) (.int j) = some (.int (i + j)) := rfl
theorem addOp_tt (xs ys : List PV) : addOp M (.tup xs) (.tup ys) = if decide (xs.length + ys.length ≤ PySem.sizeLine) then some (.tup (xs ++ ys)) else none := rfl
theorem addOp_ll (xs ys : List PV) : addOp M (.lst xs) (.lst ys) = if decide (xs.length + ys.length ≤ PySem.sizeLine) then some (.lst (xs ++ ys)) else none := rfl
theorem subOp_ii (i j : Int) : subOp (.int i) (.int j) = some (.int (i - j)) := rfl
theorem mulOp_ii (i j : Int) : mulOp M (.int i) (.int j) = if mulOk i j then some (.int (i * j)) else none := rfl
theorem fdivOp_ii (i j : Int) : fdivOp (.int i) (.int j) = if divOk i j then some (.int (i.fdiv j)) else none := rfl
theorem modOp_ii (i j : Int) : modOp (.int i) (.int j) = if decide (j ≠ 0) then some (.int (i.fmod j)) else none := rfl
theorem cmpLt_ii (i j : Int) : cmpLt (.int i) (.int j) = some (decide (i < j)) := rfl
theorem cmpI_ii (p : Int → Int → Bool) (i j : Int) : cmpI p (.int i) (.int j) = some (p i j) := rfl
theorem tru_bl (b : Bool) : truthy M (.bl b) = some b := rfl
theorem tru_int (i : Int) : truthy M (.int i) = some (i != 0) := rfl
theorem absB_i (i : Int) : absB [.int i] = some (.int (if i < 0 then -i else i)) := rfl
theorem intB_i (i : Int) : intB [.int i] = some (.int i) := rfl
theorem asM_int (f : Bool) (i : Int) : asM f (.int i) M = (.int i, M) := by cases f <;> rfl
theorem asM_bl (f : Bool) (i : Bool) : asM f (.bl i) M = (.bl i, M) := by cases f <;> rfl
theorem asM_tup (f : Bool) (xs : List PV) : asM f (.tup xs) M = (.tup xs, M) := by cases f <;> rfl
theorem asM_false (v : PV) : asM false v M = (v, M) := rfl
theorem asM_lst (xs : List PV) : asM true (.lst xs) M = (.ref M.length, M ++ [.lst xs]) := rfl
theorem isOp_n (a : PV) : isOp a .non = some (isNon a) := by cases a <;> rfl
theorem isOp_bb (a b : Bool) : isOp (.bl a) (.bl b) = some (decide (a = b)) := rfl
theorem setAll_nil (vs : List PV) : setAll env [] vs = env := by unfold setAll; rfl
theorem setAll_cons (i : Nat) (is : List Nat) (v : PV) (vs : List PV) : setAll env (i :: is) (v :: vs) = setAll (env.set i (some v)) is vs := rfl
theorem bindT_nm (i : Nat) (v : PV) : bindT (.nm i) v env = some (env.set i (some v)) := rfl
theorem bindT_tp (is : List Nat) (vs : List PV) : bindT (.tp is) (.tup vs) env = if decide (vs.length = is.length) then some (setAll env is vs) else none := rfl
end
theorem bindT_ls0 (is : List Nat) (vs : List PV) (env : Env) : bindT (.ls is) (.lst vs) env = if decide (vs.length = is.length) then some (setAll env is vs) else none := rfl
/-- the end of a def -/
def fin (keep : Bool) (n : Nat) (r : Option R) : Option (PV × Mem) := match r with
  | some (.rt v M1) => if keep then some (v, M1) else leave n v M1
  | some (.nx _ M1) => if keep then some (.non, M1) else leave n .non M1
  | none => none
theorem fin_rt (n : Nat) (v : PV) (M : Mem) : fin false n (some (.rt v M)) = leave n v M := rfl
theorem fin_nx (n : Nat) (e : Env) (M : Mem) : fin false n (some (.nx e M)) = leave n .non M := rfl
theorem leave_same (v : PV) (M : Mem) : leave M.length v M = some (v, M) := by unfold leave; rw [if_pos rfl]
theorem leave_len {n : Nat} {v : PV} {M : Mem} (h : M.length = n) : leave n v M = some (v, M) := by unfold leave; rw [if_pos h]
/-! ### sizes -/
def lt2 (n : Nat) (x : Int) : Prop := x.natAbs < 2 ^ n
theorem lt2.mono {n m : Nat} {x : Int} (h : lt2 n x) (hm : n ≤ m) : lt2 m x := Nat.lt_of_lt_of_le h (Nat.pow_le_pow_right (by decide) hm)
theorem log2_lt {n : Nat} {x : Nat} (h0 : 0 < n) (h : x < 2 ^ n) : x.log2 < n := PySem.Flt.log2_lt_of h0 h
theorem mulOk_of {a b : Nat} {x y : Int} (hx : lt2 a x) (hy : lt2 b y) (h : a + b ≤ 999990) : mulOk x y = true := by
  unfold mulOk
  rw [Bool.or_eq_true]
  right
  have h1 := log2_lt (Nat.succ_pos a) (hx.mono (Nat.le_succ a))
  have h2 := log2_lt (Nat.succ_pos b) (hy.mono (Nat.le_succ b))
  exact decide_eq_true (by omega)
theorem mulOk_small {x y : Int} (h : (-(2 ^ 64) < y ∧ y < 2 ^ 64)) : mulOk x y = true := by
  unfold mulOk
  rw [Bool.or_eq_true]
  left
  exact decide_eq_true (.inr h)
theorem mulOk_smallL {x y : Int} (h : (-(2 ^ 64) < x ∧ x < 2 ^ 64)) : mulOk x y = true := by
  unfold mulOk
  rw [Bool.or_eq_true]
  left
  exact decide_eq_true (.inl h)
theorem divOk_of {n : Nat} {x y : Int} (h0 : y ≠ 0) (hy : lt2 n y) (hn : n ≤ 8990) : divOk x y = true := by
  unfold divOk
  rw [Bool.and_eq_true]
  have h2 := log2_lt (Nat.succ_pos n) (hy.mono (Nat.le_succ n))
  exact ⟨decide_eq_true h0, decide_eq_true (by omega)⟩
theorem lt2.mul {a b : Nat} {x y : Int} (hx : lt2 a x) (hy : lt2 b y) : lt2 (a + b) (x * y) := by
  unfold lt2
  rw [Int.natAbs_mul, Nat.pow_add]
  exact Nat.mul_lt_mul'' hx hy
theorem lt2.add {a : Nat} {x y : Int} (hx : lt2 a x) (hy : lt2 a y) : lt2 (a + 1) (x + y) := by
  unfold lt2 at *
  rw [Nat.pow_succ]
  omega
theorem lt2.sub {a : Nat} {x y : Int} (hx : lt2 a x) (hy : lt2 a y) : lt2 (a + 1) (x - y) := by
  unfold lt2 at *
  rw [Nat.pow_succ]
  omega
/-! ### Euclid's loop -/
theorem whl_gcd (ε : Int → Int → Env) (c : Env → Mem → Option (Bool × Mem)) (body : Env → Mem → Option R) (M : Mem) (hc : ∀ a b : Int, c (ε a b) M = some (decide (b ≠ 0), M))
    (hb : ∀ a b : Int, b ≠ 0 → body (ε a b) M = some (.nx (ε b (a.fmod b)) M)) : ∀ (m n : Nat) (a b : Nat), b < 2 ^ m → 2 * m + 1 ≤ n → whlL c body n (ε a b) M = some (.nx (ε (Nat.gcd a b : Nat) 0) M)
  | m, 0, a, b, _, hn => absurd hn (by omega)
  | m, n + 1, a, b, hm, hn => by
    unfold whlL
    rw [hc]
    by_cases h0 : b = 0
    · subst h0
      rw [Nat.gcd_zero_right]
      simp
    · have hb' : ((b : Nat) : Int) ≠ 0 := by omega
      rw [decide_eq_true hb']
      simp only [hb _ _ hb']
      have e1 : ((a : Nat) : Int).fmod ((b : Nat) : Int) = ((a % b : Nat) : Int) := by
        rw [Int.fmod_eq_emod_of_nonneg _ (by omega)]
        simp
      rw [e1]
      by_cases h1 : a % b = 0
      · cases n with
        | zero => 
          have : m ≠ 0 := fun z => by subst z; simp at hm; omega
          omega
        | succ n =>
          unfold whlL
          rw [hc, h1]
          have : Nat.gcd a b = b := by
            rw [Nat.gcd_comm, Nat.gcd_rec, h1, Nat.gcd_zero_left]
          rw [this]
          simp
      · cases m with
        | zero => simp at hm; omega
        | succ m =>
        cases n with
        | zero => omega
        | succ n =>
          unfold whlL
          rw [hc]
          have hr : ((a % b : Nat) : Int) ≠ 0 := by omega
          rw [decide_eq_true hr]
          simp only [hb _ _ hr]
          have e2 : ((b : Nat) : Int).fmod ((a % b : Nat) : Int) = ((b % (a % b) : Nat) : Int) := by
            rw [Int.fmod_eq_emod_of_nonneg _ (by omega)]
            simp
          rw [e2]
          have hlt : a % b < b := Nat.mod_lt _ (by omega)
          have hlt2 : b % (a % b) < a % b := Nat.mod_lt _ (by omega)
          have hle : a % b + b % (a % b) ≤ b := by
            have h3 := Nat.mod_add_div b (a % b)
            have h4 : 1 ≤ b / (a % b) := Nat.div_pos (Nat.le_of_lt hlt) (by omega)
            have h5 : (a % b) * 1 ≤ (a % b) * (b / (a % b)) := Nat.mul_le_mul_left _ h4
            omega
          rw [Nat.pow_succ] at hm
          have := whl_gcd ε c body M hc hb m n (a % b) (b % (a % b)) (by omega) (by omega)
          rw [this]
          rw [show Nat.gcd a b = Nat.gcd (a % b) (b % (a % b)) by rw [Nat.gcd_comm a b, Nat.gcd_rec b a, Nat.gcd_rec (a % b) b, Nat.gcd_comm]]
/-! ### fractions -/
def fr (q : Rat) : PV := .tup [.int q.num, .int (q.den : Int)]
def sgn (b : Int) : Int := if b > 0 then 1 else -1
theorem low_num {a b s : Int} (hb : b ≠ 0) (hs : s = b.sign) : a.fdiv ((Int.gcd a b : Nat) * s) = (Rat.divInt a b).num ∧ b.fdiv ((Int.gcd a b : Nat) * s) = ((Rat.divInt a b).den : Int) := by
  have hg : 0 < Int.gcd a b := Int.gcd_pos_of_ne_zero_right a hb
  obtain ⟨x, hx⟩ := Int.gcd_dvd_left a b
  obtain ⟨y, hy⟩ := Int.gcd_dvd_right a b
  have hss : s * s = 1 := by
    rcases Int.lt_or_gt_of_ne hb with h | h
    · rw [hs, Int.sign_eq_neg_one_of_neg h]; rfl
    · rw [hs, Int.sign_eq_one_of_pos h]; rfl
  generalize hG : Int.gcd a b = g at *
  have hg' : (g : Int) ≠ 0 := by omega
  have hgs : (g : Int) * s ≠ 0 := fun z => by
    rcases Int.mul_eq_zero.mp z with z | z
    · exact hg' z
    · rw [z] at hss; cases hss
  have div (z w : Int) (h : z = (g : Int) * w) : z.fdiv ((g : Int) * s) = s * w := by
    have h2 : z = ((g : Int) * s) * (s * w) := by
      rw [Int.mul_assoc, ← Int.mul_assoc s s w, hss, Int.one_mul]; exact h
    rw [Int.fdiv_eq_ediv_of_dvd ⟨s * w, h2⟩, h2]
    exact Int.mul_ediv_cancel_left _ hgs
  rw [div a x hx, div b y hy, Rat.num_divInt, Rat.den_divInt, if_neg hb, Int.gcd_comm b a, hG, ← hs]
  constructor
  · rw [hx, ← Int.mul_assoc, Int.mul_comm s (g : Int), Int.mul_assoc, Int.mul_ediv_cancel_left _ hg']
  · have h1 : b.natAbs = g * y.natAbs := by
      rw [hy, Int.natAbs_mul]
      rfl
    rw [h1, Nat.mul_div_cancel_left _ hg]
    rcases Int.lt_or_gt_of_ne hb with h | h
    · rw [hs, Int.sign_eq_neg_one_of_neg h]
      have : y < 0 := by
        rcases Int.lt_or_gt_of_ne (show y ≠ 0 from fun z => by rw [z, Int.mul_zero] at hy; exact hb hy) with h1 | h1
        · exact h1
        · have := Int.mul_pos (show (0 : Int) < g by omega) h1
          omega
      omega
    · rw [hs, Int.sign_eq_one_of_pos h]
      have : 0 < y := by
        rcases Int.lt_or_gt_of_ne (show y ≠ 0 from fun z => by rw [z, Int.mul_zero] at hy; exact hb hy) with h1 | h1
        · have := Int.mul_neg_of_pos_of_neg (show (0 : Int) < g by omega) h1
          omega
        · exact h1
      omega
/-- the reduced form is no greater -/
theorem low_le (a b : Int) (hb : b ≠ 0) : (Rat.divInt a b).num.natAbs ≤ a.natAbs ∧ (Rat.divInt a b).den ≤ b.natAbs := by
  rw [Rat.num_divInt, Rat.den_divInt, if_neg hb]
  constructor
  · rw [Int.natAbs_ediv_of_dvd (by
      rw [Int.gcd_comm]
      exact Int.dvd_mul_of_dvd_right (Int.gcd_dvd_left a b)), Int.natAbs_mul]
    have : b.sign.natAbs ≤ 1 := by
      rcases Int.lt_or_gt_of_ne hb with h | h
      · rw [Int.sign_eq_neg_one_of_neg h]; decide
      · rw [Int.sign_eq_one_of_pos h]; decide
    calc b.sign.natAbs * a.natAbs / ((b.gcd a : Nat) : Int).natAbs ≤ b.sign.natAbs * a.natAbs := Nat.div_le_self _ _
      _ ≤ 1 * a.natAbs := Nat.mul_le_mul_right _ this
      _ = a.natAbs := Nat.one_mul _
  · exact Nat.div_le_self _ _
/-- num and den below 2 ^ n -/
def sm (n : Nat) (q : Rat) : Prop := lt2 n q.num ∧ q.den < 2 ^ n
theorem sm.mono {n m : Nat} {q : Rat} (h : sm n q) (hm : n ≤ m) : sm m q := ⟨h.1.mono hm, Nat.lt_of_lt_of_le h.2 (Nat.pow_le_pow_right (by decide) hm)⟩
theorem sm.den {n : Nat} {q : Rat} (h : sm n q) : lt2 n (q.den : Int) := by
  unfold lt2
  rw [Int.natAbs_natCast]
  exact h.2
theorem sm_low {n : Nat} {a b : Int} (ha : lt2 n a) (hb : lt2 n b) (h0 : b ≠ 0) : sm n (Rat.divInt a b) := by
  obtain ⟨h1, h2⟩ := low_le a b h0
  exact ⟨Nat.lt_of_le_of_lt h1 ha, Nat.lt_of_le_of_lt h2 hb⟩
theorem add_low (p q : Rat) : Rat.divInt (p.num * q.den + q.num * p.den) (p.den * q.den) = p + q := by
  conv => rhs; rw [← Rat.num_divInt_den p, ← Rat.num_divInt_den q]
  rw [Rat.divInt_add_divInt _ _ (by have := p.den_nz; omega) (by have := q.den_nz; omega)]
theorem sub_low (p q : Rat) : Rat.divInt (p.num * q.den - q.num * p.den) (p.den * q.den) = p - q := by
  rw [Rat.sub_def', ← Rat.divInt_ofNat]
  simp
theorem mul_low (p q : Rat) : Rat.divInt (p.num * q.num) (p.den * q.den) = p * q := by
  conv => rhs; rw [← Rat.num_divInt_den p, ← Rat.num_divInt_den q]
  rw [Rat.divInt_mul_divInt]
theorem div_low (p q : Rat) (hq : q ≠ 0) : Rat.divInt (p.num * q.den) (p.den * q.num) = p / q := by
  rw [Rat.div_def, Rat.inv_def]
  conv => rhs; rw [← Rat.num_divInt_den p]
  rw [Rat.divInt_mul_divInt]
theorem den_pos (q : Rat) : 0 < (q.den : Int) := by have := q.den_nz; omega
theorem num_ne {q : Rat} (h : q ≠ 0) : q.num ≠ 0 := fun z => h (Rat.num_eq_zero.mp z)
theorem sm_add {a b : Nat} {p q : Rat} (hp : sm a p) (hq : sm b q) : sm (a + b + 1) (p + q) := by
  rw [← add_low]
  refine sm_low ?_ ((hp.den.mul hq.den).mono (by omega)) ?_
  · exact (hp.1.mul hq.den).add (by rw [Nat.add_comm]; exact hq.1.mul hp.den)
  · exact Int.ne_of_gt (Int.mul_pos (den_pos p) (den_pos q))
theorem sm_sub {a b : Nat} {p q : Rat} (hp : sm a p) (hq : sm b q) : sm (a + b + 1) (p - q) := by
  rw [← sub_low]
  refine sm_low ?_ ((hp.den.mul hq.den).mono (by omega)) ?_
  · exact (hp.1.mul hq.den).sub (by rw [Nat.add_comm]; exact hq.1.mul hp.den)
  · exact Int.ne_of_gt (Int.mul_pos (den_pos p) (den_pos q))
theorem sm_mul {a b : Nat} {p q : Rat} (hp : sm a p) (hq : sm b q) : sm (a + b) (p * q) := by
  rw [← mul_low]
  exact sm_low (hp.1.mul hq.1) (hp.den.mul hq.den) (Int.ne_of_gt (Int.mul_pos (den_pos p) (den_pos q)))
theorem sm_div {a b : Nat} {p q : Rat} (hp : sm a p) (hq : sm b q) (h : q ≠ 0) : sm (a + b) (p / q) := by
  rw [← div_low p q h]
  exact sm_low (hp.1.mul hq.den) (hp.den.mul hq.1) (fun z => by
    rcases Int.mul_eq_zero.mp z with z | z
    · exact Int.ne_of_gt (den_pos p) z
    · exact num_ne h z)
/-! ### == -/
theorem eqD_ii (M : Mem) (a b : Int) : eqD M (.int a) (.int b) = some (decide (a = b)) := by
  show some (PySem.PyData.eqv (.int a) (.int b)) = _
  show some (a == b) = _
  rw [Bool.beq_eq_decide_eq]
theorem eqD_bb (M : Mem) (a b : Bool) : eqD M (.bl a) (.bl b) = some (decide (a = b)) := by
  show some (PySem.PyData.eqv (.bool a) (.bool b)) = _
  show some (a == b) = _
  rw [Bool.beq_eq_decide_eq]
theorem eqD_pp (M : Mem) (a b c d : Int) : eqD M (.tup [.int a, .int b]) (.tup [.int c, .int d]) = some (decide (a = c ∧ b = d)) := by
  show some ((a == c) && ((b == d) && true)) = _
  rw [Bool.and_true, Bool.beq_eq_decide_eq, Bool.beq_eq_decide_eq, ← Bool.decide_and]
theorem eqD_fr (M : Mem) (p q : Rat) : eqD M (fr p) (fr q) = some (decide (p = q)) := by
  unfold fr
  rw [eqD_pp]
  congr 1
  by_cases h : p = q
  · subst h; simp
  · rw [decide_eq_false h, decide_eq_false]
    rintro ⟨h1, h2⟩
    exact h (Rat.ext h1 (by omega))
theorem idx_tup0 (M : Mem) (x0 : PV) (xs : List PV) : idxOp M (.tup (x0 :: xs)) (.int 0) = some x0 := by
  show L2.atI (x0 :: xs) 0 = _
  unfold L2.atI L2.ixN
  rw [if_pos (by omega), if_pos (by simp only [List.length_cons]; omega)]
  rfl
theorem idx_tup1 (M : Mem) (x0 x1 : PV) (xs : List PV) : idxOp M (.tup (x0 :: x1 :: xs)) (.int 1) = some x1 := by
  show L2.atI (x0 :: x1 :: xs) 1 = _
  unfold L2.atI L2.ixN
  rw [if_pos (by omega), if_pos (by simp only [List.length_cons]; omega)]
  rfl
theorem idx_tup2 (M : Mem) (x0 x1 x2 : PV) (xs : List PV) : idxOp M (.tup (x0 :: x1 :: x2 :: xs)) (.int 2) = some x2 := by
  show L2.atI (x0 :: x1 :: x2 :: xs) 2 = _
  unfold L2.atI L2.ixN
  rw [if_pos (by omega), if_pos (by simp only [List.length_cons]; omega)]
  rfl
theorem idx_tup3 (M : Mem) (x0 x1 x2 x3 : PV) (xs : List PV) : idxOp M (.tup (x0 :: x1 :: x2 :: x3 :: xs)) (.int 3) = some x3 := by
  show L2.atI (x0 :: x1 :: x2 :: x3 :: xs) 3 = _
  unfold L2.atI L2.ixN
  rw [if_pos (by omega), if_pos (by simp only [List.length_cons]; omega)]
  rfl
theorem idx_lst0 (M : Mem) (x0 : PV) (xs : List PV) : idxOp M (.lst (x0 :: xs)) (.int 0) = some x0 := by
  show L2.atI (x0 :: xs) 0 = _
  unfold L2.atI L2.ixN
  rw [if_pos (by omega), if_pos (by simp only [List.length_cons]; omega)]
  rfl
theorem idx_lst1 (M : Mem) (x0 x1 : PV) (xs : List PV) : idxOp M (.lst (x0 :: x1 :: xs)) (.int 1) = some x1 := by
  show L2.atI (x0 :: x1 :: xs) 1 = _
  unfold L2.atI L2.ixN
  rw [if_pos (by omega), if_pos (by simp only [List.length_cons]; omega)]
  rfl
theorem idx_lst2 (M : Mem) (x0 x1 x2 : PV) (xs : List PV) : idxOp M (.lst (x0 :: x1 :: x2 :: xs)) (.int 2) = some x2 := by
  show L2.atI (x0 :: x1 :: x2 :: xs) 2 = _
  unfold L2.atI L2.ixN
  rw [if_pos (by omega), if_pos (by simp only [List.length_cons]; omega)]
  rfl
theorem idx_lst3 (M : Mem) (x0 x1 x2 x3 : PV) (xs : List PV) : idxOp M (.lst (x0 :: x1 :: x2 :: x3 :: xs)) (.int 3) = some x3 := by
  show L2.atI (x0 :: x1 :: x2 :: x3 :: xs) 3 = _
  unfold L2.atI L2.ixN
  rw [if_pos (by omega), if_pos (by simp only [List.length_cons]; omega)]
  rfl
theorem idx_rol0 (M : Mem) (x0 : PV) (xs : List PV) : idxOp M (.rol (x0 :: xs)) (.int 0) = some x0 := by
  show L2.atI (x0 :: xs) 0 = _
  unfold L2.atI L2.ixN
  rw [if_pos (by omega), if_pos (by simp only [List.length_cons]; omega)]
  rfl
theorem idx_rol1 (M : Mem) (x0 x1 : PV) (xs : List PV) : idxOp M (.rol (x0 :: x1 :: xs)) (.int 1) = some x1 := by
  show L2.atI (x0 :: x1 :: xs) 1 = _
  unfold L2.atI L2.ixN
  rw [if_pos (by omega), if_pos (by simp only [List.length_cons]; omega)]
  rfl
theorem idx_rol2 (M : Mem) (x0 x1 x2 : PV) (xs : List PV) : idxOp M (.rol (x0 :: x1 :: x2 :: xs)) (.int 2) = some x2 := by
  show L2.atI (x0 :: x1 :: x2 :: xs) 2 = _
  unfold L2.atI L2.ixN
  rw [if_pos (by omega), if_pos (by simp only [List.length_cons]; omega)]
  rfl
theorem idx_rol3 (M : Mem) (x0 x1 x2 x3 : PV) (xs : List PV) : idxOp M (.rol (x0 :: x1 :: x2 :: x3 :: xs)) (.int 3) = some x3 := by
  show L2.atI (x0 :: x1 :: x2 :: x3 :: xs) 3 = _
  unfold L2.atI L2.ixN
  rw [if_pos (by omega), if_pos (by simp only [List.length_cons]; omega)]
  rfl
theorem bifb_isTy (t : Ty) (v : PV) {β : Type} (x y : Option β) : bifb (some (isTy t v)) x y = if isTy t v = true then x else y := bifb_b _ x y
theorem newL_f (xs : List PV) (M : Mem) : newL false xs M = (.lst xs, M) := rfl
theorem newL_t (xs : List PV) (M : Mem) : newL true xs M = (.ref M.length, M ++ [.lst xs]) := rfl
theorem fin_rtk (n : Nat) (v : PV) (M : Mem) : fin true n (some (.rt v M)) = some (v, M) := rfl
theorem sizeL : PySem.sizeLine = 16777216 := by decide +kernel
theorem fr_0 : fr 0 = .tup [.int 0, .int 1] := rfl
theorem fr_1 : fr 1 = .tup [.int 1, .int 1] := rfl
/-! ### comprehensions -/
theorem lcL_none {t : T} {g : Gd} {cond : Env → Mem → Option (Bool × Mem)} {elt : Env → Mem → Option (PV × Mem)} {env : Env} {M : Mem} (hg : gOk g M = true) : ∀ (xs acc : List PV), (∀ x ∈ xs, ∃ env1, bindT t x env = some env1 ∧ cond env1 M = some (false, M)) →
    lcL t g cond elt env xs acc M = some (acc, M)
  | [], acc, _ => by unfold lcL; rw [hg]
  | x :: xs, acc, h => by
    unfold lcL
    rw [hg]
    obtain ⟨env1, h1, h2⟩ := h x List.mem_cons_self
    simp only [h1, h2]
    exact lcL_none hg xs acc fun y hy => h y (List.mem_cons_of_mem _ hy)
/-- a map -/
theorem lcL_map {t : T} {g : Gd} {cond : Env → Mem → Option (Bool × Mem)} {elt : Env → Mem → Option (PV × Mem)} {env : Env} {M : Mem} (hg : gOk g M = true) (f : PV → PV) : ∀ (xs acc : List PV), (∀ x ∈ xs, ∃ env1, bindT t x env = some env1 ∧ cond env1 M = some (true, M) ∧ elt env1 M = some (f x, M)) →
    lcL t g cond elt env xs acc M = some (acc ++ xs.map f, M)
  | [], acc, _ => by unfold lcL; rw [hg]; simp
  | x :: xs, acc, h => by
    unfold lcL
    rw [hg]
    obtain ⟨env1, h1, h2, h3⟩ := h x List.mem_cons_self
    simp only [h1, h2, h3]
    rw [lcL_map hg f xs _ fun y hy => h y (List.mem_cons_of_mem _ hy), List.map_cons, List.append_assoc]
    rfl
/-- a comprehension that draws: each item's value keeps P, the memory keeps I -/
theorem lcL_draw {t : T} {cond : Env → Mem → Option (Bool × Mem)} {elt : Env → Mem → Option (PV × Mem)} {env : Env} (P : PV → Prop) (I : Mem → Prop) : ∀ (xs acc : List PV) (M : Mem), I M → (∀ x ∈ xs, ∀ M, I M → ∃ env1 v M', bindT t x env = some env1 ∧ cond env1 M = some (true, M) ∧ elt env1 M = some (v, M') ∧ P v ∧ I M') →
    ∃ vs M', lcL t [] cond elt env xs acc M = some (acc ++ vs, M') ∧ vs.length = xs.length ∧ (∀ v ∈ vs, P v) ∧ I M'
  | [], acc, M, hI, _ => ⟨[], M, by unfold lcL; simp [gOk], rfl, by simp, hI⟩
  | x :: xs, acc, M, hI, h => by
    obtain ⟨env1, v, M1, h1, h2, h3, h4, h5⟩ := h x List.mem_cons_self M hI
    obtain ⟨vs, M', e, hl, hp, hI'⟩ := lcL_draw P I xs (acc ++ [v]) M1 h5 fun y hy => h y (List.mem_cons_of_mem _ hy)
    refine ⟨v :: vs, M', ?_, by simp [hl], fun w hw => ?_, hI'⟩
    · unfold lcL
      simp only [gOk, h1, h2, h3]
      rw [e, List.append_assoc]
      rfl
    · rcases List.mem_cons.mp hw with rfl | hw
      · exact h4
      · exact hp w hw
theorem seqG_tup (M : Mem) (xs : List PV) : seqG M (.tup xs) = some (true, xs, []) := rfl
theorem seqG_lst (M : Mem) (xs : List PV) : seqG M (.lst xs) = some (false, xs, []) := rfl
theorem lenB_tup (M : Mem) (xs : List PV) : lenB M [.tup xs] = some (.int xs.length) := rfl
theorem lenB_lst (M : Mem) (xs : List PV) : lenB M [.lst xs] = some (.int xs.length) := rfl
theorem zip_mem : ∀ {xs : List PV} {z : PV}, z ∈ zipP xs xs → ∃ x ∈ xs, z = .tup [x, x]
  | [], _, h => by simp [zipP] at h
  | x :: xs, z, h => by
    unfold zipP at h
    rcases List.mem_cons.mp h with rfl | h
    · exact ⟨x, List.mem_cons_self, rfl⟩
    · obtain ⟨y, h1, h2⟩ := zip_mem h
      exact ⟨y, List.mem_cons_of_mem _ h1, h2⟩
/-! ### plain values -/
mutual
def dpt : PV → Nat
  | .tup xs | .lst xs => dpts xs + 1
  | _ => 0
def dpts : List PV → Nat
  | [] => 0
  | x :: xs => max (dpt x) (dpts xs)
end
mutual
def pl : PV → Bool
  | .non | .bl _ | .int _ => true
  | .str s => PySem.PyData.canLay0 (.str s)
  | .tup xs | .lst xs => pls xs
  | .rol _ | .ref _ | .dct _ => false
def pls : List PV → Bool
  | [] => true
  | x :: xs => pl x && pls xs
end
theorem pls_mem : ∀ {xs : List PV} {x : PV}, pls xs = true → x ∈ xs → pl x = true ∧ dpt x ≤ dpts xs
  | y :: ys, x, h, hm => by
    have h' : (pl y && pls ys) = true := h
    rw [Bool.and_eq_true] at h'
    rcases List.mem_cons.mp hm with rfl | hm
    · exact ⟨h'.1, Nat.le_max_left _ _⟩
    · obtain ⟨h1, h2⟩ := pls_mem h'.2 hm
      exact ⟨h1, Nat.le_trans h2 (Nat.le_max_right _ _)⟩
def sortP : PV → Int
  | .non => 0 | .bl _ => 1 | .int _ => 2 | .str _ => 3 | .tup _ => 4 | .dct _ => 6 | _ => 5
/-! ### draws -/
abbrev cup (x y : Int) : Cell := .lst [.int x, .int y]
def CupB (x y : Int) : Prop := 0 ≤ x ∧ 0 ≤ y ∧ y < 2147483648
theorem idx_cup0 (x y : PV) (T : Mem) : idxOp (.lst [x, y] :: T) (.ref 0) (.int 0) = some x := rfl
theorem idx_cup1 (x y : PV) (T : Mem) : idxOp (.lst [x, y] :: T) (.ref 0) (.int 1) = some y := rfl
theorem setAt0 (x v : PV) (xs : List PV) : setAt (x :: xs) 0 v = some (v :: xs) := by
  unfold setAt L2.ixN
  rw [if_pos (by omega), if_pos (by simp only [List.length_cons]; omega)]
  rfl
theorem setAt1 (x y v : PV) (xs : List PV) : setAt (x :: y :: xs) 1 v = some (x :: v :: xs) := by
  unfold setAt L2.ixN
  rw [if_pos (by omega), if_pos (by simp only [List.length_cons]; omega)]
  rfl
end Ev

/-! The text as the interpreter has it, and that it is this text: printed by gen.py. -/
namespace Lw
open PySem PySem.Spec PyProof.Rows L2 Ev
def topS (i : Nat) : Stmt := PySem.Challenge.pw_endsmeasured_k01_whole_currents_and_powe.main.body.getD i (.Pass ⟨0, 0, 0, 0⟩)
abbrev k_DIGITS : PV := (.int (10000000000000000000000000000000000000000))
abbrev k_MOST_NODES : PV := (.int (12))
abbrev k_MOST_TIES : PV := (.int (66))
abbrev k_NONE : PV := (.tup [(.int (0)), (.int (1))])
def m_is_integer : Ss := (.cons (.ret (.and (.isi (.var 0) .int) (.not (.isi (.var 0) .bool)))) .nil)
def m_is_whole : Ss := (.cons (.ret (.and (.call 0 (.cons (.var 0) .nil)) (.chn .le .le (.var 1) (.var 0) (.var 2)))) .nil)
def m_is_tuple_of : Ss := (.cons (.ret (.and (.isi (.var 0) .tuple) (.chn .le .le (.var 1) (.blt .len false (.cons (.var 0) .nil)) (.var 2)))) .nil)
def m_is_rising : Ss := (.cons (.ret (.blt .all false (.cons (.lc false [1, 2] (.tp [1, 2]) (.zip (.var 0) (.slc (.var 0) true false (.cst (.int (1))) (.cst .non))) .nil (.cmp .lt (.var 1) (.var 2))) .nil))) .nil)
def m_divisor_of : Ss := (.cons (.par 0 1 (.blt .abs false (.cons (.var 0) .nil)) (.blt .abs false (.cons (.var 1) .nil))) (.cons (.whl (.cmp .ne (.var 1) (.cst (.int (0)))) (.cons (.par 0 1 (.var 1) (.bin .mod false (.var 0) (.var 1))) .nil)) (.cons (.ret (.var 0)) .nil)))
def m_lowest : Ss := (.cons (.set 2 (.bin .mul false (.call 4 (.cons (.var 0) (.cons (.var 1) .nil))) (.ite (.cmp .gt (.var 1) (.cst (.int (0)))) (.cst (.int (1))) (.neg (.cst (.int (1))))))) (.cons (.ret (.tup (.cons (.bin .fdiv false (.var 0) (.var 2)) (.cons (.bin .fdiv false (.var 1) (.var 2)) .nil)))) .nil))
def m_sum_of : Ss := (.cons (.ret (.call 5 (.cons (.bin .add false (.bin .mul false (.idx (.var 0) (.cst (.int (0)))) (.idx (.var 1) (.cst (.int (1))))) (.bin .mul false (.idx (.var 1) (.cst (.int (0)))) (.idx (.var 0) (.cst (.int (1)))))) (.cons (.bin .mul false (.idx (.var 0) (.cst (.int (1)))) (.idx (.var 1) (.cst (.int (1))))) .nil)))) .nil)
def m_less_by : Ss := (.cons (.ret (.call 5 (.cons (.bin .sub false (.bin .mul false (.idx (.var 0) (.cst (.int (0)))) (.idx (.var 1) (.cst (.int (1))))) (.bin .mul false (.idx (.var 1) (.cst (.int (0)))) (.idx (.var 0) (.cst (.int (1)))))) (.cons (.bin .mul false (.idx (.var 0) (.cst (.int (1)))) (.idx (.var 1) (.cst (.int (1))))) .nil)))) .nil)
def m_product_of : Ss := (.cons (.ret (.call 5 (.cons (.bin .mul false (.idx (.var 0) (.cst (.int (0)))) (.idx (.var 1) (.cst (.int (0))))) (.cons (.bin .mul false (.idx (.var 0) (.cst (.int (1)))) (.idx (.var 1) (.cst (.int (1))))) .nil)))) .nil)
def m_part_of : Ss := (.cons (.ret (.call 5 (.cons (.bin .mul false (.idx (.var 0) (.cst (.int (0)))) (.idx (.var 1) (.cst (.int (1))))) (.cons (.bin .mul false (.idx (.var 0) (.cst (.int (1)))) (.idx (.var 1) (.cst (.int (0))))) .nil)))) .nil)
def m_is_under : Ss := (.cons (.ret (.cmp .lt (.bin .mul false (.idx (.var 0) (.cst (.int (0)))) (.idx (.var 1) (.cst (.int (1))))) (.bin .mul false (.idx (.var 1) (.cst (.int (0)))) (.idx (.var 0) (.cst (.int (1))))))) .nil)
def m_sum_over : Ss := (.cons (.set 1 (.cst k_NONE)) (.cons (.for_ (.nm 2) (.seq (.var 0)) (.cons (.set 1 (.call 6 (.cons (.var 1) (.cons (.var 2) .nil)))) .nil)) (.cons (.ret (.var 1)) .nil)))
def m_fits_fraction : Ss := (.cons (.ite (.or (.not (.call 2 (.cons (.var 0) (.cons (.cst (.int (2))) (.cons (.cst (.int (2))) .nil))))) (.not (.blt .all false (.cons (.lc false [1] (.nm 1) (.seq (.var 0)) .nil (.and (.call 0 (.cons (.var 1) .nil)) (.chn .lt .lt (.neg (.cst k_DIGITS)) (.var 1) (.cst k_DIGITS)))) .nil)))) (.cons (.ret (.cst (.bl false))) .nil) .nil) (.cons (.ret (.and (.cmp .ge (.idx (.var 0) (.cst (.int (1)))) (.cst (.int (1)))) (.cmp .eq (.call 4 (.cons (.idx (.var 0) (.cst (.int (0)))) (.cons (.idx (.var 0) (.cst (.int (1)))) .nil))) (.cst (.int (1)))))) .nil))
def m_need_fraction : Ss := (.cons (.ite (.not (.call 12 (.cons (.var 0) .nil))) (.cons .rais .nil) .nil) .nil)
def m_fits_tie : Ss := (.cons (.ite (.or (.not (.call 2 (.cons (.var 1) (.cons (.cst (.int (3))) (.cons (.cst (.int (3))) .nil))))) (.or (.not (.call 1 (.cons (.idx (.var 1) (.cst (.int (0)))) (.cons (.cst (.int (0))) (.cons (.bin .sub false (.var 0) (.cst (.int (1)))) .nil))))) (.not (.call 1 (.cons (.idx (.var 1) (.cst (.int (1)))) (.cons (.cst (.int (0))) (.cons (.bin .sub false (.var 0) (.cst (.int (1)))) .nil))))))) (.cons (.ret (.cst (.bl false))) .nil) .nil) (.cons (.ret (.and (.cmp .lt (.idx (.var 1) (.cst (.int (0)))) (.idx (.var 1) (.cst (.int (1))))) (.and (.call 12 (.cons (.idx (.var 1) (.cst (.int (2)))) .nil)) (.cmp .gt (.idx (.idx (.var 1) (.cst (.int (2)))) (.cst (.int (0)))) (.cst (.int (0))))))) .nil))
def m_fits_net : Ss := (.cons (.ite (.or (.not (.call 2 (.cons (.var 0) (.cons (.cst (.int (2))) (.cons (.cst (.int (2))) .nil))))) (.or (.not (.call 1 (.cons (.idx (.var 0) (.cst (.int (0)))) (.cons (.cst (.int (1))) (.cons (.cst k_MOST_NODES) .nil))))) (.not (.call 2 (.cons (.idx (.var 0) (.cst (.int (1)))) (.cons (.cst (.int (0))) (.cons (.cst k_MOST_TIES) .nil))))))) (.cons (.ret (.cst (.bl false))) .nil) .nil) (.cons (.ret (.and (.blt .all false (.cons (.lc false [1] (.nm 1) (.seq (.idx (.var 0) (.cst (.int (1))))) .nil (.call 14 (.cons (.idx (.var 0) (.cst (.int (0)))) (.cons (.var 1) .nil)))) .nil)) (.call 3 (.cons (.lc false [1] (.nm 1) (.seq (.idx (.var 0) (.cst (.int (1))))) .nil (.slc (.var 1) false true (.cst .non) (.cst (.int (2))))) .nil)))) .nil))
def m_need_net : Ss := (.cons (.ite (.not (.call 15 (.cons (.var 0) .nil))) (.cons .rais .nil) .nil) .nil)
def m_fits_heights : Ss := (.cons (.ret (.and (.call 2 (.cons (.var 1) (.cons (.idx (.var 0) (.cst (.int (0)))) (.cons (.idx (.var 0) (.cst (.int (0)))) .nil)))) (.blt .all false (.cons (.lc false [2] (.nm 2) (.seq (.var 1)) .nil (.call 12 (.cons (.var 2) .nil))) .nil)))) .nil)
def m_need_heights : Ss := (.cons (.ite (.not (.call 17 (.cons (.var 0) (.cons (.var 1) .nil)))) (.cons .rais .nil) .nil) .nil)
def m_currents_in : Ss := (.cons (.ret (.blt .tuple false (.cons (.lc false [2, 3, 4] (.tp [2, 3, 4]) (.seq (.idx (.var 0) (.cst (.int (1))))) .nil (.call 8 (.cons (.var 4) (.cons (.call 7 (.cons (.idx (.var 1) (.var 2)) (.cons (.idx (.var 1) (.var 3)) .nil))) .nil)))) .nil))) .nil)
def m_outs_in : Ss := (.cons (.set 2 (.bin .mul true (.lst false (.cons (.cst k_NONE) .nil)) (.idx (.var 0) (.cst (.int (0)))))) (.cons (.for_ (.t2 [.t [3, 4, 5], .n 6]) (.zip (.idx (.var 0) (.cst (.int (1)))) (.call 19 (.cons (.var 0) (.cons (.var 1) .nil)))) (.cons (.seti (.var 2) (.var 3) (.call 6 (.cons (.idx (.var 2) (.var 3)) (.cons (.var 6) .nil)))) (.cons (.seti (.var 2) (.var 4) (.call 7 (.cons (.idx (.var 2) (.var 4)) (.cons (.var 6) .nil)))) .nil))) (.cons (.ret (.blt .tuple false (.cons (.var 2) .nil))) .nil)))
def m_power_in : Ss := (.cons (.set 2 (.lc false [3, 4, 5] (.tp [3, 4, 5]) (.seq (.idx (.var 0) (.cst (.int (1))))) .nil (.call 7 (.cons (.idx (.var 1) (.var 3)) (.cons (.idx (.var 1) (.var 4)) .nil))))) (.cons (.ret (.call 11 (.cons (.lc false [6, 7] (.tp [6, 7]) (.zip (.call 19 (.cons (.var 0) (.cons (.var 1) .nil))) (.var 2)) .nil (.call 8 (.cons (.var 6) (.cons (.var 7) .nil)))) .nil))) .nil))
def m_need_both : Ss := (.cons (.exp (.call 13 (.cons (.var 0) .nil))) (.cons (.exp (.call 13 (.cons (.var 1) .nil))) .nil))
def m_is_fraction : Ss := (.cons (.ret (.call 12 (.cons (.var 0) .nil))) .nil)
def m_plus : Ss := (.cons (.exp (.call 22 (.cons (.var 0) (.cons (.var 1) .nil)))) (.cons (.ret (.call 6 (.cons (.var 0) (.cons (.var 1) .nil)))) .nil))
def m_minus : Ss := (.cons (.exp (.call 22 (.cons (.var 0) (.cons (.var 1) .nil)))) (.cons (.ret (.call 7 (.cons (.var 0) (.cons (.var 1) .nil)))) .nil))
def m_times : Ss := (.cons (.exp (.call 22 (.cons (.var 0) (.cons (.var 1) .nil)))) (.cons (.ret (.call 8 (.cons (.var 0) (.cons (.var 1) .nil)))) .nil))
def m_over : Ss := (.cons (.exp (.call 22 (.cons (.var 0) (.cons (.var 1) .nil)))) (.cons (.ite (.cmp .eq (.var 1) (.cst k_NONE)) (.cons .rais .nil) .nil) (.cons (.ret (.call 9 (.cons (.var 0) (.cons (.var 1) .nil)))) .nil)))
def m_is_less : Ss := (.cons (.exp (.call 22 (.cons (.var 0) (.cons (.var 1) .nil)))) (.cons (.ret (.call 10 (.cons (.var 0) (.cons (.var 1) .nil)))) .nil))
def m_currents_of : Ss := (.cons (.exp (.call 16 (.cons (.var 0) .nil))) (.cons (.exp (.call 18 (.cons (.var 0) (.cons (.var 1) .nil)))) (.cons (.ret (.call 19 (.cons (.var 0) (.cons (.var 1) .nil)))) .nil)))
def m_outs_of : Ss := (.cons (.exp (.call 16 (.cons (.var 0) .nil))) (.cons (.exp (.call 18 (.cons (.var 0) (.cons (.var 1) .nil)))) (.cons (.ret (.call 20 (.cons (.var 0) (.cons (.var 1) .nil)))) .nil)))
def m_power_of : Ss := (.cons (.exp (.call 16 (.cons (.var 0) .nil))) (.cons (.exp (.call 18 (.cons (.var 0) (.cons (.var 1) .nil)))) (.cons (.ret (.call 21 (.cons (.var 0) (.cons (.var 1) .nil)))) .nil)))
def m__law_cup : Ss := (.cons (.set 1 (.blt .abs false (.cons (.idx (.bin .add false (.blt .list false (.cons (.var 0) .nil)) (.lst false (.cons (.cst (.int (0))) .nil))) (.cst (.int (0)))) .nil))) (.cons (.ret (.lst true (.cons (.ite (.cmp .ge (.var 1) (.bin .pow false (.cst (.int (10))) (.cst (.int (18))))) (.bin .fdiv false (.var 1) (.cst (.int (73)))) (.cst (.int (0)))) (.cons (.bin .add false (.bin .mod false (.blt .int false (.cons (.bin .add false (.bin .mul false (.var 1) (.cst (.int (283)))) (.cst (.int (3907)))) .nil)) (.cst (.int (2077503167)))) (.cst (.int (167)))) .nil)))) .nil))
def m__law_roll : Ss := (.cons (.ite (.cmp .gt (.idx (.var 0) (.cst (.int (0)))) (.cst (.int (0)))) (.cons (.set 2 (.bin .mod false (.blt .int false (.cons (.idx (.var 0) (.cst (.int (0)))) .nil)) (.var 1))) (.cons (.seti (.var 0) (.cst (.int (0))) (.bin .fdiv false (.idx (.var 0) (.cst (.int (0)))) (.var 1))) (.cons (.ret (.var 2)) .nil))) .nil) (.cons (.seti (.var 0) (.cst (.int (1))) (.bin .mod false (.blt .int false (.cons (.bin .add false (.bin .mul false (.idx (.var 0) (.cst (.int (1)))) (.cst (.int (31051)))) (.cst (.int (7993)))) .nil)) (.cst (.int (2147483543))))) (.cons (.set 3 (.bin .mod false (.blt .int false (.cons (.bin .mul false (.idx (.var 0) (.cst (.int (1)))) (.bin .add false (.idx (.var 0) (.cst (.int (1)))) (.cst (.int (229))))) .nil)) (.cst (.int (2147483587))))) (.cons (.ret (.bin .mod false (.blt .int false (.cons (.bin .fdiv false (.var 3) (.cst (.int (821)))) .nil)) (.var 1))) .nil))))
def m__law_some : Ss := (.cons (.ret (.idx (.var 1) (.call 33 (.cons (.var 0) (.cons (.blt .len false (.cons (.var 1) .nil)) .nil))))) .nil)
def m__law_sort : Ss := (.cons (.ite (.or (.cmp .is (.var 0) (.cst .non)) (.isi (.var 0) .bool)) (.cons (.ret (.ite (.cmp .is (.var 0) (.cst .non)) (.cst (.int (0))) (.cst (.int (1))))) .nil) .nil) (.cons (.ite (.or (.isi (.var 0) .int) (.isi (.var 0) .str)) (.cons (.ret (.ite (.isi (.var 0) .int) (.cst (.int (2))) (.cst (.int (3))))) .nil) .nil) (.cons (.ret (.ite (.isi (.var 0) .tuple) (.cst (.int (4))) (.ite (.isi (.var 0) .list) (.cst (.int (5))) (.cst (.int (6)))))) .nil)))
def m__law_like : Ss := (.cons (.set 2 (.call 35 (.cons (.var 1) .nil))) (.cons (.ite (.or (.cmp .ne (.call 35 (.cons (.var 0) .nil)) (.var 2)) (.cmp .eq (.var 2) (.cst (.int (6))))) (.cons (.ret (.cst (.bl false))) .nil) .nil) (.cons (.ite (.cmp .isin (.var 2) (.tup (.cons (.cst (.int (4))) (.cons (.cst (.int (5))) .nil)))) (.cons (.ret (.and (.cmp .eq (.blt .len false (.cons (.var 0) .nil)) (.blt .len false (.cons (.var 1) .nil))) (.cmp .eq (.lc false [3, 4] (.tp [3, 4]) (.zip (.var 0) (.var 1)) (.cons (.not (.call 36 (.cons (.var 3) (.cons (.var 4) .nil)))) .nil) (.cst (.int (1)))) (.lst false .nil)))) .nil) .nil) (.cons (.ret (.cmp .eq (.var 0) (.var 1))) .nil))))
def m__law_least : Ss := (.cons (.par 2 3 (.blt .abs false (.cons (.var 0) .nil)) (.blt .abs false (.cons (.var 1) .nil))) (.cons (.whl (.cmp .ne (.var 3) (.cst (.int (0)))) (.cons (.par 2 3 (.var 3) (.bin .mod false (.blt .int false (.cons (.var 2) .nil)) (.var 3))) .nil)) (.cons (.set 4 (.ite (.cmp .lt (.var 1) (.cst (.int (0)))) (.neg (.cst (.int (1)))) (.cst (.int (1))))) (.cons (.ret (.tup (.cons (.blt .int false (.cons (.bin .fdiv false (.bin .mul false (.var 4) (.var 0)) (.var 2)) .nil)) (.cons (.blt .int false (.cons (.bin .fdiv false (.bin .mul false (.var 4) (.var 1)) (.var 2)) .nil)) .nil)))) .nil))))
def m__law_plus : Ss := (.cons (.ret (.call 37 (.cons (.bin .add false (.bin .mul false (.idx (.var 0) (.cst (.int (0)))) (.idx (.var 1) (.cst (.int (1))))) (.bin .mul false (.idx (.var 1) (.cst (.int (0)))) (.idx (.var 0) (.cst (.int (1)))))) (.cons (.bin .mul false (.idx (.var 0) (.cst (.int (1)))) (.idx (.var 1) (.cst (.int (1))))) .nil)))) .nil)
def m__law_minus : Ss := (.cons (.ret (.call 37 (.cons (.bin .sub false (.bin .mul false (.idx (.var 0) (.cst (.int (0)))) (.idx (.var 1) (.cst (.int (1))))) (.bin .mul false (.idx (.var 1) (.cst (.int (0)))) (.idx (.var 0) (.cst (.int (1)))))) (.cons (.bin .mul false (.idx (.var 0) (.cst (.int (1)))) (.idx (.var 1) (.cst (.int (1))))) .nil)))) .nil)
def m__law_times : Ss := (.cons (.ret (.call 37 (.cons (.bin .mul false (.idx (.var 0) (.cst (.int (0)))) (.idx (.var 1) (.cst (.int (0))))) (.cons (.bin .mul false (.idx (.var 0) (.cst (.int (1)))) (.idx (.var 1) (.cst (.int (1))))) .nil)))) .nil)
def m__law_lead : Ss := (.cons (.ret (.call 37 (.cons (.bin .add false (.cst (.int (1))) (.call 33 (.cons (.var 0) (.cons (.var 1) .nil)))) (.cons (.bin .add false (.cst (.int (1))) (.call 33 (.cons (.var 0) (.cons (.var 1) .nil)))) .nil)))) .nil)
def m__law_net : Ss := (.cons (.asg (.tp [3, 4]) (.tup (.cons (.bin .add false (.cst (.int (1))) (.call 33 (.cons (.var 0) (.cons (.var 1) .nil)))) (.cons .ndic .nil)))) (.cons (.for_ (.nm 5) (.rng (.cst (.int (1))) (.var 3)) (.cons (.setd (.var 4) (.call 33 (.cons (.var 0) (.cons (.var 5) .nil))) (.var 5) (.call 41 (.cons (.var 0) (.cons (.var 2) .nil)))) .nil)) (.cons (.for_ (.nm 6) (.rng (.cst (.int 0)) (.call 33 (.cons (.var 0) (.cons (.bin .mul false (.cst (.int (2))) (.var 3)) .nil)))) (.cons (.par 7 8 (.call 33 (.cons (.var 0) (.cons (.var 3) .nil))) (.call 33 (.cons (.var 0) (.cons (.var 3) .nil)))) (.cons (.ite (.cmp .lt (.var 7) (.var 8)) (.cons (.setd (.var 4) (.var 7) (.var 8) (.call 41 (.cons (.var 0) (.cons (.var 2) .nil)))) .nil) .nil) .nil))) (.cons (.ret (.tup (.cons (.var 3) (.cons (.blt .tuple false (.cons (.blt .srth false (.cons (.lck 4 (.lc false [9] (.nm 9) (.dks (.var 4)) .nil (.tup (.cons (.idx (.var 9) (.cst (.int (0)))) (.cons (.idx (.var 9) (.cst (.int (1)))) (.cons (.dgt (.var 4) (.var 9)) .nil)))))) .nil)) .nil)) .nil)))) .nil))))
def m__law_fraction : Ss := (.cons (.set 2 (.call 34 (.cons (.var 0) (.cons (.lst false (.cons (.cst (.int (3))) (.cons (.cst (.int (20))) (.cons (.bin .pow false (.cst (.int (10))) (.cst (.int (9)))) (.cons (.var 1) .nil))))) .nil)))) (.cons (.ret (.call 37 (.cons (.bin .sub false (.call 33 (.cons (.var 0) (.cons (.bin .add false (.bin .mul false (.cst (.int (2))) (.var 2)) (.cst (.int (1)))) .nil))) (.var 2)) (.cons (.bin .add false (.cst (.int (1))) (.call 33 (.cons (.var 0) (.cons (.var 2) .nil)))) .nil)))) .nil))
def m__law_sums_right : Ss := (.cons (.par 1 2 (.call 43 (.cons (.var 0) (.cons (.bin .sub false (.bin .pow false (.cst (.int (10))) (.cst (.int (19)))) (.cst (.int (1)))) .nil))) (.call 43 (.cons (.var 0) (.cons (.bin .sub false (.bin .pow false (.cst (.int (10))) (.cst (.int (19)))) (.cst (.int (1)))) .nil)))) (.cons (.asg (.t2 [.t [3, 4], .t [5, 6]]) (.tup (.cons (.var 1) (.cons (.var 2) .nil)))) (.cons (.set 7 (.lst true (.cons (.tup (.cons (.call 24 (.cons (.var 1) (.cons (.var 2) .nil))) (.cons (.bin .add false (.bin .mul false (.var 3) (.var 6)) (.bin .mul false (.var 5) (.var 4))) (.cons (.bin .mul false (.var 4) (.var 6)) .nil)))) (.cons (.tup (.cons (.call 25 (.cons (.var 1) (.cons (.var 2) .nil))) (.cons (.bin .sub false (.bin .mul false (.var 3) (.var 6)) (.bin .mul false (.var 5) (.var 4))) (.cons (.bin .mul false (.var 4) (.var 6)) .nil)))) (.cons (.tup (.cons (.call 26 (.cons (.var 1) (.cons (.var 2) .nil))) (.cons (.bin .mul false (.var 3) (.var 5)) (.cons (.bin .mul false (.var 4) (.var 6)) .nil)))) .nil))))) (.cons (.ite (.cmp .ne (.var 5) (.cst (.int (0)))) (.cons (.exp (.app (.var 7) (.tup (.cons (.call 27 (.cons (.var 1) (.cons (.var 2) .nil))) (.cons (.bin .mul false (.var 3) (.var 6)) (.cons (.bin .mul false (.var 4) (.var 5)) .nil)))))) .nil) .nil) (.cons (.for_ (.tp [8, 9, 10]) (.seq (.var 7)) (.cons (.ite (.or (.not (.call 36 (.cons (.var 8) (.cons (.call 37 (.cons (.var 9) (.cons (.var 10) .nil))) .nil)))) (.cmp .ne (.bin .mul false (.idx (.var 8) (.cst (.int (0)))) (.var 10)) (.bin .mul false (.var 9) (.idx (.var 8) (.cst (.int (1))))))) (.cons (.ret (.cst (.bl false))) .nil) .nil) .nil)) (.cons (.ite (.not (.call 36 (.cons (.lst false (.cons (.call 28 (.cons (.var 1) (.cons (.var 2) .nil))) (.cons (.call 28 (.cons (.var 2) (.cons (.var 1) .nil))) (.cons (.call 28 (.cons (.var 1) (.cons (.var 1) .nil))) .nil)))) (.cons (.lst false (.cons (.cmp .lt (.bin .mul false (.var 3) (.var 6)) (.bin .mul false (.var 5) (.var 4))) (.cons (.cmp .lt (.bin .mul false (.var 5) (.var 4)) (.bin .mul false (.var 3) (.var 6))) (.cons (.cst (.bl false)) .nil)))) .nil)))) (.cons (.ret (.cst (.bl false))) .nil) .nil) (.cons (.set 11 (.tup (.cons (.cst (.int (0))) (.cons (.cst (.int (1))) .nil)))) (.cons (.set 8 (.lst false (.cons (.call 24 (.cons (.var 1) (.cons (.var 11) .nil))) (.cons (.call 26 (.cons (.var 1) (.cons (.tup (.cons (.cst (.int (1))) (.cons (.cst (.int (1))) .nil))) .nil))) (.cons (.call 25 (.cons (.var 1) (.cons (.var 1) .nil))) (.cons (.call 26 (.cons (.var 1) (.cons (.var 11) .nil))) (.cons (.call 25 (.cons (.var 11) (.cons (.var 1) .nil))) (.cons (.call 24 (.cons (.var 1) (.cons (.var 1) .nil))) (.cons (.call 23 (.cons (.call 24 (.cons (.var 1) (.cons (.var 2) .nil))) .nil)) .nil))))))))) (.cons (.ret (.call 36 (.cons (.var 8) (.cons (.lst false (.cons (.var 1) (.cons (.var 1) (.cons (.var 11) (.cons (.var 11) (.cons (.tup (.cons (.bin .sub false (.cst (.int (0))) (.var 3)) (.cons (.var 4) .nil))) (.cons (.call 26 (.cons (.tup (.cons (.cst (.int (2))) (.cons (.cst (.int (1))) .nil))) (.cons (.var 1) .nil))) (.cons (.cst (.bl true)) .nil)))))))) .nil)))) .nil)))))))))
def m__law_right : Ss := (.cons (.par 1 2 (.call 42 (.cons (.var 0) (.cons (.call 34 (.cons (.var 0) (.cons (.lst false (.cons (.cst (.int (2))) (.cons (.cst (.int (5))) (.cons (.cst (.int (12))) .nil)))) .nil))) (.cons (.call 34 (.cons (.var 0) (.cons (.lst false (.cons (.cst (.int (3))) (.cons (.cst (.int (12))) .nil))) .nil))) .nil)))) (.lst true .nil)) (.cons (.for_ (.nm 3) (.rng (.cst (.int 0)) (.idx (.var 1) (.cst (.int (0))))) (.cons (.exp (.app (.var 2) (.call 43 (.cons (.var 0) (.cons (.bin .pow false (.cst (.int (10))) (.cst (.int (12)))) .nil))))) .nil)) (.cons (.par3 4 5 6 (.lst true .nil) (.tup (.cons (.cst (.int (0))) (.cons (.cst (.int (1))) .nil))) (.bin .mul true (.lst false (.cons (.tup (.cons (.cst (.int (0))) (.cons (.cst (.int (1))) .nil))) .nil)) (.idx (.var 1) (.cst (.int (0)))))) (.cons (.for_ (.tp [7, 8, 9]) (.seq (.idx (.var 1) (.cst (.int (1))))) (.cons (.set 10 (.call 39 (.cons (.idx (.var 2) (.var 7)) (.cons (.idx (.var 2) (.var 8)) .nil)))) (.cons (.exp (.app (.var 4) (.call 40 (.cons (.var 9) (.cons (.var 10) .nil))))) (.cons (.set 5 (.call 38 (.cons (.var 5) (.cons (.call 40 (.cons (.var 9) (.cons (.call 40 (.cons (.var 10) (.cons (.var 10) .nil))) .nil))) .nil)))) .nil)))) (.cons (.for_ (.nm 3) (.rng (.cst (.int 0)) (.idx (.var 1) (.cst (.int (0))))) (.cons (.for_ (.t2 [.t [7, 8, 9], .n 11]) (.zip (.idx (.var 1) (.cst (.int (1)))) (.var 4)) (.cons (.seti (.var 6) (.var 3) (.ite (.cmp .eq (.var 3) (.var 7)) (.call 38 (.cons (.idx (.var 6) (.var 3)) (.cons (.var 11) .nil))) (.ite (.cmp .eq (.var 3) (.var 8)) (.call 39 (.cons (.idx (.var 6) (.var 3)) (.cons (.var 11) .nil))) (.idx (.var 6) (.var 3))))) .nil)) .nil)) (.cons (.set 12 (.blt .tuple false (.cons (.var 2) .nil))) (.cons (.ite (.not (.call 36 (.cons (.lst false (.cons (.call 29 (.cons (.var 1) (.cons (.var 12) .nil))) (.cons (.call 30 (.cons (.var 1) (.cons (.var 12) .nil))) (.cons (.call 31 (.cons (.var 1) (.cons (.var 12) .nil))) .nil)))) (.cons (.lst false (.cons (.blt .tuple false (.cons (.var 4) .nil)) (.cons (.blt .tuple false (.cons (.var 6) .nil)) (.cons (.var 5) .nil)))) .nil)))) (.cons (.ret (.cst (.bl false))) .nil) .nil) (.cons (.asg (.tp [13, 14]) (.tup (.cons (.tup (.cons (.cst (.int (0))) (.cons (.cst (.int (1))) .nil))) (.cons (.tup (.cons (.cst (.int (0))) (.cons (.cst (.int (1))) .nil))) .nil)))) (.cons (.for_ (.tp [15, 16]) (.zip (.var 2) (.var 6)) (.cons (.par 13 14 (.call 38 (.cons (.var 13) (.cons (.var 16) .nil))) (.call 38 (.cons (.var 14) (.cons (.call 40 (.cons (.var 15) (.cons (.var 16) .nil))) .nil)))) .nil)) (.cons (.set 17 (.bin .mul false (.tup (.cons (.idx (.var 2) (.cst (.int (0)))) .nil)) (.idx (.var 1) (.cst (.int (0)))))) (.cons (.set 18 (.lst false (.cons (.call 29 (.cons (.var 1) (.cons (.var 17) .nil))) (.cons (.call 30 (.cons (.var 1) (.cons (.var 17) .nil))) (.cons (.call 31 (.cons (.var 1) (.cons (.var 17) .nil))) .nil))))) (.cons (.ret (.and (.cmp .eq (.var 13) (.tup (.cons (.cst (.int (0))) (.cons (.cst (.int (1))) .nil)))) (.and (.cmp .eq (.var 14) (.var 5)) (.call 36 (.cons (.var 18) (.cons (.lst false (.cons (.bin .mul false (.tup (.cons (.tup (.cons (.cst (.int (0))) (.cons (.cst (.int (1))) .nil))) .nil)) (.blt .len false (.cons (.idx (.var 1) (.cst (.int (1)))) .nil))) (.cons (.bin .mul false (.tup (.cons (.tup (.cons (.cst (.int (0))) (.cons (.cst (.int (1))) .nil))) .nil)) (.idx (.var 1) (.cst (.int (0))))) (.cons (.tup (.cons (.cst (.int (0))) (.cons (.cst (.int (1))) .nil))) .nil)))) .nil)))))) .nil))))))))))))
def m__law_formulas_right : Ss := (.cons (.asg (.tp [1, 2]) (.tup (.cons (.bin .add false (.cst (.int (2))) (.call 33 (.cons (.var 0) (.cons (.cst (.int (11))) .nil)))) (.cons (.call 41 (.cons (.var 0) (.cons (.cst (.int (12))) .nil))) .nil)))) (.cons (.set 3 (.tup (.cons (.var 1) (.cons (.blt .tuple false (.cons (.lc false [15] (.nm 15) (.rng (.cst (.int 0)) (.bin .sub false (.var 1) (.cst (.int (1))))) .nil (.tup (.cons (.var 15) (.cons (.bin .add false (.var 15) (.cst (.int (1)))) (.cons (.var 2) .nil))))) .nil)) .nil)))) (.cons (.set 4 (.blt .tuple false (.cons (.lc false [15] (.nm 15) (.rng (.cst (.int 0)) (.var 1)) .nil (.tup (.cons (.bin .sub false (.bin .sub false (.var 1) (.cst (.int (1)))) (.var 15)) (.cons (.cst (.int (1))) .nil)))) .nil))) (.cons (.set 5 (.lst false (.cons (.call 29 (.cons (.var 3) (.cons (.var 4) .nil))) (.cons (.call 30 (.cons (.var 3) (.cons (.var 4) .nil))) (.cons (.call 31 (.cons (.var 3) (.cons (.var 4) .nil))) .nil))))) (.cons (.set 6 (.tup (.cons (.bin .sub false (.cst (.int (0))) (.idx (.var 2) (.cst (.int (0))))) (.cons (.idx (.var 2) (.cst (.int (1)))) .nil)))) (.cons (.ite (.not (.call 36 (.cons (.var 5) (.cons (.lst false (.cons (.bin .mul false (.tup (.cons (.var 2) .nil)) (.bin .sub false (.var 1) (.cst (.int (1))))) (.cons (.bin .add false (.bin .add false (.tup (.cons (.var 2) .nil)) (.bin .mul false (.tup (.cons (.tup (.cons (.cst (.int (0))) (.cons (.cst (.int (1))) .nil))) .nil)) (.bin .sub false (.var 1) (.cst (.int (2)))))) (.tup (.cons (.var 6) .nil))) (.cons (.call 40 (.cons (.tup (.cons (.bin .sub false (.var 1) (.cst (.int (1)))) (.cons (.cst (.int (1))) .nil))) (.cons (.var 2) .nil))) .nil)))) .nil)))) (.cons (.ret (.cst (.bl false))) .nil) .nil) (.cons (.set 7 (.tup (.cons (.var 1) (.cons (.blt .tuple false (.cons (.lc false [15] (.nm 15) (.rng (.cst (.int (1))) (.var 1)) .nil (.tup (.cons (.cst (.int (0))) (.cons (.var 15) (.cons (.var 2) .nil))))) .nil)) .nil)))) (.cons (.set 4 (.bin .add false (.tup (.cons (.tup (.cons (.cst (.int (0))) (.cons (.cst (.int (1))) .nil))) .nil)) (.bin .mul false (.tup (.cons (.tup (.cons (.cst (.int (5))) (.cons (.cst (.int (3))) .nil))) .nil)) (.bin .sub false (.var 1) (.cst (.int (1))))))) (.cons (.set 8 (.call 40 (.cons (.var 2) (.cons (.tup (.cons (.cst (.int (5))) (.cons (.cst (.int (3))) .nil))) .nil)))) (.cons (.par 9 10 (.tup (.cons (.bin .sub false (.cst (.int (0))) (.idx (.var 8) (.cst (.int (0))))) (.cons (.idx (.var 8) (.cst (.int (1)))) .nil))) (.call 40 (.cons (.tup (.cons (.bin .sub false (.cst (.int (1))) (.var 1)) (.cons (.cst (.int (1))) .nil))) (.cons (.var 8) .nil)))) (.cons (.ite (.not (.call 36 (.cons (.lst false (.cons (.call 29 (.cons (.var 7) (.cons (.var 4) .nil))) (.cons (.call 30 (.cons (.var 7) (.cons (.var 4) .nil))) .nil))) (.cons (.lst false (.cons (.bin .mul false (.tup (.cons (.var 9) .nil)) (.bin .sub false (.var 1) (.cst (.int (1))))) (.cons (.bin .add false (.tup (.cons (.var 10) .nil)) (.bin .mul false (.tup (.cons (.var 8) .nil)) (.bin .sub false (.var 1) (.cst (.int (1)))))) .nil))) .nil)))) (.cons (.ret (.cst (.bl false))) .nil) .nil) (.cons (.ite (.cmp .ne (.call 31 (.cons (.var 7) (.cons (.var 4) .nil))) (.call 40 (.cons (.tup (.cons (.bin .sub false (.var 1) (.cst (.int (1)))) (.cons (.cst (.int (1))) .nil))) (.cons (.call 40 (.cons (.var 8) (.cons (.tup (.cons (.cst (.int (5))) (.cons (.cst (.int (3))) .nil))) .nil))) .nil)))) (.cons (.ret (.cst (.bl false))) .nil) .nil) (.cons (.set 11 (.lst false .nil)) (.cons (.for_ (.nm 12) (.rng (.cst (.int 0)) (.var 1)) (.cons (.set 11 (.bin .add false (.var 11) (.lc false [16] (.nm 16) (.rng (.bin .add false (.var 12) (.cst (.int (1)))) (.var 1)) .nil (.tup (.cons (.var 12) (.cons (.var 16) (.cons (.tup (.cons (.cst (.int (1))) (.cons (.cst (.int (1))) .nil))) .nil))))))) .nil)) (.cons (.set 13 (.call 33 (.cons (.var 0) (.cons (.var 1) .nil)))) (.cons (.set 4 (.blt .tuple false (.cons (.lc false [15] (.nm 15) (.rng (.cst (.int 0)) (.var 1)) .nil (.ite (.cmp .eq (.var 15) (.var 13)) (.tup (.cons (.cst (.int (1))) (.cons (.cst (.int (1))) .nil))) (.tup (.cons (.cst (.int (0))) (.cons (.cst (.int (1))) .nil))))) .nil))) (.cons (.set 14 (.blt .tuple false (.cons (.lc false [15] (.nm 15) (.rng (.cst (.int 0)) (.var 1)) .nil (.ite (.cmp .eq (.var 15) (.var 13)) (.tup (.cons (.bin .sub false (.var 1) (.cst (.int (1)))) (.cons (.cst (.int (1))) .nil))) (.tup (.cons (.neg (.cst (.int (1)))) (.cons (.cst (.int (1))) .nil))))) .nil))) (.cons (.ret (.call 36 (.cons (.lst false (.cons (.call 30 (.cons (.tup (.cons (.var 1) (.cons (.blt .tuple false (.cons (.var 11) .nil)) .nil))) (.cons (.var 4) .nil))) (.cons (.call 31 (.cons (.tup (.cons (.var 1) (.cons (.blt .tuple false (.cons (.var 11) .nil)) .nil))) (.cons (.var 4) .nil))) .nil))) (.cons (.lst false (.cons (.var 14) (.cons (.tup (.cons (.bin .sub false (.var 1) (.cst (.int (1)))) (.cons (.cst (.int (1))) .nil))) .nil))) .nil)))) .nil))))))))))))))))))
def m_law : Ss := (.cons (.set 1 (.call 32 (.cons (.var 0) .nil))) (.cons (.for_ (.nm 2) (.rng (.cst (.int 0)) (.cst (.int (4)))) (.cons (.ite (.or (.not (.call 44 (.cons (.var 1) .nil))) (.not (.call 45 (.cons (.var 1) .nil)))) (.cons (.ret (.cst (.bl false))) .nil) .nil) .nil)) (.cons (.asg (.tp [3, 4]) (.tup (.cons (.tup (.cons (.cst (.int (3))) (.cons (.tup (.cons (.tup (.cons (.cst (.int (0))) (.cons (.cst (.int (1))) (.cons (.tup (.cons (.cst (.int (1))) (.cons (.cst (.int (1))) .nil))) .nil)))) (.cons (.tup (.cons (.cst (.int (1))) (.cons (.cst (.int (2))) (.cons (.tup (.cons (.cst (.int (1))) (.cons (.cst (.int (2))) .nil))) .nil)))) .nil))) .nil))) (.cons (.tup (.cons (.tup (.cons (.cst (.int (3))) (.cons (.cst (.int (1))) .nil))) (.cons (.tup (.cons (.cst (.int (2))) (.cons (.cst (.int (1))) .nil))) (.cons (.tup (.cons (.cst (.int (0))) (.cons (.cst (.int (1))) .nil))) .nil)))) .nil)))) (.cons (.set 5 (.lst true (.cons (.call 24 (.cons (.tup (.cons (.cst (.int (1))) (.cons (.cst (.int (2))) .nil))) (.cons (.tup (.cons (.cst (.int (1))) (.cons (.cst (.int (3))) .nil))) .nil))) (.cons (.call 28 (.cons (.tup (.cons (.cst (.int (1))) (.cons (.cst (.int (3))) .nil))) (.cons (.tup (.cons (.cst (.int (1))) (.cons (.cst (.int (2))) .nil))) .nil))) (.cons (.call 29 (.cons (.var 3) (.cons (.var 4) .nil))) (.cons (.call 30 (.cons (.var 3) (.cons (.var 4) .nil))) (.cons (.call 31 (.cons (.var 3) (.cons (.var 4) .nil))) (.cons (.call 27 (.cons (.tup (.cons (.neg (.cst (.int (1)))) (.cons (.cst (.int (2))) .nil))) (.cons (.tup (.cons (.neg (.cst (.int (3)))) (.cons (.cst (.int (4))) .nil))) .nil))) (.cons (.call 27 (.cons (.tup (.cons (.cst (.int (1))) (.cons (.cst (.int (2))) .nil))) (.cons (.tup (.cons (.neg (.cst (.int (1)))) (.cons (.cst (.int (3))) .nil))) .nil))) .nil))))))))) (.cons (.set 6 (.lst false (.cons (.tup (.cons (.cst (.int (5))) (.cons (.cst (.int (6))) .nil))) (.cons (.cst (.bl true)) (.cons (.tup (.cons (.tup (.cons (.cst (.int (1))) (.cons (.cst (.int (1))) .nil))) (.cons (.tup (.cons (.cst (.int (1))) (.cons (.cst (.int (1))) .nil))) .nil))) (.cons (.tup (.cons (.tup (.cons (.cst (.int (1))) (.cons (.cst (.int (1))) .nil))) (.cons (.tup (.cons (.cst (.int (0))) (.cons (.cst (.int (1))) .nil))) (.cons (.tup (.cons (.neg (.cst (.int (1)))) (.cons (.cst (.int (1))) .nil))) .nil)))) (.cons (.tup (.cons (.cst (.int (3))) (.cons (.cst (.int (1))) .nil))) (.cons (.tup (.cons (.cst (.int (2))) (.cons (.cst (.int (3))) .nil))) (.cons (.tup (.cons (.neg (.cst (.int (3)))) (.cons (.cst (.int (2))) .nil))) .nil))))))))) (.cons (.set 7 (.bin .sub false (.bin .pow false (.cst (.int (10))) (.cst (.int (40)))) (.cst (.int (1))))) (.cons (.set 5 (.bin .add true (.var 5) (.lst false (.cons (.call 24 (.cons (.tup (.cons (.var 7) (.cons (.cst (.int (1))) .nil))) (.cons (.tup (.cons (.var 7) (.cons (.cst (.int (1))) .nil))) .nil))) (.cons (.call 26 (.cons (.tup (.cons (.var 7) (.cons (.cst (.int (1))) .nil))) (.cons (.tup (.cons (.cst (.int (1))) (.cons (.var 7) .nil))) .nil))) (.cons (.call 25 (.cons (.tup (.cons (.cst (.int (0))) (.cons (.cst (.int (1))) .nil))) (.cons (.tup (.cons (.var 7) (.cons (.cst (.int (1))) .nil))) .nil))) (.cons (.call 23 (.cons (.call 24 (.cons (.tup (.cons (.var 7) (.cons (.cst (.int (1))) .nil))) (.cons (.tup (.cons (.cst (.int (1))) (.cons (.cst (.int (1))) .nil))) .nil))) .nil)) (.cons (.call 29 (.cons (.tup (.cons (.cst (.int (1))) (.cons (.tup .nil) .nil))) (.cons (.tup (.cons (.tup (.cons (.var 7) (.cons (.cst (.int (1))) .nil))) .nil)) .nil))) .nil)))))))) (.cons (.set 5 (.bin .add true (.var 5) (.lst false (.cons (.call 30 (.cons (.tup (.cons (.cst (.int (1))) (.cons (.tup .nil) .nil))) (.cons (.tup (.cons (.tup (.cons (.var 7) (.cons (.cst (.int (1))) .nil))) .nil)) .nil))) (.cons (.call 31 (.cons (.tup (.cons (.cst (.int (2))) (.cons (.tup .nil) .nil))) (.cons (.tup (.cons (.tup (.cons (.cst (.int (1))) (.cons (.cst (.int (1))) .nil))) (.cons (.tup (.cons (.cst (.int (2))) (.cons (.cst (.int (1))) .nil))) .nil))) .nil))) .nil))))) (.cons (.set 6 (.bin .add false (.var 6) (.lst false (.cons (.tup (.cons (.bin .mul false (.cst (.int (2))) (.var 7)) (.cons (.cst (.int (1))) .nil))) (.cons (.tup (.cons (.cst (.int (1))) (.cons (.cst (.int (1))) .nil))) (.cons (.tup (.cons (.bin .sub false (.cst (.int (0))) (.var 7)) (.cons (.cst (.int (1))) .nil))) (.cons (.cst (.bl false)) (.cons (.tup .nil) (.cons (.tup (.cons (.tup (.cons (.cst (.int (0))) (.cons (.cst (.int (1))) .nil))) .nil)) (.cons (.tup (.cons (.cst (.int (0))) (.cons (.cst (.int (1))) .nil))) .nil)))))))))) (.cons (.exp (.app (.var 5) (.call 29 (.cons (.tup (.cons (.cst (.int (2))) (.cons (.tup (.cons (.tup (.cons (.cst (.int (0))) (.cons (.cst (.int (1))) (.cons (.tup (.cons (.var 7) (.cons (.cst (.int (1))) .nil))) .nil)))) .nil)) .nil))) (.cons (.tup (.cons (.tup (.cons (.var 7) (.cons (.cst (.int (1))) .nil))) (.cons (.tup (.cons (.bin .sub false (.cst (.int (0))) (.var 7)) (.cons (.cst (.int (1))) .nil))) .nil))) .nil))))) (.cons (.ret (.and (.call 36 (.cons (.var 5) (.cons (.bin .add false (.var 6) (.lst false (.cons (.tup (.cons (.tup (.cons (.bin .mul false (.bin .mul false (.cst (.int (2))) (.var 7)) (.var 7)) (.cons (.cst (.int (1))) .nil))) .nil)) .nil))) .nil))) (.call 46 (.cons (.var 1) .nil)))) .nil)))))))))))
def prog : List Fn := [⟨1, 1, false, m_is_integer⟩,
  ⟨3, 3, false, m_is_whole⟩,
  ⟨3, 3, false, m_is_tuple_of⟩,
  ⟨3, 1, false, m_is_rising⟩,
  ⟨2, 2, false, m_divisor_of⟩,
  ⟨3, 2, false, m_lowest⟩,
  ⟨2, 2, false, m_sum_of⟩,
  ⟨2, 2, false, m_less_by⟩,
  ⟨2, 2, false, m_product_of⟩,
  ⟨2, 2, false, m_part_of⟩,
  ⟨2, 2, false, m_is_under⟩,
  ⟨3, 1, false, m_sum_over⟩,
  ⟨2, 1, false, m_fits_fraction⟩,
  ⟨1, 1, false, m_need_fraction⟩,
  ⟨2, 2, false, m_fits_tie⟩,
  ⟨2, 1, false, m_fits_net⟩,
  ⟨1, 1, false, m_need_net⟩,
  ⟨3, 2, false, m_fits_heights⟩,
  ⟨2, 2, false, m_need_heights⟩,
  ⟨5, 2, false, m_currents_in⟩,
  ⟨7, 2, false, m_outs_in⟩,
  ⟨8, 2, false, m_power_in⟩,
  ⟨2, 2, false, m_need_both⟩,
  ⟨1, 1, false, m_is_fraction⟩,
  ⟨2, 2, false, m_plus⟩,
  ⟨2, 2, false, m_minus⟩,
  ⟨2, 2, false, m_times⟩,
  ⟨2, 2, false, m_over⟩,
  ⟨2, 2, false, m_is_less⟩,
  ⟨2, 2, false, m_currents_of⟩,
  ⟨2, 2, false, m_outs_of⟩,
  ⟨2, 2, false, m_power_of⟩,
  ⟨2, 1, true, m__law_cup⟩,
  ⟨4, 2, false, m__law_roll⟩,
  ⟨2, 2, false, m__law_some⟩,
  ⟨1, 1, false, m__law_sort⟩,
  ⟨5, 2, false, m__law_like⟩,
  ⟨5, 2, false, m__law_least⟩,
  ⟨2, 2, false, m__law_plus⟩,
  ⟨2, 2, false, m__law_minus⟩,
  ⟨2, 2, false, m__law_times⟩,
  ⟨2, 2, false, m__law_lead⟩,
  ⟨10, 3, false, m__law_net⟩,
  ⟨3, 2, false, m__law_fraction⟩,
  ⟨12, 1, false, m__law_sums_right⟩,
  ⟨19, 1, false, m__law_right⟩,
  ⟨17, 1, false, m__law_formulas_right⟩,
  ⟨8, 1, false, m_law⟩]
def names : List Str := [Str.ofString "is_integer", Str.ofString "is_whole", Str.ofString "is_tuple_of", Str.ofString "is_rising", Str.ofString "divisor_of", Str.ofString "lowest", Str.ofString "sum_of", Str.ofString "less_by", Str.ofString "product_of", Str.ofString "part_of", Str.ofString "is_under", Str.ofString "sum_over", Str.ofString "fits_fraction", Str.ofString "need_fraction", Str.ofString "fits_tie", Str.ofString "fits_net", Str.ofString "need_net", Str.ofString "fits_heights", Str.ofString "need_heights", Str.ofString "currents_in", Str.ofString "outs_in", Str.ofString "power_in", Str.ofString "need_both", Str.ofString "is_fraction", Str.ofString "plus", Str.ofString "minus", Str.ofString "times", Str.ofString "over", Str.ofString "is_less", Str.ofString "currents_of", Str.ofString "outs_of", Str.ofString "power_of", Str.ofString "_law_cup", Str.ofString "_law_roll", Str.ofString "_law_some", Str.ofString "_law_sort", Str.ofString "_law_like", Str.ofString "_law_least", Str.ofString "_law_plus", Str.ofString "_law_minus", Str.ofString "_law_times", Str.ofString "_law_lead", Str.ofString "_law_net", Str.ofString "_law_fraction", Str.ofString "_law_sums_right", Str.ofString "_law_right", Str.ofString "_law_formulas_right", Str.ofString "law"]
def consts : List (Str × PV) := [("NONE", k_NONE), ("DIGITS", k_DIGITS), ("MOST_TIES", k_MOST_TIES), ("MOST_NODES", k_MOST_NODES)]
def blts : List Str := ["isinstance", "bool", "int", "len", "tuple", "zip", "all", "abs", "list", "str", "sorted", "range"]
abbrev s_is_integer : Stmt := topS 10
theorem sc_is_integer : FnScope ["value"] ["value"] (defScope s_is_integer) := ⟨rfl, rfl, rfl, by decide +kernel, rfl, by decide +kernel, by decide +kernel⟩
abbrev s_is_whole : Stmt := topS 11
theorem sc_is_whole : FnScope ["value", "low", "high"] ["value", "low", "high"] (defScope s_is_whole) := ⟨rfl, rfl, rfl, by decide +kernel, rfl, by decide +kernel, by decide +kernel⟩
abbrev s_is_tuple_of : Stmt := topS 12
theorem sc_is_tuple_of : FnScope ["value", "low", "high"] ["value", "low", "high"] (defScope s_is_tuple_of) := ⟨rfl, rfl, rfl, by decide +kernel, rfl, by decide +kernel, by decide +kernel⟩
abbrev s_is_rising : Stmt := topS 13
theorem sc_is_rising : FnScope ["things", "one", "other"] ["things"] (defScope s_is_rising) := ⟨rfl, rfl, rfl, by decide +kernel, rfl, by decide +kernel, by decide +kernel⟩
abbrev s_divisor_of : Stmt := topS 14
theorem sc_divisor_of : FnScope ["one", "other"] ["one", "other"] (defScope s_divisor_of) := ⟨rfl, rfl, rfl, by decide +kernel, rfl, by decide +kernel, by decide +kernel⟩
abbrev s_lowest : Stmt := topS 15
theorem sc_lowest : FnScope ["above", "below", "part"] ["above", "below"] (defScope s_lowest) := ⟨rfl, rfl, rfl, by decide +kernel, rfl, by decide +kernel, by decide +kernel⟩
abbrev s_sum_of : Stmt := topS 16
theorem sc_sum_of : FnScope ["one", "other"] ["one", "other"] (defScope s_sum_of) := ⟨rfl, rfl, rfl, by decide +kernel, rfl, by decide +kernel, by decide +kernel⟩
abbrev s_less_by : Stmt := topS 17
theorem sc_less_by : FnScope ["one", "other"] ["one", "other"] (defScope s_less_by) := ⟨rfl, rfl, rfl, by decide +kernel, rfl, by decide +kernel, by decide +kernel⟩
abbrev s_product_of : Stmt := topS 18
theorem sc_product_of : FnScope ["one", "other"] ["one", "other"] (defScope s_product_of) := ⟨rfl, rfl, rfl, by decide +kernel, rfl, by decide +kernel, by decide +kernel⟩
abbrev s_part_of : Stmt := topS 19
theorem sc_part_of : FnScope ["one", "other"] ["one", "other"] (defScope s_part_of) := ⟨rfl, rfl, rfl, by decide +kernel, rfl, by decide +kernel, by decide +kernel⟩
abbrev s_is_under : Stmt := topS 20
theorem sc_is_under : FnScope ["one", "other"] ["one", "other"] (defScope s_is_under) := ⟨rfl, rfl, rfl, by decide +kernel, rfl, by decide +kernel, by decide +kernel⟩
abbrev s_sum_over : Stmt := topS 21
theorem sc_sum_over : FnScope ["fractions", "found", "one"] ["fractions"] (defScope s_sum_over) := ⟨rfl, rfl, rfl, by decide +kernel, rfl, by decide +kernel, by decide +kernel⟩
abbrev s_fits_fraction : Stmt := topS 22
theorem sc_fits_fraction : FnScope ["value", "number"] ["value"] (defScope s_fits_fraction) := ⟨rfl, rfl, rfl, by decide +kernel, rfl, by decide +kernel, by decide +kernel⟩
abbrev s_need_fraction : Stmt := topS 23
theorem sc_need_fraction : FnScope ["value"] ["value"] (defScope s_need_fraction) := ⟨rfl, rfl, rfl, by decide +kernel, rfl, by decide +kernel, by decide +kernel⟩
abbrev s_fits_tie : Stmt := topS 24
theorem sc_fits_tie : FnScope ["many", "value"] ["many", "value"] (defScope s_fits_tie) := ⟨rfl, rfl, rfl, by decide +kernel, rfl, by decide +kernel, by decide +kernel⟩
abbrev s_fits_net : Stmt := topS 25
theorem sc_fits_net : FnScope ["value", "tie"] ["value"] (defScope s_fits_net) := ⟨rfl, rfl, rfl, by decide +kernel, rfl, by decide +kernel, by decide +kernel⟩
abbrev s_need_net : Stmt := topS 26
theorem sc_need_net : FnScope ["value"] ["value"] (defScope s_need_net) := ⟨rfl, rfl, rfl, by decide +kernel, rfl, by decide +kernel, by decide +kernel⟩
abbrev s_fits_heights : Stmt := topS 27
theorem sc_fits_heights : FnScope ["net", "value", "height"] ["net", "value"] (defScope s_fits_heights) := ⟨rfl, rfl, rfl, by decide +kernel, rfl, by decide +kernel, by decide +kernel⟩
abbrev s_need_heights : Stmt := topS 28
theorem sc_need_heights : FnScope ["net", "value"] ["net", "value"] (defScope s_need_heights) := ⟨rfl, rfl, rfl, by decide +kernel, rfl, by decide +kernel, by decide +kernel⟩
abbrev s_currents_in : Stmt := topS 29
theorem sc_currents_in : FnScope ["net", "heights", "one", "other", "lead"] ["net", "heights"] (defScope s_currents_in) := ⟨rfl, rfl, rfl, by decide +kernel, rfl, by decide +kernel, by decide +kernel⟩
abbrev s_outs_in : Stmt := topS 30
theorem sc_outs_in : FnScope ["net", "heights", "found", "one", "other", "lead", "current"] ["net", "heights"] (defScope s_outs_in) := ⟨rfl, rfl, rfl, by decide +kernel, rfl, by decide +kernel, by decide +kernel⟩
abbrev s_power_in : Stmt := topS 31
theorem sc_power_in : FnScope ["net", "heights", "falls", "one", "other", "lead", "current", "fall"] ["net", "heights"] (defScope s_power_in) := ⟨rfl, rfl, rfl, by decide +kernel, rfl, by decide +kernel, by decide +kernel⟩
abbrev s_need_both : Stmt := topS 32
theorem sc_need_both : FnScope ["one", "other"] ["one", "other"] (defScope s_need_both) := ⟨rfl, rfl, rfl, by decide +kernel, rfl, by decide +kernel, by decide +kernel⟩
abbrev s_is_fraction : Stmt := topS 33
theorem sc_is_fraction : FnScope ["value"] ["value"] (defScope s_is_fraction) := ⟨rfl, rfl, rfl, by decide +kernel, rfl, by decide +kernel, by decide +kernel⟩
abbrev s_plus : Stmt := topS 34
theorem sc_plus : FnScope ["one", "other"] ["one", "other"] (defScope s_plus) := ⟨rfl, rfl, rfl, by decide +kernel, rfl, by decide +kernel, by decide +kernel⟩
abbrev s_minus : Stmt := topS 35
theorem sc_minus : FnScope ["one", "other"] ["one", "other"] (defScope s_minus) := ⟨rfl, rfl, rfl, by decide +kernel, rfl, by decide +kernel, by decide +kernel⟩
abbrev s_times : Stmt := topS 36
theorem sc_times : FnScope ["one", "other"] ["one", "other"] (defScope s_times) := ⟨rfl, rfl, rfl, by decide +kernel, rfl, by decide +kernel, by decide +kernel⟩
abbrev s_over : Stmt := topS 37
theorem sc_over : FnScope ["one", "other"] ["one", "other"] (defScope s_over) := ⟨rfl, rfl, rfl, by decide +kernel, rfl, by decide +kernel, by decide +kernel⟩
abbrev s_is_less : Stmt := topS 38
theorem sc_is_less : FnScope ["one", "other"] ["one", "other"] (defScope s_is_less) := ⟨rfl, rfl, rfl, by decide +kernel, rfl, by decide +kernel, by decide +kernel⟩
abbrev s_currents_of : Stmt := topS 39
theorem sc_currents_of : FnScope ["net", "heights"] ["net", "heights"] (defScope s_currents_of) := ⟨rfl, rfl, rfl, by decide +kernel, rfl, by decide +kernel, by decide +kernel⟩
abbrev s_outs_of : Stmt := topS 40
theorem sc_outs_of : FnScope ["net", "heights"] ["net", "heights"] (defScope s_outs_of) := ⟨rfl, rfl, rfl, by decide +kernel, rfl, by decide +kernel, by decide +kernel⟩
abbrev s_power_of : Stmt := topS 41
theorem sc_power_of : FnScope ["net", "heights"] ["net", "heights"] (defScope s_power_of) := ⟨rfl, rfl, rfl, by decide +kernel, rfl, by decide +kernel, by decide +kernel⟩
abbrev s__law_cup : Stmt := topS 43
theorem sc__law_cup : FnScope ["script", "cell"] ["script"] (defScope s__law_cup) := ⟨rfl, rfl, rfl, by decide +kernel, rfl, by decide +kernel, by decide +kernel⟩
abbrev s__law_roll : Stmt := topS 44
theorem sc__law_roll : FnScope ["cup", "many", "found", "deep"] ["cup", "many"] (defScope s__law_roll) := ⟨rfl, rfl, rfl, by decide +kernel, rfl, by decide +kernel, by decide +kernel⟩
abbrev s__law_some : Stmt := topS 45
theorem sc__law_some : FnScope ["cup", "things"] ["cup", "things"] (defScope s__law_some) := ⟨rfl, rfl, rfl, by decide +kernel, rfl, by decide +kernel, by decide +kernel⟩
abbrev s__law_sort : Stmt := topS 46
theorem sc__law_sort : FnScope ["value"] ["value"] (defScope s__law_sort) := ⟨rfl, rfl, rfl, by decide +kernel, rfl, by decide +kernel, by decide +kernel⟩
abbrev s__law_like : Stmt := topS 47
theorem sc__law_like : FnScope ["one", "other", "sort", "first", "second"] ["one", "other"] (defScope s__law_like) := ⟨rfl, rfl, rfl, by decide +kernel, rfl, by decide +kernel, by decide +kernel⟩
abbrev s__law_least : Stmt := topS 48
theorem sc__law_least : FnScope ["above", "below", "one", "other", "sign"] ["above", "below"] (defScope s__law_least) := ⟨rfl, rfl, rfl, by decide +kernel, rfl, by decide +kernel, by decide +kernel⟩
abbrev s__law_plus : Stmt := topS 49
theorem sc__law_plus : FnScope ["one", "other"] ["one", "other"] (defScope s__law_plus) := ⟨rfl, rfl, rfl, by decide +kernel, rfl, by decide +kernel, by decide +kernel⟩
abbrev s__law_minus : Stmt := topS 50
theorem sc__law_minus : FnScope ["one", "other"] ["one", "other"] (defScope s__law_minus) := ⟨rfl, rfl, rfl, by decide +kernel, rfl, by decide +kernel, by decide +kernel⟩
abbrev s__law_times : Stmt := topS 51
theorem sc__law_times : FnScope ["one", "other"] ["one", "other"] (defScope s__law_times) := ⟨rfl, rfl, rfl, by decide +kernel, rfl, by decide +kernel, by decide +kernel⟩
abbrev s__law_lead : Stmt := topS 54
theorem sc__law_lead : FnScope ["cup", "size"] ["cup", "size"] (defScope s__law_lead) := ⟨rfl, rfl, rfl, by decide +kernel, rfl, by decide +kernel, by decide +kernel⟩
abbrev s__law_net : Stmt := topS 55
theorem sc__law_net : FnScope ["cup", "most", "size", "many", "ties", "node", "turn", "one", "other", "pair"] ["cup", "most", "size"] (defScope s__law_net) := ⟨rfl, rfl, rfl, by decide +kernel, rfl, by decide +kernel, by decide +kernel⟩
abbrev s__law_fraction : Stmt := topS 56
theorem sc__law_fraction : FnScope ["cup", "most", "size"] ["cup", "most"] (defScope s__law_fraction) := ⟨rfl, rfl, rfl, by decide +kernel, rfl, by decide +kernel, by decide +kernel⟩
abbrev s__law_sums_right : Stmt := topS 57
theorem sc__law_sums_right : FnScope ["cup", "one", "other", "a", "b", "c", "d", "rows", "told", "above", "below", "zero"] ["cup"] (defScope s__law_sums_right) := ⟨rfl, rfl, rfl, by decide +kernel, rfl, by decide +kernel, by decide +kernel⟩
abbrev s__law_right : Stmt := topS 58
theorem sc__law_right : FnScope ["cup", "net", "heights", "node", "currents", "power", "outs", "one", "other", "lead", "fall", "current", "own", "whole", "given", "height", "out", "flat", "told"] ["cup"] (defScope s__law_right) := ⟨rfl, rfl, rfl, by decide +kernel, rfl, by decide +kernel, by decide +kernel⟩
abbrev s__law_formulas_right : Stmt := topS 59
theorem sc__law_formulas_right : FnScope ["cup", "many", "lead", "row", "heights", "told", "minus_lead", "star", "each", "back", "whole", "ties", "one", "node", "due", "at", "other"] ["cup"] (defScope s__law_formulas_right) := ⟨rfl, rfl, rfl, by decide +kernel, rfl, by decide +kernel, by decide +kernel⟩
abbrev s_law : Stmt := topS 60
theorem sc_law : FnScope ["script", "cup", "turn", "net", "heights", "told", "due", "top"] ["script"] (defScope s_law) := ⟨rfl, rfl, rfl, by decide +kernel, rfl, by decide +kernel, by decide +kernel⟩
section
variable {P : Program} {w : World} {K : PySem.W.Frag} {mg : Str → Option Value} {base : Heap} {W k : Nat}
theorem b_is_integer (T : Top P w K mg base prog W k names consts blts) (f : Addr) (cdv : Value) (A : Around) (outer : List PySem.Env) (s : Shared) (H : Hp) (E : XK) (hr : Room k (A.deeper (envOfC "is_integer" (defScope s_is_integer) s.heap.objs.size f cdv))) :
    PSs (cxOf CX0 P w K mg base ["value"] "is_integer" (defScope s_is_integer) f cdv A outer s H E).nox (defBody s_is_integer) (tSs K (callN prog W k) W m_is_integer) :=
  (ss_cons (s_ret (i_and (i_isi (T := .int) rfl (T.blt 0 _ rfl) rfl (T.blt 2 _ rfl) bb_int (i_var 0)) (i_one (i_not (i_isi (T := .bool) rfl (T.blt 0 _ rfl) rfl (T.blt 1 _ rfl) bb_bool (i_var 0))))))
  ss_nil)
theorem b_is_whole (T : Top P w K mg base prog W k names consts blts) (f : Addr) (cdv : Value) (A : Around) (outer : List PySem.Env) (s : Shared) (H : Hp) (E : XK) (hr : Room k (A.deeper (envOfC "is_whole" (defScope s_is_whole) s.heap.objs.size f cdv))) :
    PSs (cxOf CX0 P w K mg base ["value", "low", "high"] "is_whole" (defScope s_is_whole) f cdv A outer s H E).nox (defBody s_is_whole) (tSs K (callN prog W k) W m_is_whole) :=
  (ss_cons (s_ret (i_and (i_call (T.cal 0 _ rfl) hr rfl (is_cons (i_var 0) is_nil)) (i_one (i_chn o_le o_le (i_var 1) (i_var 0) (i_var 2)))))
  ss_nil)
theorem b_is_tuple_of (T : Top P w K mg base prog W k names consts blts) (f : Addr) (cdv : Value) (A : Around) (outer : List PySem.Env) (s : Shared) (H : Hp) (E : XK) (hr : Room k (A.deeper (envOfC "is_tuple_of" (defScope s_is_tuple_of) s.heap.objs.size f cdv))) :
    PSs (cxOf CX0 P w K mg base ["value", "low", "high"] "is_tuple_of" (defScope s_is_tuple_of) f cdv A outer s H E).nox (defBody s_is_tuple_of) (tSs K (callN prog W k) W m_is_tuple_of) :=
  (ss_cons (s_ret (i_and (i_isi (T := .tuple) rfl (T.blt 0 _ rfl) rfl (T.blt 4 _ rfl) bb_tuple (i_var 0)) (i_one (i_chn o_le o_le (i_var 1) (i_bltB (f := false) c_len rfl (T.blt 3 _ rfl) bb_len (is_cons (i_var 0) is_nil)) (i_var 2)))))
  ss_nil)
theorem b_is_rising (T : Top P w K mg base prog W k names consts blts) (f : Addr) (cdv : Value) (A : Around) (outer : List PySem.Env) (s : Shared) (H : Hp) (E : XK) (hr : Room k (A.deeper (envOfC "is_rising" (defScope s_is_rising) s.heap.objs.size f cdv))) :
    PSs (cxOf CX0 P w K mg base ["things", "one", "other"] "is_rising" (defScope s_is_rising) f cdv A outer s H E).nox (defBody s_is_rising) (tSs K (callN prog W k) W m_is_rising) :=
  (ss_cons (s_ret (i_bltB (f := false) (c_all rfl) rfl (T.blt 6 _ rfl) bb_all (is_cons (i_lc (own := [("one", 1), ("other", 2)]) false rfl sc_is_rising.nd (it_zip rfl (T.blt 5 _ rfl) (is_cons (i_var 0) (is_cons (i_slc (i_var 0) (o_some i_int) o_none) is_nil))) (blk_ok (N := ["things", "one", "other"]) (sc := defScope s_is_rising) (by decide +kernel)) rfl (fun _ _ _ _ _ => (g_tp rfl (gs_cons 1 sc_is_rising.nd (gs_cons 2 sc_is_rising.nd gs_nil)))) (fun _ _ _ _ _ => cs_nil) (fun _ _ _ _ _ => (i_cmp (o_lt hr.units) (i_var 1) (i_var 2) (nomark _)))) is_nil)))
  ss_nil)
theorem b_divisor_of (T : Top P w K mg base prog W k names consts blts) (f : Addr) (cdv : Value) (A : Around) (outer : List PySem.Env) (s : Shared) (H : Hp) (E : XK) (hr : Room k (A.deeper (envOfC "divisor_of" (defScope s_divisor_of) s.heap.objs.size f cdv))) :
    PSs (cxOf CX0 P w K mg base ["one", "other"] "divisor_of" (defScope s_divisor_of) f cdv A outer s H E).nox (defBody s_divisor_of) (tSs K (callN prog W k) W m_divisor_of) :=
  (ss_cons (s_par 0 1 rfl sc_divisor_of.nd (is_cons (i_bltB (f := false) c_abs rfl (T.blt 7 _ rfl) bb_abs (is_cons (i_var 0) is_nil)) (is_cons (i_bltB (f := false) c_abs rfl (T.blt 7 _ rfl) bb_abs (is_cons (i_var 1) is_nil)) is_nil)))
  (ss_cons (s_whl PassesOwn.never (t_cmp (o_ne hr.units) (i_var 1) i_int (nomark _)) (ss_cons (s_par 0 1 rfl sc_divisor_of.nd (is_cons (i_var 1) (is_cons (i_bin false o_mod (i_var 0) (i_var 1)) is_nil)))
  ss_nil))
  (ss_cons (s_ret (i_var 0))
  ss_nil)))
theorem b_lowest (T : Top P w K mg base prog W k names consts blts) (f : Addr) (cdv : Value) (A : Around) (outer : List PySem.Env) (s : Shared) (H : Hp) (E : XK) (hr : Room k (A.deeper (envOfC "lowest" (defScope s_lowest) s.heap.objs.size f cdv))) :
    PSs (cxOf CX0 P w K mg base ["above", "below", "part"] "lowest" (defScope s_lowest) f cdv A outer s H E).nox (defBody s_lowest) (tSs K (callN prog W k) W m_lowest) :=
  (ss_cons (s_set 2 sc_lowest.nd (i_bin false o_mul (i_call (T.cal 4 _ rfl) hr rfl (is_cons (i_var 0) (is_cons (i_var 1) is_nil))) (i_ite (t_cmp o_gt (i_var 1) i_int (nomark _)) i_int (i_neg i_int))))
  (ss_cons (s_ret (i_tup (is_cons (i_bin false o_fdiv (i_var 0) (i_var 2)) (is_cons (i_bin false o_fdiv (i_var 1) (i_var 2)) is_nil))))
  ss_nil))
theorem b_sum_of (T : Top P w K mg base prog W k names consts blts) (f : Addr) (cdv : Value) (A : Around) (outer : List PySem.Env) (s : Shared) (H : Hp) (E : XK) (hr : Room k (A.deeper (envOfC "sum_of" (defScope s_sum_of) s.heap.objs.size f cdv))) :
    PSs (cxOf CX0 P w K mg base ["one", "other"] "sum_of" (defScope s_sum_of) f cdv A outer s H E).nox (defBody s_sum_of) (tSs K (callN prog W k) W m_sum_of) :=
  (ss_cons (s_ret (i_call (T.cal 5 _ rfl) hr rfl (is_cons (i_bin false o_add (i_bin false o_mul (i_idx (i_var 0) i_int) (i_idx (i_var 1) i_int)) (i_bin false o_mul (i_idx (i_var 1) i_int) (i_idx (i_var 0) i_int))) (is_cons (i_bin false o_mul (i_idx (i_var 0) i_int) (i_idx (i_var 1) i_int)) is_nil))))
  ss_nil)
theorem b_less_by (T : Top P w K mg base prog W k names consts blts) (f : Addr) (cdv : Value) (A : Around) (outer : List PySem.Env) (s : Shared) (H : Hp) (E : XK) (hr : Room k (A.deeper (envOfC "less_by" (defScope s_less_by) s.heap.objs.size f cdv))) :
    PSs (cxOf CX0 P w K mg base ["one", "other"] "less_by" (defScope s_less_by) f cdv A outer s H E).nox (defBody s_less_by) (tSs K (callN prog W k) W m_less_by) :=
  (ss_cons (s_ret (i_call (T.cal 5 _ rfl) hr rfl (is_cons (i_bin false o_sub (i_bin false o_mul (i_idx (i_var 0) i_int) (i_idx (i_var 1) i_int)) (i_bin false o_mul (i_idx (i_var 1) i_int) (i_idx (i_var 0) i_int))) (is_cons (i_bin false o_mul (i_idx (i_var 0) i_int) (i_idx (i_var 1) i_int)) is_nil))))
  ss_nil)
theorem b_product_of (T : Top P w K mg base prog W k names consts blts) (f : Addr) (cdv : Value) (A : Around) (outer : List PySem.Env) (s : Shared) (H : Hp) (E : XK) (hr : Room k (A.deeper (envOfC "product_of" (defScope s_product_of) s.heap.objs.size f cdv))) :
    PSs (cxOf CX0 P w K mg base ["one", "other"] "product_of" (defScope s_product_of) f cdv A outer s H E).nox (defBody s_product_of) (tSs K (callN prog W k) W m_product_of) :=
  (ss_cons (s_ret (i_call (T.cal 5 _ rfl) hr rfl (is_cons (i_bin false o_mul (i_idx (i_var 0) i_int) (i_idx (i_var 1) i_int)) (is_cons (i_bin false o_mul (i_idx (i_var 0) i_int) (i_idx (i_var 1) i_int)) is_nil))))
  ss_nil)
theorem b_part_of (T : Top P w K mg base prog W k names consts blts) (f : Addr) (cdv : Value) (A : Around) (outer : List PySem.Env) (s : Shared) (H : Hp) (E : XK) (hr : Room k (A.deeper (envOfC "part_of" (defScope s_part_of) s.heap.objs.size f cdv))) :
    PSs (cxOf CX0 P w K mg base ["one", "other"] "part_of" (defScope s_part_of) f cdv A outer s H E).nox (defBody s_part_of) (tSs K (callN prog W k) W m_part_of) :=
  (ss_cons (s_ret (i_call (T.cal 5 _ rfl) hr rfl (is_cons (i_bin false o_mul (i_idx (i_var 0) i_int) (i_idx (i_var 1) i_int)) (is_cons (i_bin false o_mul (i_idx (i_var 0) i_int) (i_idx (i_var 1) i_int)) is_nil))))
  ss_nil)
theorem b_is_under (T : Top P w K mg base prog W k names consts blts) (f : Addr) (cdv : Value) (A : Around) (outer : List PySem.Env) (s : Shared) (H : Hp) (E : XK) (hr : Room k (A.deeper (envOfC "is_under" (defScope s_is_under) s.heap.objs.size f cdv))) :
    PSs (cxOf CX0 P w K mg base ["one", "other"] "is_under" (defScope s_is_under) f cdv A outer s H E).nox (defBody s_is_under) (tSs K (callN prog W k) W m_is_under) :=
  (ss_cons (s_ret (i_cmp (o_lt hr.units) (i_bin false o_mul (i_idx (i_var 0) i_int) (i_idx (i_var 1) i_int)) (i_bin false o_mul (i_idx (i_var 1) i_int) (i_idx (i_var 0) i_int)) (nomark _)))
  ss_nil)
theorem b_sum_over (T : Top P w K mg base prog W k names consts blts) (f : Addr) (cdv : Value) (A : Around) (outer : List PySem.Env) (s : Shared) (H : Hp) (E : XK) (hr : Room k (A.deeper (envOfC "sum_over" (defScope s_sum_over) s.heap.objs.size f cdv))) :
    PSs (cxOf CX0 P w K mg base ["fractions", "found", "one"] "sum_over" (defScope s_sum_over) f cdv A outer s H E).nox (defBody s_sum_over) (tSs K (callN prog W k) W m_sum_over) :=
  (ss_cons (s_set 1 sc_sum_over.nd (i_con rfl (T.con 0 _ _ rfl)))
  (ss_cons (s_for PassesOwn.never rfl (it_seq (i_var 0)) (g_nm 2 sc_sum_over.nd) (ss_cons (s_set 1 sc_sum_over.nd (i_call (T.cal 6 _ rfl) hr rfl (is_cons (i_var 1) (is_cons (i_var 2) is_nil))))
  ss_nil))
  (ss_cons (s_ret (i_var 1))
  ss_nil)))
theorem b_fits_fraction (T : Top P w K mg base prog W k names consts blts) (f : Addr) (cdv : Value) (A : Around) (outer : List PySem.Env) (s : Shared) (H : Hp) (E : XK) (hr : Room k (A.deeper (envOfC "fits_fraction" (defScope s_fits_fraction) s.heap.objs.size f cdv))) :
    PSs (cxOf CX0 P w K mg base ["value", "number"] "fits_fraction" (defScope s_fits_fraction) f cdv A outer s H E).nox (defBody s_fits_fraction) (tSs K (callN prog W k) W m_fits_fraction) :=
  (ss_cons (s_ite (t_w (w_or (t_not (t_of (i_call (T.cal 2 _ rfl) hr rfl (is_cons (i_var 0) (is_cons i_int (is_cons i_int is_nil)))))) (w_or1 (t_not (t_of (i_bltB (f := false) (c_all rfl) rfl (T.blt 6 _ rfl) bb_all (is_cons (i_lc (own := [("number", 1)]) false rfl sc_fits_fraction.nd (it_seq (i_var 0)) (blk_ok (N := ["value", "number"]) (sc := defScope s_fits_fraction) (by decide +kernel)) rfl (fun _ _ _ _ _ => (g_nm 1 sc_fits_fraction.nd)) (fun _ _ _ _ _ => cs_nil) (fun _ _ _ _ _ => (i_and (i_call (T.cal 0 _ rfl) hr rfl (is_cons (i_var 1) is_nil)) (i_one (i_chn (o_lt hr.units) (o_lt hr.units) (i_neg (i_con rfl (T.con 1 _ _ rfl))) (i_var 1) (i_con rfl (T.con 1 _ _ rfl))))))) is_nil))))))) (ss_cons (s_ret i_bl)
  ss_nil) ss_nil)
  (ss_cons (s_ret (i_and (i_cmp o_ge (i_idx (i_var 0) i_int) i_int (nomark _)) (i_one (i_cmp (o_eq hr.units) (i_call (T.cal 4 _ rfl) hr rfl (is_cons (i_idx (i_var 0) i_int) (is_cons (i_idx (i_var 0) i_int) is_nil))) i_int (nomark _)))))
  ss_nil))
theorem b_need_fraction (T : Top P w K mg base prog W k names consts blts) (f : Addr) (cdv : Value) (A : Around) (outer : List PySem.Env) (s : Shared) (H : Hp) (E : XK) (hr : Room k (A.deeper (envOfC "need_fraction" (defScope s_need_fraction) s.heap.objs.size f cdv))) :
    PSs (cxOf CX0 P w K mg base ["value"] "need_fraction" (defScope s_need_fraction) f cdv A outer s H E).nox (defBody s_need_fraction) (tSs K (callN prog W k) W m_need_fraction) :=
  (ss_cons (s_ite (t_not (t_of (i_call (T.cal 12 _ rfl) hr rfl (is_cons (i_var 0) is_nil)))) (ss_cons s_rais
  ss_nil) ss_nil)
  ss_nil)
theorem b_fits_tie (T : Top P w K mg base prog W k names consts blts) (f : Addr) (cdv : Value) (A : Around) (outer : List PySem.Env) (s : Shared) (H : Hp) (E : XK) (hr : Room k (A.deeper (envOfC "fits_tie" (defScope s_fits_tie) s.heap.objs.size f cdv))) :
    PSs (cxOf CX0 P w K mg base ["many", "value"] "fits_tie" (defScope s_fits_tie) f cdv A outer s H E).nox (defBody s_fits_tie) (tSs K (callN prog W k) W m_fits_tie) :=
  (ss_cons (s_ite (t_w (w_or (t_not (t_of (i_call (T.cal 2 _ rfl) hr rfl (is_cons (i_var 1) (is_cons i_int (is_cons i_int is_nil)))))) (w_or (t_not (t_of (i_call (T.cal 1 _ rfl) hr rfl (is_cons (i_idx (i_var 1) i_int) (is_cons i_int (is_cons (i_bin false o_sub (i_var 0) i_int) is_nil)))))) (w_or1 (t_not (t_of (i_call (T.cal 1 _ rfl) hr rfl (is_cons (i_idx (i_var 1) i_int) (is_cons i_int (is_cons (i_bin false o_sub (i_var 0) i_int) is_nil)))))))))) (ss_cons (s_ret i_bl)
  ss_nil) ss_nil)
  (ss_cons (s_ret (i_and (i_cmp (o_lt hr.units) (i_idx (i_var 1) i_int) (i_idx (i_var 1) i_int) (nomark _)) (i_and (i_call (T.cal 12 _ rfl) hr rfl (is_cons (i_idx (i_var 1) i_int) is_nil)) (i_one (i_cmp o_gt (i_idx (i_idx (i_var 1) i_int) i_int) i_int (nomark _))))))
  ss_nil))
theorem b_fits_net (T : Top P w K mg base prog W k names consts blts) (f : Addr) (cdv : Value) (A : Around) (outer : List PySem.Env) (s : Shared) (H : Hp) (E : XK) (hr : Room k (A.deeper (envOfC "fits_net" (defScope s_fits_net) s.heap.objs.size f cdv))) :
    PSs (cxOf CX0 P w K mg base ["value", "tie"] "fits_net" (defScope s_fits_net) f cdv A outer s H E).nox (defBody s_fits_net) (tSs K (callN prog W k) W m_fits_net) :=
  (ss_cons (s_ite (t_w (w_or (t_not (t_of (i_call (T.cal 2 _ rfl) hr rfl (is_cons (i_var 0) (is_cons i_int (is_cons i_int is_nil)))))) (w_or (t_not (t_of (i_call (T.cal 1 _ rfl) hr rfl (is_cons (i_idx (i_var 0) i_int) (is_cons i_int (is_cons (i_con rfl (T.con 3 _ _ rfl)) is_nil)))))) (w_or1 (t_not (t_of (i_call (T.cal 2 _ rfl) hr rfl (is_cons (i_idx (i_var 0) i_int) (is_cons i_int (is_cons (i_con rfl (T.con 2 _ _ rfl)) is_nil)))))))))) (ss_cons (s_ret i_bl)
  ss_nil) ss_nil)
  (ss_cons (s_ret (i_and (i_bltB (f := false) (c_all rfl) rfl (T.blt 6 _ rfl) bb_all (is_cons (i_lc (own := [("tie", 1)]) false rfl sc_fits_net.nd (it_seq (i_idx (i_var 0) i_int)) (blk_ok (N := ["value", "tie"]) (sc := defScope s_fits_net) (by decide +kernel)) rfl (fun _ _ _ _ _ => (g_nm 1 sc_fits_net.nd)) (fun _ _ _ _ _ => cs_nil) (fun _ _ _ _ _ => (i_call (T.cal 14 _ rfl) hr rfl (is_cons (i_idx (i_var 0) i_int) (is_cons (i_var 1) is_nil))))) is_nil)) (i_one (i_call (T.cal 3 _ rfl) hr rfl (is_cons (i_lc (own := [("tie", 1)]) false rfl sc_fits_net.nd (it_seq (i_idx (i_var 0) i_int)) (blk_ok (N := ["value", "tie"]) (sc := defScope s_fits_net) (by decide +kernel)) rfl (fun _ _ _ _ _ => (g_nm 1 sc_fits_net.nd)) (fun _ _ _ _ _ => cs_nil) (fun _ _ _ _ _ => (i_slc (i_var 1) o_none (o_some i_int)))) is_nil)))))
  ss_nil))
theorem b_need_net (T : Top P w K mg base prog W k names consts blts) (f : Addr) (cdv : Value) (A : Around) (outer : List PySem.Env) (s : Shared) (H : Hp) (E : XK) (hr : Room k (A.deeper (envOfC "need_net" (defScope s_need_net) s.heap.objs.size f cdv))) :
    PSs (cxOf CX0 P w K mg base ["value"] "need_net" (defScope s_need_net) f cdv A outer s H E).nox (defBody s_need_net) (tSs K (callN prog W k) W m_need_net) :=
  (ss_cons (s_ite (t_not (t_of (i_call (T.cal 15 _ rfl) hr rfl (is_cons (i_var 0) is_nil)))) (ss_cons s_rais
  ss_nil) ss_nil)
  ss_nil)
theorem b_fits_heights (T : Top P w K mg base prog W k names consts blts) (f : Addr) (cdv : Value) (A : Around) (outer : List PySem.Env) (s : Shared) (H : Hp) (E : XK) (hr : Room k (A.deeper (envOfC "fits_heights" (defScope s_fits_heights) s.heap.objs.size f cdv))) :
    PSs (cxOf CX0 P w K mg base ["net", "value", "height"] "fits_heights" (defScope s_fits_heights) f cdv A outer s H E).nox (defBody s_fits_heights) (tSs K (callN prog W k) W m_fits_heights) :=
  (ss_cons (s_ret (i_and (i_call (T.cal 2 _ rfl) hr rfl (is_cons (i_var 1) (is_cons (i_idx (i_var 0) i_int) (is_cons (i_idx (i_var 0) i_int) is_nil)))) (i_one (i_bltB (f := false) (c_all rfl) rfl (T.blt 6 _ rfl) bb_all (is_cons (i_lc (own := [("height", 2)]) false rfl sc_fits_heights.nd (it_seq (i_var 1)) (blk_ok (N := ["net", "value", "height"]) (sc := defScope s_fits_heights) (by decide +kernel)) rfl (fun _ _ _ _ _ => (g_nm 2 sc_fits_heights.nd)) (fun _ _ _ _ _ => cs_nil) (fun _ _ _ _ _ => (i_call (T.cal 12 _ rfl) hr rfl (is_cons (i_var 2) is_nil)))) is_nil)))))
  ss_nil)
theorem b_need_heights (T : Top P w K mg base prog W k names consts blts) (f : Addr) (cdv : Value) (A : Around) (outer : List PySem.Env) (s : Shared) (H : Hp) (E : XK) (hr : Room k (A.deeper (envOfC "need_heights" (defScope s_need_heights) s.heap.objs.size f cdv))) :
    PSs (cxOf CX0 P w K mg base ["net", "value"] "need_heights" (defScope s_need_heights) f cdv A outer s H E).nox (defBody s_need_heights) (tSs K (callN prog W k) W m_need_heights) :=
  (ss_cons (s_ite (t_not (t_of (i_call (T.cal 17 _ rfl) hr rfl (is_cons (i_var 0) (is_cons (i_var 1) is_nil))))) (ss_cons s_rais
  ss_nil) ss_nil)
  ss_nil)
theorem b_currents_in (T : Top P w K mg base prog W k names consts blts) (f : Addr) (cdv : Value) (A : Around) (outer : List PySem.Env) (s : Shared) (H : Hp) (E : XK) (hr : Room k (A.deeper (envOfC "currents_in" (defScope s_currents_in) s.heap.objs.size f cdv))) :
    PSs (cxOf CX0 P w K mg base ["net", "heights", "one", "other", "lead"] "currents_in" (defScope s_currents_in) f cdv A outer s H E).nox (defBody s_currents_in) (tSs K (callN prog W k) W m_currents_in) :=
  (ss_cons (s_ret (i_bltT (f := false) c_tuple rfl (T.blt 4 _ rfl) bb_tuple (is_cons (i_lc (own := [("one", 2), ("other", 3), ("lead", 4)]) false rfl sc_currents_in.nd (it_seq (i_idx (i_var 0) i_int)) (blk_ok (N := ["net", "heights", "one", "other", "lead"]) (sc := defScope s_currents_in) (by decide +kernel)) rfl (fun _ _ _ _ _ => (g_tp rfl (gs_cons 2 sc_currents_in.nd (gs_cons 3 sc_currents_in.nd (gs_cons 4 sc_currents_in.nd gs_nil))))) (fun _ _ _ _ _ => cs_nil) (fun _ _ _ _ _ => (i_call (T.cal 8 _ rfl) hr rfl (is_cons (i_var 4) (is_cons (i_call (T.cal 7 _ rfl) hr rfl (is_cons (i_idx (i_var 1) (i_var 2)) (is_cons (i_idx (i_var 1) (i_var 3)) is_nil))) is_nil))))) is_nil)))
  ss_nil)
theorem b_outs_in (T : Top P w K mg base prog W k names consts blts) (f : Addr) (cdv : Value) (A : Around) (outer : List PySem.Env) (s : Shared) (H : Hp) (E : XK) (hr : Room k (A.deeper (envOfC "outs_in" (defScope s_outs_in) s.heap.objs.size f cdv))) :
    PSs (cxOf CX0 P w K mg base ["net", "heights", "found", "one", "other", "lead", "current"] "outs_in" (defScope s_outs_in) f cdv A outer s H E).nox (defBody s_outs_in) (tSs K (callN prog W k) W m_outs_in) :=
  (ss_cons (s_set 2 sc_outs_in.nd (i_bin true o_mul (i_lst false (is_cons (i_con rfl (T.con 0 _ _ rfl)) is_nil)) (i_idx (i_var 0) i_int)))
  (ss_cons (s_for PassesOwn.never rfl (it_zip rfl (T.blt 5 _ rfl) (is_cons (i_idx (i_var 0) i_int) (is_cons (i_call (T.cal 19 _ rfl) hr rfl (is_cons (i_var 0) (is_cons (i_var 1) is_nil))) is_nil))) (g_t2 rfl (gp_t rfl (gs_cons 3 sc_outs_in.nd (gs_cons 4 sc_outs_in.nd (gs_cons 5 sc_outs_in.nd gs_nil))) (gp_n 6 sc_outs_in.nd gp_nil))) (ss_cons (s_seti (i_call (T.cal 6 _ rfl) hr rfl (is_cons (i_idx (i_var 2) (i_var 3)) (is_cons (i_var 6) is_nil))) (i_var 2) (i_var 3))
  (ss_cons (s_seti (i_call (T.cal 7 _ rfl) hr rfl (is_cons (i_idx (i_var 2) (i_var 4)) (is_cons (i_var 6) is_nil))) (i_var 2) (i_var 4))
  ss_nil)))
  (ss_cons (s_ret (i_bltT (f := false) c_tuple rfl (T.blt 4 _ rfl) bb_tuple (is_cons (i_var 2) is_nil)))
  ss_nil)))
theorem b_power_in (T : Top P w K mg base prog W k names consts blts) (f : Addr) (cdv : Value) (A : Around) (outer : List PySem.Env) (s : Shared) (H : Hp) (E : XK) (hr : Room k (A.deeper (envOfC "power_in" (defScope s_power_in) s.heap.objs.size f cdv))) :
    PSs (cxOf CX0 P w K mg base ["net", "heights", "falls", "one", "other", "lead", "current", "fall"] "power_in" (defScope s_power_in) f cdv A outer s H E).nox (defBody s_power_in) (tSs K (callN prog W k) W m_power_in) :=
  (ss_cons (s_setLc (own := [("one", 3), ("other", 4), ("lead", 5)]) 2 false rfl sc_power_in.nd (it_seq (i_idx (i_var 0) i_int)) (blk_ok (N := ["net", "heights", "falls", "one", "other", "lead", "current", "fall"]) (sc := defScope s_power_in) (by decide +kernel)) rfl (fun _ _ _ _ _ => (g_tp rfl (gs_cons 3 sc_power_in.nd (gs_cons 4 sc_power_in.nd (gs_cons 5 sc_power_in.nd gs_nil))))) (fun _ _ _ _ _ => cs_nil) (fun _ _ _ _ _ => (i_call (T.cal 7 _ rfl) hr rfl (is_cons (i_idx (i_var 1) (i_var 3)) (is_cons (i_idx (i_var 1) (i_var 4)) is_nil)))))
  (ss_cons (s_ret (i_call (T.cal 11 _ rfl) hr rfl (is_cons (i_lc (own := [("current", 6), ("fall", 7)]) false rfl sc_power_in.nd (it_zip rfl (T.blt 5 _ rfl) (is_cons (i_call (T.cal 19 _ rfl) hr rfl (is_cons (i_var 0) (is_cons (i_var 1) is_nil))) (is_cons (i_var 2) is_nil))) (blk_ok (N := ["net", "heights", "falls", "one", "other", "lead", "current", "fall"]) (sc := defScope s_power_in) (by decide +kernel)) rfl (fun _ _ _ _ _ => (g_tp rfl (gs_cons 6 sc_power_in.nd (gs_cons 7 sc_power_in.nd gs_nil)))) (fun _ _ _ _ _ => cs_nil) (fun _ _ _ _ _ => (i_call (T.cal 8 _ rfl) hr rfl (is_cons (i_var 6) (is_cons (i_var 7) is_nil))))) is_nil)))
  ss_nil))
theorem b_need_both (T : Top P w K mg base prog W k names consts blts) (f : Addr) (cdv : Value) (A : Around) (outer : List PySem.Env) (s : Shared) (H : Hp) (E : XK) (hr : Room k (A.deeper (envOfC "need_both" (defScope s_need_both) s.heap.objs.size f cdv))) :
    PSs (cxOf CX0 P w K mg base ["one", "other"] "need_both" (defScope s_need_both) f cdv A outer s H E).nox (defBody s_need_both) (tSs K (callN prog W k) W m_need_both) :=
  (ss_cons (s_exp (ps_expr (i_call (T.cal 13 _ rfl) hr rfl (is_cons (i_var 0) is_nil))))
  (ss_cons (s_exp (ps_expr (i_call (T.cal 13 _ rfl) hr rfl (is_cons (i_var 1) is_nil))))
  ss_nil))
theorem b_is_fraction (T : Top P w K mg base prog W k names consts blts) (f : Addr) (cdv : Value) (A : Around) (outer : List PySem.Env) (s : Shared) (H : Hp) (E : XK) (hr : Room k (A.deeper (envOfC "is_fraction" (defScope s_is_fraction) s.heap.objs.size f cdv))) :
    PSs (cxOf CX0 P w K mg base ["value"] "is_fraction" (defScope s_is_fraction) f cdv A outer s H E).nox (defBody s_is_fraction) (tSs K (callN prog W k) W m_is_fraction) :=
  (ss_cons (s_ret (i_call (T.cal 12 _ rfl) hr rfl (is_cons (i_var 0) is_nil)))
  ss_nil)
theorem b_plus (T : Top P w K mg base prog W k names consts blts) (f : Addr) (cdv : Value) (A : Around) (outer : List PySem.Env) (s : Shared) (H : Hp) (E : XK) (hr : Room k (A.deeper (envOfC "plus" (defScope s_plus) s.heap.objs.size f cdv))) :
    PSs (cxOf CX0 P w K mg base ["one", "other"] "plus" (defScope s_plus) f cdv A outer s H E).nox (defBody s_plus) (tSs K (callN prog W k) W m_plus) :=
  (ss_cons (s_exp (ps_expr (i_call (T.cal 22 _ rfl) hr rfl (is_cons (i_var 0) (is_cons (i_var 1) is_nil)))))
  (ss_cons (s_ret (i_call (T.cal 6 _ rfl) hr rfl (is_cons (i_var 0) (is_cons (i_var 1) is_nil))))
  ss_nil))
theorem b_minus (T : Top P w K mg base prog W k names consts blts) (f : Addr) (cdv : Value) (A : Around) (outer : List PySem.Env) (s : Shared) (H : Hp) (E : XK) (hr : Room k (A.deeper (envOfC "minus" (defScope s_minus) s.heap.objs.size f cdv))) :
    PSs (cxOf CX0 P w K mg base ["one", "other"] "minus" (defScope s_minus) f cdv A outer s H E).nox (defBody s_minus) (tSs K (callN prog W k) W m_minus) :=
  (ss_cons (s_exp (ps_expr (i_call (T.cal 22 _ rfl) hr rfl (is_cons (i_var 0) (is_cons (i_var 1) is_nil)))))
  (ss_cons (s_ret (i_call (T.cal 7 _ rfl) hr rfl (is_cons (i_var 0) (is_cons (i_var 1) is_nil))))
  ss_nil))
theorem b_times (T : Top P w K mg base prog W k names consts blts) (f : Addr) (cdv : Value) (A : Around) (outer : List PySem.Env) (s : Shared) (H : Hp) (E : XK) (hr : Room k (A.deeper (envOfC "times" (defScope s_times) s.heap.objs.size f cdv))) :
    PSs (cxOf CX0 P w K mg base ["one", "other"] "times" (defScope s_times) f cdv A outer s H E).nox (defBody s_times) (tSs K (callN prog W k) W m_times) :=
  (ss_cons (s_exp (ps_expr (i_call (T.cal 22 _ rfl) hr rfl (is_cons (i_var 0) (is_cons (i_var 1) is_nil)))))
  (ss_cons (s_ret (i_call (T.cal 8 _ rfl) hr rfl (is_cons (i_var 0) (is_cons (i_var 1) is_nil))))
  ss_nil))
theorem b_over (T : Top P w K mg base prog W k names consts blts) (f : Addr) (cdv : Value) (A : Around) (outer : List PySem.Env) (s : Shared) (H : Hp) (E : XK) (hr : Room k (A.deeper (envOfC "over" (defScope s_over) s.heap.objs.size f cdv))) :
    PSs (cxOf CX0 P w K mg base ["one", "other"] "over" (defScope s_over) f cdv A outer s H E).nox (defBody s_over) (tSs K (callN prog W k) W m_over) :=
  (ss_cons (s_exp (ps_expr (i_call (T.cal 22 _ rfl) hr rfl (is_cons (i_var 0) (is_cons (i_var 1) is_nil)))))
  (ss_cons (s_ite (t_cmp (o_eq hr.units) (i_var 1) (i_con rfl (T.con 0 _ _ rfl)) (nomark _)) (ss_cons s_rais
  ss_nil) ss_nil)
  (ss_cons (s_ret (i_call (T.cal 9 _ rfl) hr rfl (is_cons (i_var 0) (is_cons (i_var 1) is_nil))))
  ss_nil)))
theorem b_is_less (T : Top P w K mg base prog W k names consts blts) (f : Addr) (cdv : Value) (A : Around) (outer : List PySem.Env) (s : Shared) (H : Hp) (E : XK) (hr : Room k (A.deeper (envOfC "is_less" (defScope s_is_less) s.heap.objs.size f cdv))) :
    PSs (cxOf CX0 P w K mg base ["one", "other"] "is_less" (defScope s_is_less) f cdv A outer s H E).nox (defBody s_is_less) (tSs K (callN prog W k) W m_is_less) :=
  (ss_cons (s_exp (ps_expr (i_call (T.cal 22 _ rfl) hr rfl (is_cons (i_var 0) (is_cons (i_var 1) is_nil)))))
  (ss_cons (s_ret (i_call (T.cal 10 _ rfl) hr rfl (is_cons (i_var 0) (is_cons (i_var 1) is_nil))))
  ss_nil))
theorem b_currents_of (T : Top P w K mg base prog W k names consts blts) (f : Addr) (cdv : Value) (A : Around) (outer : List PySem.Env) (s : Shared) (H : Hp) (E : XK) (hr : Room k (A.deeper (envOfC "currents_of" (defScope s_currents_of) s.heap.objs.size f cdv))) :
    PSs (cxOf CX0 P w K mg base ["net", "heights"] "currents_of" (defScope s_currents_of) f cdv A outer s H E).nox (defBody s_currents_of) (tSs K (callN prog W k) W m_currents_of) :=
  (ss_cons (s_exp (ps_expr (i_call (T.cal 16 _ rfl) hr rfl (is_cons (i_var 0) is_nil))))
  (ss_cons (s_exp (ps_expr (i_call (T.cal 18 _ rfl) hr rfl (is_cons (i_var 0) (is_cons (i_var 1) is_nil)))))
  (ss_cons (s_ret (i_call (T.cal 19 _ rfl) hr rfl (is_cons (i_var 0) (is_cons (i_var 1) is_nil))))
  ss_nil)))
theorem b_outs_of (T : Top P w K mg base prog W k names consts blts) (f : Addr) (cdv : Value) (A : Around) (outer : List PySem.Env) (s : Shared) (H : Hp) (E : XK) (hr : Room k (A.deeper (envOfC "outs_of" (defScope s_outs_of) s.heap.objs.size f cdv))) :
    PSs (cxOf CX0 P w K mg base ["net", "heights"] "outs_of" (defScope s_outs_of) f cdv A outer s H E).nox (defBody s_outs_of) (tSs K (callN prog W k) W m_outs_of) :=
  (ss_cons (s_exp (ps_expr (i_call (T.cal 16 _ rfl) hr rfl (is_cons (i_var 0) is_nil))))
  (ss_cons (s_exp (ps_expr (i_call (T.cal 18 _ rfl) hr rfl (is_cons (i_var 0) (is_cons (i_var 1) is_nil)))))
  (ss_cons (s_ret (i_call (T.cal 20 _ rfl) hr rfl (is_cons (i_var 0) (is_cons (i_var 1) is_nil))))
  ss_nil)))
theorem b_power_of (T : Top P w K mg base prog W k names consts blts) (f : Addr) (cdv : Value) (A : Around) (outer : List PySem.Env) (s : Shared) (H : Hp) (E : XK) (hr : Room k (A.deeper (envOfC "power_of" (defScope s_power_of) s.heap.objs.size f cdv))) :
    PSs (cxOf CX0 P w K mg base ["net", "heights"] "power_of" (defScope s_power_of) f cdv A outer s H E).nox (defBody s_power_of) (tSs K (callN prog W k) W m_power_of) :=
  (ss_cons (s_exp (ps_expr (i_call (T.cal 16 _ rfl) hr rfl (is_cons (i_var 0) is_nil))))
  (ss_cons (s_exp (ps_expr (i_call (T.cal 18 _ rfl) hr rfl (is_cons (i_var 0) (is_cons (i_var 1) is_nil)))))
  (ss_cons (s_ret (i_call (T.cal 21 _ rfl) hr rfl (is_cons (i_var 0) (is_cons (i_var 1) is_nil))))
  ss_nil)))
theorem b__law_cup (T : Top P w K mg base prog W k names consts blts) (f : Addr) (cdv : Value) (A : Around) (outer : List PySem.Env) (s : Shared) (H : Hp) (E : XK) (hr : Room k (A.deeper (envOfC "_law_cup" (defScope s__law_cup) s.heap.objs.size f cdv))) :
    PSs (cxOf CX0 P w K mg base ["script", "cell"] "_law_cup" (defScope s__law_cup) f cdv A outer s H E).nox (defBody s__law_cup) (tSs K (callN prog W k) W m__law_cup) :=
  (ss_cons (s_set 1 sc__law_cup.nd (i_bltB (f := false) c_abs rfl (T.blt 7 _ rfl) bb_abs (is_cons (i_idx (i_bin false o_add (i_bltT (f := false) c_list rfl (T.blt 8 _ rfl) bb_list (is_cons (i_var 0) is_nil)) (i_lst false (is_cons i_int is_nil))) i_int) is_nil)))
  (ss_cons (s_ret (i_lst true (is_cons (i_ite (t_cmp o_ge (i_var 1) (i_bin false o_pow i_int i_int) (nomark _)) (i_bin false o_fdiv (i_var 1) i_int) i_int) (is_cons (i_bin false o_add (i_bin false o_mod (i_bltT (f := false) c_int rfl (T.blt 2 _ rfl) bb_int (is_cons (i_bin false o_add (i_bin false o_mul (i_var 1) i_int) i_int) is_nil)) i_int) i_int) is_nil))))
  ss_nil))
theorem b__law_roll (T : Top P w K mg base prog W k names consts blts) (f : Addr) (cdv : Value) (A : Around) (outer : List PySem.Env) (s : Shared) (H : Hp) (E : XK) (hr : Room k (A.deeper (envOfC "_law_roll" (defScope s__law_roll) s.heap.objs.size f cdv))) :
    PSs (cxOf CX0 P w K mg base ["cup", "many", "found", "deep"] "_law_roll" (defScope s__law_roll) f cdv A outer s H E).nox (defBody s__law_roll) (tSs K (callN prog W k) W m__law_roll) :=
  (ss_cons (s_ite (t_cmp o_gt (i_idx (i_var 0) i_int) i_int (nomark _)) (ss_cons (s_set 2 sc__law_roll.nd (i_bin false o_mod (i_bltT (f := false) c_int rfl (T.blt 2 _ rfl) bb_int (is_cons (i_idx (i_var 0) i_int) is_nil)) (i_var 1)))
  (ss_cons (s_seti (i_bin false o_fdiv (i_idx (i_var 0) i_int) (i_var 1)) (i_var 0) i_int)
  (ss_cons (s_ret (i_var 2))
  ss_nil))) ss_nil)
  (ss_cons (s_seti (i_bin false o_mod (i_bltT (f := false) c_int rfl (T.blt 2 _ rfl) bb_int (is_cons (i_bin false o_add (i_bin false o_mul (i_idx (i_var 0) i_int) i_int) i_int) is_nil)) i_int) (i_var 0) i_int)
  (ss_cons (s_set 3 sc__law_roll.nd (i_bin false o_mod (i_bltT (f := false) c_int rfl (T.blt 2 _ rfl) bb_int (is_cons (i_bin false o_mul (i_idx (i_var 0) i_int) (i_bin false o_add (i_idx (i_var 0) i_int) i_int)) is_nil)) i_int))
  (ss_cons (s_ret (i_bin false o_mod (i_bltT (f := false) c_int rfl (T.blt 2 _ rfl) bb_int (is_cons (i_bin false o_fdiv (i_var 3) i_int) is_nil)) (i_var 1)))
  ss_nil))))
theorem b__law_some (T : Top P w K mg base prog W k names consts blts) (f : Addr) (cdv : Value) (A : Around) (outer : List PySem.Env) (s : Shared) (H : Hp) (E : XK) (hr : Room k (A.deeper (envOfC "_law_some" (defScope s__law_some) s.heap.objs.size f cdv))) :
    PSs (cxOf CX0 P w K mg base ["cup", "things"] "_law_some" (defScope s__law_some) f cdv A outer s H E).nox (defBody s__law_some) (tSs K (callN prog W k) W m__law_some) :=
  (ss_cons (s_ret (i_idx (i_var 1) (i_call (T.cal 33 _ rfl) hr rfl (is_cons (i_var 0) (is_cons (i_bltB (f := false) c_len rfl (T.blt 3 _ rfl) bb_len (is_cons (i_var 1) is_nil)) is_nil)))))
  ss_nil)
theorem b__law_sort (T : Top P w K mg base prog W k names consts blts) (f : Addr) (cdv : Value) (A : Around) (outer : List PySem.Env) (s : Shared) (H : Hp) (E : XK) (hr : Room k (A.deeper (envOfC "_law_sort" (defScope s__law_sort) s.heap.objs.size f cdv))) :
    PSs (cxOf CX0 P w K mg base ["value"] "_law_sort" (defScope s__law_sort) f cdv A outer s H E).nox (defBody s__law_sort) (tSs K (callN prog W k) W m__law_sort) :=
  (ss_cons (s_ite (t_w (w_or (t_cmp o_is (i_var 0) i_non (nomark _)) (w_or1 (t_of (i_isi (T := .bool) rfl (T.blt 0 _ rfl) rfl (T.blt 1 _ rfl) bb_bool (i_var 0)))))) (ss_cons (s_ret (i_ite (t_cmp o_is (i_var 0) i_non (nomark _)) i_int i_int))
  ss_nil) ss_nil)
  (ss_cons (s_ite (t_w (w_or (t_of (i_isi (T := .int) rfl (T.blt 0 _ rfl) rfl (T.blt 2 _ rfl) bb_int (i_var 0))) (w_or1 (t_of (i_isi (T := .str) rfl (T.blt 0 _ rfl) rfl (T.blt 9 _ rfl) bb_str (i_var 0)))))) (ss_cons (s_ret (i_ite (t_of (i_isi (T := .int) rfl (T.blt 0 _ rfl) rfl (T.blt 2 _ rfl) bb_int (i_var 0))) i_int i_int))
  ss_nil) ss_nil)
  (ss_cons (s_ret (i_ite (t_of (i_isi (T := .tuple) rfl (T.blt 0 _ rfl) rfl (T.blt 4 _ rfl) bb_tuple (i_var 0))) i_int (i_ite (t_of (i_isi (T := .list) rfl (T.blt 0 _ rfl) rfl (T.blt 8 _ rfl) bb_list (i_var 0))) i_int i_int)))
  ss_nil)))
theorem b__law_like (T : Top P w K mg base prog W k names consts blts) (f : Addr) (cdv : Value) (A : Around) (outer : List PySem.Env) (s : Shared) (H : Hp) (E : XK) (hr : Room k (A.deeper (envOfC "_law_like" (defScope s__law_like) s.heap.objs.size f cdv))) :
    PSs (cxOf CX0 P w K mg base ["one", "other", "sort", "first", "second"] "_law_like" (defScope s__law_like) f cdv A outer s H E).nox (defBody s__law_like) (tSs K (callN prog W k) W m__law_like) :=
  (ss_cons (s_set 2 sc__law_like.nd (i_call (T.cal 35 _ rfl) hr rfl (is_cons (i_var 1) is_nil)))
  (ss_cons (s_ite (t_w (w_or (t_cmp (o_ne hr.units) (i_call (T.cal 35 _ rfl) hr rfl (is_cons (i_var 0) is_nil)) (i_var 2) (nomark _)) (w_or1 (t_cmp (o_eq hr.units) (i_var 2) i_int (nomark _))))) (ss_cons (s_ret i_bl)
  ss_nil) ss_nil)
  (ss_cons (s_ite (t_cmp o_in (i_var 2) (i_tup (is_cons i_int (is_cons i_int is_nil))) (by with_unfolding_all rfl)) (ss_cons (s_ret (i_and (i_cmp (o_eq hr.units) (i_bltB (f := false) c_len rfl (T.blt 3 _ rfl) bb_len (is_cons (i_var 0) is_nil)) (i_bltB (f := false) c_len rfl (T.blt 3 _ rfl) bb_len (is_cons (i_var 1) is_nil)) (nomark _)) (i_one (i_cmp (o_eq hr.units) (i_lc (own := [("first", 3), ("second", 4)]) false rfl sc__law_like.nd (it_zip rfl (T.blt 5 _ rfl) (is_cons (i_var 0) (is_cons (i_var 1) is_nil))) (blk_ok (N := ["one", "other", "sort", "first", "second"]) (sc := defScope s__law_like) (by decide +kernel)) rfl (fun _ _ _ _ _ => (g_tp rfl (gs_cons 3 sc__law_like.nd (gs_cons 4 sc__law_like.nd gs_nil)))) (fun _ _ _ _ _ => (cs_one (t_not (t_of (i_call (T.cal 36 _ rfl) hr rfl (is_cons (i_var 3) (is_cons (i_var 4) is_nil))))))) (fun _ _ _ _ _ => i_int)) (i_lst false is_nil) (nomark _)))))
  ss_nil) ss_nil)
  (ss_cons (s_ret (i_cmp (o_eq hr.units) (i_var 0) (i_var 1) (nomark _)))
  ss_nil))))
theorem b__law_least (T : Top P w K mg base prog W k names consts blts) (f : Addr) (cdv : Value) (A : Around) (outer : List PySem.Env) (s : Shared) (H : Hp) (E : XK) (hr : Room k (A.deeper (envOfC "_law_least" (defScope s__law_least) s.heap.objs.size f cdv))) :
    PSs (cxOf CX0 P w K mg base ["above", "below", "one", "other", "sign"] "_law_least" (defScope s__law_least) f cdv A outer s H E).nox (defBody s__law_least) (tSs K (callN prog W k) W m__law_least) :=
  (ss_cons (s_par 2 3 rfl sc__law_least.nd (is_cons (i_bltB (f := false) c_abs rfl (T.blt 7 _ rfl) bb_abs (is_cons (i_var 0) is_nil)) (is_cons (i_bltB (f := false) c_abs rfl (T.blt 7 _ rfl) bb_abs (is_cons (i_var 1) is_nil)) is_nil)))
  (ss_cons (s_whl PassesOwn.never (t_cmp (o_ne hr.units) (i_var 3) i_int (nomark _)) (ss_cons (s_par 2 3 rfl sc__law_least.nd (is_cons (i_var 3) (is_cons (i_bin false o_mod (i_bltT (f := false) c_int rfl (T.blt 2 _ rfl) bb_int (is_cons (i_var 2) is_nil)) (i_var 3)) is_nil)))
  ss_nil))
  (ss_cons (s_set 4 sc__law_least.nd (i_ite (t_cmp (o_lt hr.units) (i_var 1) i_int (nomark _)) (i_neg i_int) i_int))
  (ss_cons (s_ret (i_tup (is_cons (i_bltT (f := false) c_int rfl (T.blt 2 _ rfl) bb_int (is_cons (i_bin false o_fdiv (i_bin false o_mul (i_var 4) (i_var 0)) (i_var 2)) is_nil)) (is_cons (i_bltT (f := false) c_int rfl (T.blt 2 _ rfl) bb_int (is_cons (i_bin false o_fdiv (i_bin false o_mul (i_var 4) (i_var 1)) (i_var 2)) is_nil)) is_nil))))
  ss_nil))))
theorem b__law_plus (T : Top P w K mg base prog W k names consts blts) (f : Addr) (cdv : Value) (A : Around) (outer : List PySem.Env) (s : Shared) (H : Hp) (E : XK) (hr : Room k (A.deeper (envOfC "_law_plus" (defScope s__law_plus) s.heap.objs.size f cdv))) :
    PSs (cxOf CX0 P w K mg base ["one", "other"] "_law_plus" (defScope s__law_plus) f cdv A outer s H E).nox (defBody s__law_plus) (tSs K (callN prog W k) W m__law_plus) :=
  (ss_cons (s_ret (i_call (T.cal 37 _ rfl) hr rfl (is_cons (i_bin false o_add (i_bin false o_mul (i_idx (i_var 0) i_int) (i_idx (i_var 1) i_int)) (i_bin false o_mul (i_idx (i_var 1) i_int) (i_idx (i_var 0) i_int))) (is_cons (i_bin false o_mul (i_idx (i_var 0) i_int) (i_idx (i_var 1) i_int)) is_nil))))
  ss_nil)
theorem b__law_minus (T : Top P w K mg base prog W k names consts blts) (f : Addr) (cdv : Value) (A : Around) (outer : List PySem.Env) (s : Shared) (H : Hp) (E : XK) (hr : Room k (A.deeper (envOfC "_law_minus" (defScope s__law_minus) s.heap.objs.size f cdv))) :
    PSs (cxOf CX0 P w K mg base ["one", "other"] "_law_minus" (defScope s__law_minus) f cdv A outer s H E).nox (defBody s__law_minus) (tSs K (callN prog W k) W m__law_minus) :=
  (ss_cons (s_ret (i_call (T.cal 37 _ rfl) hr rfl (is_cons (i_bin false o_sub (i_bin false o_mul (i_idx (i_var 0) i_int) (i_idx (i_var 1) i_int)) (i_bin false o_mul (i_idx (i_var 1) i_int) (i_idx (i_var 0) i_int))) (is_cons (i_bin false o_mul (i_idx (i_var 0) i_int) (i_idx (i_var 1) i_int)) is_nil))))
  ss_nil)
theorem b__law_times (T : Top P w K mg base prog W k names consts blts) (f : Addr) (cdv : Value) (A : Around) (outer : List PySem.Env) (s : Shared) (H : Hp) (E : XK) (hr : Room k (A.deeper (envOfC "_law_times" (defScope s__law_times) s.heap.objs.size f cdv))) :
    PSs (cxOf CX0 P w K mg base ["one", "other"] "_law_times" (defScope s__law_times) f cdv A outer s H E).nox (defBody s__law_times) (tSs K (callN prog W k) W m__law_times) :=
  (ss_cons (s_ret (i_call (T.cal 37 _ rfl) hr rfl (is_cons (i_bin false o_mul (i_idx (i_var 0) i_int) (i_idx (i_var 1) i_int)) (is_cons (i_bin false o_mul (i_idx (i_var 0) i_int) (i_idx (i_var 1) i_int)) is_nil))))
  ss_nil)
theorem b__law_lead (T : Top P w K mg base prog W k names consts blts) (f : Addr) (cdv : Value) (A : Around) (outer : List PySem.Env) (s : Shared) (H : Hp) (E : XK) (hr : Room k (A.deeper (envOfC "_law_lead" (defScope s__law_lead) s.heap.objs.size f cdv))) :
    PSs (cxOf CX0 P w K mg base ["cup", "size"] "_law_lead" (defScope s__law_lead) f cdv A outer s H E).nox (defBody s__law_lead) (tSs K (callN prog W k) W m__law_lead) :=
  (ss_cons (s_ret (i_call (T.cal 37 _ rfl) hr rfl (is_cons (i_bin false o_add i_int (i_call (T.cal 33 _ rfl) hr rfl (is_cons (i_var 0) (is_cons (i_var 1) is_nil)))) (is_cons (i_bin false o_add i_int (i_call (T.cal 33 _ rfl) hr rfl (is_cons (i_var 0) (is_cons (i_var 1) is_nil)))) is_nil))))
  ss_nil)
theorem b__law_net (T : Top P w K mg base prog W k names consts blts) (f : Addr) (cdv : Value) (A : Around) (outer : List PySem.Env) (s : Shared) (H : Hp) (E : XK) (hr : Room k (A.deeper (envOfC "_law_net" (defScope s__law_net) s.heap.objs.size f cdv))) :
    PSs (cxOf CX0 P w K mg base ["cup", "most", "size", "many", "ties", "node", "turn", "one", "other", "pair"] "_law_net" (defScope s__law_net) f cdv A outer s H E).nox (defBody s__law_net) (tSs K (callN prog W k) W m__law_net) :=
  (ss_cons (s_asg (i_tup (is_cons (i_bin false o_add i_int (i_call (T.cal 33 _ rfl) hr rfl (is_cons (i_var 0) (is_cons (i_var 1) is_nil)))) (is_cons i_ndic is_nil))) (g_tp rfl (gs_cons 3 sc__law_net.nd (gs_cons 4 sc__law_net.nd gs_nil))))
  (ss_cons (s_for PassesOwn.never rfl (it_rng2 rfl (T.blt 11 _ rfl) (is_cons i_int (is_cons (i_var 3) is_nil))) (g_nm 5 sc__law_net.nd) (ss_cons (s_setd (un1 hr.units) (i_var 4) (is_cons (i_call (T.cal 33 _ rfl) hr rfl (is_cons (i_var 0) (is_cons (i_var 5) is_nil))) (is_cons (i_var 5) is_nil)) (i_call (T.cal 41 _ rfl) hr rfl (is_cons (i_var 0) (is_cons (i_var 2) is_nil))))
  ss_nil))
  (ss_cons (s_for PassesOwn.never rfl (it_rng1 rfl (T.blt 11 _ rfl) (is_cons (i_call (T.cal 33 _ rfl) hr rfl (is_cons (i_var 0) (is_cons (i_bin false o_mul i_int (i_var 3)) is_nil))) is_nil)) (g_nm 6 sc__law_net.nd) (ss_cons (s_par 7 8 rfl sc__law_net.nd (is_cons (i_call (T.cal 33 _ rfl) hr rfl (is_cons (i_var 0) (is_cons (i_var 3) is_nil))) (is_cons (i_call (T.cal 33 _ rfl) hr rfl (is_cons (i_var 0) (is_cons (i_var 3) is_nil))) is_nil)))
  (ss_cons (s_ite (t_cmp (o_lt hr.units) (i_var 7) (i_var 8) (nomark _)) (ss_cons (s_setd (un1 hr.units) (i_var 4) (is_cons (i_var 7) (is_cons (i_var 8) is_nil)) (i_call (T.cal 41 _ rfl) hr rfl (is_cons (i_var 0) (is_cons (i_var 2) is_nil))))
  ss_nil) ss_nil)
  ss_nil)))
  (ss_cons (s_ret (i_tup (is_cons (i_var 3) (is_cons (i_bltT (f := false) c_tuple rfl (T.blt 4 _ rfl) bb_tuple (is_cons (i_bltB (f := false) c_srtH rfl (T.blt 10 _ rfl) bb_sorted (is_cons (i_lck 4 (i_lc (own := [("pair", 9)]) false rfl sc__law_net.nd (it_dks (i_var 4)) (blk_ok (N := ["cup", "most", "size", "many", "ties", "node", "turn", "one", "other", "pair"]) (sc := defScope s__law_net) (by decide +kernel)) rfl (fun _ _ _ _ _ => (g_nm 9 sc__law_net.nd)) (fun _ _ _ _ _ => cs_nil) (fun _ _ _ _ _ => (i_tup (is_cons (i_idx (i_var 9) i_int) (is_cons (i_idx (i_var 9) i_int) (is_cons (i_dgt (un1 hr.units) (i_var 4) (i_var 9)) is_nil))))))) is_nil)) is_nil)) is_nil))))
  ss_nil))))
theorem b__law_fraction (T : Top P w K mg base prog W k names consts blts) (f : Addr) (cdv : Value) (A : Around) (outer : List PySem.Env) (s : Shared) (H : Hp) (E : XK) (hr : Room k (A.deeper (envOfC "_law_fraction" (defScope s__law_fraction) s.heap.objs.size f cdv))) :
    PSs (cxOf CX0 P w K mg base ["cup", "most", "size"] "_law_fraction" (defScope s__law_fraction) f cdv A outer s H E).nox (defBody s__law_fraction) (tSs K (callN prog W k) W m__law_fraction) :=
  (ss_cons (s_set 2 sc__law_fraction.nd (i_call (T.cal 34 _ rfl) hr rfl (is_cons (i_var 0) (is_cons (i_lst false (is_cons i_int (is_cons i_int (is_cons (i_bin false o_pow i_int i_int) (is_cons (i_var 1) is_nil))))) is_nil))))
  (ss_cons (s_ret (i_call (T.cal 37 _ rfl) hr rfl (is_cons (i_bin false o_sub (i_call (T.cal 33 _ rfl) hr rfl (is_cons (i_var 0) (is_cons (i_bin false o_add (i_bin false o_mul i_int (i_var 2)) i_int) is_nil))) (i_var 2)) (is_cons (i_bin false o_add i_int (i_call (T.cal 33 _ rfl) hr rfl (is_cons (i_var 0) (is_cons (i_var 2) is_nil)))) is_nil))))
  ss_nil))
theorem b__law_sums_right (T : Top P w K mg base prog W k names consts blts) (f : Addr) (cdv : Value) (A : Around) (outer : List PySem.Env) (s : Shared) (H : Hp) (E : XK) (hr : Room k (A.deeper (envOfC "_law_sums_right" (defScope s__law_sums_right) s.heap.objs.size f cdv))) :
    PSs (cxOf CX0 P w K mg base ["cup", "one", "other", "a", "b", "c", "d", "rows", "told", "above", "below", "zero"] "_law_sums_right" (defScope s__law_sums_right) f cdv A outer s H E).nox (defBody s__law_sums_right) (tSs K (callN prog W k) W m__law_sums_right) :=
  (ss_cons (s_par 1 2 rfl sc__law_sums_right.nd (is_cons (i_call (T.cal 43 _ rfl) hr rfl (is_cons (i_var 0) (is_cons (i_bin false o_sub (i_bin false o_pow i_int i_int) i_int) is_nil))) (is_cons (i_call (T.cal 43 _ rfl) hr rfl (is_cons (i_var 0) (is_cons (i_bin false o_sub (i_bin false o_pow i_int i_int) i_int) is_nil))) is_nil)))
  (ss_cons (s_asg (i_tup (is_cons (i_var 1) (is_cons (i_var 2) is_nil))) (g_t2 rfl (gp_t rfl (gs_cons 3 sc__law_sums_right.nd (gs_cons 4 sc__law_sums_right.nd gs_nil)) (gp_t rfl (gs_cons 5 sc__law_sums_right.nd (gs_cons 6 sc__law_sums_right.nd gs_nil)) gp_nil))))
  (ss_cons (s_set 7 sc__law_sums_right.nd (i_lst true (is_cons (i_tup (is_cons (i_call (T.cal 24 _ rfl) hr rfl (is_cons (i_var 1) (is_cons (i_var 2) is_nil))) (is_cons (i_bin false o_add (i_bin false o_mul (i_var 3) (i_var 6)) (i_bin false o_mul (i_var 5) (i_var 4))) (is_cons (i_bin false o_mul (i_var 4) (i_var 6)) is_nil)))) (is_cons (i_tup (is_cons (i_call (T.cal 25 _ rfl) hr rfl (is_cons (i_var 1) (is_cons (i_var 2) is_nil))) (is_cons (i_bin false o_sub (i_bin false o_mul (i_var 3) (i_var 6)) (i_bin false o_mul (i_var 5) (i_var 4))) (is_cons (i_bin false o_mul (i_var 4) (i_var 6)) is_nil)))) (is_cons (i_tup (is_cons (i_call (T.cal 26 _ rfl) hr rfl (is_cons (i_var 1) (is_cons (i_var 2) is_nil))) (is_cons (i_bin false o_mul (i_var 3) (i_var 5)) (is_cons (i_bin false o_mul (i_var 4) (i_var 6)) is_nil)))) is_nil)))))
  (ss_cons (s_ite (t_cmp (o_ne hr.units) (i_var 5) i_int (nomark _)) (ss_cons (s_exp (ps_expr (i_app (i_var 7) (is_cons (i_tup (is_cons (i_call (T.cal 27 _ rfl) hr rfl (is_cons (i_var 1) (is_cons (i_var 2) is_nil))) (is_cons (i_bin false o_mul (i_var 3) (i_var 6)) (is_cons (i_bin false o_mul (i_var 4) (i_var 5)) is_nil)))) is_nil))))
  ss_nil) ss_nil)
  (ss_cons (s_for PassesOwn.never rfl (it_seq (i_var 7)) (g_tp rfl (gs_cons 8 sc__law_sums_right.nd (gs_cons 9 sc__law_sums_right.nd (gs_cons 10 sc__law_sums_right.nd gs_nil)))) (ss_cons (s_ite (t_w (w_or (t_not (t_of (i_call (T.cal 36 _ rfl) hr rfl (is_cons (i_var 8) (is_cons (i_call (T.cal 37 _ rfl) hr rfl (is_cons (i_var 9) (is_cons (i_var 10) is_nil))) is_nil))))) (w_or1 (t_cmp (o_ne hr.units) (i_bin false o_mul (i_idx (i_var 8) i_int) (i_var 10)) (i_bin false o_mul (i_var 9) (i_idx (i_var 8) i_int)) (nomark _))))) (ss_cons (s_ret i_bl)
  ss_nil) ss_nil)
  ss_nil))
  (ss_cons (s_ite (t_not (t_of (i_call (T.cal 36 _ rfl) hr rfl (is_cons (i_lst false (is_cons (i_call (T.cal 28 _ rfl) hr rfl (is_cons (i_var 1) (is_cons (i_var 2) is_nil))) (is_cons (i_call (T.cal 28 _ rfl) hr rfl (is_cons (i_var 2) (is_cons (i_var 1) is_nil))) (is_cons (i_call (T.cal 28 _ rfl) hr rfl (is_cons (i_var 1) (is_cons (i_var 1) is_nil))) is_nil)))) (is_cons (i_lst false (is_cons (i_cmp (o_lt hr.units) (i_bin false o_mul (i_var 3) (i_var 6)) (i_bin false o_mul (i_var 5) (i_var 4)) (nomark _)) (is_cons (i_cmp (o_lt hr.units) (i_bin false o_mul (i_var 5) (i_var 4)) (i_bin false o_mul (i_var 3) (i_var 6)) (nomark _)) (is_cons i_bl is_nil)))) is_nil))))) (ss_cons (s_ret i_bl)
  ss_nil) ss_nil)
  (ss_cons (s_set 11 sc__law_sums_right.nd (i_tup (is_cons i_int (is_cons i_int is_nil))))
  (ss_cons (s_set 8 sc__law_sums_right.nd (i_lst false (is_cons (i_call (T.cal 24 _ rfl) hr rfl (is_cons (i_var 1) (is_cons (i_var 11) is_nil))) (is_cons (i_call (T.cal 26 _ rfl) hr rfl (is_cons (i_var 1) (is_cons (i_tup (is_cons i_int (is_cons i_int is_nil))) is_nil))) (is_cons (i_call (T.cal 25 _ rfl) hr rfl (is_cons (i_var 1) (is_cons (i_var 1) is_nil))) (is_cons (i_call (T.cal 26 _ rfl) hr rfl (is_cons (i_var 1) (is_cons (i_var 11) is_nil))) (is_cons (i_call (T.cal 25 _ rfl) hr rfl (is_cons (i_var 11) (is_cons (i_var 1) is_nil))) (is_cons (i_call (T.cal 24 _ rfl) hr rfl (is_cons (i_var 1) (is_cons (i_var 1) is_nil))) (is_cons (i_call (T.cal 23 _ rfl) hr rfl (is_cons (i_call (T.cal 24 _ rfl) hr rfl (is_cons (i_var 1) (is_cons (i_var 2) is_nil))) is_nil)) is_nil)))))))))
  (ss_cons (s_ret (i_call (T.cal 36 _ rfl) hr rfl (is_cons (i_var 8) (is_cons (i_lst false (is_cons (i_var 1) (is_cons (i_var 1) (is_cons (i_var 11) (is_cons (i_var 11) (is_cons (i_tup (is_cons (i_bin false o_sub i_int (i_var 3)) (is_cons (i_var 4) is_nil))) (is_cons (i_call (T.cal 26 _ rfl) hr rfl (is_cons (i_tup (is_cons i_int (is_cons i_int is_nil))) (is_cons (i_var 1) is_nil))) (is_cons i_bl is_nil)))))))) is_nil))))
  ss_nil)))))))))
theorem b__law_right (T : Top P w K mg base prog W k names consts blts) (f : Addr) (cdv : Value) (A : Around) (outer : List PySem.Env) (s : Shared) (H : Hp) (E : XK) (hr : Room k (A.deeper (envOfC "_law_right" (defScope s__law_right) s.heap.objs.size f cdv))) :
    PSs (cxOf CX0 P w K mg base ["cup", "net", "heights", "node", "currents", "power", "outs", "one", "other", "lead", "fall", "current", "own", "whole", "given", "height", "out", "flat", "told"] "_law_right" (defScope s__law_right) f cdv A outer s H E).nox (defBody s__law_right) (tSs K (callN prog W k) W m__law_right) :=
  (ss_cons (s_par 1 2 rfl sc__law_right.nd (is_cons (i_call (T.cal 42 _ rfl) hr rfl (is_cons (i_var 0) (is_cons (i_call (T.cal 34 _ rfl) hr rfl (is_cons (i_var 0) (is_cons (i_lst false (is_cons i_int (is_cons i_int (is_cons i_int is_nil)))) is_nil))) (is_cons (i_call (T.cal 34 _ rfl) hr rfl (is_cons (i_var 0) (is_cons (i_lst false (is_cons i_int (is_cons i_int is_nil))) is_nil))) is_nil)))) (is_cons (i_lst true is_nil) is_nil)))
  (ss_cons (s_for PassesOwn.never rfl (it_rng1 rfl (T.blt 11 _ rfl) (is_cons (i_idx (i_var 1) i_int) is_nil)) (g_nm 3 sc__law_right.nd) (ss_cons (s_exp (ps_expr (i_app (i_var 2) (is_cons (i_call (T.cal 43 _ rfl) hr rfl (is_cons (i_var 0) (is_cons (i_bin false o_pow i_int i_int) is_nil))) is_nil))))
  ss_nil))
  (ss_cons (s_par3 4 5 6 rfl sc__law_right.nd (is_cons (i_lst true is_nil) (is_cons (i_tup (is_cons i_int (is_cons i_int is_nil))) (is_cons (i_bin true o_mul (i_lst false (is_cons (i_tup (is_cons i_int (is_cons i_int is_nil))) is_nil)) (i_idx (i_var 1) i_int)) is_nil))))
  (ss_cons (s_for PassesOwn.never rfl (it_seq (i_idx (i_var 1) i_int)) (g_tp rfl (gs_cons 7 sc__law_right.nd (gs_cons 8 sc__law_right.nd (gs_cons 9 sc__law_right.nd gs_nil)))) (ss_cons (s_set 10 sc__law_right.nd (i_call (T.cal 39 _ rfl) hr rfl (is_cons (i_idx (i_var 2) (i_var 7)) (is_cons (i_idx (i_var 2) (i_var 8)) is_nil))))
  (ss_cons (s_exp (ps_expr (i_app (i_var 4) (is_cons (i_call (T.cal 40 _ rfl) hr rfl (is_cons (i_var 9) (is_cons (i_var 10) is_nil))) is_nil))))
  (ss_cons (s_set 5 sc__law_right.nd (i_call (T.cal 38 _ rfl) hr rfl (is_cons (i_var 5) (is_cons (i_call (T.cal 40 _ rfl) hr rfl (is_cons (i_var 9) (is_cons (i_call (T.cal 40 _ rfl) hr rfl (is_cons (i_var 10) (is_cons (i_var 10) is_nil))) is_nil))) is_nil))))
  ss_nil))))
  (ss_cons (s_for PassesOwn.never rfl (it_rng1 rfl (T.blt 11 _ rfl) (is_cons (i_idx (i_var 1) i_int) is_nil)) (g_nm 3 sc__law_right.nd) (ss_cons (s_for PassesOwn.never rfl (it_zip rfl (T.blt 5 _ rfl) (is_cons (i_idx (i_var 1) i_int) (is_cons (i_var 4) is_nil))) (g_t2 rfl (gp_t rfl (gs_cons 7 sc__law_right.nd (gs_cons 8 sc__law_right.nd (gs_cons 9 sc__law_right.nd gs_nil))) (gp_n 11 sc__law_right.nd gp_nil))) (ss_cons (s_seti (i_ite (t_cmp (o_eq hr.units) (i_var 3) (i_var 7) (nomark _)) (i_call (T.cal 38 _ rfl) hr rfl (is_cons (i_idx (i_var 6) (i_var 3)) (is_cons (i_var 11) is_nil))) (i_ite (t_cmp (o_eq hr.units) (i_var 3) (i_var 8) (nomark _)) (i_call (T.cal 39 _ rfl) hr rfl (is_cons (i_idx (i_var 6) (i_var 3)) (is_cons (i_var 11) is_nil))) (i_idx (i_var 6) (i_var 3)))) (i_var 6) (i_var 3))
  ss_nil))
  ss_nil))
  (ss_cons (s_set 12 sc__law_right.nd (i_bltT (f := false) c_tuple rfl (T.blt 4 _ rfl) bb_tuple (is_cons (i_var 2) is_nil)))
  (ss_cons (s_ite (t_not (t_of (i_call (T.cal 36 _ rfl) hr rfl (is_cons (i_lst false (is_cons (i_call (T.cal 29 _ rfl) hr rfl (is_cons (i_var 1) (is_cons (i_var 12) is_nil))) (is_cons (i_call (T.cal 30 _ rfl) hr rfl (is_cons (i_var 1) (is_cons (i_var 12) is_nil))) (is_cons (i_call (T.cal 31 _ rfl) hr rfl (is_cons (i_var 1) (is_cons (i_var 12) is_nil))) is_nil)))) (is_cons (i_lst false (is_cons (i_bltT (f := false) c_tuple rfl (T.blt 4 _ rfl) bb_tuple (is_cons (i_var 4) is_nil)) (is_cons (i_bltT (f := false) c_tuple rfl (T.blt 4 _ rfl) bb_tuple (is_cons (i_var 6) is_nil)) (is_cons (i_var 5) is_nil)))) is_nil))))) (ss_cons (s_ret i_bl)
  ss_nil) ss_nil)
  (ss_cons (s_asg (i_tup (is_cons (i_tup (is_cons i_int (is_cons i_int is_nil))) (is_cons (i_tup (is_cons i_int (is_cons i_int is_nil))) is_nil))) (g_tp rfl (gs_cons 13 sc__law_right.nd (gs_cons 14 sc__law_right.nd gs_nil))))
  (ss_cons (s_for PassesOwn.never rfl (it_zip rfl (T.blt 5 _ rfl) (is_cons (i_var 2) (is_cons (i_var 6) is_nil))) (g_tp rfl (gs_cons 15 sc__law_right.nd (gs_cons 16 sc__law_right.nd gs_nil))) (ss_cons (s_par 13 14 rfl sc__law_right.nd (is_cons (i_call (T.cal 38 _ rfl) hr rfl (is_cons (i_var 13) (is_cons (i_var 16) is_nil))) (is_cons (i_call (T.cal 38 _ rfl) hr rfl (is_cons (i_var 14) (is_cons (i_call (T.cal 40 _ rfl) hr rfl (is_cons (i_var 15) (is_cons (i_var 16) is_nil))) is_nil))) is_nil)))
  ss_nil))
  (ss_cons (s_set 17 sc__law_right.nd (i_bin false o_mul (i_tup (is_cons (i_idx (i_var 2) i_int) is_nil)) (i_idx (i_var 1) i_int)))
  (ss_cons (s_set 18 sc__law_right.nd (i_lst false (is_cons (i_call (T.cal 29 _ rfl) hr rfl (is_cons (i_var 1) (is_cons (i_var 17) is_nil))) (is_cons (i_call (T.cal 30 _ rfl) hr rfl (is_cons (i_var 1) (is_cons (i_var 17) is_nil))) (is_cons (i_call (T.cal 31 _ rfl) hr rfl (is_cons (i_var 1) (is_cons (i_var 17) is_nil))) is_nil)))))
  (ss_cons (s_ret (i_and (i_cmp (o_eq hr.units) (i_var 13) (i_tup (is_cons i_int (is_cons i_int is_nil))) (nomark _)) (i_and (i_cmp (o_eq hr.units) (i_var 14) (i_var 5) (nomark _)) (i_one (i_call (T.cal 36 _ rfl) hr rfl (is_cons (i_var 18) (is_cons (i_lst false (is_cons (i_bin false o_mul (i_tup (is_cons (i_tup (is_cons i_int (is_cons i_int is_nil))) is_nil)) (i_bltB (f := false) c_len rfl (T.blt 3 _ rfl) bb_len (is_cons (i_idx (i_var 1) i_int) is_nil))) (is_cons (i_bin false o_mul (i_tup (is_cons (i_tup (is_cons i_int (is_cons i_int is_nil))) is_nil)) (i_idx (i_var 1) i_int)) (is_cons (i_tup (is_cons i_int (is_cons i_int is_nil))) is_nil)))) is_nil)))))))
  ss_nil))))))))))))
theorem b__law_formulas_right (T : Top P w K mg base prog W k names consts blts) (f : Addr) (cdv : Value) (A : Around) (outer : List PySem.Env) (s : Shared) (H : Hp) (E : XK) (hr : Room k (A.deeper (envOfC "_law_formulas_right" (defScope s__law_formulas_right) s.heap.objs.size f cdv))) :
    PSs (cxOf CX0 P w K mg base ["cup", "many", "lead", "row", "heights", "told", "minus_lead", "star", "each", "back", "whole", "ties", "one", "node", "due", "at", "other"] "_law_formulas_right" (defScope s__law_formulas_right) f cdv A outer s H E).nox (defBody s__law_formulas_right) (tSs K (callN prog W k) W m__law_formulas_right) :=
  (ss_cons (s_asg (i_tup (is_cons (i_bin false o_add i_int (i_call (T.cal 33 _ rfl) hr rfl (is_cons (i_var 0) (is_cons i_int is_nil)))) (is_cons (i_call (T.cal 41 _ rfl) hr rfl (is_cons (i_var 0) (is_cons i_int is_nil))) is_nil))) (g_tp rfl (gs_cons 1 sc__law_formulas_right.nd (gs_cons 2 sc__law_formulas_right.nd gs_nil))))
  (ss_cons (s_set 3 sc__law_formulas_right.nd (i_tup (is_cons (i_var 1) (is_cons (i_bltT (f := false) c_tuple rfl (T.blt 4 _ rfl) bb_tuple (is_cons (i_lc (own := [("at", 15)]) false rfl sc__law_formulas_right.nd (it_rng1 rfl (T.blt 11 _ rfl) (is_cons (i_bin false o_sub (i_var 1) i_int) is_nil)) (blk_ok (N := ["cup", "many", "lead", "row", "heights", "told", "minus_lead", "star", "each", "back", "whole", "ties", "one", "node", "due", "at", "other"]) (sc := defScope s__law_formulas_right) (by decide +kernel)) rfl (fun _ _ _ _ _ => (g_nm 15 sc__law_formulas_right.nd)) (fun _ _ _ _ _ => cs_nil) (fun _ _ _ _ _ => (i_tup (is_cons (i_var 15) (is_cons (i_bin false o_add (i_var 15) i_int) (is_cons (i_var 2) is_nil)))))) is_nil)) is_nil))))
  (ss_cons (s_set 4 sc__law_formulas_right.nd (i_bltT (f := false) c_tuple rfl (T.blt 4 _ rfl) bb_tuple (is_cons (i_lc (own := [("at", 15)]) false rfl sc__law_formulas_right.nd (it_rng1 rfl (T.blt 11 _ rfl) (is_cons (i_var 1) is_nil)) (blk_ok (N := ["cup", "many", "lead", "row", "heights", "told", "minus_lead", "star", "each", "back", "whole", "ties", "one", "node", "due", "at", "other"]) (sc := defScope s__law_formulas_right) (by decide +kernel)) rfl (fun _ _ _ _ _ => (g_nm 15 sc__law_formulas_right.nd)) (fun _ _ _ _ _ => cs_nil) (fun _ _ _ _ _ => (i_tup (is_cons (i_bin false o_sub (i_bin false o_sub (i_var 1) i_int) (i_var 15)) (is_cons i_int is_nil))))) is_nil)))
  (ss_cons (s_set 5 sc__law_formulas_right.nd (i_lst false (is_cons (i_call (T.cal 29 _ rfl) hr rfl (is_cons (i_var 3) (is_cons (i_var 4) is_nil))) (is_cons (i_call (T.cal 30 _ rfl) hr rfl (is_cons (i_var 3) (is_cons (i_var 4) is_nil))) (is_cons (i_call (T.cal 31 _ rfl) hr rfl (is_cons (i_var 3) (is_cons (i_var 4) is_nil))) is_nil)))))
  (ss_cons (s_set 6 sc__law_formulas_right.nd (i_tup (is_cons (i_bin false o_sub i_int (i_idx (i_var 2) i_int)) (is_cons (i_idx (i_var 2) i_int) is_nil))))
  (ss_cons (s_ite (t_not (t_of (i_call (T.cal 36 _ rfl) hr rfl (is_cons (i_var 5) (is_cons (i_lst false (is_cons (i_bin false o_mul (i_tup (is_cons (i_var 2) is_nil)) (i_bin false o_sub (i_var 1) i_int)) (is_cons (i_bin false o_add (i_bin false o_add (i_tup (is_cons (i_var 2) is_nil)) (i_bin false o_mul (i_tup (is_cons (i_tup (is_cons i_int (is_cons i_int is_nil))) is_nil)) (i_bin false o_sub (i_var 1) i_int))) (i_tup (is_cons (i_var 6) is_nil))) (is_cons (i_call (T.cal 40 _ rfl) hr rfl (is_cons (i_tup (is_cons (i_bin false o_sub (i_var 1) i_int) (is_cons i_int is_nil))) (is_cons (i_var 2) is_nil))) is_nil)))) is_nil))))) (ss_cons (s_ret i_bl)
  ss_nil) ss_nil)
  (ss_cons (s_set 7 sc__law_formulas_right.nd (i_tup (is_cons (i_var 1) (is_cons (i_bltT (f := false) c_tuple rfl (T.blt 4 _ rfl) bb_tuple (is_cons (i_lc (own := [("at", 15)]) false rfl sc__law_formulas_right.nd (it_rng2 rfl (T.blt 11 _ rfl) (is_cons i_int (is_cons (i_var 1) is_nil))) (blk_ok (N := ["cup", "many", "lead", "row", "heights", "told", "minus_lead", "star", "each", "back", "whole", "ties", "one", "node", "due", "at", "other"]) (sc := defScope s__law_formulas_right) (by decide +kernel)) rfl (fun _ _ _ _ _ => (g_nm 15 sc__law_formulas_right.nd)) (fun _ _ _ _ _ => cs_nil) (fun _ _ _ _ _ => (i_tup (is_cons i_int (is_cons (i_var 15) (is_cons (i_var 2) is_nil)))))) is_nil)) is_nil))))
  (ss_cons (s_set 4 sc__law_formulas_right.nd (i_bin false o_add (i_tup (is_cons (i_tup (is_cons i_int (is_cons i_int is_nil))) is_nil)) (i_bin false o_mul (i_tup (is_cons (i_tup (is_cons i_int (is_cons i_int is_nil))) is_nil)) (i_bin false o_sub (i_var 1) i_int))))
  (ss_cons (s_set 8 sc__law_formulas_right.nd (i_call (T.cal 40 _ rfl) hr rfl (is_cons (i_var 2) (is_cons (i_tup (is_cons i_int (is_cons i_int is_nil))) is_nil))))
  (ss_cons (s_par 9 10 rfl sc__law_formulas_right.nd (is_cons (i_tup (is_cons (i_bin false o_sub i_int (i_idx (i_var 8) i_int)) (is_cons (i_idx (i_var 8) i_int) is_nil))) (is_cons (i_call (T.cal 40 _ rfl) hr rfl (is_cons (i_tup (is_cons (i_bin false o_sub i_int (i_var 1)) (is_cons i_int is_nil))) (is_cons (i_var 8) is_nil))) is_nil)))
  (ss_cons (s_ite (t_not (t_of (i_call (T.cal 36 _ rfl) hr rfl (is_cons (i_lst false (is_cons (i_call (T.cal 29 _ rfl) hr rfl (is_cons (i_var 7) (is_cons (i_var 4) is_nil))) (is_cons (i_call (T.cal 30 _ rfl) hr rfl (is_cons (i_var 7) (is_cons (i_var 4) is_nil))) is_nil))) (is_cons (i_lst false (is_cons (i_bin false o_mul (i_tup (is_cons (i_var 9) is_nil)) (i_bin false o_sub (i_var 1) i_int)) (is_cons (i_bin false o_add (i_tup (is_cons (i_var 10) is_nil)) (i_bin false o_mul (i_tup (is_cons (i_var 8) is_nil)) (i_bin false o_sub (i_var 1) i_int))) is_nil))) is_nil))))) (ss_cons (s_ret i_bl)
  ss_nil) ss_nil)
  (ss_cons (s_ite (t_cmp (o_ne hr.units) (i_call (T.cal 31 _ rfl) hr rfl (is_cons (i_var 7) (is_cons (i_var 4) is_nil))) (i_call (T.cal 40 _ rfl) hr rfl (is_cons (i_tup (is_cons (i_bin false o_sub (i_var 1) i_int) (is_cons i_int is_nil))) (is_cons (i_call (T.cal 40 _ rfl) hr rfl (is_cons (i_var 8) (is_cons (i_tup (is_cons i_int (is_cons i_int is_nil))) is_nil))) is_nil))) (nomark _)) (ss_cons (s_ret i_bl)
  ss_nil) ss_nil)
  (ss_cons (s_set 11 sc__law_formulas_right.nd (i_lst false is_nil))
  (ss_cons (s_for PassesOwn.never rfl (it_rng1 rfl (T.blt 11 _ rfl) (is_cons (i_var 1) is_nil)) (g_nm 12 sc__law_formulas_right.nd) (ss_cons (s_set 11 sc__law_formulas_right.nd (i_bin false o_add (i_var 11) (i_lc (own := [("other", 16)]) false rfl sc__law_formulas_right.nd (it_rng2 rfl (T.blt 11 _ rfl) (is_cons (i_bin false o_add (i_var 12) i_int) (is_cons (i_var 1) is_nil))) (blk_ok (N := ["cup", "many", "lead", "row", "heights", "told", "minus_lead", "star", "each", "back", "whole", "ties", "one", "node", "due", "at", "other"]) (sc := defScope s__law_formulas_right) (by decide +kernel)) rfl (fun _ _ _ _ _ => (g_nm 16 sc__law_formulas_right.nd)) (fun _ _ _ _ _ => cs_nil) (fun _ _ _ _ _ => (i_tup (is_cons (i_var 12) (is_cons (i_var 16) (is_cons (i_tup (is_cons i_int (is_cons i_int is_nil))) is_nil))))))))
  ss_nil))
  (ss_cons (s_set 13 sc__law_formulas_right.nd (i_call (T.cal 33 _ rfl) hr rfl (is_cons (i_var 0) (is_cons (i_var 1) is_nil))))
  (ss_cons (s_set 4 sc__law_formulas_right.nd (i_bltT (f := false) c_tuple rfl (T.blt 4 _ rfl) bb_tuple (is_cons (i_lc (own := [("at", 15)]) false rfl sc__law_formulas_right.nd (it_rng1 rfl (T.blt 11 _ rfl) (is_cons (i_var 1) is_nil)) (blk_ok (N := ["cup", "many", "lead", "row", "heights", "told", "minus_lead", "star", "each", "back", "whole", "ties", "one", "node", "due", "at", "other"]) (sc := defScope s__law_formulas_right) (by decide +kernel)) rfl (fun _ _ _ _ _ => (g_nm 15 sc__law_formulas_right.nd)) (fun _ _ _ _ _ => cs_nil) (fun _ _ _ _ _ => (i_ite (t_cmp (o_eq hr.units) (i_var 15) (i_var 13) (nomark _)) (i_tup (is_cons i_int (is_cons i_int is_nil))) (i_tup (is_cons i_int (is_cons i_int is_nil)))))) is_nil)))
  (ss_cons (s_set 14 sc__law_formulas_right.nd (i_bltT (f := false) c_tuple rfl (T.blt 4 _ rfl) bb_tuple (is_cons (i_lc (own := [("at", 15)]) false rfl sc__law_formulas_right.nd (it_rng1 rfl (T.blt 11 _ rfl) (is_cons (i_var 1) is_nil)) (blk_ok (N := ["cup", "many", "lead", "row", "heights", "told", "minus_lead", "star", "each", "back", "whole", "ties", "one", "node", "due", "at", "other"]) (sc := defScope s__law_formulas_right) (by decide +kernel)) rfl (fun _ _ _ _ _ => (g_nm 15 sc__law_formulas_right.nd)) (fun _ _ _ _ _ => cs_nil) (fun _ _ _ _ _ => (i_ite (t_cmp (o_eq hr.units) (i_var 15) (i_var 13) (nomark _)) (i_tup (is_cons (i_bin false o_sub (i_var 1) i_int) (is_cons i_int is_nil))) (i_tup (is_cons (i_neg i_int) (is_cons i_int is_nil)))))) is_nil)))
  (ss_cons (s_ret (i_call (T.cal 36 _ rfl) hr rfl (is_cons (i_lst false (is_cons (i_call (T.cal 30 _ rfl) hr rfl (is_cons (i_tup (is_cons (i_var 1) (is_cons (i_bltT (f := false) c_tuple rfl (T.blt 4 _ rfl) bb_tuple (is_cons (i_var 11) is_nil)) is_nil))) (is_cons (i_var 4) is_nil))) (is_cons (i_call (T.cal 31 _ rfl) hr rfl (is_cons (i_tup (is_cons (i_var 1) (is_cons (i_bltT (f := false) c_tuple rfl (T.blt 4 _ rfl) bb_tuple (is_cons (i_var 11) is_nil)) is_nil))) (is_cons (i_var 4) is_nil))) is_nil))) (is_cons (i_lst false (is_cons (i_var 14) (is_cons (i_tup (is_cons (i_bin false o_sub (i_var 1) i_int) (is_cons i_int is_nil))) is_nil))) is_nil))))
  ss_nil))))))))))))))))))
theorem b_law (T : Top P w K mg base prog W k names consts blts) (f : Addr) (cdv : Value) (A : Around) (outer : List PySem.Env) (s : Shared) (H : Hp) (E : XK) (hr : Room k (A.deeper (envOfC "law" (defScope s_law) s.heap.objs.size f cdv))) :
    PSs (cxOf CX0 P w K mg base ["script", "cup", "turn", "net", "heights", "told", "due", "top"] "law" (defScope s_law) f cdv A outer s H E).nox (defBody s_law) (tSs K (callN prog W k) W m_law) :=
  (ss_cons (s_set 1 sc_law.nd (i_call (T.cal 32 _ rfl) hr rfl (is_cons (i_var 0) is_nil)))
  (ss_cons (s_for PassesOwn.never rfl (it_rng1 rfl (T.blt 11 _ rfl) (is_cons i_int is_nil)) (g_nm 2 sc_law.nd) (ss_cons (s_ite (t_w (w_or (t_not (t_of (i_call (T.cal 44 _ rfl) hr rfl (is_cons (i_var 1) is_nil)))) (w_or1 (t_not (t_of (i_call (T.cal 45 _ rfl) hr rfl (is_cons (i_var 1) is_nil))))))) (ss_cons (s_ret i_bl)
  ss_nil) ss_nil)
  ss_nil))
  (ss_cons (s_asg (i_tup (is_cons (i_tup (is_cons i_int (is_cons (i_tup (is_cons (i_tup (is_cons i_int (is_cons i_int (is_cons (i_tup (is_cons i_int (is_cons i_int is_nil))) is_nil)))) (is_cons (i_tup (is_cons i_int (is_cons i_int (is_cons (i_tup (is_cons i_int (is_cons i_int is_nil))) is_nil)))) is_nil))) is_nil))) (is_cons (i_tup (is_cons (i_tup (is_cons i_int (is_cons i_int is_nil))) (is_cons (i_tup (is_cons i_int (is_cons i_int is_nil))) (is_cons (i_tup (is_cons i_int (is_cons i_int is_nil))) is_nil)))) is_nil))) (g_tp rfl (gs_cons 3 sc_law.nd (gs_cons 4 sc_law.nd gs_nil))))
  (ss_cons (s_set 5 sc_law.nd (i_lst true (is_cons (i_call (T.cal 24 _ rfl) hr rfl (is_cons (i_tup (is_cons i_int (is_cons i_int is_nil))) (is_cons (i_tup (is_cons i_int (is_cons i_int is_nil))) is_nil))) (is_cons (i_call (T.cal 28 _ rfl) hr rfl (is_cons (i_tup (is_cons i_int (is_cons i_int is_nil))) (is_cons (i_tup (is_cons i_int (is_cons i_int is_nil))) is_nil))) (is_cons (i_call (T.cal 29 _ rfl) hr rfl (is_cons (i_var 3) (is_cons (i_var 4) is_nil))) (is_cons (i_call (T.cal 30 _ rfl) hr rfl (is_cons (i_var 3) (is_cons (i_var 4) is_nil))) (is_cons (i_call (T.cal 31 _ rfl) hr rfl (is_cons (i_var 3) (is_cons (i_var 4) is_nil))) (is_cons (i_call (T.cal 27 _ rfl) hr rfl (is_cons (i_tup (is_cons (i_neg i_int) (is_cons i_int is_nil))) (is_cons (i_tup (is_cons (i_neg i_int) (is_cons i_int is_nil))) is_nil))) (is_cons (i_call (T.cal 27 _ rfl) hr rfl (is_cons (i_tup (is_cons i_int (is_cons i_int is_nil))) (is_cons (i_tup (is_cons (i_neg i_int) (is_cons i_int is_nil))) is_nil))) is_nil)))))))))
  (ss_cons (s_set 6 sc_law.nd (i_lst false (is_cons (i_tup (is_cons i_int (is_cons i_int is_nil))) (is_cons i_bl (is_cons (i_tup (is_cons (i_tup (is_cons i_int (is_cons i_int is_nil))) (is_cons (i_tup (is_cons i_int (is_cons i_int is_nil))) is_nil))) (is_cons (i_tup (is_cons (i_tup (is_cons i_int (is_cons i_int is_nil))) (is_cons (i_tup (is_cons i_int (is_cons i_int is_nil))) (is_cons (i_tup (is_cons (i_neg i_int) (is_cons i_int is_nil))) is_nil)))) (is_cons (i_tup (is_cons i_int (is_cons i_int is_nil))) (is_cons (i_tup (is_cons i_int (is_cons i_int is_nil))) (is_cons (i_tup (is_cons (i_neg i_int) (is_cons i_int is_nil))) is_nil)))))))))
  (ss_cons (s_set 7 sc_law.nd (i_bin false o_sub (i_bin false o_pow i_int i_int) i_int))
  (ss_cons (s_set 5 sc_law.nd (i_bin true o_add (i_var 5) (i_lst false (is_cons (i_call (T.cal 24 _ rfl) hr rfl (is_cons (i_tup (is_cons (i_var 7) (is_cons i_int is_nil))) (is_cons (i_tup (is_cons (i_var 7) (is_cons i_int is_nil))) is_nil))) (is_cons (i_call (T.cal 26 _ rfl) hr rfl (is_cons (i_tup (is_cons (i_var 7) (is_cons i_int is_nil))) (is_cons (i_tup (is_cons i_int (is_cons (i_var 7) is_nil))) is_nil))) (is_cons (i_call (T.cal 25 _ rfl) hr rfl (is_cons (i_tup (is_cons i_int (is_cons i_int is_nil))) (is_cons (i_tup (is_cons (i_var 7) (is_cons i_int is_nil))) is_nil))) (is_cons (i_call (T.cal 23 _ rfl) hr rfl (is_cons (i_call (T.cal 24 _ rfl) hr rfl (is_cons (i_tup (is_cons (i_var 7) (is_cons i_int is_nil))) (is_cons (i_tup (is_cons i_int (is_cons i_int is_nil))) is_nil))) is_nil)) (is_cons (i_call (T.cal 29 _ rfl) hr rfl (is_cons (i_tup (is_cons i_int (is_cons (i_tup is_nil) is_nil))) (is_cons (i_tup (is_cons (i_tup (is_cons (i_var 7) (is_cons i_int is_nil))) is_nil)) is_nil))) is_nil))))))))
  (ss_cons (s_set 5 sc_law.nd (i_bin true o_add (i_var 5) (i_lst false (is_cons (i_call (T.cal 30 _ rfl) hr rfl (is_cons (i_tup (is_cons i_int (is_cons (i_tup is_nil) is_nil))) (is_cons (i_tup (is_cons (i_tup (is_cons (i_var 7) (is_cons i_int is_nil))) is_nil)) is_nil))) (is_cons (i_call (T.cal 31 _ rfl) hr rfl (is_cons (i_tup (is_cons i_int (is_cons (i_tup is_nil) is_nil))) (is_cons (i_tup (is_cons (i_tup (is_cons i_int (is_cons i_int is_nil))) (is_cons (i_tup (is_cons i_int (is_cons i_int is_nil))) is_nil))) is_nil))) is_nil)))))
  (ss_cons (s_set 6 sc_law.nd (i_bin false o_add (i_var 6) (i_lst false (is_cons (i_tup (is_cons (i_bin false o_mul i_int (i_var 7)) (is_cons i_int is_nil))) (is_cons (i_tup (is_cons i_int (is_cons i_int is_nil))) (is_cons (i_tup (is_cons (i_bin false o_sub i_int (i_var 7)) (is_cons i_int is_nil))) (is_cons i_bl (is_cons (i_tup is_nil) (is_cons (i_tup (is_cons (i_tup (is_cons i_int (is_cons i_int is_nil))) is_nil)) (is_cons (i_tup (is_cons i_int (is_cons i_int is_nil))) is_nil))))))))))
  (ss_cons (s_exp (ps_expr (i_app (i_var 5) (is_cons (i_call (T.cal 29 _ rfl) hr rfl (is_cons (i_tup (is_cons i_int (is_cons (i_tup (is_cons (i_tup (is_cons i_int (is_cons i_int (is_cons (i_tup (is_cons (i_var 7) (is_cons i_int is_nil))) is_nil)))) is_nil)) is_nil))) (is_cons (i_tup (is_cons (i_tup (is_cons (i_var 7) (is_cons i_int is_nil))) (is_cons (i_tup (is_cons (i_bin false o_sub i_int (i_var 7)) (is_cons i_int is_nil))) is_nil))) is_nil))) is_nil))))
  (ss_cons (s_ret (i_and (i_call (T.cal 36 _ rfl) hr rfl (is_cons (i_var 5) (is_cons (i_bin false o_add (i_var 6) (i_lst false (is_cons (i_tup (is_cons (i_tup (is_cons (i_bin false o_mul (i_bin false o_mul i_int (i_var 7)) (i_var 7)) (is_cons i_int is_nil))) is_nil)) is_nil))) is_nil))) (i_one (i_call (T.cal 46 _ rfl) hr rfl (is_cons (i_var 1) is_nil)))))
  ss_nil)))))))))))
theorem bi_is_integer : BindsP s_is_integer "is_integer" ["value"] := fun _ _ _ _ _ _ us hl => match us, hl with | [_], _ => rfl
theorem bi_is_whole : BindsP s_is_whole "is_whole" ["value", "low", "high"] := fun _ _ _ _ _ _ us hl => match us, hl with | [_, _, _], _ => rfl
theorem bi_is_tuple_of : BindsP s_is_tuple_of "is_tuple_of" ["value", "low", "high"] := fun _ _ _ _ _ _ us hl => match us, hl with | [_, _, _], _ => rfl
theorem bi_is_rising : BindsP s_is_rising "is_rising" ["things"] := fun _ _ _ _ _ _ us hl => match us, hl with | [_], _ => rfl
theorem bi_divisor_of : BindsP s_divisor_of "divisor_of" ["one", "other"] := fun _ _ _ _ _ _ us hl => match us, hl with | [_, _], _ => rfl
theorem bi_lowest : BindsP s_lowest "lowest" ["above", "below"] := fun _ _ _ _ _ _ us hl => match us, hl with | [_, _], _ => rfl
theorem bi_sum_of : BindsP s_sum_of "sum_of" ["one", "other"] := fun _ _ _ _ _ _ us hl => match us, hl with | [_, _], _ => rfl
theorem bi_less_by : BindsP s_less_by "less_by" ["one", "other"] := fun _ _ _ _ _ _ us hl => match us, hl with | [_, _], _ => rfl
theorem bi_product_of : BindsP s_product_of "product_of" ["one", "other"] := fun _ _ _ _ _ _ us hl => match us, hl with | [_, _], _ => rfl
theorem bi_part_of : BindsP s_part_of "part_of" ["one", "other"] := fun _ _ _ _ _ _ us hl => match us, hl with | [_, _], _ => rfl
theorem bi_is_under : BindsP s_is_under "is_under" ["one", "other"] := fun _ _ _ _ _ _ us hl => match us, hl with | [_, _], _ => rfl
theorem bi_sum_over : BindsP s_sum_over "sum_over" ["fractions"] := fun _ _ _ _ _ _ us hl => match us, hl with | [_], _ => rfl
theorem bi_fits_fraction : BindsP s_fits_fraction "fits_fraction" ["value"] := fun _ _ _ _ _ _ us hl => match us, hl with | [_], _ => rfl
theorem bi_need_fraction : BindsP s_need_fraction "need_fraction" ["value"] := fun _ _ _ _ _ _ us hl => match us, hl with | [_], _ => rfl
theorem bi_fits_tie : BindsP s_fits_tie "fits_tie" ["many", "value"] := fun _ _ _ _ _ _ us hl => match us, hl with | [_, _], _ => rfl
theorem bi_fits_net : BindsP s_fits_net "fits_net" ["value"] := fun _ _ _ _ _ _ us hl => match us, hl with | [_], _ => rfl
theorem bi_need_net : BindsP s_need_net "need_net" ["value"] := fun _ _ _ _ _ _ us hl => match us, hl with | [_], _ => rfl
theorem bi_fits_heights : BindsP s_fits_heights "fits_heights" ["net", "value"] := fun _ _ _ _ _ _ us hl => match us, hl with | [_, _], _ => rfl
theorem bi_need_heights : BindsP s_need_heights "need_heights" ["net", "value"] := fun _ _ _ _ _ _ us hl => match us, hl with | [_, _], _ => rfl
theorem bi_currents_in : BindsP s_currents_in "currents_in" ["net", "heights"] := fun _ _ _ _ _ _ us hl => match us, hl with | [_, _], _ => rfl
theorem bi_outs_in : BindsP s_outs_in "outs_in" ["net", "heights"] := fun _ _ _ _ _ _ us hl => match us, hl with | [_, _], _ => rfl
theorem bi_power_in : BindsP s_power_in "power_in" ["net", "heights"] := fun _ _ _ _ _ _ us hl => match us, hl with | [_, _], _ => rfl
theorem bi_need_both : BindsP s_need_both "need_both" ["one", "other"] := fun _ _ _ _ _ _ us hl => match us, hl with | [_, _], _ => rfl
theorem bi_is_fraction : BindsP s_is_fraction "is_fraction" ["value"] := fun _ _ _ _ _ _ us hl => match us, hl with | [_], _ => rfl
theorem bi_plus : BindsP s_plus "plus" ["one", "other"] := fun _ _ _ _ _ _ us hl => match us, hl with | [_, _], _ => rfl
theorem bi_minus : BindsP s_minus "minus" ["one", "other"] := fun _ _ _ _ _ _ us hl => match us, hl with | [_, _], _ => rfl
theorem bi_times : BindsP s_times "times" ["one", "other"] := fun _ _ _ _ _ _ us hl => match us, hl with | [_, _], _ => rfl
theorem bi_over : BindsP s_over "over" ["one", "other"] := fun _ _ _ _ _ _ us hl => match us, hl with | [_, _], _ => rfl
theorem bi_is_less : BindsP s_is_less "is_less" ["one", "other"] := fun _ _ _ _ _ _ us hl => match us, hl with | [_, _], _ => rfl
theorem bi_currents_of : BindsP s_currents_of "currents_of" ["net", "heights"] := fun _ _ _ _ _ _ us hl => match us, hl with | [_, _], _ => rfl
theorem bi_outs_of : BindsP s_outs_of "outs_of" ["net", "heights"] := fun _ _ _ _ _ _ us hl => match us, hl with | [_, _], _ => rfl
theorem bi_power_of : BindsP s_power_of "power_of" ["net", "heights"] := fun _ _ _ _ _ _ us hl => match us, hl with | [_, _], _ => rfl
theorem bi__law_cup : BindsP s__law_cup "_law_cup" ["script"] := fun _ _ _ _ _ _ us hl => match us, hl with | [_], _ => rfl
theorem bi__law_roll : BindsP s__law_roll "_law_roll" ["cup", "many"] := fun _ _ _ _ _ _ us hl => match us, hl with | [_, _], _ => rfl
theorem bi__law_some : BindsP s__law_some "_law_some" ["cup", "things"] := fun _ _ _ _ _ _ us hl => match us, hl with | [_, _], _ => rfl
theorem bi__law_sort : BindsP s__law_sort "_law_sort" ["value"] := fun _ _ _ _ _ _ us hl => match us, hl with | [_], _ => rfl
theorem bi__law_like : BindsP s__law_like "_law_like" ["one", "other"] := fun _ _ _ _ _ _ us hl => match us, hl with | [_, _], _ => rfl
theorem bi__law_least : BindsP s__law_least "_law_least" ["above", "below"] := fun _ _ _ _ _ _ us hl => match us, hl with | [_, _], _ => rfl
theorem bi__law_plus : BindsP s__law_plus "_law_plus" ["one", "other"] := fun _ _ _ _ _ _ us hl => match us, hl with | [_, _], _ => rfl
theorem bi__law_minus : BindsP s__law_minus "_law_minus" ["one", "other"] := fun _ _ _ _ _ _ us hl => match us, hl with | [_, _], _ => rfl
theorem bi__law_times : BindsP s__law_times "_law_times" ["one", "other"] := fun _ _ _ _ _ _ us hl => match us, hl with | [_, _], _ => rfl
theorem bi__law_lead : BindsP s__law_lead "_law_lead" ["cup", "size"] := fun _ _ _ _ _ _ us hl => match us, hl with | [_, _], _ => rfl
theorem bi__law_net : BindsP s__law_net "_law_net" ["cup", "most", "size"] := fun _ _ _ _ _ _ us hl => match us, hl with | [_, _, _], _ => rfl
theorem bi__law_fraction : BindsP s__law_fraction "_law_fraction" ["cup", "most"] := fun _ _ _ _ _ _ us hl => match us, hl with | [_, _], _ => rfl
theorem bi__law_sums_right : BindsP s__law_sums_right "_law_sums_right" ["cup"] := fun _ _ _ _ _ _ us hl => match us, hl with | [_], _ => rfl
theorem bi__law_right : BindsP s__law_right "_law_right" ["cup"] := fun _ _ _ _ _ _ us hl => match us, hl with | [_], _ => rfl
theorem bi__law_formulas_right : BindsP s__law_formulas_right "_law_formulas_right" ["cup"] := fun _ _ _ _ _ _ us hl => match us, hl with | [_], _ => rfl
theorem bi_law : BindsP s_law "law" ["script"] := fun _ _ _ _ _ _ us hl => match us, hl with | [_], _ => rfl
theorem tops (d_is_integer : DefOf K mg "is_integer" s_is_integer) (d_is_whole : DefOf K mg "is_whole" s_is_whole) (d_is_tuple_of : DefOf K mg "is_tuple_of" s_is_tuple_of) (d_is_rising : DefOf K mg "is_rising" s_is_rising) (d_divisor_of : DefOf K mg "divisor_of" s_divisor_of) (d_lowest : DefOf K mg "lowest" s_lowest) (d_sum_of : DefOf K mg "sum_of" s_sum_of) (d_less_by : DefOf K mg "less_by" s_less_by) (d_product_of : DefOf K mg "product_of" s_product_of) (d_part_of : DefOf K mg "part_of" s_part_of) (d_is_under : DefOf K mg "is_under" s_is_under) (d_sum_over : DefOf K mg "sum_over" s_sum_over) (d_fits_fraction : DefOf K mg "fits_fraction" s_fits_fraction) (d_need_fraction : DefOf K mg "need_fraction" s_need_fraction) (d_fits_tie : DefOf K mg "fits_tie" s_fits_tie) (d_fits_net : DefOf K mg "fits_net" s_fits_net) (d_need_net : DefOf K mg "need_net" s_need_net) (d_fits_heights : DefOf K mg "fits_heights" s_fits_heights) (d_need_heights : DefOf K mg "need_heights" s_need_heights) (d_currents_in : DefOf K mg "currents_in" s_currents_in) (d_outs_in : DefOf K mg "outs_in" s_outs_in) (d_power_in : DefOf K mg "power_in" s_power_in) (d_need_both : DefOf K mg "need_both" s_need_both) (d_is_fraction : DefOf K mg "is_fraction" s_is_fraction) (d_plus : DefOf K mg "plus" s_plus) (d_minus : DefOf K mg "minus" s_minus) (d_times : DefOf K mg "times" s_times) (d_over : DefOf K mg "over" s_over) (d_is_less : DefOf K mg "is_less" s_is_less) (d_currents_of : DefOf K mg "currents_of" s_currents_of) (d_outs_of : DefOf K mg "outs_of" s_outs_of) (d_power_of : DefOf K mg "power_of" s_power_of) (d__law_cup : DefOf K mg "_law_cup" s__law_cup) (d__law_roll : DefOf K mg "_law_roll" s__law_roll) (d__law_some : DefOf K mg "_law_some" s__law_some) (d__law_sort : DefOf K mg "_law_sort" s__law_sort) (d__law_like : DefOf K mg "_law_like" s__law_like) (d__law_least : DefOf K mg "_law_least" s__law_least) (d__law_plus : DefOf K mg "_law_plus" s__law_plus) (d__law_minus : DefOf K mg "_law_minus" s__law_minus) (d__law_times : DefOf K mg "_law_times" s__law_times) (d__law_lead : DefOf K mg "_law_lead" s__law_lead) (d__law_net : DefOf K mg "_law_net" s__law_net) (d__law_fraction : DefOf K mg "_law_fraction" s__law_fraction) (d__law_sums_right : DefOf K mg "_law_sums_right" s__law_sums_right) (d__law_right : DefOf K mg "_law_right" s__law_right) (d__law_formulas_right : DefOf K mg "_law_formulas_right" s__law_formulas_right) (d_law : DefOf K mg "law" s_law) (c_NONE : ∃ z u, mg "NONE" = some u ∧ RelV z u ∧ Con K k_NONE z) (c_DIGITS : ∃ z u, mg "DIGITS" = some u ∧ RelV z u ∧ Con K k_DIGITS z) (c_MOST_TIES : ∃ z u, mg "MOST_TIES" = some u ∧ RelV z u ∧ Con K k_MOST_TIES z) (c_MOST_NODES : ∃ z u, mg "MOST_NODES" = some u ∧ RelV z u ∧ Con K k_MOST_NODES z) (z_isinstance : mg "isinstance" = none) (z_bool : mg "bool" = none) (z_int : mg "int" = none) (z_len : mg "len" = none) (z_tuple : mg "tuple" = none) (z_zip : mg "zip" = none) (z_all : mg "all" = none) (z_abs : mg "abs" = none) (z_list : mg "list" = none) (z_str : mg "str" = none) (z_sorted : mg "sorted" = none) (z_range : mg "range" = none)  : ∀ k, Top P w K mg base prog W k names consts blts := by
  have hc : ∀ (i : Nat) (x : Str) (v : PV), consts[i]? = some (x, v) → ∃ z u, mg x = some u ∧ RelV z u ∧ Con K v z := fun i x v h => by
    match i, h with
    | 0, h => cases h; exact c_NONE
    | 1, h => cases h; exact c_DIGITS
    | 2, h => cases h; exact c_MOST_TIES
    | 3, h => cases h; exact c_MOST_NODES
    | n + 4, h => exact absurd h (by simp [consts])
  have hb : ∀ (i : Nat) (x : Str), blts[i]? = some x → mg x = none := fun i x h => by
    match i, h with
    | 0, h => cases h; exact z_isinstance
    | 1, h => cases h; exact z_bool
    | 2, h => cases h; exact z_int
    | 3, h => cases h; exact z_len
    | 4, h => cases h; exact z_tuple
    | 5, h => cases h; exact z_zip
    | 6, h => cases h; exact z_all
    | 7, h => cases h; exact z_abs
    | 8, h => cases h; exact z_list
    | 9, h => cases h; exact z_str
    | 10, h => cases h; exact z_sorted
    | 11, h => cases h; exact z_range
    | n + 12, h => exact absurd h (by simp [blts])
  intro k
  induction k with
  | zero =>
    refine ⟨fun i x h => ?_, hc, hb⟩
    match i, h with
    | 0, h => cases h; exact cal_zero d_is_integer bi_is_integer
    | 1, h => cases h; exact cal_zero d_is_whole bi_is_whole
    | 2, h => cases h; exact cal_zero d_is_tuple_of bi_is_tuple_of
    | 3, h => cases h; exact cal_zero d_is_rising bi_is_rising
    | 4, h => cases h; exact cal_zero d_divisor_of bi_divisor_of
    | 5, h => cases h; exact cal_zero d_lowest bi_lowest
    | 6, h => cases h; exact cal_zero d_sum_of bi_sum_of
    | 7, h => cases h; exact cal_zero d_less_by bi_less_by
    | 8, h => cases h; exact cal_zero d_product_of bi_product_of
    | 9, h => cases h; exact cal_zero d_part_of bi_part_of
    | 10, h => cases h; exact cal_zero d_is_under bi_is_under
    | 11, h => cases h; exact cal_zero d_sum_over bi_sum_over
    | 12, h => cases h; exact cal_zero d_fits_fraction bi_fits_fraction
    | 13, h => cases h; exact cal_zero d_need_fraction bi_need_fraction
    | 14, h => cases h; exact cal_zero d_fits_tie bi_fits_tie
    | 15, h => cases h; exact cal_zero d_fits_net bi_fits_net
    | 16, h => cases h; exact cal_zero d_need_net bi_need_net
    | 17, h => cases h; exact cal_zero d_fits_heights bi_fits_heights
    | 18, h => cases h; exact cal_zero d_need_heights bi_need_heights
    | 19, h => cases h; exact cal_zero d_currents_in bi_currents_in
    | 20, h => cases h; exact cal_zero d_outs_in bi_outs_in
    | 21, h => cases h; exact cal_zero d_power_in bi_power_in
    | 22, h => cases h; exact cal_zero d_need_both bi_need_both
    | 23, h => cases h; exact cal_zero d_is_fraction bi_is_fraction
    | 24, h => cases h; exact cal_zero d_plus bi_plus
    | 25, h => cases h; exact cal_zero d_minus bi_minus
    | 26, h => cases h; exact cal_zero d_times bi_times
    | 27, h => cases h; exact cal_zero d_over bi_over
    | 28, h => cases h; exact cal_zero d_is_less bi_is_less
    | 29, h => cases h; exact cal_zero d_currents_of bi_currents_of
    | 30, h => cases h; exact cal_zero d_outs_of bi_outs_of
    | 31, h => cases h; exact cal_zero d_power_of bi_power_of
    | 32, h => cases h; exact cal_zero d__law_cup bi__law_cup
    | 33, h => cases h; exact cal_zero d__law_roll bi__law_roll
    | 34, h => cases h; exact cal_zero d__law_some bi__law_some
    | 35, h => cases h; exact cal_zero d__law_sort bi__law_sort
    | 36, h => cases h; exact cal_zero d__law_like bi__law_like
    | 37, h => cases h; exact cal_zero d__law_least bi__law_least
    | 38, h => cases h; exact cal_zero d__law_plus bi__law_plus
    | 39, h => cases h; exact cal_zero d__law_minus bi__law_minus
    | 40, h => cases h; exact cal_zero d__law_times bi__law_times
    | 41, h => cases h; exact cal_zero d__law_lead bi__law_lead
    | 42, h => cases h; exact cal_zero d__law_net bi__law_net
    | 43, h => cases h; exact cal_zero d__law_fraction bi__law_fraction
    | 44, h => cases h; exact cal_zero d__law_sums_right bi__law_sums_right
    | 45, h => cases h; exact cal_zero d__law_right bi__law_right
    | 46, h => cases h; exact cal_zero d__law_formulas_right bi__law_formulas_right
    | 47, h => cases h; exact cal_zero d_law bi_law
    | n + 48, h => exact absurd h (by simp [names])
  | succ k T =>
    refine ⟨fun i x h => ?_, hc, hb⟩
    match i, h with
    | 0, h => cases h; exact cal_succ d_is_integer bi_is_integer sc_is_integer rfl rfl rfl (b_is_integer T)
    | 1, h => cases h; exact cal_succ d_is_whole bi_is_whole sc_is_whole rfl rfl rfl (b_is_whole T)
    | 2, h => cases h; exact cal_succ d_is_tuple_of bi_is_tuple_of sc_is_tuple_of rfl rfl rfl (b_is_tuple_of T)
    | 3, h => cases h; exact cal_succ d_is_rising bi_is_rising sc_is_rising rfl rfl rfl (b_is_rising T)
    | 4, h => cases h; exact cal_succ d_divisor_of bi_divisor_of sc_divisor_of rfl rfl rfl (b_divisor_of T)
    | 5, h => cases h; exact cal_succ d_lowest bi_lowest sc_lowest rfl rfl rfl (b_lowest T)
    | 6, h => cases h; exact cal_succ d_sum_of bi_sum_of sc_sum_of rfl rfl rfl (b_sum_of T)
    | 7, h => cases h; exact cal_succ d_less_by bi_less_by sc_less_by rfl rfl rfl (b_less_by T)
    | 8, h => cases h; exact cal_succ d_product_of bi_product_of sc_product_of rfl rfl rfl (b_product_of T)
    | 9, h => cases h; exact cal_succ d_part_of bi_part_of sc_part_of rfl rfl rfl (b_part_of T)
    | 10, h => cases h; exact cal_succ d_is_under bi_is_under sc_is_under rfl rfl rfl (b_is_under T)
    | 11, h => cases h; exact cal_succ d_sum_over bi_sum_over sc_sum_over rfl rfl rfl (b_sum_over T)
    | 12, h => cases h; exact cal_succ d_fits_fraction bi_fits_fraction sc_fits_fraction rfl rfl rfl (b_fits_fraction T)
    | 13, h => cases h; exact cal_succ d_need_fraction bi_need_fraction sc_need_fraction rfl rfl rfl (b_need_fraction T)
    | 14, h => cases h; exact cal_succ d_fits_tie bi_fits_tie sc_fits_tie rfl rfl rfl (b_fits_tie T)
    | 15, h => cases h; exact cal_succ d_fits_net bi_fits_net sc_fits_net rfl rfl rfl (b_fits_net T)
    | 16, h => cases h; exact cal_succ d_need_net bi_need_net sc_need_net rfl rfl rfl (b_need_net T)
    | 17, h => cases h; exact cal_succ d_fits_heights bi_fits_heights sc_fits_heights rfl rfl rfl (b_fits_heights T)
    | 18, h => cases h; exact cal_succ d_need_heights bi_need_heights sc_need_heights rfl rfl rfl (b_need_heights T)
    | 19, h => cases h; exact cal_succ d_currents_in bi_currents_in sc_currents_in rfl rfl rfl (b_currents_in T)
    | 20, h => cases h; exact cal_succ d_outs_in bi_outs_in sc_outs_in rfl rfl rfl (b_outs_in T)
    | 21, h => cases h; exact cal_succ d_power_in bi_power_in sc_power_in rfl rfl rfl (b_power_in T)
    | 22, h => cases h; exact cal_succ d_need_both bi_need_both sc_need_both rfl rfl rfl (b_need_both T)
    | 23, h => cases h; exact cal_succ d_is_fraction bi_is_fraction sc_is_fraction rfl rfl rfl (b_is_fraction T)
    | 24, h => cases h; exact cal_succ d_plus bi_plus sc_plus rfl rfl rfl (b_plus T)
    | 25, h => cases h; exact cal_succ d_minus bi_minus sc_minus rfl rfl rfl (b_minus T)
    | 26, h => cases h; exact cal_succ d_times bi_times sc_times rfl rfl rfl (b_times T)
    | 27, h => cases h; exact cal_succ d_over bi_over sc_over rfl rfl rfl (b_over T)
    | 28, h => cases h; exact cal_succ d_is_less bi_is_less sc_is_less rfl rfl rfl (b_is_less T)
    | 29, h => cases h; exact cal_succ d_currents_of bi_currents_of sc_currents_of rfl rfl rfl (b_currents_of T)
    | 30, h => cases h; exact cal_succ d_outs_of bi_outs_of sc_outs_of rfl rfl rfl (b_outs_of T)
    | 31, h => cases h; exact cal_succ d_power_of bi_power_of sc_power_of rfl rfl rfl (b_power_of T)
    | 32, h => cases h; exact cal_succ d__law_cup bi__law_cup sc__law_cup rfl rfl rfl (b__law_cup T)
    | 33, h => cases h; exact cal_succ d__law_roll bi__law_roll sc__law_roll rfl rfl rfl (b__law_roll T)
    | 34, h => cases h; exact cal_succ d__law_some bi__law_some sc__law_some rfl rfl rfl (b__law_some T)
    | 35, h => cases h; exact cal_succ d__law_sort bi__law_sort sc__law_sort rfl rfl rfl (b__law_sort T)
    | 36, h => cases h; exact cal_succ d__law_like bi__law_like sc__law_like rfl rfl rfl (b__law_like T)
    | 37, h => cases h; exact cal_succ d__law_least bi__law_least sc__law_least rfl rfl rfl (b__law_least T)
    | 38, h => cases h; exact cal_succ d__law_plus bi__law_plus sc__law_plus rfl rfl rfl (b__law_plus T)
    | 39, h => cases h; exact cal_succ d__law_minus bi__law_minus sc__law_minus rfl rfl rfl (b__law_minus T)
    | 40, h => cases h; exact cal_succ d__law_times bi__law_times sc__law_times rfl rfl rfl (b__law_times T)
    | 41, h => cases h; exact cal_succ d__law_lead bi__law_lead sc__law_lead rfl rfl rfl (b__law_lead T)
    | 42, h => cases h; exact cal_succ d__law_net bi__law_net sc__law_net rfl rfl rfl (b__law_net T)
    | 43, h => cases h; exact cal_succ d__law_fraction bi__law_fraction sc__law_fraction rfl rfl rfl (b__law_fraction T)
    | 44, h => cases h; exact cal_succ d__law_sums_right bi__law_sums_right sc__law_sums_right rfl rfl rfl (b__law_sums_right T)
    | 45, h => cases h; exact cal_succ d__law_right bi__law_right sc__law_right rfl rfl rfl (b__law_right T)
    | 46, h => cases h; exact cal_succ d__law_formulas_right bi__law_formulas_right sc__law_formulas_right rfl rfl rfl (b__law_formulas_right T)
    | 47, h => cases h; exact cal_succ d_law bi_law sc_law rfl rfl rfl (b_law T)
    | n + 48, h => exact absurd h (by simp [names])
end
end Lw

namespace Lw
open Ev
def W : Nat := 1000000000000
theorem u_is_integer (k : Nat) (x0 : PV) (M : Mem) : callN prog W (k + 1) 0 [x0] M = fin false M.length (execs (callN prog W k) W m_is_integer [some x0] M) := by
  unfold callN
  rfl
theorem u_is_whole (k : Nat) (x0 : PV) (x1 : PV) (x2 : PV) (M : Mem) : callN prog W (k + 1) 1 [x0, x1, x2] M = fin false M.length (execs (callN prog W k) W m_is_whole [some x0, some x1, some x2] M) := by
  unfold callN
  rfl
theorem u_is_tuple_of (k : Nat) (x0 : PV) (x1 : PV) (x2 : PV) (M : Mem) : callN prog W (k + 1) 2 [x0, x1, x2] M = fin false M.length (execs (callN prog W k) W m_is_tuple_of [some x0, some x1, some x2] M) := by
  unfold callN
  rfl
theorem u_is_rising (k : Nat) (x0 : PV) (M : Mem) : callN prog W (k + 1) 3 [x0] M = fin false M.length (execs (callN prog W k) W m_is_rising [some x0, none, none] M) := by
  unfold callN
  rfl
theorem u_divisor_of (k : Nat) (x0 : PV) (x1 : PV) (M : Mem) : callN prog W (k + 1) 4 [x0, x1] M = fin false M.length (execs (callN prog W k) W m_divisor_of [some x0, some x1] M) := by
  unfold callN
  rfl
theorem u_lowest (k : Nat) (x0 : PV) (x1 : PV) (M : Mem) : callN prog W (k + 1) 5 [x0, x1] M = fin false M.length (execs (callN prog W k) W m_lowest [some x0, some x1, none] M) := by
  unfold callN
  rfl
theorem u_sum_of (k : Nat) (x0 : PV) (x1 : PV) (M : Mem) : callN prog W (k + 1) 6 [x0, x1] M = fin false M.length (execs (callN prog W k) W m_sum_of [some x0, some x1] M) := by
  unfold callN
  rfl
theorem u_less_by (k : Nat) (x0 : PV) (x1 : PV) (M : Mem) : callN prog W (k + 1) 7 [x0, x1] M = fin false M.length (execs (callN prog W k) W m_less_by [some x0, some x1] M) := by
  unfold callN
  rfl
theorem u_product_of (k : Nat) (x0 : PV) (x1 : PV) (M : Mem) : callN prog W (k + 1) 8 [x0, x1] M = fin false M.length (execs (callN prog W k) W m_product_of [some x0, some x1] M) := by
  unfold callN
  rfl
theorem u_part_of (k : Nat) (x0 : PV) (x1 : PV) (M : Mem) : callN prog W (k + 1) 9 [x0, x1] M = fin false M.length (execs (callN prog W k) W m_part_of [some x0, some x1] M) := by
  unfold callN
  rfl
theorem u_is_under (k : Nat) (x0 : PV) (x1 : PV) (M : Mem) : callN prog W (k + 1) 10 [x0, x1] M = fin false M.length (execs (callN prog W k) W m_is_under [some x0, some x1] M) := by
  unfold callN
  rfl
theorem u_sum_over (k : Nat) (x0 : PV) (M : Mem) : callN prog W (k + 1) 11 [x0] M = fin false M.length (execs (callN prog W k) W m_sum_over [some x0, none, none] M) := by
  unfold callN
  rfl
theorem u_fits_fraction (k : Nat) (x0 : PV) (M : Mem) : callN prog W (k + 1) 12 [x0] M = fin false M.length (execs (callN prog W k) W m_fits_fraction [some x0, none] M) := by
  unfold callN
  rfl
theorem u_need_fraction (k : Nat) (x0 : PV) (M : Mem) : callN prog W (k + 1) 13 [x0] M = fin false M.length (execs (callN prog W k) W m_need_fraction [some x0] M) := by
  unfold callN
  rfl
theorem u_fits_tie (k : Nat) (x0 : PV) (x1 : PV) (M : Mem) : callN prog W (k + 1) 14 [x0, x1] M = fin false M.length (execs (callN prog W k) W m_fits_tie [some x0, some x1] M) := by
  unfold callN
  rfl
theorem u_fits_net (k : Nat) (x0 : PV) (M : Mem) : callN prog W (k + 1) 15 [x0] M = fin false M.length (execs (callN prog W k) W m_fits_net [some x0, none] M) := by
  unfold callN
  rfl
theorem u_need_net (k : Nat) (x0 : PV) (M : Mem) : callN prog W (k + 1) 16 [x0] M = fin false M.length (execs (callN prog W k) W m_need_net [some x0] M) := by
  unfold callN
  rfl
theorem u_fits_heights (k : Nat) (x0 : PV) (x1 : PV) (M : Mem) : callN prog W (k + 1) 17 [x0, x1] M = fin false M.length (execs (callN prog W k) W m_fits_heights [some x0, some x1, none] M) := by
  unfold callN
  rfl
theorem u_need_heights (k : Nat) (x0 : PV) (x1 : PV) (M : Mem) : callN prog W (k + 1) 18 [x0, x1] M = fin false M.length (execs (callN prog W k) W m_need_heights [some x0, some x1] M) := by
  unfold callN
  rfl
theorem u_currents_in (k : Nat) (x0 : PV) (x1 : PV) (M : Mem) : callN prog W (k + 1) 19 [x0, x1] M = fin false M.length (execs (callN prog W k) W m_currents_in [some x0, some x1, none, none, none] M) := by
  unfold callN
  rfl
theorem u_outs_in (k : Nat) (x0 : PV) (x1 : PV) (M : Mem) : callN prog W (k + 1) 20 [x0, x1] M = fin false M.length (execs (callN prog W k) W m_outs_in [some x0, some x1, none, none, none, none, none] M) := by
  unfold callN
  rfl
theorem u_power_in (k : Nat) (x0 : PV) (x1 : PV) (M : Mem) : callN prog W (k + 1) 21 [x0, x1] M = fin false M.length (execs (callN prog W k) W m_power_in [some x0, some x1, none, none, none, none, none, none] M) := by
  unfold callN
  rfl
theorem u_need_both (k : Nat) (x0 : PV) (x1 : PV) (M : Mem) : callN prog W (k + 1) 22 [x0, x1] M = fin false M.length (execs (callN prog W k) W m_need_both [some x0, some x1] M) := by
  unfold callN
  rfl
theorem u_is_fraction (k : Nat) (x0 : PV) (M : Mem) : callN prog W (k + 1) 23 [x0] M = fin false M.length (execs (callN prog W k) W m_is_fraction [some x0] M) := by
  unfold callN
  rfl
theorem u_plus (k : Nat) (x0 : PV) (x1 : PV) (M : Mem) : callN prog W (k + 1) 24 [x0, x1] M = fin false M.length (execs (callN prog W k) W m_plus [some x0, some x1] M) := by
  unfold callN
  rfl
theorem u_minus (k : Nat) (x0 : PV) (x1 : PV) (M : Mem) : callN prog W (k + 1) 25 [x0, x1] M = fin false M.length (execs (callN prog W k) W m_minus [some x0, some x1] M) := by
  unfold callN
  rfl
theorem u_times (k : Nat) (x0 : PV) (x1 : PV) (M : Mem) : callN prog W (k + 1) 26 [x0, x1] M = fin false M.length (execs (callN prog W k) W m_times [some x0, some x1] M) := by
  unfold callN
  rfl
theorem u_over (k : Nat) (x0 : PV) (x1 : PV) (M : Mem) : callN prog W (k + 1) 27 [x0, x1] M = fin false M.length (execs (callN prog W k) W m_over [some x0, some x1] M) := by
  unfold callN
  rfl
theorem u_is_less (k : Nat) (x0 : PV) (x1 : PV) (M : Mem) : callN prog W (k + 1) 28 [x0, x1] M = fin false M.length (execs (callN prog W k) W m_is_less [some x0, some x1] M) := by
  unfold callN
  rfl
theorem u_currents_of (k : Nat) (x0 : PV) (x1 : PV) (M : Mem) : callN prog W (k + 1) 29 [x0, x1] M = fin false M.length (execs (callN prog W k) W m_currents_of [some x0, some x1] M) := by
  unfold callN
  rfl
theorem u_outs_of (k : Nat) (x0 : PV) (x1 : PV) (M : Mem) : callN prog W (k + 1) 30 [x0, x1] M = fin false M.length (execs (callN prog W k) W m_outs_of [some x0, some x1] M) := by
  unfold callN
  rfl
theorem u_power_of (k : Nat) (x0 : PV) (x1 : PV) (M : Mem) : callN prog W (k + 1) 31 [x0, x1] M = fin false M.length (execs (callN prog W k) W m_power_of [some x0, some x1] M) := by
  unfold callN
  rfl
theorem u__law_cup (k : Nat) (x0 : PV) (M : Mem) : callN prog W (k + 1) 32 [x0] M = fin true M.length (execs (callN prog W k) W m__law_cup [some x0, none] M) := by
  unfold callN
  rfl
theorem u__law_roll (k : Nat) (x0 : PV) (x1 : PV) (M : Mem) : callN prog W (k + 1) 33 [x0, x1] M = fin false M.length (execs (callN prog W k) W m__law_roll [some x0, some x1, none, none] M) := by
  unfold callN
  rfl
theorem u__law_some (k : Nat) (x0 : PV) (x1 : PV) (M : Mem) : callN prog W (k + 1) 34 [x0, x1] M = fin false M.length (execs (callN prog W k) W m__law_some [some x0, some x1] M) := by
  unfold callN
  rfl
theorem u__law_sort (k : Nat) (x0 : PV) (M : Mem) : callN prog W (k + 1) 35 [x0] M = fin false M.length (execs (callN prog W k) W m__law_sort [some x0] M) := by
  unfold callN
  rfl
theorem u__law_like (k : Nat) (x0 : PV) (x1 : PV) (M : Mem) : callN prog W (k + 1) 36 [x0, x1] M = fin false M.length (execs (callN prog W k) W m__law_like [some x0, some x1, none, none, none] M) := by
  unfold callN
  rfl
theorem u__law_least (k : Nat) (x0 : PV) (x1 : PV) (M : Mem) : callN prog W (k + 1) 37 [x0, x1] M = fin false M.length (execs (callN prog W k) W m__law_least [some x0, some x1, none, none, none] M) := by
  unfold callN
  rfl
theorem u__law_plus (k : Nat) (x0 : PV) (x1 : PV) (M : Mem) : callN prog W (k + 1) 38 [x0, x1] M = fin false M.length (execs (callN prog W k) W m__law_plus [some x0, some x1] M) := by
  unfold callN
  rfl
theorem u__law_minus (k : Nat) (x0 : PV) (x1 : PV) (M : Mem) : callN prog W (k + 1) 39 [x0, x1] M = fin false M.length (execs (callN prog W k) W m__law_minus [some x0, some x1] M) := by
  unfold callN
  rfl
theorem u__law_times (k : Nat) (x0 : PV) (x1 : PV) (M : Mem) : callN prog W (k + 1) 40 [x0, x1] M = fin false M.length (execs (callN prog W k) W m__law_times [some x0, some x1] M) := by
  unfold callN
  rfl
theorem u__law_lead (k : Nat) (x0 : PV) (x1 : PV) (M : Mem) : callN prog W (k + 1) 41 [x0, x1] M = fin false M.length (execs (callN prog W k) W m__law_lead [some x0, some x1] M) := by
  unfold callN
  rfl
theorem u__law_net (k : Nat) (x0 : PV) (x1 : PV) (x2 : PV) (M : Mem) : callN prog W (k + 1) 42 [x0, x1, x2] M = fin false M.length (execs (callN prog W k) W m__law_net [some x0, some x1, some x2, none, none, none, none, none, none, none] M) := by
  unfold callN
  rfl
theorem u__law_fraction (k : Nat) (x0 : PV) (x1 : PV) (M : Mem) : callN prog W (k + 1) 43 [x0, x1] M = fin false M.length (execs (callN prog W k) W m__law_fraction [some x0, some x1, none] M) := by
  unfold callN
  rfl
theorem u__law_sums_right (k : Nat) (x0 : PV) (M : Mem) : callN prog W (k + 1) 44 [x0] M = fin false M.length (execs (callN prog W k) W m__law_sums_right [some x0, none, none, none, none, none, none, none, none, none, none, none] M) := by
  unfold callN
  rfl
theorem u__law_right (k : Nat) (x0 : PV) (M : Mem) : callN prog W (k + 1) 45 [x0] M = fin false M.length (execs (callN prog W k) W m__law_right [some x0, none, none, none, none, none, none, none, none, none, none, none, none, none, none, none, none, none, none] M) := by
  unfold callN
  rfl
theorem u__law_formulas_right (k : Nat) (x0 : PV) (M : Mem) : callN prog W (k + 1) 46 [x0] M = fin false M.length (execs (callN prog W k) W m__law_formulas_right [some x0, none, none, none, none, none, none, none, none, none, none, none, none, none, none, none, none] M) := by
  unfold callN
  rfl
theorem u_law (k : Nat) (x0 : PV) (M : Mem) : callN prog W (k + 1) 47 [x0] M = fin false M.length (execs (callN prog W k) W m_law [some x0, none, none, none, none, none, none, none] M) := by
  unfold callN
  rfl
/-! ### fractions: what the defs reckon -/
local macro_rules | `(tactic| walk_at "ev") => `(tactic| simp -implicitDefEqProofs only [execs, exec, eval, evals, evalI, conds, bnd_some, bnd_none, bifb_t, bifb_f, bifb_d, bifb_b, iff_t, iff_d, nxt_nx, nxt_rt, binop, cmpop, addOp_ii, addOp_tt, addOp_ll, subOp_ii, mulOp_ii, fdivOp_ii, modOp_ii, cmpI_ii, cmpLt_ii, isiM, tru_bl, tru_int, absB_i, intB_i, asM_int, asM_bl, asM_tup, asM_false, isOp_n, isOp_bb, isNon, setAll_nil, setAll_cons, bindT_nm, bindT_tp, fin_rt, fin_nx, leave_same, bltOp, idx_tup0, idx_tup1, idx_tup2, idx_tup3, idx_lst0, idx_lst1, idx_lst2, idx_lst3, eqD_ii, eqD_bb, eqD_fr, Option.map_some, Option.map_none, Option.bind_some, List.getElem?_cons_zero, List.getElem?_cons_succ, List.set_cons_zero, List.set_cons_succ, List.length_cons, List.length_nil, if_true, if_false, decide_true, decide_false, Bool.not_true, Bool.not_false, decide_eq_true_eq, sizeL, Nat.reduceAdd, Nat.reduceLeDiff, Nat.zero_add, beq_self_eq_true, seqG_tup, seqG_lst, lenB_tup, lenB_lst, idx_cup0, idx_cup1, setAt0, setAt1, cup, isTy, Bool.false_eq_true, newL_f, newL_t, fin_rtk, List.nil_append, wipeE, Int.reduceNe, Int.reduceEq, Int.reduceLT, Int.reduceLE, Int.reduceAdd, Int.reduceSub, Int.reduceMul, Int.reduceNeg, Int.reduceGT])
local macro_rules | `(tactic| walk_at "evt") => `(tactic| try (walk_at "ev"))
theorem isNon_non : isNon .non = true := rfl
theorem isNon_tup (x : List PV) : isNon (.tup x) = false := rfl
theorem isNon_lst (x : List PV) : isNon (.lst x) = false := rfl
theorem isNon_rol (x : List PV) : isNon (.rol x) = false := rfl
theorem isNon_int (x : Int) : isNon (.int x) = false := rfl
theorem isNon_bl (x : Bool) : isNon (.bl x) = false := rfl
theorem isNon_str (x : PySem.Str) : isNon (.str x) = false := rfl
theorem isNon_ref (x : Nat) : isNon (.ref x) = false := rfl
theorem isNon_fr (x : Rat) : isNon (fr x) = false := rfl
theorem abs_nat (a : Int) : (if a < 0 then -a else a) = ((a.natAbs : Nat) : Int) := by omega
theorem divisor_of_ok (k : Nat) (a b : Int) (M : Mem) {n : Nat} (hb : lt2 n b) (hn : n ≤ 100000) : callN prog W (k + 1) 4 [.int a, .int b] M = some (.int (Int.gcd a b : Nat), M) := by
  rw [u_divisor_of]
  unfold m_divisor_of
  walk_at "ev"
  rw [abs_nat, abs_nat, whl_gcd (fun x y => [some (.int x), some (.int y)]) _ _ M (fun a b => ?_) (fun a b h => ?_) n W a.natAbs b.natAbs hb (by unfold W; omega)]
  · walk_at "ev"
    rfl
  · walk_at "ev"
    rw [decide_not]
  · walk_at "ev"
    rw [if_pos h]
    rfl
theorem lt2_gcd {n : Nat} {a b : Int} (hb : lt2 n b) (h0 : b ≠ 0) : lt2 n ((Int.gcd a b : Nat) : Int) := by
  unfold lt2
  rw [Int.natAbs_natCast]
  refine Nat.lt_of_le_of_lt ?_ hb
  have := Int.gcd_dvd_right a b
  have h := Int.natAbs_dvd_natAbs.mpr this
  rw [Int.natAbs_natCast] at h
  exact Nat.le_of_dvd (by omega) h
theorem sgn_eq {b : Int} (h : b ≠ 0) : (if 0 < b then (1 : Int) else -1) = b.sign := by
  rcases Int.lt_or_gt_of_ne h with h1 | h1
  · rw [if_neg (by omega), Int.sign_eq_neg_one_of_neg h1]
  · rw [if_pos h1, Int.sign_eq_one_of_pos h1]
theorem sgn2_eq {b : Int} (h : b ≠ 0) : (if b < 0 then (-1 : Int) else 1) = b.sign := by
  rcases Int.lt_or_gt_of_ne h with h1 | h1
  · rw [if_pos h1, Int.sign_eq_neg_one_of_neg h1]
  · rw [if_neg (by omega), Int.sign_eq_one_of_pos h1]
theorem sign_small (b : Int) : -(2 ^ 64) < b.sign ∧ b.sign < 2 ^ 64 := by
  have e : (2 : Int) ^ 64 = 18446744073709551616 := rfl
  rcases Int.lt_trichotomy b 0 with h | h | h
  · rw [Int.sign_eq_neg_one_of_neg h]; omega
  · rw [h, Int.sign_zero]; omega
  · rw [Int.sign_eq_one_of_pos h]; omega
theorem low_facts {n : Nat} {b s : Int} (a : Int) (hb : lt2 n b) (h0 : b ≠ 0) (hn : n ≤ 8000) (hs : s = b.sign) : mulOk ((Int.gcd a b : Nat) : Int) s = true ∧ divOk a (((Int.gcd a b : Nat) : Int) * s) = true ∧ divOk b (((Int.gcd a b : Nat) : Int) * s) = true ∧
    a.fdiv (((Int.gcd a b : Nat) : Int) * s) = (Rat.divInt a b).num ∧ b.fdiv (((Int.gcd a b : Nat) : Int) * s) = ((Rat.divInt a b).den : Int) := by
  have hg := lt2_gcd (a := a) hb h0
  have hg0 : ((Int.gcd a b : Nat) : Int) ≠ 0 := by
    have := Int.gcd_pos_of_ne_zero_right a h0
    omega
  have hsn : s ≠ 0 := fun z => h0 (Int.sign_eq_zero_iff_zero.mp (hs ▸ z))
  have hp : lt2 n (((Int.gcd a b : Nat) : Int) * s) := by
    unfold lt2
    rw [hs, Int.natAbs_mul, Int.natAbs_sign, if_neg h0, Nat.mul_one]
    exact hg
  have hp0 : ((Int.gcd a b : Nat) : Int) * s ≠ 0 := fun z => (Int.mul_eq_zero.mp z).elim hg0 hsn
  have hm : mulOk ((Int.gcd a b : Nat) : Int) s = true := mulOk_small (hs ▸ sign_small b)
  exact ⟨hm, divOk_of hp0 hp (by omega), divOk_of hp0 hp (by omega), low_num h0 hs⟩
theorem lowest_ok (k : Nat) (a b : Int) (M : Mem) {n : Nat} (hb : lt2 n b) (h0 : b ≠ 0) (hn : n ≤ 8000) : callN prog W (k + 2) 5 [.int a, .int b] M = some (fr (Rat.divInt a b), M) := by
  rw [u_lowest]
  unfold m_lowest
  walk_at "ev"
  rw [divisor_of_ok k a b M hb (by omega)]
  walk_at "ev"
  have hs := sgn_eq h0
  by_cases hpos : 0 < b
  · rw [if_pos hpos] at hs
    obtain ⟨f1, f2, f3, f4, f5⟩ := low_facts a hb h0 hn hs
    rw [if_pos hpos]
    walk_at "ev"
    rw [f1]
    walk_at "ev"
    rw [f2, f3]
    walk_at "ev"
    rw [f4, f5]
    rfl
  · rw [if_neg hpos] at hs
    obtain ⟨f1, f2, f3, f4, f5⟩ := low_facts a hb h0 hn hs
    rw [if_neg hpos]
    walk_at "ev"
    rw [f1]
    walk_at "ev"
    rw [f2, f3]
    walk_at "ev"
    rw [f4, f5]
    rfl
theorem sum_of_ok (k : Nat) {p q : Rat} (M : Mem) {a b : Nat} (hp : sm a p) (hq : sm b q) (h : a + b ≤ 7990) : callN prog W (k + 3) 6 [fr p, fr q] M = some (fr (p + q), M) := by
  rw [u_sum_of]
  unfold m_sum_of fr
  walk_at "ev"
  rw [mulOk_of hp.1 hq.den (by omega), mulOk_of hq.1 hp.den (by omega), mulOk_of hp.den hq.den (by omega)]
  walk_at "ev"
  rw [lowest_ok k _ _ M (hp.den.mul hq.den) (Int.ne_of_gt (Int.mul_pos (den_pos p) (den_pos q))) (by omega), add_low]
  walk_at "ev"
  rfl
theorem less_by_ok (k : Nat) {p q : Rat} (M : Mem) {a b : Nat} (hp : sm a p) (hq : sm b q) (h : a + b ≤ 7990) : callN prog W (k + 3) 7 [fr p, fr q] M = some (fr (p - q), M) := by
  rw [u_less_by]
  unfold m_less_by fr
  walk_at "ev"
  rw [mulOk_of hp.1 hq.den (by omega), mulOk_of hq.1 hp.den (by omega), mulOk_of hp.den hq.den (by omega)]
  walk_at "ev"
  rw [lowest_ok k _ _ M (hp.den.mul hq.den) (Int.ne_of_gt (Int.mul_pos (den_pos p) (den_pos q))) (by omega), sub_low]
  walk_at "ev"
  rfl
theorem product_of_ok (k : Nat) {p q : Rat} (M : Mem) {a b : Nat} (hp : sm a p) (hq : sm b q) (h : a + b ≤ 7990) : callN prog W (k + 3) 8 [fr p, fr q] M = some (fr (p * q), M) := by
  rw [u_product_of]
  unfold m_product_of fr
  walk_at "ev"
  rw [mulOk_of hp.1 hq.1 (by omega), mulOk_of hp.den hq.den (by omega)]
  walk_at "ev"
  rw [lowest_ok k _ _ M (hp.den.mul hq.den) (Int.ne_of_gt (Int.mul_pos (den_pos p) (den_pos q))) (by omega), mul_low]
  walk_at "ev"
  rfl
theorem part_of_ok (k : Nat) {p q : Rat} (M : Mem) {a b : Nat} (hp : sm a p) (hq : sm b q) (h : a + b ≤ 7990) (h0 : q ≠ 0) : callN prog W (k + 3) 9 [fr p, fr q] M = some (fr (p / q), M) := by
  rw [u_part_of]
  unfold m_part_of fr
  walk_at "ev"
  rw [mulOk_of hp.1 hq.den (by omega), mulOk_of hp.den hq.1 (by omega)]
  walk_at "ev"
  rw [lowest_ok k _ _ M (hp.den.mul hq.1) (fun z => (Int.mul_eq_zero.mp z).elim (Int.ne_of_gt (den_pos p)) (num_ne h0)) (by omega), div_low p q h0]
  walk_at "ev"
  rfl
theorem is_under_ok (k : Nat) {p q : Rat} (M : Mem) {a b : Nat} (hp : sm a p) (hq : sm b q) (h : a + b ≤ 7990) : callN prog W (k + 1) 10 [fr p, fr q] M = some (.bl (decide (p < q)), M) := by
  rw [u_is_under]
  unfold m_is_under fr
  walk_at "ev"
  rw [mulOk_of hp.1 hq.den (by omega), mulOk_of hq.1 hp.den (by omega)]
  walk_at "ev"
  rw [decide_eq_decide.mpr (Rat.lt_iff p q)]

/-! ### the law's own fractions -/
theorem l_least_ok (k : Nat) (a b : Int) (M : Mem) {n : Nat} (hb : lt2 n b) (h0 : b ≠ 0) (hn : n ≤ 8000) : callN prog W (k + 1) 37 [.int a, .int b] M = some (fr (Rat.divInt a b), M) := by
  rw [u__law_least]
  unfold m__law_least
  walk_at "ev"
  rw [abs_nat, abs_nat, whl_gcd (fun x y => [some (.int a), some (.int b), some (.int x), some (.int y), none]) _ _ M (fun a b => ?_) (fun a b h => ?_) n W a.natAbs b.natAbs hb (by unfold W; omega)]
  rotate_left
  · walk_at "ev"
    rw [decide_not]
  · walk_at "ev"
    rw [if_pos h]
    walk_at "ev"
  walk_at "ev"
  have hs := sgn2_eq h0
  have hgd : ∀ s : Int, s = b.sign → mulOk s a = true ∧ mulOk s b = true ∧ divOk (s * a) ((Nat.gcd a.natAbs b.natAbs : Nat) : Int) = true ∧ divOk (s * b) ((Nat.gcd a.natAbs b.natAbs : Nat) : Int) = true ∧
      (s * a).fdiv ((Nat.gcd a.natAbs b.natAbs : Nat) : Int) = (Rat.divInt a b).num ∧ (s * b).fdiv ((Nat.gcd a.natAbs b.natAbs : Nat) : Int) = ((Rat.divInt a b).den : Int) := fun s hs => by
    have hg : lt2 n ((Nat.gcd a.natAbs b.natAbs : Nat) : Int) := lt2_gcd (a := a) hb h0
    have hg1 : 0 < Nat.gcd a.natAbs b.natAbs := Int.gcd_pos_of_ne_zero_right a h0
    have hg0 : ((Nat.gcd a.natAbs b.natAbs : Nat) : Int) ≠ 0 := by omega
    obtain ⟨l1, l2⟩ := low_num (a := a) h0 hs
    have hss : s * s = 1 := by
      rcases Int.lt_or_gt_of_ne h0 with h | h
      · rw [hs, Int.sign_eq_neg_one_of_neg h]; rfl
      · rw [hs, Int.sign_eq_one_of_pos h]; rfl
    have mv : ∀ z : Int, ((Int.gcd a b : Nat) : Int) ∣ z → (s * z).fdiv ((Nat.gcd a.natAbs b.natAbs : Nat) : Int) = z.fdiv (((Int.gcd a b : Nat) : Int) * s) := fun z ⟨w, hw⟩ => by
      have e1 : s * z = ((Nat.gcd a.natAbs b.natAbs : Nat) : Int) * (s * w) := by
        rw [hw, ← Int.mul_assoc, Int.mul_comm s, Int.mul_assoc]; rfl
      have e2 : z = (((Int.gcd a b : Nat) : Int) * s) * (s * w) := by
        rw [Int.mul_assoc, ← Int.mul_assoc s s w, hss, Int.one_mul]; exact hw
      have hgs : ((Int.gcd a b : Nat) : Int) * s ≠ 0 := fun q => by
        rcases Int.mul_eq_zero.mp q with q | q
        · exact hg0 q
        · rw [q] at hss; cases hss
      rw [Int.fdiv_eq_ediv_of_dvd ⟨s * w, e1⟩, Int.fdiv_eq_ediv_of_dvd ⟨s * w, e2⟩]
      conv => lhs; rw [e1]
      conv => rhs; rw [e2]
      rw [Int.mul_ediv_cancel_left _ hg0, Int.mul_ediv_cancel_left _ hgs]
    exact ⟨mulOk_smallL (hs ▸ sign_small b), mulOk_smallL (hs ▸ sign_small b), divOk_of hg0 hg (by omega), divOk_of hg0 hg (by omega), (mv a (Int.gcd_dvd_left a b)).trans l1, (mv b (Int.gcd_dvd_right a b)).trans l2⟩
  by_cases hpos : b < 0
  · rw [if_pos hpos] at hs
    obtain ⟨f1, f2, f3, f4, f5, f6⟩ := hgd _ hs
    rw [if_pos hpos]
    walk_at "ev"
    rw [f1, f2]
    walk_at "ev"
    rw [f3, f4]
    walk_at "ev"
    rw [f5, f6]
    rfl
  · rw [if_neg hpos] at hs
    obtain ⟨f1, f2, f3, f4, f5, f6⟩ := hgd _ hs
    rw [if_neg hpos]
    walk_at "ev"
    rw [f1, f2]
    walk_at "ev"
    rw [f3, f4]
    walk_at "ev"
    rw [f5, f6]
    rfl

theorem l_plus_ok (k : Nat) {p q : Rat} (M : Mem) {a b : Nat} (hp : sm a p) (hq : sm b q) (h : a + b ≤ 7990) : callN prog W (k + 2) 38 [fr p, fr q] M = some (fr (p + q), M) := by
  rw [u__law_plus]
  unfold m__law_plus fr
  walk_at "ev"
  rw [mulOk_of hp.1 hq.den (by omega), mulOk_of hq.1 hp.den (by omega), mulOk_of hp.den hq.den (by omega)]
  walk_at "ev"
  rw [l_least_ok k _ _ M (hp.den.mul hq.den) (Int.ne_of_gt (Int.mul_pos (den_pos p) (den_pos q))) (by omega), add_low]
  walk_at "ev"
  rfl

theorem l_minus_ok (k : Nat) {p q : Rat} (M : Mem) {a b : Nat} (hp : sm a p) (hq : sm b q) (h : a + b ≤ 7990) : callN prog W (k + 2) 39 [fr p, fr q] M = some (fr (p - q), M) := by
  rw [u__law_minus]
  unfold m__law_minus fr
  walk_at "ev"
  rw [mulOk_of hp.1 hq.den (by omega), mulOk_of hq.1 hp.den (by omega), mulOk_of hp.den hq.den (by omega)]
  walk_at "ev"
  rw [l_least_ok k _ _ M (hp.den.mul hq.den) (Int.ne_of_gt (Int.mul_pos (den_pos p) (den_pos q))) (by omega), sub_low]
  walk_at "ev"
  rfl

theorem l_times_ok (k : Nat) {p q : Rat} (M : Mem) {a b : Nat} (hp : sm a p) (hq : sm b q) (h : a + b ≤ 7990) : callN prog W (k + 2) 40 [fr p, fr q] M = some (fr (p * q), M) := by
  rw [u__law_times]
  unfold m__law_times fr
  walk_at "ev"
  rw [mulOk_of hp.1 hq.1 (by omega), mulOk_of hp.den hq.den (by omega)]
  walk_at "ev"
  rw [l_least_ok k _ _ M (hp.den.mul hq.den) (Int.ne_of_gt (Int.mul_pos (den_pos p) (den_pos q))) (by omega), mul_low]
  walk_at "ev"
  rfl

/-! ### draws -/
theorem roll_ok (k : Nat) {x y many : Int} (T : Mem) (h : CupB x y) (h1 : 1 ≤ many) (h2 : lt2 8000 many) :
    ∃ r x' y', callN prog W (k + 1) 33 [.ref 0, .int many] (cup x y :: T) = some (.int r, cup x' y' :: T) ∧ CupB x' y' ∧ 0 ≤ r ∧ r < many := by
  obtain ⟨hx, hy, hy2⟩ := h
  rw [u__law_roll]
  unfold m__law_roll
  walk_at "evt"
  have hne : many ≠ 0 := by omega
  have d0 := divOk_of (x := x) hne h2 (by omega)
  by_cases hpos : 0 < x
  · rw [if_pos hpos]
    rw [if_pos hne]
    walk_at "evt"
    rw [d0]
    walk_at "evt"
    refine ⟨x.fmod many, x.fdiv many, y, ?_, ⟨?_, hy, hy2⟩, ?_, ?_⟩
    · exact leave_len rfl
    · rw [Int.fdiv_eq_ediv_of_nonneg x (by omega)]
      exact Int.ediv_nonneg hx (by omega)
    · rw [Int.fmod_eq_emod_of_nonneg x (by omega)]
      exact Int.emod_nonneg x hne
    · rw [Int.fmod_eq_emod_of_nonneg x (by omega)]
      exact Int.emod_lt_of_pos x (by omega)
  · rw [if_neg hpos]
    walk_at "evt"
    have c1 : mulOk y 31051 = true := mulOk_small (by decide)
    rw [c1]
    walk_at "evt"
    have e1 : 0 ≤ (y * 31051 + 7993).fmod 2147483543 ∧ (y * 31051 + 7993).fmod 2147483543 < 2147483543 := by
      rw [Int.fmod_eq_emod_of_nonneg _ (by omega)]
      omega
    generalize (y * 31051 + 7993).fmod 2147483543 = y1 at e1
    walk_at "evt"
    have c2 : mulOk y1 (y1 + 229) = true := mulOk_small (by omega)
    rw [c2]
    walk_at "evt"
    generalize (y1 * (y1 + 229)).fmod 2147483587 = d
    have c3 : divOk d 821 = true := divOk_of (n := 10) (by decide) (by unfold lt2; decide) (by omega)
    rw [c3]
    walk_at "evt"
    rw [if_pos hne]
    refine ⟨(d.fdiv 821).fmod many, x, y1, leave_len rfl, ⟨hx, e1.1, by omega⟩, ?_, ?_⟩
    · rw [Int.fmod_eq_emod_of_nonneg _ (by omega)]
      exact Int.emod_nonneg _ hne
    · rw [Int.fmod_eq_emod_of_nonneg _ (by omega)]
      exact Int.emod_lt_of_pos _ (by omega)
theorem listB_rol (M : Mem) (xs : List PV) : listB M [.rol xs] = some (.lst xs) := rfl
theorem cup_ok (k : Nat) (ns : List Int) (hl : ns.length ≤ 63) : ∃ x y, callN prog W (k + 1) 32 [.rol (ns.map PV.int)] [] = some (.ref 0, [cup x y]) ∧ CupB x y := by
  rw [u__law_cup]
  unfold m__law_cup
  walk_at "evt"
  rw [listB_rol]
  walk_at "evt"
  rw [if_pos (by rw [List.length_map]; omega)]
  obtain ⟨c, rest, e, hc⟩ : ∃ c rest, ns.map PV.int ++ [PV.int 0] = .int c :: rest ∧ True := by
    cases ns with
    | nil => exact ⟨0, [], rfl, trivial⟩
    | cons n ns => exact ⟨n, ns.map PV.int ++ [PV.int 0], rfl, trivial⟩
  rw [e]
  walk_at "evt"
  rw [abs_nat]
  generalize hcc : ((c.natAbs : Nat) : Int) = a
  have ha : 0 ≤ a := by omega
  have p18 : powOp (.int 10) (.int 18) = some (.int 1000000000000000000) := by rfl
  rw [p18]
  walk_at "evt"
  have c1 : mulOk a 283 = true := mulOk_small (by decide)
  have c2 : divOk a 73 = true := divOk_of (n := 7) (by decide) (by unfold lt2; decide) (by omega)
  rw [c1, c2]
  by_cases h18 : 1000000000000000000 ≤ a
  · walk_at "evt"
    rw [if_pos h18]
    walk_at "evt"
    have e1 : 0 ≤ (a * 283 + 3907).fmod 2077503167 ∧ (a * 283 + 3907).fmod 2077503167 < 2077503167 := by
      rw [Int.fmod_eq_emod_of_nonneg _ (by omega)]
      omega
    refine ⟨_, _, rfl, ?_, by omega, by omega⟩
    rw [Int.fdiv_eq_ediv_of_nonneg _ (by omega)]
    omega
  · walk_at "evt"
    rw [if_neg h18]
    walk_at "evt"
    have e1 : 0 ≤ (a * 283 + 3907).fmod 2077503167 ∧ (a * 283 + 3907).fmod 2077503167 < 2077503167 := by
      rw [Int.fmod_eq_emod_of_nonneg _ (by omega)]
      omega
    exact ⟨0, _, rfl, by omega, by omega, by omega⟩

/-! ### equal, including the kinds -/
theorem sort_ok (k : Nat) (v : PV) (M : Mem) (hm : isiM M v = true := by rfl) : callN prog W (k + 1) 35 [v] M = some (.int (sortP v), M) := by
  rw [u__law_sort]
  unfold m__law_sort
  cases v with
  | ref n =>
    have hm' : (match M[n]? with | some (.lst _) => true | _ => false) = true := hm
    cases e : M[n]? with
    | none => rw [e] at hm'; cases hm'
    | some c =>
      cases c with
      | lst xs =>
        simp -implicitDefEqProofs only [execs, exec, eval, evals, bnd_some, nxt_nx, nxt_rt, cmpop, isOp_n, isNon_ref, Option.map_some, bifb_f, bifb_t, tru_bl, iff_t, isTy, List.getElem?_cons_zero, isiM, e, fin_rt, leave_same]
        rfl
      | dic _ => rw [e] at hm'; cases hm'
      | fdi _ => rw [e] at hm'; cases hm'
  | _ => walk_at "ev"; rfl
theorem in_45 (M : Mem) (v : PV) (h6 : sortP v ≠ 6) : inOp M (.int (sortP v)) (.tup [.int 4, .int 5]) = some (decide (4 ≤ sortP v)) := by
  cases v <;> first | rfl | exact absurd rfl h6
theorem pl_ne6 {v : PV} (h : pl v = true) : sortP v ≠ 6 := by cases v <;> first | (simp [sortP]; done) | cases h
theorem eqD_nil (M : Mem) : eqD M (.lst []) (.lst []) = some true := rfl
theorem like_seq (k : Nat) (M : Mem) (a b : PV) (kd : Bool) (xs : List PV) (g : Gd) (ha : seqG M a = some (kd, xs, g)) (hb : seqG M b = some (kd, xs, [])) (hg : gOk (g ++ []) M = true) (la : lenB M [a] = some (.int xs.length)) (lb : lenB M [b] = some (.int xs.length)) (ma : isiM M a = true) (mb : isiM M b = true)
    (hs : sortP a = sortP b) (h4 : 4 ≤ sortP b) (h6 : sortP b ≠ 6) (ih : ∀ x ∈ xs, callN prog W (k + 1) 36 [x, x] M = some (.bl true, M)) : callN prog W (k + 2) 36 [a, b] M = some (.bl true, M) := by
  rw [u__law_like]
  unfold m__law_like
  walk_at "evt"
  rw [sort_ok _ _ _ mb]
  walk_at "evt"
  rw [sort_ok _ _ _ ma, hs]
  walk_at "evt"
  rw [if_neg h6]
  walk_at "evt"
  rw [in_45 _ _ h6]
  walk_at "evt"
  rw [if_pos h4]
  walk_at "evt"
  rw [la]
  walk_at "evt"
  rw [lb]
  walk_at "evt"
  rw [ha, hb]
  walk_at "evt"
  rw [lcL_none hg]
  · walk_at "evt"
    rw [eqD_nil]
    walk_at "evt"
  · intro z hz
    obtain ⟨x, hx, rfl⟩ := zip_mem hz
    refine ⟨_, by walk_at "ev"; rfl, ?_⟩
    walk_at "evt"
    rw [ih x hx]
    walk_at "evt"
theorem eqD_scal (M : Mem) (v : PV) (h : pl v = true) (h4 : ¬ 4 ≤ sortP v) : eqD M v v = some true := by
  cases v with
  | non => rfl
  | bl b => show some (b == b) = _; rw [beq_self_eq_true]
  | int i => rw [eqD_ii, decide_eq_true rfl]
  | str s =>
    have h' : PySem.PyData.canLay0 (.str s) = true := h
    show (if (PySem.SeqAt.shaped (.str s) && PySem.SeqAt.shaped (.str s)) = true then some (s == s) else none) = _
    unfold PySem.SeqAt.shaped
    rw [h']
    show (if true = true then some (s == s) else none) = _
    rw [if_pos rfl, beq_self_eq_true]
  | tup xs => exact absurd (show (4 : Int) ≤ 4 by decide) h4
  | lst xs => exact absurd (show (4 : Int) ≤ 5 by decide) h4
  | rol xs => exact absurd (show (4 : Int) ≤ 5 by decide) h4
  | ref n => exact absurd (show (4 : Int) ≤ 5 by decide) h4
  | dct n => exact absurd (show (4 : Int) ≤ 6 by decide) h4
theorem like_self : ∀ (k : Nat) (v : PV) (M : Mem), pl v = true → dpt v ≤ k → callN prog W (k + 2) 36 [v, v] M = some (.bl true, M)
  | k, v, M, hp, hd => by
    by_cases h4 : 4 ≤ sortP v
    · cases v with
      | tup xs =>
        have hd' : dpts xs + 1 ≤ k := hd
        obtain ⟨k, rfl⟩ : ∃ j, k = j + 1 := ⟨k - 1, by omega⟩
        refine like_seq (k + 1) M _ _ true xs [] rfl rfl rfl rfl rfl rfl rfl rfl h4 (by show (4 : Int) ≠ 6; decide) fun x hx => ?_
        obtain ⟨h1, h2⟩ := pls_mem hp hx
        exact like_self k x M h1 (by omega)
      | lst xs =>
        have hd' : dpts xs + 1 ≤ k := hd
        obtain ⟨k, rfl⟩ : ∃ j, k = j + 1 := ⟨k - 1, by omega⟩
        refine like_seq (k + 1) M _ _ false xs [] rfl rfl rfl rfl rfl rfl rfl rfl h4 (by show (5 : Int) ≠ 6; decide) fun x hx => ?_
        obtain ⟨h1, h2⟩ := pls_mem hp hx
        exact like_self k x M h1 (by omega)
      | rol xs => cases hp
      | ref n => cases hp
      | dct n => cases hp
      | non => exact absurd h4 (by decide)
      | bl b => exact absurd h4 (by show ¬ (4 : Int) ≤ 1; decide)
      | int i => exact absurd h4 (by show ¬ (4 : Int) ≤ 2; decide)
      | str s => exact absurd h4 (by show ¬ (4 : Int) ≤ 3; decide)
    · rw [u__law_like]
      unfold m__law_like
      walk_at "evt"
      have hm : isiM M v = true := by
        cases v with
        | ref n => cases hp
        | _ => rfl
      rw [sort_ok _ _ _ hm]
      walk_at "evt"
      rw [sort_ok _ _ _ hm]
      walk_at "evt"
      rw [if_neg (by omega)]
      walk_at "evt"
      rw [in_45 _ _ (pl_ne6 hp)]
      walk_at "evt"
      rw [if_neg h4]
      walk_at "evt"
      rw [eqD_scal M v hp h4]
      walk_at "evt"
  termination_by k => k
/-- a told list (a cell) beside the due one -/
theorem like_ref (k : Nat) (n : Nat) (xs : List PV) (M : Mem) (h : M[n]? = some (.lst xs)) (hp : pls xs = true) (hd : dpts xs ≤ k) : callN prog W (k + 3) 36 [.ref n, .lst xs] M = some (.bl true, M) := by
  refine like_seq (k + 1) M _ _ false xs [(n, xs)] (by show (match M[n]? with | some (.lst xs) => some (false, xs, [(n, xs)]) | _ => none) = _; rw [h]) rfl ?_ ?_ rfl (by show (match M[n]? with | some (.lst _) => true | _ => false) = true; rw [h]) rfl rfl (by show (4 : Int) ≤ 5; decide) (by show (5 : Int) ≠ 6; decide) fun x hx => ?_
  · show ((match M[n]? with | some (.lst ys) => pbeqs ys xs | _ => false) && true) = true
    rw [h, Bool.and_true]
    exact pbeqs_self xs
  · unfold lenB itemsT items
    simp only [h]
    rfl
  · obtain ⟨h1, h2⟩ := pls_mem hp hx
    exact like_self k x M h1 (by omega)

/-! ### chains -/
theorem fr_0' : (PV.tup [.int 0, .int 1]) = fr 0 := rfl
theorem fr_1' : (PV.tup [.int 1, .int 1]) = fr 1 := rfl
theorem fr_m1' : (PV.tup [.int (-1), .int 1]) = fr (-1) := rfl
theorem idx_fr0 (M : Mem) (q : Rat) : idxOp M (fr q) (.int 0) = some (.int q.num) := idx_tup0 _ _ _
theorem idx_fr1 (M : Mem) (q : Rat) : idxOp M (fr q) (.int 1) = some (.int q.den) := idx_tup1 _ _ _ _
theorem lcL_n {t : T} {c : Env → Mem → Option (Bool × Mem)} {e : Env → Mem → Option (PV × Mem)} {env : Env} {acc : List PV} {M : Mem} : lcL t [] c e env [] acc M = some (acc, M) := by unfold lcL; rfl
theorem lcL_c {t : T} {c : Env → Mem → Option (Bool × Mem)} {e : Env → Mem → Option (PV × Mem)} {env : Env} {x : PV} {xs acc : List PV} {M : Mem} : lcL t [] c e env (x :: xs) acc M =
    (bindT t x env).bind fun env1 => bnd (c env1 M) fun b M1 => bifb (some b) (bnd (e env1 M1) fun v M2 => lcL t [] c e env xs (acc ++ [v]) M2) (lcL t [] c e env xs acc M1) := by
  conv => lhs; unfold lcL
  show (match bindT t x env with | some env1 => _ | none => none) = _
  cases bindT t x env with
  | none => rfl
  | some env1 =>
    show (match c env1 M with | some (true, M1) => _ | some (false, M1) => _ | none => none) = bnd (c env1 M) _
    rcases c env1 M with _ | ⟨b, M1⟩
    · rfl
    · cases b
      · rfl
      · show (match e env1 M1 with | some (v, M2) => _ | none => none) = bnd (e env1 M1) _
        rcases e env1 M1 with _ | ⟨v, M2⟩ <;> rfl
theorem forL_n {t : T} {body : Env → Mem → Option R} {env : Env} {M : Mem} : forL t [] body [] env M = some (.nx env M) := by unfold forL; rfl
theorem forL_c {t : T} {body : Env → Mem → Option R} {x : PV} {xs : List PV} {env : Env} {M : Mem} : forL t [] body (x :: xs) env M = (bindT t x env).bind fun env1 => nxt (body env1 M) fun env2 M2 => forL t [] body xs env2 M2 := by
  conv => lhs; unfold forL
  show (match bindT t x env with | some env1 => _ | none => none) = _
  cases bindT t x env with
  | none => rfl
  | some env1 =>
    show (match body env1 M with | some (.nx env2 M2) => _ | r => r) = nxt (body env1 M) _
    rcases body env1 M with _ | r
    · rfl
    · cases r <;> rfl
local macro_rules | `(tactic| walk_at "evf") => `(tactic| simp -implicitDefEqProofs only [execs, exec, eval, evals, evalI, conds, bnd_some, bnd_none, bifb_t, bifb_f, bifb_d, bifb_b, iff_t, iff_d, nxt_nx, nxt_rt, binop, cmpop, addOp_ii, addOp_tt, addOp_ll, subOp_ii, mulOp_ii, fdivOp_ii, modOp_ii, cmpI_ii, cmpLt_ii, isiM, tru_bl, tru_int, absB_i, intB_i, asM_int, asM_bl, asM_tup, asM_false, isOp_n, isOp_bb, isNon_non, isNon_tup, isNon_int, isNon_bl, isNon_lst, isNon_ref, isNon_rol, isNon_str, isNon_fr, setAll_nil, setAll_cons, bindT_nm, bindT_tp, fin_rt, fin_nx, leave_same, bltOp, idx_tup0, idx_tup1, idx_tup2, idx_tup3, idx_lst0, idx_lst1, idx_lst2, idx_lst3, eqD_ii, eqD_bb, eqD_fr, Option.map_some, Option.map_none, Option.bind_some, List.getElem?_cons_zero, List.getElem?_cons_succ, List.set_cons_zero, List.set_cons_succ, List.length_cons, List.length_nil, if_true, if_false, decide_true, decide_false, Bool.not_true, Bool.not_false, decide_eq_true_eq, sizeL, Nat.reduceAdd, Nat.reduceLeDiff, Nat.zero_add, beq_self_eq_true, seqG_tup, seqG_lst, lenB_tup, lenB_lst, idx_cup0, idx_cup1, setAt0, setAt1, cup, isTy, Bool.false_eq_true, newL_f, newL_t, fin_rtk, List.nil_append, wipeE, Int.reduceNe, Int.reduceEq, Int.reduceLT, Int.reduceLE, Int.reduceAdd, Int.reduceSub, Int.reduceMul, Int.reduceNeg, Int.reduceGT, fr_0', fr_1', fr_m1', idx_fr0, idx_fr1, lcL_n, lcL_c, forL_n, forL_c, allB, items, boolsOf, List.all_cons, List.all_nil, id_eq, Bool.and_true, List.cons_append, List.append_nil, cmpop, k_NONE, k_DIGITS, k_MOST_TIES, k_MOST_NODES, not_true_eq_false, not_false_eq_true, ite_true, ite_false, *])
theorem is_tuple_of_ok (k : Nat) (xs : List PV) (lo hi : Int) (M : Mem) (h1 : lo ≤ (xs.length : Int)) (h2 : (xs.length : Int) ≤ hi) : callN prog W (k + 1) 2 [.tup xs, .int lo, .int hi] M = some (.bl true, M) := by
  rw [u_is_tuple_of]
  unfold m_is_tuple_of
  walk_at "evf"
theorem is_integer_ok (k : Nat) (i : Int) (M : Mem) : callN prog W (k + 1) 0 [.int i] M = some (.bl true, M) := by
  rw [u_is_integer]
  unfold m_is_integer
  walk_at "evf"
theorem num_one {a : Int} {q : Rat} : Int.gcd q.num (q.den : Int) = 1 := by
  have := q.reduced
  unfold Nat.Coprime at this
  unfold Int.gcd
  rw [Int.natAbs_natCast]
  exact this
theorem fits_fraction_ok (k : Nat) {q : Rat} (M : Mem) (h : sm 132 q) : callN prog W (k + 2) 12 [fr q] M = some (.bl true, M) := by
  obtain ⟨h1, h2⟩ := h
  have e : (2 : Nat) ^ 132 < 10000000000000000000000000000000000000000 := by decide +kernel
  have p1 : -10000000000000000000000000000000000000000 < q.num := by unfold lt2 at h1; omega
  have p2 : q.num < 10000000000000000000000000000000000000000 := by unfold lt2 at h1; omega
  have p3 : -10000000000000000000000000000000000000000 < (q.den : Int) := by omega
  have p4 : (q.den : Int) < 10000000000000000000000000000000000000000 := by omega
  have p5 : 1 ≤ (q.den : Int) := den_pos q
  have f1 : ∀ k, callN prog W (k + 1) 2 [.tup [.int q.num, .int q.den], .int 2, .int 2] M = some (.bl true, M) := fun k => is_tuple_of_ok k _ _ _ M (by simp) (by simp)
  have f2 := fun k i => is_integer_ok k i M
  have f3 : ∀ k, callN prog W (k + 1) 4 [.int q.num, .int q.den] M = some (.int 1, M) := fun k => by
    rw [divisor_of_ok k _ _ M (n := 132) (by unfold lt2; rw [Int.natAbs_natCast]; exact h2) (by omega), num_one (a := 0)]
    rfl
  rw [u_fits_fraction]
  unfold m_fits_fraction fr
  walk_at "evf"
theorem sm_0 (n : Nat) (h : 1 ≤ n) : sm n 0 := by
  have : 2 ^ 1 ≤ 2 ^ n := Nat.pow_le_pow_right (by decide) h
  refine ⟨?_, ?_⟩
  · show (0 : Nat) < 2 ^ n; omega
  · show (1 : Nat) < 2 ^ n; omega
theorem sm_1 (n : Nat) (h : 1 ≤ n) : sm n 1 := by
  have : 2 ^ 1 ≤ 2 ^ n := Nat.pow_le_pow_right (by decide) h
  refine ⟨?_, ?_⟩
  · show (1 : Nat) < 2 ^ n; omega
  · show (1 : Nat) < 2 ^ n; omega
mutual
theorem toD_pl : ∀ v : PV, pl v = true → ∃ d, toD v = some d ∧ d.canLay0 = true ∧ d.depth = dpt v
  | .non, _ => ⟨.none, rfl, rfl, rfl⟩
  | .bl b, _ => ⟨.bool b, rfl, rfl, rfl⟩
  | .int i, _ => ⟨.int i, rfl, rfl, rfl⟩
  | .str s, h => ⟨.str s, rfl, h, rfl⟩
  | .tup xs, h => by
    obtain ⟨ds, e1, e2, e3⟩ := toDs_pl xs h
    refine ⟨.tuple ds, ?_, e2, ?_⟩
    · show (toDs xs).map PySem.PyData.tuple = _
      rw [e1]; rfl
    · show PySem.PyData.depthAll ds + 1 = dpts xs + 1
      rw [e3]
  | .lst xs, h => by
    obtain ⟨ds, e1, e2, e3⟩ := toDs_pl xs h
    refine ⟨.list ds, ?_, e2, ?_⟩
    · show (toDs xs).map PySem.PyData.list = _
      rw [e1]; rfl
    · show PySem.PyData.depthAll ds + 1 = dpts xs + 1
      rw [e3]
theorem toDs_pl : ∀ xs : List PV, pls xs = true → ∃ ds, toDs xs = some ds ∧ PySem.PyData.canLayAll0 ds = true ∧ PySem.PyData.depthAll ds = dpts xs
  | [], _ => ⟨[], rfl, rfl, rfl⟩
  | x :: xs, h => by
    have h' : (pl x && pls xs) = true := h
    rw [Bool.and_eq_true] at h'
    obtain ⟨d, a1, a2, a3⟩ := toD_pl x h'.1
    obtain ⟨ds, b1, b2, b3⟩ := toDs_pl xs h'.2
    refine ⟨d :: ds, ?_, ?_, ?_⟩
    · show (match toD x, toDs xs with | some d, some ds => some (d :: ds) | _, _ => none) = _
      rw [a1, b1]
    · show (d.canLay0 && PySem.PyData.canLayAll0 ds) = true
      rw [a2, b2]; rfl
    · show max d.depth (PySem.PyData.depthAll ds) = max (dpt x) (dpts xs)
      rw [a3, b3]
end
theorem eqD_t0 (M : Mem) (xs : List PV) (h : pls xs = true) (hd : dpts xs ≤ 63) : eqD M (.tup xs) (.tup []) = some xs.isEmpty := by
  obtain ⟨ds, e1, e2, e3⟩ := toDs_pl xs h
  have t1 : toDM M (.tup xs) = some (.tuple ds) := by
    show (toDs xs).map PySem.PyData.tuple = _
    rw [e1]; rfl
  have t2 : toDM M (.tup []) = some (.tuple []) := rfl
  have s1 : PySem.SeqAt.shaped (.tuple ds) = true := by
    unfold PySem.SeqAt.shaped
    rw [Bool.and_eq_true]
    exact ⟨e2, decide_eq_true (by show PySem.PyData.depthAll ds + 1 ≤ 64; omega)⟩
  have s2 : PySem.SeqAt.shaped (.tuple []) = true := rfl
  unfold eqD
  rw [t1, t2]
  show (if (PySem.SeqAt.shaped (.tuple ds) && PySem.SeqAt.shaped (.tuple [])) = true then _ else _) = _
  rw [s1, s2, if_pos (by decide)]
  cases xs with
  | nil =>
    cases e1
    rfl
  | cons x xs =>
    cases ds with
    | nil =>
      exfalso
      have e1' : (match toD x, toDs xs with | some d, some ds => some (d :: ds) | _, _ => none) = some [] := e1
      split at e1' <;> cases e1'
    | cons d ds => rfl
theorem pl_fr (q : Rat) : pl (fr q) = true := rfl
theorem dpt_fr (q : Rat) : dpt (fr q) = 1 := rfl
theorem leave_cup (c : Cell) (v : PV) (T : Mem) : leave (T.length + 1) v (c :: T) = some (v, c :: T) := leave_len rfl
theorem rngI_len : ∀ (n : Nat) (a : Int), (rngI a n).length = n
  | 0, _ => rfl
  | n + 1, a => by
    show (rngI (a + 1) n).length + 1 = n + 1
    rw [rngI_len n]
theorem rngI_int : ∀ (n : Nat) (a : Int) (v : PV), v ∈ rngI a n → ∃ i, v = .int i
  | n + 1, a, v, h => by
    rcases List.mem_cons.mp (show v ∈ .int a :: rngI (a + 1) n from h) with h | h
    · exact ⟨a, h⟩
    · exact rngI_int n _ v h
theorem tupleB_lst (M : Mem) (xs : List PV) : tupleB M [.lst xs] = some (.tup xs) := rfl
theorem like_ok (k : Nat) (v : PV) (M : Mem) (hp : pl v = true) (hd : dpt v ≤ k) : callN prog W (k + 2) 36 [v, v] M = some (.bl true, M) := like_self k v M hp hd
/-- a list beside the empty one -/
theorem eqD_l0 (M : Mem) (xs : List PV) (h : pls xs = true) (hd : dpts xs ≤ 60) : eqD M (.lst xs) (.lst []) = some xs.isEmpty := by
  obtain ⟨ds, e1, e2, e3⟩ := toDs_pl xs h
  have t1 : toDM M (.lst xs) = some (.list ds) := by
    show (toDs xs).map PySem.PyData.list = _
    rw [e1]; rfl
  have t2 : toDM M (.lst []) = some (.list []) := rfl
  have s1 : PySem.SeqAt.shaped (.list ds) = true := by
    unfold PySem.SeqAt.shaped
    rw [Bool.and_eq_true]
    exact ⟨e2, decide_eq_true (by show PySem.PyData.depthAll ds + 1 ≤ 64; omega)⟩
  have s2 : PySem.SeqAt.shaped (.list []) = true := rfl
  unfold eqD
  rw [t1, t2]
  show (if (PySem.SeqAt.shaped (.list ds) && PySem.SeqAt.shaped (.list [])) = true then _ else _) = _
  rw [s1, s2, if_pos (by decide)]
  cases xs with
  | nil =>
    cases e1
    rfl
  | cons x xs =>
    cases ds with
    | nil =>
      exfalso
      have e1' : (match toD x, toDs xs with | some d, some ds => some (d :: ds) | _, _ => none) = some [] := e1
      split at e1' <;> cases e1'
    | cons d ds => rfl
theorem fits_lt (k : Nat) {q : Rat} (M : Mem) (p1 : -10000000000000000000000000000000000000000 < q.num) (p2 : q.num < 10000000000000000000000000000000000000000) (p4 : (q.den : Int) < 10000000000000000000000000000000000000000) : callN prog W (k + 2) 12 [fr q] M = some (.bl true, M) := by
  have p5 : 1 ≤ (q.den : Int) := den_pos q
  have p3 : -10000000000000000000000000000000000000000 < (q.den : Int) := by omega
  have f1 : ∀ k, callN prog W (k + 1) 2 [.tup [.int q.num, .int q.den], .int 2, .int 2] M = some (.bl true, M) := fun k => is_tuple_of_ok k _ _ _ M (by simp) (by simp)
  have f2 := fun k i => is_integer_ok k i M
  have e : (10000000000000000000000000000000000000000 : Nat) < 2 ^ 133 := by decide +kernel
  have f3 : ∀ k, callN prog W (k + 1) 4 [.int q.num, .int q.den] M = some (.int 1, M) := fun k => by
    rw [divisor_of_ok k _ _ M (n := 133) (by unfold lt2; omega) (by omega), num_one (a := 0)]
    rfl
  rw [u_fits_fraction]
  unfold m_fits_fraction fr
  simp -implicitDefEqProofs only [execs, exec, eval, evals, evalI, conds, bnd_some, bnd_none, bifb_t, bifb_f, bifb_d, bifb_b, iff_t, iff_d, nxt_nx, nxt_rt, binop, cmpop, addOp_ii, addOp_tt, addOp_ll, subOp_ii, mulOp_ii, fdivOp_ii, modOp_ii, cmpI_ii, cmpLt_ii, isiM, tru_bl, tru_int, absB_i, intB_i, asM_int, asM_bl, asM_tup, asM_false, isOp_n, isOp_bb, isNon_non, isNon_tup, isNon_int, isNon_bl, isNon_lst, isNon_ref, isNon_rol, isNon_str, isNon_fr, setAll_nil, setAll_cons, bindT_nm, bindT_tp, fin_rt, fin_nx, leave_same, bltOp, idx_tup0, idx_tup1, idx_tup2, idx_tup3, idx_lst0, idx_lst1, idx_lst2, idx_lst3, eqD_ii, eqD_bb, eqD_fr, Option.map_some, Option.map_none, Option.bind_some, List.getElem?_cons_zero, List.getElem?_cons_succ, List.set_cons_zero, List.set_cons_succ, List.length_cons, List.length_nil, if_true, if_false, decide_true, decide_false, Bool.not_true, Bool.not_false, decide_eq_true_eq, sizeL, Nat.reduceAdd, Nat.reduceLeDiff, Nat.zero_add, beq_self_eq_true, seqG_tup, seqG_lst, lenB_tup, lenB_lst, idx_cup0, idx_cup1, setAt0, setAt1, cup, isTy, Bool.false_eq_true, newL_f, newL_t, fin_rtk, List.nil_append, wipeE, Int.reduceNe, Int.reduceEq, Int.reduceLT, Int.reduceLE, Int.reduceAdd, Int.reduceSub, Int.reduceMul, Int.reduceNeg, Int.reduceGT, lcL_n, lcL_c, allB, items, boolsOf, List.all_cons, List.all_nil, id_eq, Bool.and_true, List.cons_append, cmpop, k_DIGITS, *]
theorem need_frac_lt (k : Nat) {q : Rat} (M : Mem) (p1 : -10000000000000000000000000000000000000000 < q.num) (p2 : q.num < 10000000000000000000000000000000000000000) (p4 : (q.den : Int) < 10000000000000000000000000000000000000000) : callN prog W (k + 3) 13 [fr q] M = some (.non, M) := by
  have f := fun k => fits_lt k M p1 p2 p4
  rw [u_need_fraction]
  unfold m_need_fraction
  walk_at "evf"
def nb (s : Nat) (q : Rat) : Prop := q.num.natAbs ≤ s ∧ q.den ≤ s
theorem low_nb {a b : Int} {s : Nat} (ha : a.natAbs ≤ s) (hb : b.natAbs ≤ s) (h0 : b ≠ 0) : nb s (Rat.divInt a b) := by
  obtain ⟨h1, h2⟩ := low_le a b h0
  exact ⟨Nat.le_trans h1 ha, Nat.le_trans h2 hb⟩
theorem nb.sm {s : Nat} {q : Rat} (h : nb s q) {n : Nat} (hs : s < 2 ^ n) : sm n q := ⟨Nat.lt_of_le_of_lt h.1 hs, Nat.lt_of_le_of_lt h.2 hs⟩
theorem lt2_of {n m : Nat} {x : Int} (h : x.natAbs ≤ m) (hm : m < 2 ^ n) : lt2 n x := Nat.lt_of_le_of_lt h hm
def cmn (D N : Nat) (q : Rat) : Prop := ∃ A : Int, q * (D : Rat) = (A : Rat) ∧ A.natAbs ≤ N
structure Cm (D N : Nat) (a b c d : Rat) : Prop where
  a : cmn D N a
  b : cmn D N b
  c : cmn D N c
  d : cmn D N d
  p : 0 < D
  l : D ≤ N
theorem cmn.sm {D N : Nat} {q : Rat} (h : cmn D N q) (hp : 0 < D) (hl : D ≤ N) {n : Nat} (hn : N < 2 ^ n) : sm n q := by
  obtain ⟨A, h1, h2⟩ := h
  have e : q = Rat.divInt A D := by
    rw [Rat.divInt_eq_div, ← h1]
    have : ((D : Int) : Rat) = (D : Rat) := rfl
    rw [this]
    have h0 : (D : Rat) ≠ 0 := by
      intro z
      have : (D : Nat) = 0 := by exact_mod_cast z
      omega
    grind
  rw [e]
  refine sm_low (n := n) ?_ ?_ (by omega)
  · unfold lt2; omega
  · unfold lt2; omega

/-! ### drawn nets -/
theorem rng_gd {a b : Int} (h1 : -4611686018427387904 ≤ a) (h2 : a < 4611686018427387904) (h3 : -4611686018427387904 ≤ b) (h4 : b < 4611686018427387904) : (decide (-2 ^ 62 ≤ a) && decide (a < 2 ^ 62) && decide (-2 ^ 62 ≤ b) && decide (b < 2 ^ 62)) = true := by
  have e : (2 : Int) ^ 62 = 4611686018427387904 := by decide
  rw [e, decide_eq_true h1, decide_eq_true h2, decide_eq_true h3, decide_eq_true h4]; rfl
theorem mulOk_a {x y : Int} (h : x.natAbs < 2 ^ 64) : mulOk x y = true := mulOk_smallL (by have e : (2 : Nat) ^ 64 = 18446744073709551616 := rfl; have e2 : (2 : Int) ^ 64 = 18446744073709551616 := rfl; omega)
theorem num_pos {a b : Int} (ha : 0 < a) (hb : 0 < b) : 0 < Rat.divInt a b := by
  rw [Rat.divInt_eq_div, Rat.div_def]
  refine Rat.mul_pos ?_ (Rat.inv_pos.mpr ?_)
  · exact_mod_cast ha
  · exact_mod_cast hb
theorem lead_ok (k s : Nat) {x y : Int} (T : Mem) (h : CupB x y) (h1 : 1 ≤ s) (h2 : s < 2 ^ 60) : ∃ q x' y', callN prog W (k + 2) 41 [.ref 0, .int (s : Nat)] (cup x y :: T) = some (fr q, cup x' y' :: T) ∧ CupB x' y' ∧ nb s q ∧ 0 < q := by
  obtain ⟨r1, x1, y1, d1, c1, p1, q1⟩ := roll_ok k (many := (s : Int)) T h (by omega) (lt2.mono (n := 60) (by unfold lt2; omega) (by decide))
  obtain ⟨r2, x2, y2, d2, c2, p2, q2⟩ := roll_ok k (many := (s : Int)) T c1 (by omega) (lt2.mono (n := 60) (by unfold lt2; omega) (by decide))
  have e61 : (2 : Nat) ^ 61 = 2 * 2 ^ 60 := by decide
  have d3 := l_least_ok k (1 + r1) (1 + r2) (cup x2 y2 :: T) (n := 61) (by unfold lt2; omega) (by omega) (by decide)
  refine ⟨_, x2, y2, ?_, c2, low_nb (a := 1 + r1) (b := 1 + r2) (by omega) (by omega) (by omega), num_pos (by omega) (by omega)⟩
  generalize Rat.divInt (1 + r1) (1 + r2) = q at *
  have hlv := leave_cup (cup x2 y2) (fr q) T
  rw [u__law_lead]
  unfold m__law_lead
  clear p1 p2 q1 q2 c1 c2 h h1 h2 e61
  walk_at "evf"
/-! ties, and the dict that gathers them -/
abbrev Tie := (Int × Int) × Rat
def tieV (t : Tie) : PV := .tup [.int t.1.1, .int t.1.2, fr t.2]
def kvsOf (ds : List Tie) : List (List Int × PV) := ds.map fun d => ([d.1.1, d.1.2], fr d.2)
def putN (ds : List Tie) (k : Int × Int) (q : Rat) : List Tie := if (ds.any fun d => decide (d.1 = k)) = true then ds.map (fun d => if d.1 = k then (d.1, q) else d) else ds ++ [(k, q)]
theorem two_inj {a b c d : Int} : [a, b] = [c, d] ↔ (a, b) = (c, d) := by
  constructor
  · intro h
    injection h with h1 h2
    injection h2 with h2 _
    rw [h1, h2]
  · intro h
    injection h with h1 h2
    rw [h1, h2]
theorem any_kvs (k : Int × Int) : ∀ ds : List Tie, ((kvsOf ds).any fun p => decide (p.1 = [k.1, k.2])) = ds.any fun d => decide (d.1 = k)
  | [] => rfl
  | d :: ds => by
    show (decide ([d.1.1, d.1.2] = [k.1, k.2]) || (kvsOf ds).any _) = (decide (d.1 = k) || ds.any _)
    rw [any_kvs k ds]
    congr 1
    exact decide_eq_decide.mpr two_inj
theorem putD_kvs (ds : List Tie) (k : Int × Int) (q : Rat) : putD (kvsOf ds) [k.1, k.2] (fr q) = kvsOf (putN ds k q) := by
  unfold putD putN
  rw [any_kvs]
  split
  · unfold kvsOf
    rw [List.map_map, List.map_map]
    apply List.map_congr_left
    intro d _
    show (if [d.1.1, d.1.2] = [k.1, k.2] then ([d.1.1, d.1.2], fr q) else ([d.1.1, d.1.2], fr d.2)) = _
    by_cases e : d.1 = k
    · rw [if_pos (two_inj.mpr e)]
      show _ = (fun d : Tie => ([d.1.1, d.1.2], fr d.2)) (if d.1 = k then (d.1, q) else d)
      rw [if_pos e]
    · rw [if_neg (fun z => e (two_inj.mp z))]
      show _ = (fun d : Tie => ([d.1.1, d.1.2], fr d.2)) (if d.1 = k then (d.1, q) else d)
      rw [if_neg e]
  · unfold kvsOf
    rw [List.map_append]
    rfl
/-- a tie of a net of n nodes -/
structure GT (n s : Nat) (t : Tie) : Prop where
  a : 0 ≤ t.1.1
  b : t.1.1 < t.1.2
  c : t.1.2 < n
  q : nb s t.2
  p : 0 < t.2
structure GD (n s : Nat) (ds : List Tie) : Prop where
  nd : (ds.map (·.1)).Nodup
  ok : ∀ t ∈ ds, GT n s t
theorem GD.put {n s : Nat} {ds : List Tie} (g : GD n s ds) {k : Int × Int} {q : Rat} (h : GT n s (k, q)) : GD n s (putN ds k q) ∧ (putN ds k q).length ≤ ds.length + 1 := by
  unfold putN
  split
  · refine ⟨⟨?_, fun t ht => ?_⟩, by rw [List.length_map]; omega⟩
    · rw [List.map_map]
      have : ds.map ((fun x => x.1) ∘ fun d : Tie => if d.1 = k then (d.1, q) else d) = ds.map (·.1) := by
        apply List.map_congr_left
        intro d _
        show (if d.1 = k then (d.1, q) else d).1 = d.1
        split <;> rfl
      rw [this]
      exact g.nd
    · obtain ⟨d, hd, rfl⟩ := List.mem_map.mp ht
      split
      · rename_i e
        rw [e]
        exact h
      · exact g.ok d hd
  · rename_i hn
    refine ⟨⟨?_, fun t ht => ?_⟩, by rw [List.length_append]; exact Nat.le_refl _⟩
    · rw [List.map_append, List.nodup_append]
      refine ⟨g.nd, by simp, fun a ha b hb e => ?_⟩
      obtain ⟨d, hd, rfl⟩ := List.mem_map.mp ha
      have hb' : b = k := by simpa using hb
      apply hn
      rw [List.any_eq_true]
      exact ⟨d, hd, decide_eq_true (by rw [e, hb'])⟩
    · rcases List.mem_append.mp ht with ht | ht
      · exact g.ok t ht
      · rw [List.mem_singleton.mp ht]
        exact h
def nB1 : Ss := (Ss.cons (.setd (.var 4) (.call 33 (.cons (.var 0) (.cons (.var 5) .nil))) (.var 5) (.call 41 (.cons (.var 0) (.cons (.var 2) .nil)))) .nil)
def nB2 : Ss := (Ss.cons (.par 7 8 (.call 33 (.cons (.var 0) (.cons (.var 3) .nil))) (.call 33 (.cons (.var 0) (.cons (.var 3) .nil)))) (.cons (.ite (.cmp .lt (.var 7) (.var 8)) (.cons (.setd (.var 4) (.var 7) (.var 8) (.call 41 (.cons (.var 0) (.cons (.var 2) .nil)))) .nil) .nil) .nil))
theorem set2 (c d e : Cell) : [c, d].set 1 e = [c, e] := rfl
theorem net_turn1 (k s n i : Nat) {x y : Int} (h : CupB x y) (h1 : 1 ≤ s) (h2 : s < 2 ^ 60) (hi : 1 ≤ i) (hn : i < n) (hn2 : n < 2 ^ 60) {ds : List Tie} (g : GD n s ds) (hz : ds.length < 1000) (most o5 o6 o7 o8 o9 : Option PV) :
    ∃ ds' x' y', execs (callN prog W (k + 4)) W nB1 [some (.ref 0), most, some (.int (s : Nat)), some (.int (n : Nat)), some (.ref 1), some (.int (i : Nat)), o6, o7, o8, o9] [cup x y, .dic (kvsOf ds)] =
      some (.nx [some (.ref 0), most, some (.int (s : Nat)), some (.int (n : Nat)), some (.ref 1), some (.int (i : Nat)), o6, o7, o8, o9] [cup x' y', .dic (kvsOf ds')]) ∧ CupB x' y' ∧ GD n s ds' ∧ ds'.length ≤ ds.length + 1 := by
  obtain ⟨q, x1, y1, d1, c1, nq, pq⟩ := lead_ok (k + 2) s [.dic (kvsOf ds)] h h1 h2
  obtain ⟨r, x2, y2, d2, c2, p2, q2⟩ := roll_ok (k + 3) (many := (i : Int)) [.dic (kvsOf ds)] c1 (by omega) (lt2.mono (n := 60) (by unfold lt2; omega) (by decide))
  obtain ⟨g', l'⟩ := g.put (k := (r, (i : Int))) (q := q) ⟨p2, q2, by show (i : Int) < n; omega, nq, pq⟩
  refine ⟨putN ds (r, (i : Int)) q, x2, y2, ?_, c2, g', l'⟩
  have e := putD_kvs ds (r, (i : Int)) q
  have hl : (kvsOf ds).length < 16777216 := by unfold kvsOf; rw [List.length_map]; omega
  have e : putD (kvsOf ds) [r, (i : Int)] (fr q) = kvsOf (putN ds (r, (i : Int)) q) := e
  unfold nB1
  clear g g' l' p2 q2 nq pq c1 c2 h h1 h2 hi hn hn2 hz
  generalize kvsOf (putN ds (r, (i : Int)) q) = kv' at *
  generalize kvsOf ds = kv at *
  generalize ((i : Nat) : Int) = ii at *
  generalize ((s : Nat) : Int) = ss at *
  simp -implicitDefEqProofs only [execs, exec, eval, evals, evalI, conds, bnd_some, bnd_none, bifb_t, bifb_f, bifb_d, bifb_b, iff_t, iff_d, nxt_nx, nxt_rt, binop, cmpop, addOp_ii, addOp_tt, addOp_ll, subOp_ii, mulOp_ii, fdivOp_ii, modOp_ii, cmpI_ii, cmpLt_ii, isiM, tru_bl, tru_int, absB_i, intB_i, asM_int, asM_bl, asM_tup, asM_false, isOp_n, isOp_bb, isNon_non, isNon_tup, isNon_int, isNon_bl, isNon_lst, isNon_ref, isNon_rol, isNon_str, isNon_fr, setAll_nil, setAll_cons, bindT_nm, bindT_tp, fin_rt, fin_nx, leave_same, bltOp, idx_tup0, idx_tup1, idx_tup2, idx_tup3, idx_lst0, idx_lst1, idx_lst2, idx_lst3, eqD_ii, eqD_bb, eqD_fr, Option.map_some, Option.map_none, Option.bind_some, List.getElem?_cons_zero, List.getElem?_cons_succ, List.set_cons_zero, List.set_cons_succ, List.length_cons, List.length_nil, if_true, if_false, decide_true, decide_false, Bool.not_true, Bool.not_false, decide_eq_true_eq, sizeL, Nat.reduceAdd, Nat.reduceLeDiff, Nat.zero_add, beq_self_eq_true, seqG_tup, seqG_lst, lenB_tup, lenB_lst, idx_cup0, idx_cup1, setAt0, setAt1, cup, isTy, Bool.false_eq_true, newL_f, newL_t, fin_rtk, List.nil_append, wipeE, Int.reduceNe, Int.reduceEq, Int.reduceLT, Int.reduceLE, Int.reduceAdd, Int.reduceSub, Int.reduceMul, Int.reduceNeg, Int.reduceGT, cmpop, set2, *]

theorem net_turn2 (k s n : Nat) {x y : Int} (h : CupB x y) (h1 : 1 ≤ s) (h2 : s < 2 ^ 60) (hn : 1 ≤ n) (hn2 : n < 2 ^ 60) {ds : List Tie} (g : GD n s ds) (hz : ds.length < 1000) (most o5 o6 o7 o8 o9 : Option PV) :
    ∃ ds' x' y' o7' o8', execs (callN prog W (k + 4)) W nB2 [some (.ref 0), most, some (.int (s : Nat)), some (.int (n : Nat)), some (.ref 1), o5, o6, o7, o8, o9] [cup x y, .dic (kvsOf ds)] =
      some (.nx [some (.ref 0), most, some (.int (s : Nat)), some (.int (n : Nat)), some (.ref 1), o5, o6, o7', o8', o9] [cup x' y', .dic (kvsOf ds')]) ∧ CupB x' y' ∧ GD n s ds' ∧ ds'.length ≤ ds.length + 1 := by
  obtain ⟨a, x1, y1, d1, c1, p1, q1⟩ := roll_ok (k + 3) (many := (n : Int)) [.dic (kvsOf ds)] h (by omega) (lt2.mono (n := 60) (by unfold lt2; omega) (by decide))
  obtain ⟨b, x2, y2, d2, c2, p2, q2⟩ := roll_ok (k + 3) (many := (n : Int)) [.dic (kvsOf ds)] c1 (by omega) (lt2.mono (n := 60) (by unfold lt2; omega) (by decide))
  have hl : (kvsOf ds).length < 16777216 := by unfold kvsOf; rw [List.length_map]; omega
  by_cases hab : a < b
  · obtain ⟨q, x3, y3, d3, c3, nq, pq⟩ := lead_ok (k + 2) s [.dic (kvsOf ds)] c2 h1 h2
    obtain ⟨g', l'⟩ := g.put (k := (a, b)) (q := q) ⟨p1, hab, q2, nq, pq⟩
    refine ⟨putN ds (a, b) q, x3, y3, some (.int a), some (.int b), ?_, c3, g', l'⟩
    have e : putD (kvsOf ds) [a, b] (fr q) = kvsOf (putN ds (a, b) q) := putD_kvs ds (a, b) q
    unfold nB2
    clear g g' l' p1 q1 p2 q2 nq pq c1 c2 c3 h h1 h2 hn hn2 hz
    generalize kvsOf (putN ds (a, b) q) = kv' at *
    generalize kvsOf ds = kv at *
    generalize ((n : Nat) : Int) = ii at *
    generalize ((s : Nat) : Int) = ss at *
    simp -implicitDefEqProofs only [execs, exec, eval, evals, evalI, conds, bnd_some, bnd_none, bifb_t, bifb_f, bifb_d, bifb_b, iff_t, iff_d, nxt_nx, nxt_rt, binop, cmpop, addOp_ii, addOp_tt, addOp_ll, subOp_ii, mulOp_ii, fdivOp_ii, modOp_ii, cmpI_ii, cmpLt_ii, isiM, tru_bl, tru_int, absB_i, intB_i, asM_int, asM_bl, asM_tup, asM_false, isOp_n, isOp_bb, isNon_non, isNon_tup, isNon_int, isNon_bl, isNon_lst, isNon_ref, isNon_rol, isNon_str, isNon_fr, setAll_nil, setAll_cons, bindT_nm, bindT_tp, fin_rt, fin_nx, leave_same, bltOp, idx_tup0, idx_tup1, idx_tup2, idx_tup3, idx_lst0, idx_lst1, idx_lst2, idx_lst3, eqD_ii, eqD_bb, eqD_fr, Option.map_some, Option.map_none, Option.bind_some, List.getElem?_cons_zero, List.getElem?_cons_succ, List.set_cons_zero, List.set_cons_succ, List.length_cons, List.length_nil, if_true, if_false, decide_true, decide_false, Bool.not_true, Bool.not_false, decide_eq_true_eq, sizeL, Nat.reduceAdd, Nat.reduceLeDiff, Nat.zero_add, beq_self_eq_true, seqG_tup, seqG_lst, lenB_tup, lenB_lst, idx_cup0, idx_cup1, setAt0, setAt1, cup, isTy, Bool.false_eq_true, newL_f, newL_t, fin_rtk, List.nil_append, wipeE, Int.reduceNe, Int.reduceEq, Int.reduceLT, Int.reduceLE, Int.reduceAdd, Int.reduceSub, Int.reduceMul, Int.reduceNeg, Int.reduceGT, cmpop, set2, *]
  · refine ⟨ds, x2, y2, some (.int a), some (.int b), ?_, c2, g, by omega⟩
    unfold nB2
    clear g p1 q1 p2 q2 c1 c2 h h1 h2 hn hn2 hz
    generalize kvsOf ds = kv at *
    generalize ((n : Nat) : Int) = ii at *
    generalize ((s : Nat) : Int) = ss at *
    simp -implicitDefEqProofs only [execs, exec, eval, evals, evalI, conds, bnd_some, bnd_none, bifb_t, bifb_f, bifb_d, bifb_b, iff_t, iff_d, nxt_nx, nxt_rt, binop, cmpop, addOp_ii, addOp_tt, addOp_ll, subOp_ii, mulOp_ii, fdivOp_ii, modOp_ii, cmpI_ii, cmpLt_ii, isiM, tru_bl, tru_int, absB_i, intB_i, asM_int, asM_bl, asM_tup, asM_false, isOp_n, isOp_bb, isNon_non, isNon_tup, isNon_int, isNon_bl, isNon_lst, isNon_ref, isNon_rol, isNon_str, isNon_fr, setAll_nil, setAll_cons, bindT_nm, bindT_tp, fin_rt, fin_nx, leave_same, bltOp, idx_tup0, idx_tup1, idx_tup2, idx_tup3, idx_lst0, idx_lst1, idx_lst2, idx_lst3, eqD_ii, eqD_bb, eqD_fr, Option.map_some, Option.map_none, Option.bind_some, List.getElem?_cons_zero, List.getElem?_cons_succ, List.set_cons_zero, List.set_cons_succ, List.length_cons, List.length_nil, if_true, if_false, decide_true, decide_false, Bool.not_true, Bool.not_false, decide_eq_true_eq, sizeL, Nat.reduceAdd, Nat.reduceLeDiff, Nat.zero_add, beq_self_eq_true, seqG_tup, seqG_lst, lenB_tup, lenB_lst, idx_cup0, idx_cup1, setAt0, setAt1, cup, isTy, Bool.false_eq_true, newL_f, newL_t, fin_rtk, List.nil_append, wipeE, Int.reduceNe, Int.reduceEq, Int.reduceLT, Int.reduceLE, Int.reduceAdd, Int.reduceSub, Int.reduceMul, Int.reduceNeg, Int.reduceGT, cmpop, set2, *]
theorem net_loop1 (k s n : Nat) (h1 : 1 ≤ s) (h2 : s < 2 ^ 60) (hn2 : n < 2 ^ 60) (most o6 o7 o8 o9 : Option PV) : ∀ (j i : Nat) {x y : Int} {ds : List Tie} (o5 : Option PV), CupB x y → 1 ≤ i → i + j = n → GD n s ds → ds.length + j < 1000 →
    ∃ ds' x' y' o5', forL (.nm 5) [] (execs (callN prog W (k + 4)) W nB1) (rngI (i : Nat) j) [some (.ref 0), most, some (.int (s : Nat)), some (.int (n : Nat)), some (.ref 1), o5, o6, o7, o8, o9] [cup x y, .dic (kvsOf ds)] =
      some (.nx [some (.ref 0), most, some (.int (s : Nat)), some (.int (n : Nat)), some (.ref 1), o5', o6, o7, o8, o9] [cup x' y', .dic (kvsOf ds')]) ∧ CupB x' y' ∧ GD n s ds' ∧ ds'.length ≤ ds.length + j
  | 0, i, x, y, ds, o5, h, hi, hj, g, hz => ⟨ds, x, y, o5, forL_n, h, g, by omega⟩
  | j + 1, i, x, y, ds, o5, h, hi, hj, g, hz => by
    obtain ⟨ds1, x1, y1, e1, c1, g1, l1⟩ := net_turn1 k s n i h h1 h2 hi (by omega) hn2 g (by omega) most o5 o6 o7 o8 o9
    obtain ⟨ds2, x2, y2, o5', e2, c2, g2, l2⟩ := net_loop1 k s n h1 h2 hn2 most o6 o7 o8 o9 j (i + 1) (some (.int (i : Nat))) c1 (by omega) (by omega) g1 (by omega)
    refine ⟨ds2, x2, y2, o5', ?_, c2, g2, by omega⟩
    have er : rngI ((i : Nat) : Int) (j + 1) = .int (i : Nat) :: rngI ((i + 1 : Nat) : Int) j := rfl
    rw [er, forL_c, bindT_nm, Option.bind_some]
    show nxt (execs (callN prog W (k + 4)) W nB1 [some (.ref 0), most, some (.int (s : Nat)), some (.int (n : Nat)), some (.ref 1), some (.int (i : Nat)), o6, o7, o8, o9] [cup x y, .dic (kvsOf ds)]) _ = _
    rw [e1, nxt_nx]
    exact e2
theorem net_loop2 (k s n : Nat) (h1 : 1 ≤ s) (h2 : s < 2 ^ 60) (hn : 1 ≤ n) (hn2 : n < 2 ^ 60) (most o5 o9 : Option PV) : ∀ (xs : List PV) {x y : Int} {ds : List Tie} (o6 o7 o8 : Option PV), CupB x y → GD n s ds → ds.length + xs.length < 1000 →
    ∃ ds' x' y' o6' o7' o8', forL (.nm 6) [] (execs (callN prog W (k + 4)) W nB2) xs [some (.ref 0), most, some (.int (s : Nat)), some (.int (n : Nat)), some (.ref 1), o5, o6, o7, o8, o9] [cup x y, .dic (kvsOf ds)] =
      some (.nx [some (.ref 0), most, some (.int (s : Nat)), some (.int (n : Nat)), some (.ref 1), o5, o6', o7', o8', o9] [cup x' y', .dic (kvsOf ds')]) ∧ CupB x' y' ∧ GD n s ds' ∧ ds'.length ≤ ds.length + xs.length
  | [], x, y, ds, o6, o7, o8, h, g, hz => ⟨ds, x, y, o6, o7, o8, forL_n, h, g, Nat.le_refl _⟩
  | v :: xs, x, y, ds, o6, o7, o8, h, g, hz => by
    rw [List.length_cons] at hz
    obtain ⟨ds1, x1, y1, p7, p8, e1, c1, g1, l1⟩ := net_turn2 k s n h h1 h2 hn hn2 g (by omega) most o5 (some v) o7 o8 o9
    obtain ⟨ds2, x2, y2, o6', o7', o8', e2, c2, g2, l2⟩ := net_loop2 k s n h1 h2 hn hn2 most o5 o9 xs (some v) p7 p8 c1 g1 (by omega)
    refine ⟨ds2, x2, y2, o6', o7', o8', ?_, c2, g2, by rw [List.length_cons]; omega⟩
    rw [forL_c, bindT_nm, Option.bind_some]
    show nxt (execs (callN prog W (k + 4)) W nB2 [some (.ref 0), most, some (.int (s : Nat)), some (.int (n : Nat)), some (.ref 1), o5, some v, o7, o8, o9] [cup x y, .dic (kvsOf ds)]) _ = _
    rw [e1, nxt_nx]
    exact e2
/-! the ties in order -/
def srtT (ds : List Tie) : List Tie := ds.mergeSort fun a b => lexLe a.1 b.1
theorem look_kvs {ds : List Tie} (hn : (ds.map (·.1)).Nodup) {t : Tie} (ht : t ∈ ds) : lookD (kvsOf ds) [t.1.1, t.1.2] = some (fr t.2) := by
  induction ds with
  | nil => cases ht
  | cons d ds ih =>
    rw [List.map_cons, List.nodup_cons] at hn
    show ((([d.1.1, d.1.2], fr d.2) :: kvsOf ds).find? _).map _ = _
    rw [List.find?_cons]
    rcases List.mem_cons.mp ht with rfl | ht
    · rw [decide_eq_true rfl]; rfl
    · have ne : ¬ [d.1.1, d.1.2] = [t.1.1, t.1.2] := fun z => hn.1 (by
        rw [show d.1 = t.1 from two_inj.mp z]
        exact List.mem_map.mpr ⟨t, ht, rfl⟩)
      rw [decide_eq_false ne]
      exact ih hn.2 ht
def keyE : E := (E.tup (.cons (.idx (.var 9) (.cst (.int (0)))) (.cons (.idx (.var 9) (.cst (.int (1)))) (.cons (.dgt (.var 4) (.var 9)) .nil))))
theorem keys_loop (call : Nat → List PV → Mem → Option (PV × Mem)) (c : Cell) (ds0 : List Tie) (hn : (ds0.map (·.1)).Nodup) (o0 o1 o2 o3 o5 o6 o7 o8 : Option PV) : ∀ (ds : List Tie) (acc : List PV) (o9 : Option PV), (∀ t ∈ ds, t ∈ ds0) →
    lcL (.nm 9) [] (fun _ M => some (true, M)) (eval call keyE) [o0, o1, o2, o3, some (.ref 1), o5, o6, o7, o8, o9] ((kvsOf ds).map fun p => keyP p.1) acc [c, .fdi (kvsOf ds0)] = some (acc ++ ds.map tieV, [c, .fdi (kvsOf ds0)])
  | [], acc, o9, _ => by
    show lcL _ _ _ _ _ [] _ _ = _
    rw [lcL_n]; simp
  | t :: ds, acc, o9, hm => by
    have ih := keys_loop call c ds0 hn o0 o1 o2 o3 o5 o6 o7 o8 ds (acc ++ [tieV t]) o9 fun t ht => hm t (List.mem_cons_of_mem _ ht)
    have hl := look_kvs hn (hm t List.mem_cons_self)
    have e1 : eval call keyE [o0, o1, o2, o3, some (.ref 1), o5, o6, o7, o8, some (keyP [t.1.1, t.1.2])] [c, .fdi (kvsOf ds0)] = some (tieV t, [c, .fdi (kvsOf ds0)]) := by
      have e2 : dgtOp [c, .fdi (kvsOf ds0)] (.ref 1) (keyP [t.1.1, t.1.2]) = some (fr t.2) := hl
      have i0 : ∀ M, idxOp M (keyP [t.1.1, t.1.2]) (.int 0) = some (.int t.1.1) := fun M => idx_tup0 _ _ _
      have i1 : ∀ M, idxOp M (keyP [t.1.1, t.1.2]) (.int 1) = some (.int t.1.2) := fun M => idx_tup1 _ _ _ _
      unfold keyE tieV
      clear ih hl hm hn
      generalize keyP [t.1.1, t.1.2] = ky at *
      simp -implicitDefEqProofs only [execs, exec, eval, evals, evalI, conds, bnd_some, bnd_none, bifb_t, bifb_f, bifb_d, bifb_b, iff_t, iff_d, nxt_nx, nxt_rt, binop, cmpop, addOp_ii, addOp_tt, addOp_ll, subOp_ii, mulOp_ii, fdivOp_ii, modOp_ii, cmpI_ii, cmpLt_ii, isiM, tru_bl, tru_int, absB_i, intB_i, asM_int, asM_bl, asM_tup, asM_false, isOp_n, isOp_bb, isNon_non, isNon_tup, isNon_int, isNon_bl, isNon_lst, isNon_ref, isNon_rol, isNon_str, isNon_fr, setAll_nil, setAll_cons, bindT_nm, bindT_tp, fin_rt, fin_nx, leave_same, bltOp, idx_tup0, idx_tup1, idx_tup2, idx_tup3, idx_lst0, idx_lst1, idx_lst2, idx_lst3, eqD_ii, eqD_bb, eqD_fr, Option.map_some, Option.map_none, Option.bind_some, List.getElem?_cons_zero, List.getElem?_cons_succ, List.set_cons_zero, List.set_cons_succ, List.length_cons, List.length_nil, if_true, if_false, decide_true, decide_false, Bool.not_true, Bool.not_false, decide_eq_true_eq, sizeL, Nat.reduceAdd, Nat.reduceLeDiff, Nat.zero_add, beq_self_eq_true, seqG_tup, seqG_lst, lenB_tup, lenB_lst, idx_cup0, idx_cup1, setAt0, setAt1, cup, isTy, Bool.false_eq_true, newL_f, newL_t, fin_rtk, List.nil_append, wipeE, Int.reduceNe, Int.reduceEq, Int.reduceLT, Int.reduceLE, Int.reduceAdd, Int.reduceSub, Int.reduceMul, Int.reduceNeg, Int.reduceGT, *]
    show lcL _ _ _ _ _ (keyP [t.1.1, t.1.2] :: (kvsOf ds).map fun p => keyP p.1) _ _ = _
    rw [lcL_c, bindT_nm, Option.bind_some]
    show bnd (some (true, _)) _ = _
    rw [bnd_some, bifb_t]
    show bnd (eval call keyE [o0, o1, o2, o3, some (.ref 1), o5, o6, o7, o8, some (keyP [t.1.1, t.1.2])] [c, .fdi (kvsOf ds0)]) _ = _
    rw [e1, bnd_some, ih, List.append_assoc]
    rfl
theorem hds_ties : ∀ ds : List Tie, hdsOf (ds.map tieV) = some (ds.map (·.1))
  | [] => rfl
  | d :: ds => by
    show (hdsOf (ds.map tieV)).map ((d.1.1, d.1.2) :: ·) = _
    rw [hds_ties ds]; rfl
theorem srth_ties (M : Mem) {ds : List Tie} (hn : (ds.map (·.1)).Nodup) : srthB M [.lst (ds.map tieV)] = some (.lst ((srtT ds).map tieV)) := by
  unfold srthB
  simp only [items, Option.bind_some, hds_ties, decide_eq_true hn, if_true]
  have h := srtH_uniq (xs := ds.map tieV) (ks := ds.map (·.1)) hn (by simp) (L := (srtT ds).map fun d => (tieV d, d.1)) (by
    have e : (ds.map tieV).zip (ds.map (·.1)) = ds.map fun d => (tieV d, d.1) := List.zip_map' ..
    rw [e]
    exact (List.mergeSort_perm ds _).map _) (by
    rw [List.map_map]
    have := List.pairwise_mergeSort (le := fun a b : Tie => lexLe a.1 b.1) (fun a b c => lexLe_trans _ _ _) (fun a b => lexLe_total _ _) ds
    exact List.pairwise_map.mpr this)
  rw [List.map_map] at h
  rw [← h]
  exact congrArg (fun l => some (PV.lst l)) (List.map_congr_left fun _ _ => rfl)
/-- a net's ties: in order, no two alike -/
structure Net (n s : Nat) (ts : List Tie) : Prop where
  lt : (ts.map (·.1)).Pairwise fun p q => p.1 < q.1 ∨ (p.1 = q.1 ∧ p.2 < q.2)
  ok : ∀ t ∈ ts, GT n s t
theorem net_srt {n s : Nat} {ds : List Tie} (g : GD n s ds) : Net n s (srtT ds) := by
  have p := List.mergeSort_perm ds fun a b : Tie => lexLe a.1 b.1
  refine ⟨?_, fun t ht => g.ok t (p.mem_iff.mp ht)⟩
  have h := List.pairwise_mergeSort (le := fun a b : Tie => lexLe a.1 b.1) (fun a b c => lexLe_trans _ _ _) (fun a b => lexLe_total _ _) ds
  have nd : ((srtT ds).map (·.1)).Nodup := (p.map (·.1)).nodup_iff.mpr g.nd
  refine List.pairwise_map.mpr ?_
  have h2 := List.pairwise_map.mp nd
  refine (h.and h2).imp ?_
  intro a b ⟨h3, h4⟩
  have h3 := of_decide_eq_true h3
  rcases h3 with h3 | ⟨h3, h5⟩
  · exact .inl h3
  · refine .inr ⟨h3, ?_⟩
    have : a.1.2 ≠ b.1.2 := fun z => h4 (Prod.ext h3 z)
    omega
def netV (n : Nat) (ts : List Tie) : PV := .tup [.int (n : Nat), .tup (ts.map tieV)]

theorem under_ties (m : Nat) : ∀ ts : List Tie, unders m (ts.map tieV) = true
  | [] => rfl
  | t :: ts => by
    show (under m (tieV t) && unders m (ts.map tieV)) = true
    rw [under_ties m ts]; rfl
theorem under_net (m n : Nat) (ts : List Tie) : under m (netV n ts) = true := by
  show (under m (.int (n : Nat)) && (unders m (ts.map tieV) && true)) = true
  rw [under_ties]; rfl
theorem leave_net (n : Nat) (ts : List Tie) (x y : Int) (c : Cell) : leave 1 (netV n ts) [cup x y, c] = some (netV n ts, [cup x y]) := by
  unfold leave
  rw [if_neg (show ¬ [cup x y, c].length = 1 from fun z => by cases z)]
  have e : (List.take 1 [cup x y, c]).all (cellUnder 1) = true := rfl
  rw [if_pos e, if_pos (under_net 1 n ts)]
  rfl
theorem len_kvs (ds : List Tie) : (kvsOf ds).length = ds.length := List.length_map _
theorem tupleB_lst' (M : Mem) (xs : List PV) : tupleB M [.lst xs] = some (.tup xs) := rfl
theorem dks_ref (c : Cell) (kv : List (List Int × PV)) : (match (PV.ref 1 : PV) with
    | .ref n => (match ([c, .fdi kv] : Mem)[n]? with
      | some (.fdi kvs) => some (((kvs.map fun p => keyP p.1, []) : List PV × Gd), ([c, .fdi kv] : Mem))
      | _ => none)
    | _ => none) = some ((kv.map fun p => keyP p.1, []), [c, .fdi kv]) := rfl
theorem net_ok (k s : Nat) {most : Nat} {x y : Int} (h : CupB x y) (h1 : 1 ≤ s) (h2 : s < 2 ^ 60) (hm1 : 1 ≤ most) (hm2 : most ≤ 12) : ∃ n ts x' y', callN prog W (k + 6) 42 [.ref 0, .int (most : Nat), .int (s : Nat)] [cup x y] = some (netV n ts, [cup x' y']) ∧ CupB x' y' ∧ 1 ≤ n ∧ n ≤ most ∧ Net n s ts ∧ ts.length ≤ 34 := by
  obtain ⟨r, x1, y1, d1, c1, p1, q1⟩ := roll_ok (k + 4) (many := (most : Int)) [] h (by omega) (lt2.mono (n := 4) (by unfold lt2; omega) (by decide))
  obtain ⟨n, hn⟩ : ∃ n : Nat, 1 + r = (n : Int) := ⟨(1 + r).toNat, by omega⟩
  have hn1 : 1 ≤ n := by omega
  have hn2 : n ≤ 12 := by omega
  have hn60 : n < 2 ^ 60 := Nat.lt_of_le_of_lt hn2 (by decide)
  obtain ⟨ds1, x2, y2, o5, e1, c2, g1, l1⟩ := net_loop1 (k + 1) s n h1 h2 hn60 (some (.int (most : Nat))) none none none none (n - 1) 1 none c1 (by omega) (by omega) (ds := []) ⟨List.nodup_nil, fun t ht => by cases ht⟩ (by simp; omega)
  obtain ⟨m, x3, y3, d3, c3, p3, q3⟩ := roll_ok (k + 4) (many := 2 * (n : Int)) [.dic (kvsOf ds1)] c2 (by omega) (lt2.mono (n := 6) (by unfold lt2; omega) (by decide))
  obtain ⟨ds2, x4, y4, o6, o7, o8, e2, c4, g2, l2⟩ := net_loop2 (k + 1) s n h1 h2 hn1 hn60 (some (.int (most : Nat))) o5 none (rngI 0 m.toNat) none none none c3 g1 (by rw [rngI_len]; simp only [List.length_nil] at l1; omega)
  rw [rngI_len] at l2
  simp only [List.length_nil] at l1
  have hz : ds2.length ≤ 34 := by omega
  refine ⟨n, srtT ds2, x4, y4, ?_, c4, hn1, by omega, net_srt g2, by unfold srtT; rw [List.length_mergeSort]; exact hz⟩
  have K := keys_loop (callN prog W (k + 5)) (cup x4 y4) ds2 g2.nd (some (.ref 0)) (some (.int (most : Nat))) (some (.int (s : Nat))) (some (.int (n : Nat))) o5 o6 o7 o8 ds2 [] none (fun t ht => ht)
  rw [List.nil_append] at K
  have S := fun M => srth_ties M g2.nd
  have hlv := leave_net n (srtT ds2) x4 y4 (.dic (kvsOf ds2))
  have m2 : mulOk 2 (n : Int) = true := mulOk_a (by decide)
  have eg1 := rng_gd (a := 1) (b := (n : Int)) (by decide) (by decide) (by omega) (by omega)
  have eg2 := rng_gd (a := 0) (b := m) (by decide) (by decide) (by omega) (by omega)
  have er1 : rngI 1 ((n : Int) - 1).toNat = rngI ((1 : Nat) : Int) (n - 1) := by rw [show ((n : Int) - 1).toNat = n - 1 by omega]; rfl
  have er2 : rngI 0 (m - 0).toNat = rngI 0 m.toNat := by rw [Int.sub_zero]
  have e0 : kvsOf [] = [] := rfl
  rw [e0] at e1
  have hl : ((ds2.map tieV).length : Nat) ≤ 16777216 := by rw [List.length_map]; omega
  have DK := dks_ref (cup x4 y4) (kvsOf ds2)
  have ap : ∀ (c c' : Cell), [c] ++ [c'] = [c, c'] := fun _ _ => rfl
  have g12 : ∀ (c c' : Cell), ([c, c'] : Mem)[1]? = some c' := fun _ _ => rfl
  rw [u__law_net]
  unfold m__law_net
  rw [show (Ss.cons (.setd (.var 4) (.call 33 (.cons (.var 0) (.cons (.var 5) .nil))) (.var 5) (.call 41 (.cons (.var 0) (.cons (.var 2) .nil)))) .nil) = nB1 from rfl, show (Ss.cons (.par 7 8 (.call 33 (.cons (.var 0) (.cons (.var 3) .nil))) (.call 33 (.cons (.var 0) (.cons (.var 3) .nil)))) (.cons (.ite (.cmp .lt (.var 7) (.var 8)) (.cons (.setd (.var 4) (.var 7) (.var 8) (.call 41 (.cons (.var 0) (.cons (.var 2) .nil)))) .nil) .nil) .nil)) = nB2 from rfl, show (E.tup (.cons (.idx (.var 9) (.cst (.int (0)))) (.cons (.idx (.var 9) (.cst (.int (1)))) (.cons (.dgt (.var 4) (.var 9)) .nil)))) = keyE from rfl]
  unfold netV at hlv ⊢
  clear g1 g2 c1 c2 c3 c4 h h1 h2 hm1 hm2 p1 q1 p3 q3 hn1 hn2 hn60 l1 l2 hz e0
  generalize (srtT ds2).map tieV = tsv at *
  generalize ds2.map tieV = dsv at *
  generalize kvsOf ds1 = kv1 at *
  generalize kvsOf ds2 = kv2 at *
  generalize keyE = kE at *
  generalize nB1 = b1 at *
  generalize nB2 = b2 at *
  generalize ((s : Nat) : Int) = ss at *
  generalize ((most : Nat) : Int) = mm at *
  generalize rngI ((1 : Nat) : Int) (n - 1) = r1 at *
  generalize rngI 0 m.toNat = r2 at *
  simp -implicitDefEqProofs only [execs, exec, eval, evals, evalI, conds, bnd_some, bnd_none, bifb_t, bifb_f, bifb_d, bifb_b, iff_t, iff_d, nxt_nx, nxt_rt, binop, cmpop, addOp_ii, addOp_tt, addOp_ll, subOp_ii, mulOp_ii, fdivOp_ii, modOp_ii, cmpI_ii, cmpLt_ii, isiM, tru_bl, tru_int, absB_i, intB_i, asM_int, asM_bl, asM_tup, asM_false, isOp_n, isOp_bb, isNon_non, isNon_tup, isNon_int, isNon_bl, isNon_lst, isNon_ref, isNon_rol, isNon_str, isNon_fr, setAll_nil, setAll_cons, bindT_nm, bindT_tp, fin_rt, fin_nx, leave_same, bltOp, idx_tup0, idx_tup1, idx_tup2, idx_tup3, idx_lst0, idx_lst1, idx_lst2, idx_lst3, eqD_ii, eqD_bb, eqD_fr, Option.map_some, Option.map_none, Option.bind_some, List.getElem?_cons_zero, List.getElem?_cons_succ, List.set_cons_zero, List.set_cons_succ, List.length_cons, List.length_nil, if_true, if_false, decide_true, decide_false, Bool.not_true, Bool.not_false, decide_eq_true_eq, sizeL, Nat.reduceAdd, Nat.reduceLeDiff, Nat.zero_add, beq_self_eq_true, seqG_tup, seqG_lst, lenB_tup, lenB_lst, idx_cup0, idx_cup1, setAt0, setAt1, cup, isTy, Bool.false_eq_true, newL_f, newL_t, fin_rtk, List.nil_append, wipeE, Int.reduceNe, Int.reduceEq, Int.reduceLT, Int.reduceLE, Int.reduceAdd, Int.reduceSub, Int.reduceMul, Int.reduceNeg, Int.reduceGT, cmpop, set2, tupleB_lst', lenB, conds, *]

/-! ### nets, as the program reads them -/
local macro_rules | `(tactic| walk_at "evr1") => `(tactic| simp -implicitDefEqProofs only [execs, exec, eval, evals, evalI, conds, bnd_some, bnd_none, bifb_t, bifb_f, bifb_d, bifb_b, iff_t, iff_d, nxt_nx, nxt_rt, binop, cmpop, addOp_ii, addOp_tt, addOp_ll, subOp_ii, mulOp_ii, fdivOp_ii, modOp_ii, cmpI_ii, cmpLt_ii, isiM, tru_bl, tru_int, absB_i, intB_i, asM_int, asM_bl, asM_tup, asM_false, isOp_n, isOp_bb, isNon_non, isNon_tup, isNon_int, isNon_bl, isNon_lst, isNon_ref, isNon_rol, isNon_str, isNon_fr, setAll_nil, setAll_cons, bindT_nm, bindT_tp, fin_rt, fin_nx, leave_same, bltOp, idx_tup0, idx_tup1, idx_tup2, idx_tup3, idx_lst0, idx_lst1, idx_lst2, idx_lst3, eqD_ii, eqD_bb, eqD_fr, Option.map_some, Option.map_none, Option.bind_some, List.getElem?_cons_zero, List.getElem?_cons_succ, List.set_cons_zero, List.set_cons_succ, List.length_cons, List.length_nil, if_true, if_false, decide_true, decide_false, Bool.not_true, Bool.not_false, decide_eq_true_eq, sizeL, Nat.reduceAdd, Nat.reduceLeDiff, Nat.zero_add, beq_self_eq_true, seqG_tup, seqG_lst, lenB_tup, lenB_lst, idx_cup0, idx_cup1, setAt0, setAt1, cup, isTy, Bool.false_eq_true, newL_f, newL_t, fin_rtk, List.nil_append, wipeE, Int.reduceNe, Int.reduceEq, Int.reduceLT, Int.reduceLE, Int.reduceAdd, Int.reduceSub, Int.reduceMul, Int.reduceNeg, Int.reduceGT, cmpop, idx_fr0, idx_fr1, not_true_eq_false, not_false_eq_true, ite_true, ite_false, gt_iff_lt, ge_iff_le, eq_self, *])
theorem atI_nn {α : Type} (xs : List α) {i : Int} (h0 : 0 ≤ i) (h1 : i < xs.length) : L2.atI xs i = xs[i.toNat]? := by
  unfold L2.atI L2.ixN
  rw [if_pos h0, if_pos h1]
  rfl
def hv (hs : List Rat) (i : Int) : Rat := hs.getD i.toNat 0
theorem at_hs (hs : List Rat) {i : Int} (h0 : 0 ≤ i) (h1 : i < hs.length) : L2.atI (hs.map fr) i = some (fr (hv hs i)) := by
  rw [atI_nn _ h0 (by rw [List.length_map]; exact h1), List.getElem?_map]
  have h2 : i.toNat < hs.length := by omega
  unfold hv
  rw [List.getElem?_eq_getElem h2, List.getD_eq_getElem?_getD, List.getElem?_eq_getElem h2]
  rfl
theorem idx_hs (M : Mem) (hs : List Rat) {i : Int} (h0 : 0 ≤ i) (h1 : i < hs.length) : idxOp M (.tup (hs.map fr)) (.int i) = some (fr (hv hs i)) := at_hs hs h0 h1
theorem cut_1 (xs : List PV) : cut xs (some 1) none = xs.drop 1 := by
  unfold cut
  cases xs with
  | nil => rfl
  | cons x xs =>
    have e1 : HT.sIx (x :: xs).length 0 (some 1) = 1 := by
      have := HT.sIx_nat (x :: xs).length 0 1
      simp only [List.length_cons] at *
      rw [show ((1 : Nat) : Int) = 1 from rfl] at this
      rw [this]; omega
    have e2 : HT.sIx (x :: xs).length (x :: xs).length none = xs.length + 1 := rfl
    rw [e1, e2]
    simp
theorem slc_l1 (M : Mem) (xs : List PV) : slcOp M (.lst xs) true false (.int 1) .non = some (.lst (xs.drop 1)) := by
  show some (PV.lst (cut xs (some 1) none)) = _
  rw [cut_1]
theorem lcL_of {α : Type} {t : T} {elt : Env → Mem → Option (PV × Mem)} {env : Env} {M : Mem} (V g : α → PV) : ∀ (xs : List α) (acc : List PV), (∀ x ∈ xs, ∃ env1, bindT t (V x) env = some env1 ∧ elt env1 M = some (g x, M)) →
    lcL t [] (fun _ M => some (true, M)) elt env (xs.map V) acc M = some (acc ++ xs.map g, M)
  | [], acc, _ => by
    show lcL _ _ _ _ _ [] _ _ = _
    rw [lcL_n]; simp
  | x :: xs, acc, h => by
    obtain ⟨env1, h1, h2⟩ := h x List.mem_cons_self
    have ih := lcL_of V g xs (acc ++ [g x]) fun y hy => h y (List.mem_cons_of_mem _ hy)
    show lcL _ _ _ _ _ (V x :: xs.map V) _ _ = _
    rw [lcL_c, h1, Option.bind_some]
    show bnd (some (true, M)) _ = _
    rw [bnd_some, bifb_t, h2, bnd_some, ih, List.append_assoc]
    rfl
theorem allB_map {α : Type} (M : Mem) (xs : List α) : allB M [.lst (xs.map fun _ => PV.bl true)] = some (.bl true) := by
  have e : boolsOf (xs.map fun _ => PV.bl true) = some (xs.map fun _ => true) := by
    induction xs with
    | nil => rfl
    | cons x xs ih =>
      show (boolsOf (xs.map fun _ => PV.bl true)).map (true :: ·) = _
      rw [ih]; rfl
  show (boolsOf (xs.map fun _ => PV.bl true)).map (fun bs => PV.bl (bs.all id)) = _
  rw [e]
  show some (PV.bl ((xs.map fun _ => true).all id)) = _
  rw [List.all_map]
  have : xs.all (id ∘ fun _ => true) = true := List.all_eq_true.mpr fun _ _ => rfl
  rw [this]
def pairV (p : Int × Int) : PV := .tup [.int p.1, .int p.2]
theorem lexLtI_pair (a b c d : Int) : lexLtI [a, b] [c, d] = (if decide (a = c) = true then (if decide (b = d) = true then false else decide (b < d)) else decide (a < c)) := rfl
theorem cmp_pair {p q : Int × Int} (h : p.1 < q.1 ∨ (p.1 = q.1 ∧ p.2 < q.2)) : cmpLt (pairV p) (pairV q) = some true := by
  show some (lexLtI [p.1, p.2] [q.1, q.2]) = _
  rw [lexLtI_pair]
  by_cases e : p.1 = q.1
  · rw [if_pos (decide_eq_true e)]
    have h2 : p.2 < q.2 := by omega
    rw [if_neg (by rw [decide_eq_true_eq]; omega), decide_eq_true h2]
  · rw [if_neg (by rw [decide_eq_true_eq]; exact e), decide_eq_true (by omega)]
abbrev Rise (ps : List (Int × Int)) : Prop := ps.Pairwise fun p q => p.1 < q.1 ∨ (p.1 = q.1 ∧ p.2 < q.2)
def riE : E := (E.cmp .lt (.var 1) (.var 2))
theorem rise_loop (call : Nat → List PV → Mem → Option (PV × Mem)) (M : Mem) (o0 o1 o2 : Option PV) : ∀ (ps : List (Int × Int)) (p : Int × Int) (acc : List PV), Rise (p :: ps) →
    lcL (.tp [1, 2]) [] (fun _ M => some (true, M)) (eval call riE) [o0, o1, o2] (zipP ((p :: ps).map pairV) (ps.map pairV)) acc M = some (acc ++ ps.map fun _ => PV.bl true, M)
  | [], p, acc, _ => by
    show lcL _ _ _ _ _ [] _ _ = _
    rw [lcL_n]; simp
  | q :: ps, p, acc, h => by
    have hq := (List.pairwise_cons.mp h).1 q List.mem_cons_self
    have ih := rise_loop call M o0 o1 o2 ps q (acc ++ [PV.bl true]) (List.pairwise_cons.mp h).2
    show lcL _ _ _ _ _ (.tup [pairV p, pairV q] :: zipP ((q :: ps).map pairV) (ps.map pairV)) _ _ = _
    have e1 : eval call riE [o0, some (pairV p), some (pairV q)] M = some (.bl true, M) := by
      have e2 := cmp_pair hq
      unfold riE
      generalize pairV p = a at *
      generalize pairV q = b at *
      clear ih h hq
      simp -implicitDefEqProofs only [execs, exec, eval, evals, evalI, conds, bnd_some, bnd_none, bifb_t, bifb_f, bifb_d, bifb_b, iff_t, iff_d, nxt_nx, nxt_rt, binop, cmpop, addOp_ii, addOp_tt, addOp_ll, subOp_ii, mulOp_ii, fdivOp_ii, modOp_ii, cmpI_ii, cmpLt_ii, isiM, tru_bl, tru_int, absB_i, intB_i, asM_int, asM_bl, asM_tup, asM_false, isOp_n, isOp_bb, isNon_non, isNon_tup, isNon_int, isNon_bl, isNon_lst, isNon_ref, isNon_rol, isNon_str, isNon_fr, setAll_nil, setAll_cons, bindT_nm, bindT_tp, fin_rt, fin_nx, leave_same, bltOp, idx_tup0, idx_tup1, idx_tup2, idx_tup3, idx_lst0, idx_lst1, idx_lst2, idx_lst3, eqD_ii, eqD_bb, eqD_fr, Option.map_some, Option.map_none, Option.bind_some, List.getElem?_cons_zero, List.getElem?_cons_succ, List.set_cons_zero, List.set_cons_succ, List.length_cons, List.length_nil, if_true, if_false, decide_true, decide_false, Bool.not_true, Bool.not_false, decide_eq_true_eq, sizeL, Nat.reduceAdd, Nat.reduceLeDiff, Nat.zero_add, beq_self_eq_true, seqG_tup, seqG_lst, lenB_tup, lenB_lst, idx_cup0, idx_cup1, setAt0, setAt1, cup, isTy, Bool.false_eq_true, newL_f, newL_t, fin_rtk, List.nil_append, wipeE, Int.reduceNe, Int.reduceEq, Int.reduceLT, Int.reduceLE, Int.reduceAdd, Int.reduceSub, Int.reduceMul, Int.reduceNeg, Int.reduceGT, cmpop, *]
    have bd : bindT (.tp [1, 2]) (.tup [pairV p, pairV q]) [o0, o1, o2] = some [o0, some (pairV p), some (pairV q)] := rfl
    rw [lcL_c, bd, Option.bind_some]
    show bnd (some (true, M)) _ = _
    rw [bnd_some, bifb_t, e1, bnd_some, ih, List.append_assoc]
    rfl
theorem rising_ok (k : Nat) (ps : List (Int × Int)) (h : Rise ps) (hl : ps.length ≤ 1000) (M : Mem) : callN prog W (k + 1) 3 [.lst (ps.map pairV)] M = some (.bl true, M) := by
  have L : ∀ o1 o2, ∃ n : List (Int × Int), lcL (.tp [1, 2]) [] (fun _ M => some (true, M)) (eval (callN prog W k) riE) [some (.lst (ps.map pairV)), o1, o2] (zipP (ps.map pairV) ((ps.map pairV).drop 1)) [] M = some (n.map fun _ => PV.bl true, M) ∧ n.length ≤ ps.length := fun o1 o2 => by
    cases ps with
    | nil =>
      refine ⟨[], ?_, Nat.le_refl _⟩
      show lcL _ _ _ _ _ [] _ _ = _
      rw [lcL_n]; rfl
    | cons p ps => exact ⟨ps, rise_loop (callN prog W k) M _ o1 o2 ps p [] h, by rw [List.length_cons]; omega⟩
  obtain ⟨n, L, ln⟩ := L none none
  have A := allB_map M n
  have sl := slc_l1 M (ps.map pairV)
  have bb : ((false : Bool) == false) = true := rfl
  rw [u_is_rising]
  unfold m_is_rising
  rw [show (E.cmp .lt (.var 1) (.var 2)) = riE from rfl]
  have hz : (n.map fun _ => PV.bl true).length ≤ 16777216 := by rw [List.length_map]; omega
  clear h hl ln
  generalize (n.map fun _ => PV.bl true) = nv at *
  generalize ps.map pairV = pv at *
  generalize riE = rE at *
  simp -implicitDefEqProofs only [execs, exec, eval, evals, evalI, conds, bnd_some, bnd_none, bifb_t, bifb_f, bifb_d, bifb_b, iff_t, iff_d, nxt_nx, nxt_rt, binop, cmpop, addOp_ii, addOp_tt, addOp_ll, subOp_ii, mulOp_ii, fdivOp_ii, modOp_ii, cmpI_ii, cmpLt_ii, isiM, tru_bl, tru_int, absB_i, intB_i, asM_int, asM_bl, asM_tup, asM_false, isOp_n, isOp_bb, isNon_non, isNon_tup, isNon_int, isNon_bl, isNon_lst, isNon_ref, isNon_rol, isNon_str, isNon_fr, setAll_nil, setAll_cons, bindT_nm, bindT_tp, fin_rt, fin_nx, leave_same, bltOp, idx_tup0, idx_tup1, idx_tup2, idx_tup3, idx_lst0, idx_lst1, idx_lst2, idx_lst3, eqD_ii, eqD_bb, eqD_fr, Option.map_some, Option.map_none, Option.bind_some, List.getElem?_cons_zero, List.getElem?_cons_succ, List.set_cons_zero, List.set_cons_succ, List.length_cons, List.length_nil, if_true, if_false, decide_true, decide_false, Bool.not_true, Bool.not_false, decide_eq_true_eq, sizeL, Nat.reduceAdd, Nat.reduceLeDiff, Nat.zero_add, beq_self_eq_true, seqG_tup, seqG_lst, lenB_tup, lenB_lst, idx_cup0, idx_cup1, setAt0, setAt1, cup, isTy, Bool.false_eq_true, newL_f, newL_t, fin_rtk, List.nil_append, wipeE, Int.reduceNe, Int.reduceEq, Int.reduceLT, Int.reduceLE, Int.reduceAdd, Int.reduceSub, Int.reduceMul, Int.reduceNeg, Int.reduceGT, conds, *]
/-! what is a net -/
structure Tk (n : Nat) (t : Tie) : Prop where
  a : 0 ≤ t.1.1
  b : t.1.1 < t.1.2
  c : t.1.2 < n
  p : 0 < t.2.num
  q : t.2.num < 10000000000000000000000000000000000000000
  d : (t.2.den : Int) < 10000000000000000000000000000000000000000
structure NetK (n : Nat) (ts : List Tie) : Prop where
  n1 : 1 ≤ n
  n2 : n ≤ 12
  l : ts.length ≤ 66
  r : Rise (ts.map (·.1))
  ok : ∀ t ∈ ts, Tk n t
theorem is_whole_ok (k : Nat) {i lo hi : Int} (h1 : lo ≤ i) (h2 : i ≤ hi) (M : Mem) : callN prog W (k + 2) 1 [.int i, .int lo, .int hi] M = some (.bl true, M) := by
  have g1 := fun k => is_integer_ok k i M
  rw [u_is_whole]
  unfold m_is_whole
  walk_at "evf"
theorem fits_tie_ok (k : Nat) {n : Nat} {t : Tie} (h : Tk n t) (M : Mem) : callN prog W (k + 3) 14 [.int (n : Nat), tieV t] M = some (.bl true, M) := by
  have ha := h.a
  have hb := h.b
  have hc := h.c
  have hp := h.p
  have f1 : ∀ k, callN prog W (k + 1) 2 [tieV t, .int 3, .int 3] M = some (.bl true, M) := fun k => is_tuple_of_ok k _ _ _ M (by simp) (by simp)
  have f2 := fun k => is_whole_ok k (i := t.1.1) (lo := 0) (hi := (n : Int) - 1) ha (by omega) M
  have f3 := fun k => is_whole_ok k (i := t.1.2) (lo := 0) (hi := (n : Int) - 1) (by omega) (by omega) M
  have f4 := fun k => fits_lt k (q := t.2) M (by omega) h.q h.d
  have i0 : ∀ M, idxOp M (tieV t) (.int 0) = some (.int t.1.1) := fun M => idx_tup0 _ _ _
  have i1 : ∀ M, idxOp M (tieV t) (.int 1) = some (.int t.1.2) := fun M => idx_tup1 _ _ _ _
  have i2 : ∀ M, idxOp M (tieV t) (.int 2) = some (fr t.2) := fun M => idx_tup2 _ _ _ _ _
  rw [u_fits_tie]
  unfold m_fits_tie
  clear h hc ha
  generalize tieV t = tv at *
  generalize ((n : Nat) : Int) = nn at *
  walk_at "evr1"
def ftE : E := (E.call 14 (.cons (.idx (.var 0) (.cst (.int (0)))) (.cons (.var 1) .nil)))
def slE : E := (E.slc (.var 1) false true (.cst .non) (.cst (.int (2))))
theorem fits_net_ok (k : Nat) {n : Nat} {ts : List Tie} (h : NetK n ts) (M : Mem) : callN prog W (k + 4) 15 [netV n ts] M = some (.bl true, M) := by
  have h1 := h.n1
  have h2 := h.n2
  have hl := h.l
  have f1 : ∀ k, callN prog W (k + 1) 2 [netV n ts, .int 2, .int 2] M = some (.bl true, M) := fun k => is_tuple_of_ok k _ _ _ M (by simp) (by simp)
  have f2 := fun k => is_whole_ok k (i := (n : Int)) (lo := 1) (hi := 12) (by omega) (by omega) M
  have f3 : ∀ k, callN prog W (k + 1) 2 [.tup (ts.map tieV), .int 0, .int 66] M = some (.bl true, M) := fun k => is_tuple_of_ok k _ _ _ M (by omega) (by rw [List.length_map]; omega)
  have i0 : ∀ M, idxOp M (netV n ts) (.int 0) = some (.int (n : Nat)) := fun M => idx_tup0 _ _ _
  have i1 : ∀ M, idxOp M (netV n ts) (.int 1) = some (.tup (ts.map tieV)) := fun M => idx_tup1 _ _ _ _
  have L1 : lcL (.nm 1) [] (fun _ M => some (true, M)) (eval (callN prog W (k + 3)) ftE) [some (netV n ts), none] (ts.map tieV) [] M = some (ts.map fun _ => PV.bl true, M) := by
    rw [lcL_of tieV (fun _ => PV.bl true)]
    · rfl
    · intro t ht
      refine ⟨_, bindT_nm _ _, ?_⟩
      have f := fun k => fits_tie_ok k (h.ok t ht) M
      unfold ftE
      clear h f1 f2 f3 ht
      generalize netV n ts = nv at *
      generalize tieV t = tv at *
      simp -implicitDefEqProofs only [execs, exec, eval, evals, evalI, conds, bnd_some, bnd_none, bifb_t, bifb_f, bifb_d, bifb_b, iff_t, iff_d, nxt_nx, nxt_rt, binop, cmpop, addOp_ii, addOp_tt, addOp_ll, subOp_ii, mulOp_ii, fdivOp_ii, modOp_ii, cmpI_ii, cmpLt_ii, isiM, tru_bl, tru_int, absB_i, intB_i, asM_int, asM_bl, asM_tup, asM_false, isOp_n, isOp_bb, isNon_non, isNon_tup, isNon_int, isNon_bl, isNon_lst, isNon_ref, isNon_rol, isNon_str, isNon_fr, setAll_nil, setAll_cons, bindT_nm, bindT_tp, fin_rt, fin_nx, leave_same, bltOp, idx_tup0, idx_tup1, idx_tup2, idx_tup3, idx_lst0, idx_lst1, idx_lst2, idx_lst3, eqD_ii, eqD_bb, eqD_fr, Option.map_some, Option.map_none, Option.bind_some, List.getElem?_cons_zero, List.getElem?_cons_succ, List.set_cons_zero, List.set_cons_succ, List.length_cons, List.length_nil, if_true, if_false, decide_true, decide_false, Bool.not_true, Bool.not_false, decide_eq_true_eq, sizeL, Nat.reduceAdd, Nat.reduceLeDiff, Nat.zero_add, beq_self_eq_true, seqG_tup, seqG_lst, lenB_tup, lenB_lst, idx_cup0, idx_cup1, setAt0, setAt1, cup, isTy, Bool.false_eq_true, newL_f, newL_t, fin_rtk, List.nil_append, wipeE, Int.reduceNe, Int.reduceEq, Int.reduceLT, Int.reduceLE, Int.reduceAdd, Int.reduceSub, Int.reduceMul, Int.reduceNeg, Int.reduceGT, *]
  have L2 : lcL (.nm 1) [] (fun _ M => some (true, M)) (eval (callN prog W (k + 3)) slE) [some (netV n ts), none] (ts.map tieV) [] M = some ((ts.map (·.1)).map pairV, M) := by
    rw [lcL_of tieV (fun t => pairV t.1), List.map_map]
    · rfl
    · intro t ht
      refine ⟨_, bindT_nm _ _, ?_⟩
      have f : slcOp M (tieV t) false true .non (.int 2) = some (pairV t.1) := rfl
      unfold slE
      clear h f1 f2 f3 ht
      generalize netV n ts = nv at *
      generalize tieV t = tv at *
      generalize pairV t.1 = pv at *
      simp -implicitDefEqProofs only [execs, exec, eval, evals, evalI, conds, bnd_some, bnd_none, bifb_t, bifb_f, bifb_d, bifb_b, iff_t, iff_d, nxt_nx, nxt_rt, binop, cmpop, addOp_ii, addOp_tt, addOp_ll, subOp_ii, mulOp_ii, fdivOp_ii, modOp_ii, cmpI_ii, cmpLt_ii, isiM, tru_bl, tru_int, absB_i, intB_i, asM_int, asM_bl, asM_tup, asM_false, isOp_n, isOp_bb, isNon_non, isNon_tup, isNon_int, isNon_bl, isNon_lst, isNon_ref, isNon_rol, isNon_str, isNon_fr, setAll_nil, setAll_cons, bindT_nm, bindT_tp, fin_rt, fin_nx, leave_same, bltOp, idx_tup0, idx_tup1, idx_tup2, idx_tup3, idx_lst0, idx_lst1, idx_lst2, idx_lst3, eqD_ii, eqD_bb, eqD_fr, Option.map_some, Option.map_none, Option.bind_some, List.getElem?_cons_zero, List.getElem?_cons_succ, List.set_cons_zero, List.set_cons_succ, List.length_cons, List.length_nil, if_true, if_false, decide_true, decide_false, Bool.not_true, Bool.not_false, decide_eq_true_eq, sizeL, Nat.reduceAdd, Nat.reduceLeDiff, Nat.zero_add, beq_self_eq_true, seqG_tup, seqG_lst, lenB_tup, lenB_lst, idx_cup0, idx_cup1, setAt0, setAt1, cup, isTy, Bool.false_eq_true, newL_f, newL_t, fin_rtk, List.nil_append, wipeE, Int.reduceNe, Int.reduceEq, Int.reduceLT, Int.reduceLE, Int.reduceAdd, Int.reduceSub, Int.reduceMul, Int.reduceNeg, Int.reduceGT, *]
  have R := fun k => rising_ok k (ts.map (·.1)) h.r (by rw [List.length_map]; omega) M
  have A := allB_map M ts
  have z1 : (ts.map fun _ => PV.bl true).length ≤ 16777216 := by rw [List.length_map]; omega
  have z2 : ((ts.map (·.1)).map pairV).length ≤ 16777216 := by rw [List.length_map, List.length_map]; omega
  rw [u_fits_net]
  unfold m_fits_net
  rw [show (E.call 14 (.cons (.idx (.var 0) (.cst (.int (0)))) (.cons (.var 1) .nil))) = ftE from rfl, show (E.slc (.var 1) false true (.cst .non) (.cst (.int (2)))) = slE from rfl]
  clear h h1 h2 hl
  generalize netV n ts = nv at *
  generalize (ts.map fun _ => PV.bl true) = bs at *
  generalize (ts.map (·.1)).map pairV = ps at *
  generalize ts.map tieV = tv at *
  generalize ftE = e1 at *
  generalize slE = e2 at *
  simp -implicitDefEqProofs only [execs, exec, eval, evals, evalI, conds, bnd_some, bnd_none, bifb_t, bifb_f, bifb_d, bifb_b, iff_t, iff_d, nxt_nx, nxt_rt, binop, cmpop, addOp_ii, addOp_tt, addOp_ll, subOp_ii, mulOp_ii, fdivOp_ii, modOp_ii, cmpI_ii, cmpLt_ii, isiM, tru_bl, tru_int, absB_i, intB_i, asM_int, asM_bl, asM_tup, asM_false, isOp_n, isOp_bb, isNon_non, isNon_tup, isNon_int, isNon_bl, isNon_lst, isNon_ref, isNon_rol, isNon_str, isNon_fr, setAll_nil, setAll_cons, bindT_nm, bindT_tp, fin_rt, fin_nx, leave_same, bltOp, idx_tup0, idx_tup1, idx_tup2, idx_tup3, idx_lst0, idx_lst1, idx_lst2, idx_lst3, eqD_ii, eqD_bb, eqD_fr, Option.map_some, Option.map_none, Option.bind_some, List.getElem?_cons_zero, List.getElem?_cons_succ, List.set_cons_zero, List.set_cons_succ, List.length_cons, List.length_nil, if_true, if_false, decide_true, decide_false, Bool.not_true, Bool.not_false, decide_eq_true_eq, sizeL, Nat.reduceAdd, Nat.reduceLeDiff, Nat.zero_add, beq_self_eq_true, seqG_tup, seqG_lst, lenB_tup, lenB_lst, idx_cup0, idx_cup1, setAt0, setAt1, cup, isTy, Bool.false_eq_true, newL_f, newL_t, fin_rtk, List.nil_append, wipeE, Int.reduceNe, Int.reduceEq, Int.reduceLT, Int.reduceLE, Int.reduceAdd, Int.reduceSub, Int.reduceMul, Int.reduceNeg, Int.reduceGT, conds, k_MOST_TIES, k_MOST_NODES, *]
theorem need_net_ok (k : Nat) {n : Nat} {ts : List Tie} (h : NetK n ts) (M : Mem) : callN prog W (k + 5) 16 [netV n ts] M = some (.non, M) := by
  have f := fun k => fits_net_ok k h M
  rw [u_need_net]
  unfold m_need_net
  clear h
  walk_at "evf"
structure Hk (q : Rat) : Prop where
  a : -10000000000000000000000000000000000000000 < q.num
  b : q.num < 10000000000000000000000000000000000000000
  d : (q.den : Int) < 10000000000000000000000000000000000000000
def fhE : E := (E.call 12 (.cons (.var 2) .nil))
theorem need_heights_ok (k : Nat) {n : Nat} {ts : List Tie} {hs : List Rat} (hl : hs.length = n) (hn : n ≤ 12) (h : ∀ q ∈ hs, Hk q) (M : Mem) : callN prog W (k + 5) 18 [netV n ts, .tup (hs.map fr)] M = some (.non, M) := by
  have F : ∀ k, callN prog W (k + 4) 17 [netV n ts, .tup (hs.map fr)] M = some (.bl true, M) := fun k => by
    have f1 : ∀ k, callN prog W (k + 1) 2 [.tup (hs.map fr), .int (n : Nat), .int (n : Nat)] M = some (.bl true, M) := fun k => is_tuple_of_ok k _ _ _ M (by rw [List.length_map]; omega) (by rw [List.length_map]; omega)
    have i0 : ∀ M, idxOp M (netV n ts) (.int 0) = some (.int (n : Nat)) := fun M => idx_tup0 _ _ _
    have L1 : lcL (.nm 2) [] (fun _ M => some (true, M)) (eval (callN prog W (k + 3)) fhE) [some (netV n ts), some (.tup (hs.map fr)), none] (hs.map fr) [] M = some (hs.map fun _ => PV.bl true, M) := by
      rw [lcL_of fr (fun _ => PV.bl true)]
      · rfl
      · intro q hq
        refine ⟨_, bindT_nm _ _, ?_⟩
        have f := fun k => fits_lt k (q := q) M (h q hq).a (h q hq).b (h q hq).d
        unfold fhE
        clear h f1 hq
        generalize netV n ts = nv at *
        simp -implicitDefEqProofs only [execs, exec, eval, evals, evalI, conds, bnd_some, bnd_none, bifb_t, bifb_f, bifb_d, bifb_b, iff_t, iff_d, nxt_nx, nxt_rt, binop, cmpop, addOp_ii, addOp_tt, addOp_ll, subOp_ii, mulOp_ii, fdivOp_ii, modOp_ii, cmpI_ii, cmpLt_ii, isiM, tru_bl, tru_int, absB_i, intB_i, asM_int, asM_bl, asM_tup, asM_false, isOp_n, isOp_bb, isNon_non, isNon_tup, isNon_int, isNon_bl, isNon_lst, isNon_ref, isNon_rol, isNon_str, isNon_fr, setAll_nil, setAll_cons, bindT_nm, bindT_tp, fin_rt, fin_nx, leave_same, bltOp, idx_tup0, idx_tup1, idx_tup2, idx_tup3, idx_lst0, idx_lst1, idx_lst2, idx_lst3, eqD_ii, eqD_bb, eqD_fr, Option.map_some, Option.map_none, Option.bind_some, List.getElem?_cons_zero, List.getElem?_cons_succ, List.set_cons_zero, List.set_cons_succ, List.length_cons, List.length_nil, if_true, if_false, decide_true, decide_false, Bool.not_true, Bool.not_false, decide_eq_true_eq, sizeL, Nat.reduceAdd, Nat.reduceLeDiff, Nat.zero_add, beq_self_eq_true, seqG_tup, seqG_lst, lenB_tup, lenB_lst, idx_cup0, idx_cup1, setAt0, setAt1, cup, isTy, Bool.false_eq_true, newL_f, newL_t, fin_rtk, List.nil_append, wipeE, Int.reduceNe, Int.reduceEq, Int.reduceLT, Int.reduceLE, Int.reduceAdd, Int.reduceSub, Int.reduceMul, Int.reduceNeg, Int.reduceGT, *]
    have A := allB_map M hs
    have z1 : (hs.map fun _ => PV.bl true).length ≤ 16777216 := by rw [List.length_map]; omega
    rw [u_fits_heights]
    unfold m_fits_heights
    rw [show (E.call 12 (.cons (.var 2) .nil)) = fhE from rfl]
    clear h hl hn
    generalize netV n ts = nv at *
    generalize (hs.map fun _ => PV.bl true) = bs at *
    generalize hs.map fr = hv at *
    generalize fhE = e1 at *
    generalize ((n : Nat) : Int) = nn at *
    simp -implicitDefEqProofs only [execs, exec, eval, evals, evalI, conds, bnd_some, bnd_none, bifb_t, bifb_f, bifb_d, bifb_b, iff_t, iff_d, nxt_nx, nxt_rt, binop, cmpop, addOp_ii, addOp_tt, addOp_ll, subOp_ii, mulOp_ii, fdivOp_ii, modOp_ii, cmpI_ii, cmpLt_ii, isiM, tru_bl, tru_int, absB_i, intB_i, asM_int, asM_bl, asM_tup, asM_false, isOp_n, isOp_bb, isNon_non, isNon_tup, isNon_int, isNon_bl, isNon_lst, isNon_ref, isNon_rol, isNon_str, isNon_fr, setAll_nil, setAll_cons, bindT_nm, bindT_tp, fin_rt, fin_nx, leave_same, bltOp, idx_tup0, idx_tup1, idx_tup2, idx_tup3, idx_lst0, idx_lst1, idx_lst2, idx_lst3, eqD_ii, eqD_bb, eqD_fr, Option.map_some, Option.map_none, Option.bind_some, List.getElem?_cons_zero, List.getElem?_cons_succ, List.set_cons_zero, List.set_cons_succ, List.length_cons, List.length_nil, if_true, if_false, decide_true, decide_false, Bool.not_true, Bool.not_false, decide_eq_true_eq, sizeL, Nat.reduceAdd, Nat.reduceLeDiff, Nat.zero_add, beq_self_eq_true, seqG_tup, seqG_lst, lenB_tup, lenB_lst, idx_cup0, idx_cup1, setAt0, setAt1, cup, isTy, Bool.false_eq_true, newL_f, newL_t, fin_rtk, List.nil_append, wipeE, Int.reduceNe, Int.reduceEq, Int.reduceLT, Int.reduceLE, Int.reduceAdd, Int.reduceSub, Int.reduceMul, Int.reduceNeg, Int.reduceGT, conds, *]
  rw [u_need_heights]
  unfold m_need_heights
  clear h hl hn
  walk_at "evf"

/-! ### currents, what goes out, power -/
def fall (hs : List Rat) (t : Tie) : Rat := hv hs t.1.1 - hv hs t.1.2
def cur (hs : List Rat) (t : Tie) : Rat := t.2 * fall hs t
structure Sz (m : Nat) (hs : List Rat) (ts : List Tie) : Prop where
  h : ∀ q ∈ hs, sm m q
  t : ∀ t ∈ ts, sm m t.2
theorem hv_mem {hs : List Rat} {i : Int} (h0 : 0 ≤ i) (h1 : i < hs.length) : hv hs i ∈ hs := by
  have h2 : i.toNat < hs.length := by omega
  unfold hv
  rw [List.getD_eq_getElem?_getD, List.getElem?_eq_getElem h2]
  exact List.getElem_mem h2
/-- what is reckoned of one tie -/
theorem tie_calls {n m : Nat} {ts : List Tie} {hs : List Rat} (z : Sz m hs ts) (hm : m ≤ 400) (hl : hs.length = n) {t : Tie} (ht : t ∈ ts) (g : Tk n t) : sm (2 * m + 1) (fall hs t) ∧ sm (3 * m + 1) (cur hs t) ∧
    (∀ k M, callN prog W (k + 3) 7 [fr (hv hs t.1.1), fr (hv hs t.1.2)] M = some (fr (fall hs t), M)) ∧ (∀ k M, callN prog W (k + 3) 8 [fr t.2, fr (fall hs t)] M = some (fr (cur hs t), M)) ∧ ∀ k M, callN prog W (k + 3) 8 [fr (cur hs t), fr (fall hs t)] M = some (fr (cur hs t * fall hs t), M) := by
  have ga := g.a
  have gb := g.b
  have gc := g.c
  have s1 := z.h _ (hv_mem (hs := hs) (i := t.1.1) ga (by omega))
  have s2 := z.h _ (hv_mem (hs := hs) (i := t.1.2) (by omega) (by omega))
  have s3 : sm (2 * m + 1) (fall hs t) := (sm_sub s1 s2).mono (by omega)
  have s4 := z.t t ht
  have s5 : sm (3 * m + 1) (cur hs t) := (sm_mul s4 s3).mono (by omega)
  exact ⟨s3, s5, fun k M => less_by_ok k M s1 s2 (by omega), fun k M => product_of_ok k M s4 s3 (by omega), fun k M => product_of_ok k M s5 s3 (by omega)⟩
def ciE : E := (E.call 8 (.cons (.var 4) (.cons (.call 7 (.cons (.idx (.var 1) (.var 2)) (.cons (.idx (.var 1) (.var 3)) .nil))) .nil)))
theorem currents_in_ok (k : Nat) {n m : Nat} {ts : List Tie} {hs : List Rat} (z : Sz m hs ts) (hm : m ≤ 400) (hl : hs.length = n) (g : ∀ t ∈ ts, Tk n t) (hz : ts.length ≤ 1000) (M : Mem) :
    callN prog W (k + 4) 19 [netV n ts, .tup (hs.map fr)] M = some (.tup (ts.map fun t => fr (cur hs t)), M) := by
  have L1 : lcL (.tp [2, 3, 4]) [] (fun _ M => some (true, M)) (eval (callN prog W (k + 3)) ciE) [some (netV n ts), some (.tup (hs.map fr)), none, none, none] (ts.map tieV) [] M = some (ts.map fun t => fr (cur hs t), M) := by
    rw [lcL_of tieV (fun t => fr (cur hs t))]
    · rfl
    · intro t ht
      refine ⟨[some (netV n ts), some (.tup (hs.map fr)), some (.int t.1.1), some (.int t.1.2), some (fr t.2)], rfl, ?_⟩
      obtain ⟨-, -, f1, f2, -⟩ := tie_calls z hm hl ht (g t ht)
      have ga := (g t ht).a
      have gb := (g t ht).b
      have gc := (g t ht).c
      have i1 := fun M => idx_hs M hs (i := t.1.1) ga (by omega)
      have i2 := fun M => idx_hs M hs (i := t.1.2) (by omega) (by omega)
      have f1 := fun k => f1 k M
      have f2 := fun k => f2 k M
      unfold ciE
      clear z ht ga gb gc g hl
      generalize netV n ts = nv at *
      generalize hs.map fr = hvs at *
      generalize fall hs t = fl at *
      generalize hv hs t.1.1 = h1 at *
      generalize hv hs t.1.2 = h2 at *
      generalize cur hs t = c at *
      simp -implicitDefEqProofs only [execs, exec, eval, evals, evalI, conds, bnd_some, bnd_none, bifb_t, bifb_f, bifb_d, bifb_b, iff_t, iff_d, nxt_nx, nxt_rt, binop, cmpop, addOp_ii, addOp_tt, addOp_ll, subOp_ii, mulOp_ii, fdivOp_ii, modOp_ii, cmpI_ii, cmpLt_ii, isiM, tru_bl, tru_int, absB_i, intB_i, asM_int, asM_bl, asM_tup, asM_false, isOp_n, isOp_bb, isNon_non, isNon_tup, isNon_int, isNon_bl, isNon_lst, isNon_ref, isNon_rol, isNon_str, isNon_fr, setAll_nil, setAll_cons, bindT_nm, bindT_tp, fin_rt, fin_nx, leave_same, bltOp, idx_tup0, idx_tup1, idx_tup2, idx_tup3, idx_lst0, idx_lst1, idx_lst2, idx_lst3, eqD_ii, eqD_bb, eqD_fr, Option.map_some, Option.map_none, Option.bind_some, List.getElem?_cons_zero, List.getElem?_cons_succ, List.set_cons_zero, List.set_cons_succ, List.length_cons, List.length_nil, if_true, if_false, decide_true, decide_false, Bool.not_true, Bool.not_false, decide_eq_true_eq, sizeL, Nat.reduceAdd, Nat.reduceLeDiff, Nat.zero_add, beq_self_eq_true, seqG_tup, seqG_lst, lenB_tup, lenB_lst, idx_cup0, idx_cup1, setAt0, setAt1, cup, isTy, Bool.false_eq_true, newL_f, newL_t, fin_rtk, List.nil_append, wipeE, Int.reduceNe, Int.reduceEq, Int.reduceLT, Int.reduceLE, Int.reduceAdd, Int.reduceSub, Int.reduceMul, Int.reduceNeg, Int.reduceGT, *]
  have i1 : ∀ M, idxOp M (netV n ts) (.int 1) = some (.tup (ts.map tieV)) := fun M => idx_tup1 _ _ _ _
  have z1 : (ts.map fun t => fr (cur hs t)).length ≤ 16777216 := by rw [List.length_map]; omega
  rw [u_currents_in]
  unfold m_currents_in
  rw [show (E.call 8 (.cons (.var 4) (.cons (.call 7 (.cons (.idx (.var 1) (.var 2)) (.cons (.idx (.var 1) (.var 3)) .nil))) .nil))) = ciE from rfl]
  clear z g hl
  generalize netV n ts = nv at *
  generalize (ts.map fun t => fr (cur hs t)) = cs at *
  generalize ts.map tieV = tv at *
  generalize ciE = e1 at *
  simp -implicitDefEqProofs only [execs, exec, eval, evals, evalI, conds, bnd_some, bnd_none, bifb_t, bifb_f, bifb_d, bifb_b, iff_t, iff_d, nxt_nx, nxt_rt, binop, cmpop, addOp_ii, addOp_tt, addOp_ll, subOp_ii, mulOp_ii, fdivOp_ii, modOp_ii, cmpI_ii, cmpLt_ii, isiM, tru_bl, tru_int, absB_i, intB_i, asM_int, asM_bl, asM_tup, asM_false, isOp_n, isOp_bb, isNon_non, isNon_tup, isNon_int, isNon_bl, isNon_lst, isNon_ref, isNon_rol, isNon_str, isNon_fr, setAll_nil, setAll_cons, bindT_nm, bindT_tp, fin_rt, fin_nx, leave_same, bltOp, idx_tup0, idx_tup1, idx_tup2, idx_tup3, idx_lst0, idx_lst1, idx_lst2, idx_lst3, eqD_ii, eqD_bb, eqD_fr, Option.map_some, Option.map_none, Option.bind_some, List.getElem?_cons_zero, List.getElem?_cons_succ, List.set_cons_zero, List.set_cons_succ, List.length_cons, List.length_nil, if_true, if_false, decide_true, decide_false, Bool.not_true, Bool.not_false, decide_eq_true_eq, sizeL, Nat.reduceAdd, Nat.reduceLeDiff, Nat.zero_add, beq_self_eq_true, seqG_tup, seqG_lst, lenB_tup, lenB_lst, idx_cup0, idx_cup1, setAt0, setAt1, cup, isTy, Bool.false_eq_true, newL_f, newL_t, fin_rtk, List.nil_append, wipeE, Int.reduceNe, Int.reduceEq, Int.reduceLT, Int.reduceLE, Int.reduceAdd, Int.reduceSub, Int.reduceMul, Int.reduceNeg, Int.reduceGT, conds, tupleB_lst, *]
/-! sums over a common denominator -/
theorem cmn_add {D N N' : Nat} {p q : Rat} (h : cmn D N p) (h' : cmn D N' q) : cmn D (N + N') (p + q) := by
  obtain ⟨A, a1, a2⟩ := h
  obtain ⟨B, b1, b2⟩ := h'
  exact ⟨A + B, by rw [Rat.add_mul, a1, b1, Rat.intCast_add], by omega⟩
theorem cmn_sub {D N N' : Nat} {p q : Rat} (h : cmn D N p) (h' : cmn D N' q) : cmn D (N + N') (p - q) := by
  obtain ⟨A, a1, a2⟩ := h
  obtain ⟨B, b1, b2⟩ := h'
  exact ⟨A - B, by rw [Rat.sub_eq_add_neg, Rat.add_mul, Rat.neg_mul, a1, b1, ← Rat.sub_eq_add_neg, Rat.intCast_sub], by omega⟩
theorem cmn.mono {D N N' : Nat} {p : Rat} (h : cmn D N p) (hn : N ≤ N') : cmn D N' p := by
  obtain ⟨A, a1, a2⟩ := h
  exact ⟨A, a1, by omega⟩
theorem cmn_0 (D N : Nat) : cmn D N 0 := ⟨0, by rw [Rat.zero_mul]; rfl, Nat.zero_le _⟩
theorem cmn_mul {D N D' N' : Nat} {p q : Rat} (h : cmn D N p) (h' : cmn D' N' q) : cmn (D * D') (N * N') (p * q) := by
  obtain ⟨A, a1, a2⟩ := h
  obtain ⟨B, b1, b2⟩ := h'
  refine ⟨A * B, ?_, ?_⟩
  · rw [Rat.intCast_mul, ← a1, ← b1]
    have : ((D * D' : Nat) : Rat) = (D : Rat) * (D' : Rat) := by exact_mod_cast rfl
    rw [this]
    grind
  · rw [Int.natAbs_mul]
    exact Nat.mul_le_mul a2 b2
/-- a bound that lets all be reckoned -/
structure Bo (D N : Nat) : Prop where
  d : 0 < D
  l : D ≤ N
  n : N < 2 ^ 3900
theorem Bo.sm {D N N' : Nat} {q : Rat} (b : Bo D N') (h : cmn D N q) (hn : N ≤ N') : sm 3900 q := (h.mono hn).sm b.d b.l b.n
def upO (fs : List Rat) (t : Tie) (c : Rat) : List Rat := (fs.set t.1.1.toNat (hv fs t.1.1 + c)).set t.1.2.toNat (hv fs t.1.2 - c)
theorem hv_set {fs : List Rat} {i j : Int} (x : Rat) (hi : 0 ≤ i) (hj : 0 ≤ j) (ne : i ≠ j) : hv (fs.set i.toNat x) j = hv fs j := by
  unfold hv
  rw [List.getD_eq_getElem?_getD, List.getD_eq_getElem?_getD, List.getElem?_set_ne (by omega)]
theorem upO_len (fs : List Rat) (t : Tie) (c : Rat) : (upO fs t c).length = fs.length := by unfold upO; rw [List.length_set, List.length_set]
theorem setAt_map {fs : List Rat} {i : Int} (x : Rat) (h0 : 0 ≤ i) (h1 : i < fs.length) : setAt (fs.map fr) i (fr x) = some ((fs.set i.toNat x).map fr) := by
  unfold setAt L2.ixN
  rw [if_pos h0, if_pos (by rw [List.length_map]; exact h1), List.map_set]
  rfl
theorem mem_set {fs : List Rat} {j : Nat} {x q : Rat} (h : q ∈ fs.set j x) : q ∈ fs ∨ q = x := List.mem_or_eq_of_mem_set h
theorem get_app (M : Mem) (c : Cell) : (M ++ [c])[M.length]? = some c := by simp
theorem set_app (M : Mem) (c c' : Cell) : (M ++ [c]).set M.length c' = M ++ [c'] := by simp
theorem idx_app (M : Mem) (xs : List PV) (i : Int) : idxOp (M ++ [.lst xs]) (.ref M.length) (.int i) = L2.atI xs i := by
  unfold idxOp itemsT items
  simp only [get_app]
theorem leave_app {M : Mem} {c : Cell} {v : PV} (hM : M.all (cellUnder M.length) = true) (hv : under M.length v = true) : leave M.length v (M ++ [c]) = some (v, M) := by
  unfold leave
  rw [if_neg (by simp)]
  have e : (M ++ [c]).take M.length = M := by simp
  rw [e, if_pos hM, if_pos hv]
theorem unders_fr (n : Nat) : ∀ qs : List Rat, unders n (qs.map fr) = true
  | [] => rfl
  | q :: qs => by
    show (under n (fr q) && unders n (qs.map fr)) = true
    rw [unders_fr n qs]; rfl
def ouB : Ss := (Ss.cons (.seti (.var 2) (.var 3) (.call 6 (.cons (.idx (.var 2) (.var 3)) (.cons (.var 6) .nil)))) (.cons (.seti (.var 2) (.var 4) (.call 7 (.cons (.idx (.var 2) (.var 4)) (.cons (.var 6) .nil)))) .nil))
theorem out_step (k : Nat) {n D N C : Nat} {fs : List Rat} {t : Tie} {c : Rat} (g : Tk n t) (hl : fs.length = n) (b : Bo D (N + C)) (hf : ∀ q ∈ fs, cmn D N q) (hc : cmn D C c) (M : Mem) (e0 e1 : Option PV) :
    execs (callN prog W (k + 3)) W ouB [e0, e1, some (.ref M.length), some (.int t.1.1), some (.int t.1.2), some (fr t.2), some (fr c)] (M ++ [.lst (fs.map fr)]) =
      some (.nx [e0, e1, some (.ref M.length), some (.int t.1.1), some (.int t.1.2), some (fr t.2), some (fr c)] (M ++ [.lst ((upO fs t c).map fr)])) ∧ ∀ q ∈ upO fs t c, cmn D (N + C) q := by
  have ga := g.a
  have gb := g.b
  have gc := g.c
  have m1 := hf _ (hv_mem (hs := fs) (i := t.1.1) ga (by omega))
  have m2 := hf _ (hv_mem (hs := fs) (i := t.1.2) (by omega) (by omega))
  have s1 := b.sm m1 (by omega)
  have s2 := b.sm m2 (by omega)
  have s3 := b.sm hc (by omega)
  have f1 := fun k M => sum_of_ok k M s1 s3 (by decide)
  have f2 := fun k M => less_by_ok k M s2 s3 (by decide)
  have e2 := hv_set (fs := fs) (i := t.1.1) (j := t.1.2) (hv fs t.1.1 + c) ga (by omega) (by omega)
  have a1 := at_hs fs (i := t.1.1) ga (by omega)
  have a2 := at_hs (fs.set t.1.1.toNat (hv fs t.1.1 + c)) (i := t.1.2) (by omega) (by rw [List.length_set]; omega)
  rw [e2] at a2
  have a3 := setAt_map (fs := fs) (i := t.1.1) (hv fs t.1.1 + c) ga (by omega)
  have a4 := setAt_map (fs := fs.set t.1.1.toNat (hv fs t.1.1 + c)) (i := t.1.2) (hv fs t.1.2 - c) (by omega) (by rw [List.length_set]; omega)
  refine ⟨?_, fun q hq => ?_⟩
  · have G := get_app M
    have S := set_app M
    have Ix := idx_app M
    unfold ouB
    unfold upO
    clear ga gb gc g m1 m2 s1 s2 s3 b hf hc hl e2
    generalize (fs.set t.1.1.toNat (hv fs t.1.1 + c)).set t.1.2.toNat (hv fs t.1.2 - c) = fs2 at *
    generalize fs.set t.1.1.toNat (hv fs t.1.1 + c) = fs1 at *
    generalize hv fs t.1.1 + c = x1 at *
    generalize hv fs t.1.2 - c = x2 at *
    generalize hv fs t.1.1 = h1 at *
    generalize hv fs t.1.2 = h2 at *
    generalize M.length = nM at *
    simp -implicitDefEqProofs only [execs, exec, eval, evals, evalI, conds, bnd_some, bnd_none, bifb_t, bifb_f, bifb_d, bifb_b, iff_t, iff_d, nxt_nx, nxt_rt, binop, cmpop, addOp_ii, addOp_tt, addOp_ll, subOp_ii, mulOp_ii, fdivOp_ii, modOp_ii, cmpI_ii, cmpLt_ii, isiM, tru_bl, tru_int, absB_i, intB_i, asM_int, asM_bl, asM_tup, asM_false, isOp_n, isOp_bb, isNon_non, isNon_tup, isNon_int, isNon_bl, isNon_lst, isNon_ref, isNon_rol, isNon_str, isNon_fr, setAll_nil, setAll_cons, bindT_nm, bindT_tp, fin_rt, fin_nx, leave_same, bltOp, idx_tup0, idx_tup1, idx_tup2, idx_tup3, idx_lst0, idx_lst1, idx_lst2, idx_lst3, eqD_ii, eqD_bb, eqD_fr, Option.map_some, Option.map_none, Option.bind_some, List.getElem?_cons_zero, List.getElem?_cons_succ, List.set_cons_zero, List.set_cons_succ, List.length_cons, List.length_nil, if_true, if_false, decide_true, decide_false, Bool.not_true, Bool.not_false, decide_eq_true_eq, sizeL, Nat.reduceAdd, Nat.reduceLeDiff, Nat.zero_add, beq_self_eq_true, seqG_tup, seqG_lst, lenB_tup, lenB_lst, idx_cup0, idx_cup1, setAt0, setAt1, cup, isTy, Bool.false_eq_true, newL_f, newL_t, fin_rtk, List.nil_append, wipeE, Int.reduceNe, Int.reduceEq, Int.reduceLT, Int.reduceLE, Int.reduceAdd, Int.reduceSub, Int.reduceMul, Int.reduceNeg, Int.reduceGT, *]
  · rcases mem_set hq with hq | rfl
    · rcases mem_set hq with hq | rfl
      · exact (hf q hq).mono (by omega)
      · exact cmn_add m1 hc
    · exact cmn_sub m2 hc
def outF (fs : List Rat) (L : List (Tie × Rat)) : List Rat := L.foldl (fun fs p => upO fs p.1 p.2) fs
theorem outF_len : ∀ (L : List (Tie × Rat)) (fs : List Rat), (outF fs L).length = fs.length
  | [], _ => rfl
  | p :: L, fs => by
    show (outF (upO fs p.1 p.2) L).length = _
    rw [outF_len L, upO_len]
def zpV (p : Tie × Rat) : PV := .tup [tieV p.1, fr p.2]
theorem out_loop (k : Nat) {n D C : Nat} (M : Mem) (e0 e1 : Option PV) : ∀ (L : List (Tie × Rat)) {N : Nat} {fs : List Rat} (e3 e4 e5 e6 : Option PV), (∀ p ∈ L, Tk n p.1 ∧ cmn D C p.2) → fs.length = n → D ≤ N → Bo D (N + C * L.length) → (∀ q ∈ fs, cmn D N q) →
    ∃ e3' e4' e5' e6', forL (.t2 [.t [3, 4, 5], .n 6]) [] (execs (callN prog W (k + 3)) W ouB) (L.map zpV) [e0, e1, some (.ref M.length), e3, e4, e5, e6] (M ++ [.lst (fs.map fr)]) =
      some (.nx [e0, e1, some (.ref M.length), e3', e4', e5', e6'] (M ++ [.lst ((outF fs L).map fr)])) ∧ ∀ q ∈ outF fs L, cmn D (N + C * L.length) q
  | [], N, fs, e3, e4, e5, e6, _, _, _, _, hf => ⟨e3, e4, e5, e6, forL_n, fun q hq => (hf q hq).mono (Nat.le_add_right _ _)⟩
  | p :: L, N, fs, e3, e4, e5, e6, h, hl, hD, b, hf => by
    obtain ⟨g, hc⟩ := h p List.mem_cons_self
    have eL : N + C + C * L.length = N + C * (p :: L).length := by rw [List.length_cons, Nat.mul_add]; omega
    have b1 : Bo D (N + C) := ⟨b.d, by omega, by have := b.n; rw [← eL] at this; omega⟩
    obtain ⟨s1, s2⟩ := out_step k g hl b1 hf hc M e0 e1
    obtain ⟨a3, a4, a5, a6, r1, r2⟩ := out_loop k M e0 e1 L (N := N + C) (fs := upO fs p.1 p.2) (some (.int p.1.1.1)) (some (.int p.1.1.2)) (some (fr p.1.2)) (some (fr p.2)) (fun q hq => h q (List.mem_cons_of_mem _ hq)) (by rw [upO_len]; exact hl) (by omega) (by rw [eL]; exact b) s2
    rw [eL] at r2
    refine ⟨a3, a4, a5, a6, ?_, r2⟩
    have bd : bindT (.t2 [.t [3, 4, 5], .n 6]) (zpV p) [e0, e1, some (.ref M.length), e3, e4, e5, e6] = some [e0, e1, some (.ref M.length), some (.int p.1.1.1), some (.int p.1.1.2), some (fr p.1.2), some (fr p.2)] := rfl
    show forL _ _ _ (zpV p :: L.map zpV) _ _ = _
    rw [forL_c, bd, Option.bind_some, s1, nxt_nx]
    exact r1

theorem zipP_map {α : Type} (f g : α → PV) : ∀ L : List α, zipP (L.map f) (L.map g) = L.map fun p => PV.tup [f p, g p]
  | [] => rfl
  | p :: L => by
    show PV.tup [f p, g p] :: zipP (L.map f) (L.map g) = _
    rw [zipP_map f g L]; rfl
def outs (n : Nat) (hs : List Rat) (ts : List Tie) : List Rat := outF (List.replicate n 0) (ts.map fun t => (t, cur hs t))
theorem rep1 (t : Nat) (v : PV) : (List.replicate t [v]).flatten = List.replicate t v := by
  induction t with
  | zero => rfl
  | succ t ih => rw [List.replicate_succ, List.flatten_cons, ih, List.replicate_succ]; rfl
theorem mulOp_ll (M : Mem) (xs : List PV) (k : Int) : mulOp M (.lst xs) (.int k) = if decide (-(2 ^ 63) ≤ k) && decide (k < 2 ^ 63) && decide (xs.length * k.toNat ≤ PySem.sizeLine) then some (.lst (List.replicate k.toNat xs).flatten) else none := rfl
theorem mulOp_l1 (M : Mem) (v : PV) (t : Nat) (ht : t ≤ 1000) : mulOp M (.lst [v]) (.int t) = some (.lst (List.replicate t v)) := by
  have c : (decide (-(2 ^ 63) ≤ (t : Int)) && decide ((t : Int) < 2 ^ 63) && decide ([v].length * (t : Int).toNat ≤ PySem.sizeLine)) = true := by
    rw [Bool.and_eq_true, Bool.and_eq_true]
    exact ⟨⟨decide_eq_true (by omega), decide_eq_true (by omega)⟩, decide_eq_true (by rw [sizeL, Int.toNat_natCast]; simp only [List.length_cons, List.length_nil]; omega)⟩
  rw [mulOp_ll, if_pos c, Int.toNat_natCast, rep1]
theorem mulOp_tt (M : Mem) (x : PV) (xs : List PV) (k : Int) : mulOp M (.tup (x :: xs)) (.int k) = if decide (-(2 ^ 63) ≤ k) && decide (k ≤ 1000) && decide ((x :: xs).length ≤ 1000) then some (.tup (List.replicate k.toNat (x :: xs)).flatten) else none := rfl
theorem mulOp_t1 (M : Mem) (v : PV) (t : Nat) (ht : t ≤ 1000) : mulOp M (.tup [v]) (.int t) = some (.tup (List.replicate t v)) := by
  have c : (decide (-(2 ^ 63) ≤ (t : Int)) && decide ((t : Int) ≤ 1000) && decide ([v].length ≤ 1000)) = true := by
    rw [Bool.and_eq_true, Bool.and_eq_true]
    exact ⟨⟨decide_eq_true (by omega), decide_eq_true (by omega)⟩, rfl⟩
  rw [mulOp_tt, if_pos c, Int.toNat_natCast, rep1]
def z0 : PV := .tup [.int 0, .int 1]
theorem z0_fr : fr 0 = z0 := rfl
theorem mulOp_n (M : Mem) (n : Nat) (h : n ≤ 1000) : mulOp M (.lst [.tup [.int 0, .int 1]]) (.int (n : Nat)) = some (.lst ((List.replicate n (0 : Rat)).map fr)) := by
  rw [mulOp_l1 M _ n h, List.map_replicate]
  rfl
theorem outs_in_ok (k : Nat) {n m D C : Nat} {ts : List Tie} {hs : List Rat} (z : Sz m hs ts) (hm : m ≤ 400) (hl : hs.length = n) (hn : n ≤ 1000) (g : ∀ t ∈ ts, Tk n t) (hz : ts.length ≤ 1000) (hc : ∀ t ∈ ts, cmn D C (cur hs t)) (b : Bo D (D + C * ts.length)) (M : Mem) (hM : M.all (cellUnder M.length) = true) :
    callN prog W (k + 5) 20 [netV n ts, .tup (hs.map fr)] M = some (.tup ((outs n hs ts).map fr), M) := by
  have f1 := fun k M => currents_in_ok k z hm hl g hz M
  have zz : zipP (ts.map tieV) (ts.map fun t => fr (cur hs t)) = (ts.map fun t => (t, cur hs t)).map zpV := by
    rw [zipP_map, List.map_map]; rfl
  obtain ⟨e3, e4, e5, e6, r1, -⟩ := out_loop (k + 1) (n := n) (D := D) (C := C) M (some (netV n ts)) (some (.tup (hs.map fr))) (ts.map fun t => (t, cur hs t)) (N := D) (fs := List.replicate n 0) none none none none (fun p hp => by
    obtain ⟨t, ht, rfl⟩ := List.mem_map.mp hp
    exact ⟨g t ht, hc t ht⟩) (List.length_replicate ..) (Nat.le_refl _) (by rw [List.length_map]; exact b) (fun q hq => by rw [(List.mem_replicate.mp hq).2]; exact cmn_0 _ _)
  have i0 : ∀ M, idxOp M (netV n ts) (.int 0) = some (.int (n : Nat)) := fun M => idx_tup0 _ _ _
  have i1 : ∀ M, idxOp M (netV n ts) (.int 1) = some (.tup (ts.map tieV)) := fun M => idx_tup1 _ _ _ _
  have mu := fun M => mulOp_n M n hn
  have as : ∀ (xs : List PV) (M : Mem), asM true (.lst xs) M = (.ref M.length, M ++ [.lst xs]) := fun xs M => rfl
  have tb : tupleB (M ++ [.lst ((outs n hs ts).map fr)]) [.ref M.length] = some (.tup ((outs n hs ts).map fr)) := by
    unfold tupleB
    show (items _ (.ref _)).map PV.tup = _
    unfold items
    simp only [get_app]
    rfl
  have lv := leave_app (c := .lst ((outs n hs ts).map fr)) (v := .tup ((outs n hs ts).map fr)) hM (unders_fr _ _)
  change forL _ _ _ _ _ _ = some (.nx [_, _, _, e3, e4, e5, e6] (M ++ [.lst ((outs n hs ts).map fr)])) at r1
  rw [u_outs_in]
  unfold m_outs_in
  rw [show (Ss.cons (.seti (.var 2) (.var 3) (.call 6 (.cons (.idx (.var 2) (.var 3)) (.cons (.var 6) .nil)))) (.cons (.seti (.var 2) (.var 4) (.call 7 (.cons (.idx (.var 2) (.var 4)) (.cons (.var 6) .nil)))) .nil)) = ouB from rfl]
  rw [← zz] at r1
  clear z g hl hn hz hc b hM zz
  generalize netV n ts = nv at *
  generalize (outs n hs ts).map fr = os at *
  generalize (ts.map fun t => fr (cur hs t)) = cs at *
  generalize ts.map tieV = tv at *
  generalize hs.map fr = hvs at *
  generalize (List.replicate n (0 : Rat)).map fr = zs at *
  generalize ouB = bb at *
  simp -implicitDefEqProofs only [execs, exec, eval, evals, evalI, conds, bnd_some, bnd_none, bifb_t, bifb_f, bifb_d, bifb_b, iff_t, iff_d, nxt_nx, nxt_rt, binop, cmpop, addOp_ii, addOp_tt, addOp_ll, subOp_ii, mulOp_ii, fdivOp_ii, modOp_ii, cmpI_ii, cmpLt_ii, isiM, tru_bl, tru_int, absB_i, intB_i, asM_int, asM_bl, asM_tup, asM_false, isOp_n, isOp_bb, isNon_non, isNon_tup, isNon_int, isNon_bl, isNon_lst, isNon_ref, isNon_rol, isNon_str, isNon_fr, setAll_nil, setAll_cons, bindT_nm, bindT_tp, fin_rt, fin_nx, leave_same, bltOp, idx_tup0, idx_tup1, idx_tup2, idx_tup3, idx_lst0, idx_lst1, idx_lst2, idx_lst3, eqD_ii, eqD_bb, eqD_fr, Option.map_some, Option.map_none, Option.bind_some, List.getElem?_cons_zero, List.getElem?_cons_succ, List.set_cons_zero, List.set_cons_succ, List.length_cons, List.length_nil, if_true, if_false, decide_true, decide_false, Bool.not_true, Bool.not_false, decide_eq_true_eq, sizeL, Nat.reduceAdd, Nat.reduceLeDiff, Nat.zero_add, beq_self_eq_true, seqG_tup, seqG_lst, lenB_tup, lenB_lst, idx_cup0, idx_cup1, setAt0, setAt1, cup, isTy, Bool.false_eq_true, newL_f, newL_t, fin_rtk, List.nil_append, wipeE, Int.reduceNe, Int.reduceEq, Int.reduceLT, Int.reduceLE, Int.reduceAdd, Int.reduceSub, Int.reduceMul, Int.reduceNeg, Int.reduceGT, k_NONE, List.nil_append, *]

/-! ### power, and what the defs answer -/
def cq (D c : Nat) (q : Rat) : Prop := cmn D (c * D) q
theorem cq_add {D c c' : Nat} {p q : Rat} (h : cq D c p) (h' : cq D c' q) : cq D (c + c') (p + q) := (cmn_add h h').mono (by rw [Nat.add_mul]; exact Nat.le_refl _)
theorem cq_sub {D c c' : Nat} {p q : Rat} (h : cq D c p) (h' : cq D c' q) : cq D (c + c') (p - q) := (cmn_sub h h').mono (by rw [Nat.add_mul]; exact Nat.le_refl _)
theorem cq_mul {D D' c c' : Nat} {p q : Rat} (h : cq D c p) (h' : cq D' c' q) : cq (D * D') (c * c') (p * q) := (cmn_mul h h').mono (Nat.le_of_eq (Nat.mul_mul_mul_comm ..))
theorem cq.mono {D c c' : Nat} {p : Rat} (h : cq D c p) (hc : c ≤ c') : cq D c' p := cmn.mono h (Nat.mul_le_mul_right _ hc)
theorem cq_0 (D c : Nat) : cq D c 0 := cmn_0 _ _
theorem cq.up {D c : Nat} {q : Rat} (e : Nat) (h : cq D c q) : cq (D * e) c q := by
  obtain ⟨A, a1, a2⟩ := h
  refine ⟨A * e, ?_, ?_⟩
  · have : ((D * e : Nat) : Rat) = (D : Rat) * (e : Rat) := by exact_mod_cast rfl
    rw [this, Rat.intCast_mul, ← a1]
    show q * ((D : Rat) * (e : Rat)) = q * (D : Rat) * (e : Rat)
    rw [Rat.mul_assoc]
  · rw [Int.natAbs_mul, Int.natAbs_natCast, ← Nat.mul_assoc]
    exact Nat.mul_le_mul_right _ a2
theorem bo_of {D c : Nat} (d : 0 < D) (hd : D ≤ 2 ^ 2600) (hc : c ≤ 2 ^ 1000) (h1 : 1 ≤ c) : Bo D (c * D) := by
  refine ⟨d, Nat.le_mul_of_pos_left _ h1, ?_⟩
  have : c * D ≤ 2 ^ 1000 * 2 ^ 2600 := Nat.mul_le_mul hc hd
  rw [← Nat.pow_add] at this
  exact Nat.lt_of_le_of_lt this (Nat.pow_lt_pow_right (by decide) (by decide))
theorem cq.sm {D c : Nat} {q : Rat} (h : cq D c q) (d : 0 < D) (hd : D ≤ 2 ^ 2600) (hc : c ≤ 2 ^ 1000) : sm 3900 q := by
  by_cases h1 : 1 ≤ c
  · exact (bo_of d hd hc h1).sm h (Nat.le_refl _)
  · exact (bo_of (c := 1) d hd Nat.one_le_two_pow (Nat.le_refl _)).sm h (Nat.mul_le_mul_right _ (by omega))
def sumL (a : Rat) (qs : List Rat) : Rat := qs.foldl (· + ·) a
theorem sumL_cq {D c : Nat} : ∀ (qs : List Rat) {a : Rat} {c0 : Nat}, cq D c0 a → (∀ q ∈ qs, cq D c q) → cq D (c0 + c * qs.length) (sumL a qs)
  | [], a, c0, h, _ => h.mono (Nat.le_add_right _ _)
  | q :: qs, a, c0, h, hq => by
    have := sumL_cq qs (a := a + q) (c0 := c0 + c) (cq_add h (hq q List.mem_cons_self)) fun r hr => hq r (List.mem_cons_of_mem _ hr)
    exact this.mono (by rw [List.length_cons, Nat.mul_add]; omega)
def soB : Ss := (Ss.cons (.set 1 (.call 6 (.cons (.var 1) (.cons (.var 2) .nil)))) .nil)
theorem sum_loop (k : Nat) {D c : Nat} (d : 0 < D) (hd : D ≤ 2 ^ 2600) (M : Mem) (o0 : Option PV) : ∀ (qs : List Rat) (a : Rat) (c0 : Nat) (o2 : Option PV), cq D c0 a → (∀ q ∈ qs, cq D c q) → c0 + c * qs.length ≤ 2 ^ 1000 →
    ∃ o2', forL (.nm 2) [] (execs (callN prog W (k + 3)) W soB) (qs.map fr) [o0, some (fr a), o2] M = some (.nx [o0, some (fr (sumL a qs)), o2'] M)
  | [], a, c0, o2, _, _, _ => ⟨o2, forL_n⟩
  | q :: qs, a, c0, o2, h, hq, hc => by
    rw [List.length_cons, Nat.mul_add] at hc
    have hq1 := hq q List.mem_cons_self
    have f1 := fun k => sum_of_ok k M (h.sm d hd (by omega)) (hq1.sm d hd (by omega)) (by decide)
    obtain ⟨o2', e⟩ := sum_loop k d hd M o0 qs (a + q) (c0 + c) (some (fr q)) (cq_add h hq1) (fun r hr => hq r (List.mem_cons_of_mem _ hr)) (by omega)
    refine ⟨o2', ?_⟩
    have s1 : execs (callN prog W (k + 3)) W soB [o0, some (fr a), some (fr q)] M = some (.nx [o0, some (fr (a + q)), some (fr q)] M) := by
      unfold soB
      clear h hq hc hq1 e
      simp -implicitDefEqProofs only [execs, exec, eval, evals, evalI, conds, bnd_some, bnd_none, bifb_t, bifb_f, bifb_d, bifb_b, iff_t, iff_d, nxt_nx, nxt_rt, binop, cmpop, addOp_ii, addOp_tt, addOp_ll, subOp_ii, mulOp_ii, fdivOp_ii, modOp_ii, cmpI_ii, cmpLt_ii, isiM, tru_bl, tru_int, absB_i, intB_i, asM_int, asM_bl, asM_tup, asM_false, isOp_n, isOp_bb, isNon_non, isNon_tup, isNon_int, isNon_bl, isNon_lst, isNon_ref, isNon_rol, isNon_str, isNon_fr, setAll_nil, setAll_cons, bindT_nm, bindT_tp, fin_rt, fin_nx, leave_same, bltOp, idx_tup0, idx_tup1, idx_tup2, idx_tup3, idx_lst0, idx_lst1, idx_lst2, idx_lst3, eqD_ii, eqD_bb, eqD_fr, Option.map_some, Option.map_none, Option.bind_some, List.getElem?_cons_zero, List.getElem?_cons_succ, List.set_cons_zero, List.set_cons_succ, List.length_cons, List.length_nil, if_true, if_false, decide_true, decide_false, Bool.not_true, Bool.not_false, decide_eq_true_eq, sizeL, Nat.reduceAdd, Nat.reduceLeDiff, Nat.zero_add, beq_self_eq_true, seqG_tup, seqG_lst, lenB_tup, lenB_lst, idx_cup0, idx_cup1, setAt0, setAt1, cup, isTy, Bool.false_eq_true, newL_f, newL_t, fin_rtk, List.nil_append, wipeE, Int.reduceNe, Int.reduceEq, Int.reduceLT, Int.reduceLE, Int.reduceAdd, Int.reduceSub, Int.reduceMul, Int.reduceNeg, Int.reduceGT, *]
    show forL _ _ _ (fr q :: qs.map fr) _ _ = _
    rw [forL_c, bindT_nm, Option.bind_some]
    show nxt (execs (callN prog W (k + 3)) W soB [o0, some (fr a), some (fr q)] M) _ = _
    rw [s1, nxt_nx]
    exact e
theorem sum_over_ok (k : Nat) {D c : Nat} (d : 0 < D) (hd : D ≤ 2 ^ 2600) (M : Mem) {qs : List Rat} (hq : ∀ q ∈ qs, cq D c q) (hc : c * qs.length ≤ 2 ^ 1000) : callN prog W (k + 4) 11 [.lst (qs.map fr)] M = some (fr (sumL 0 qs), M) := by
  obtain ⟨o2, e⟩ := sum_loop k d hd M (some (.lst (qs.map fr))) qs 0 0 none (cq_0 _ _) hq (by omega)
  rw [u_sum_over]
  unfold m_sum_over
  rw [show (Ss.cons (.set 1 (.call 6 (.cons (.var 1) (.cons (.var 2) .nil)))) .nil) = soB from rfl]
  clear hq hc
  rw [z0_fr] at e
  unfold z0 at e
  generalize qs.map fr = qv at *
  generalize soB = bb at *
  simp -implicitDefEqProofs only [execs, exec, eval, evals, evalI, conds, bnd_some, bnd_none, bifb_t, bifb_f, bifb_d, bifb_b, iff_t, iff_d, nxt_nx, nxt_rt, binop, cmpop, addOp_ii, addOp_tt, addOp_ll, subOp_ii, mulOp_ii, fdivOp_ii, modOp_ii, cmpI_ii, cmpLt_ii, isiM, tru_bl, tru_int, absB_i, intB_i, asM_int, asM_bl, asM_tup, asM_false, isOp_n, isOp_bb, isNon_non, isNon_tup, isNon_int, isNon_bl, isNon_lst, isNon_ref, isNon_rol, isNon_str, isNon_fr, setAll_nil, setAll_cons, bindT_nm, bindT_tp, fin_rt, fin_nx, leave_same, bltOp, idx_tup0, idx_tup1, idx_tup2, idx_tup3, idx_lst0, idx_lst1, idx_lst2, idx_lst3, eqD_ii, eqD_bb, eqD_fr, Option.map_some, Option.map_none, Option.bind_some, List.getElem?_cons_zero, List.getElem?_cons_succ, List.set_cons_zero, List.set_cons_succ, List.length_cons, List.length_nil, if_true, if_false, decide_true, decide_false, Bool.not_true, Bool.not_false, decide_eq_true_eq, sizeL, Nat.reduceAdd, Nat.reduceLeDiff, Nat.zero_add, beq_self_eq_true, seqG_tup, seqG_lst, lenB_tup, lenB_lst, idx_cup0, idx_cup1, setAt0, setAt1, cup, isTy, Bool.false_eq_true, newL_f, newL_t, fin_rtk, List.nil_append, wipeE, Int.reduceNe, Int.reduceEq, Int.reduceLT, Int.reduceLE, Int.reduceAdd, Int.reduceSub, Int.reduceMul, Int.reduceNeg, Int.reduceGT, k_NONE, *]
/-- all that lets a net and its heights be reckoned -/
structure Rd (n D c : Nat) (ts : List Tie) (hs : List Rat) : Prop where
  net : NetK n ts
  hl : hs.length = n
  hk : ∀ q ∈ hs, Hk q
  z : Sz 140 hs ts
  d : 0 < D
  dl : D ≤ 2 ^ 2000
  c1 : 1 ≤ c
  cl : c ≤ 2 ^ 900
  cu : ∀ t ∈ ts, cq D c (cur hs t)
  pw : ∀ t ∈ ts, cq D c (cur hs t * fall hs t)
theorem Rd.dl' {n D c : Nat} {ts : List Tie} {hs : List Rat} (r : Rd n D c ts hs) : D ≤ 2 ^ 2600 := Nat.le_trans r.dl (Nat.pow_le_pow_right (by decide) (by decide))
def pws (hs : List Rat) (ts : List Tie) : List Rat := ts.map fun t => cur hs t * fall hs t
theorem big_mul {c n : Nat} (hc : c ≤ 2 ^ 900) (hn : n ≤ 100) : c * n ≤ 2 ^ 907 := by
  have : c * n ≤ 2 ^ 900 * 2 ^ 7 := Nat.mul_le_mul hc (Nat.le_trans hn (by decide))
  rw [← Nat.pow_add] at this
  exact this
theorem pow_907 : (2 : Nat) ^ 907 + 2 ^ 907 ≤ 2 ^ 1000 := by
  have : (2 : Nat) ^ 907 + 2 ^ 907 = 2 ^ 908 := by rw [show 908 = 907 + 1 from rfl, Nat.pow_succ]; omega
  rw [this]
  exact Nat.pow_le_pow_right (by decide) (by decide)
def flE : E := (E.call 7 (.cons (.idx (.var 1) (.var 3)) (.cons (.idx (.var 1) (.var 4)) .nil)))
def prE : E := (E.call 8 (.cons (.var 6) (.cons (.var 7) .nil)))
theorem power_in_ok (k : Nat) {n D c : Nat} {ts : List Tie} {hs : List Rat} (r : Rd n D c ts hs) (M : Mem) : callN prog W (k + 5) 21 [netV n ts, .tup (hs.map fr)] M = some (fr (sumL 0 (pws hs ts)), M) := by
  have hl := r.hl
  have hz := r.net.l
  have L1 : lcL (.tp [3, 4, 5]) [] (fun _ M => some (true, M)) (eval (callN prog W (k + 4)) flE) [some (netV n ts), some (.tup (hs.map fr)), none, none, none, none, none, none] (ts.map tieV) [] M = some (ts.map fun t => fr (fall hs t), M) := by
    rw [lcL_of tieV (fun t => fr (fall hs t))]
    · rfl
    · intro t ht
      refine ⟨[some (netV n ts), some (.tup (hs.map fr)), none, some (.int t.1.1), some (.int t.1.2), some (fr t.2), none, none], rfl, ?_⟩
      obtain ⟨-, -, f1, -, -⟩ := tie_calls r.z (by decide) hl ht (r.net.ok t ht)
      have ga := (r.net.ok t ht).a
      have gb := (r.net.ok t ht).b
      have gc := (r.net.ok t ht).c
      have i1 := fun M => idx_hs M hs (i := t.1.1) ga (by omega)
      have i2 := fun M => idx_hs M hs (i := t.1.2) (by omega) (by omega)
      have f1 := fun k => f1 k M
      unfold flE
      clear r ht ga gb gc hl
      generalize netV n ts = nv at *
      generalize hs.map fr = hvs at *
      generalize fall hs t = fl at *
      generalize hv hs t.1.1 = h1 at *
      generalize hv hs t.1.2 = h2 at *
      simp -implicitDefEqProofs only [execs, exec, eval, evals, evalI, conds, bnd_some, bnd_none, bifb_t, bifb_f, bifb_d, bifb_b, iff_t, iff_d, nxt_nx, nxt_rt, binop, cmpop, addOp_ii, addOp_tt, addOp_ll, subOp_ii, mulOp_ii, fdivOp_ii, modOp_ii, cmpI_ii, cmpLt_ii, isiM, tru_bl, tru_int, absB_i, intB_i, asM_int, asM_bl, asM_tup, asM_false, isOp_n, isOp_bb, isNon_non, isNon_tup, isNon_int, isNon_bl, isNon_lst, isNon_ref, isNon_rol, isNon_str, isNon_fr, setAll_nil, setAll_cons, bindT_nm, bindT_tp, fin_rt, fin_nx, leave_same, bltOp, idx_tup0, idx_tup1, idx_tup2, idx_tup3, idx_lst0, idx_lst1, idx_lst2, idx_lst3, eqD_ii, eqD_bb, eqD_fr, Option.map_some, Option.map_none, Option.bind_some, List.getElem?_cons_zero, List.getElem?_cons_succ, List.set_cons_zero, List.set_cons_succ, List.length_cons, List.length_nil, if_true, if_false, decide_true, decide_false, Bool.not_true, Bool.not_false, decide_eq_true_eq, sizeL, Nat.reduceAdd, Nat.reduceLeDiff, Nat.zero_add, beq_self_eq_true, seqG_tup, seqG_lst, lenB_tup, lenB_lst, idx_cup0, idx_cup1, setAt0, setAt1, cup, isTy, Bool.false_eq_true, newL_f, newL_t, fin_rtk, List.nil_append, wipeE, Int.reduceNe, Int.reduceEq, Int.reduceLT, Int.reduceLE, Int.reduceAdd, Int.reduceSub, Int.reduceMul, Int.reduceNeg, Int.reduceGT, *]
  have L2 : lcL (.tp [6, 7]) [] (fun _ M => some (true, M)) (eval (callN prog W (k + 4)) prE) [some (netV n ts), some (.tup (hs.map fr)), some (.lst (ts.map fun t => fr (fall hs t))), none, none, none, none, none] (ts.map fun t => PV.tup [fr (cur hs t), fr (fall hs t)]) [] M = some (ts.map fun t => fr (cur hs t * fall hs t), M) := by
    rw [lcL_of (fun t => PV.tup [fr (cur hs t), fr (fall hs t)]) (fun t => fr (cur hs t * fall hs t))]
    · rfl
    · intro t ht
      refine ⟨[some (netV n ts), some (.tup (hs.map fr)), some (.lst (ts.map fun t => fr (fall hs t))), none, none, none, some (fr (cur hs t)), some (fr (fall hs t))], rfl, ?_⟩
      obtain ⟨-, -, -, -, f1⟩ := tie_calls r.z (by decide) hl ht (r.net.ok t ht)
      have f1 := fun k => f1 k M
      unfold prE
      clear r ht hl
      generalize netV n ts = nv at *
      generalize hs.map fr = hvs at *
      generalize cur hs t * fall hs t = cf at *
      generalize fall hs t = fl at *
      generalize cur hs t = c at *
      simp -implicitDefEqProofs only [execs, exec, eval, evals, evalI, conds, bnd_some, bnd_none, bifb_t, bifb_f, bifb_d, bifb_b, iff_t, iff_d, nxt_nx, nxt_rt, binop, cmpop, addOp_ii, addOp_tt, addOp_ll, subOp_ii, mulOp_ii, fdivOp_ii, modOp_ii, cmpI_ii, cmpLt_ii, isiM, tru_bl, tru_int, absB_i, intB_i, asM_int, asM_bl, asM_tup, asM_false, isOp_n, isOp_bb, isNon_non, isNon_tup, isNon_int, isNon_bl, isNon_lst, isNon_ref, isNon_rol, isNon_str, isNon_fr, setAll_nil, setAll_cons, bindT_nm, bindT_tp, fin_rt, fin_nx, leave_same, bltOp, idx_tup0, idx_tup1, idx_tup2, idx_tup3, idx_lst0, idx_lst1, idx_lst2, idx_lst3, eqD_ii, eqD_bb, eqD_fr, Option.map_some, Option.map_none, Option.bind_some, List.getElem?_cons_zero, List.getElem?_cons_succ, List.set_cons_zero, List.set_cons_succ, List.length_cons, List.length_nil, if_true, if_false, decide_true, decide_false, Bool.not_true, Bool.not_false, decide_eq_true_eq, sizeL, Nat.reduceAdd, Nat.reduceLeDiff, Nat.zero_add, beq_self_eq_true, seqG_tup, seqG_lst, lenB_tup, lenB_lst, idx_cup0, idx_cup1, setAt0, setAt1, cup, isTy, Bool.false_eq_true, newL_f, newL_t, fin_rtk, List.nil_append, wipeE, Int.reduceNe, Int.reduceEq, Int.reduceLT, Int.reduceLE, Int.reduceAdd, Int.reduceSub, Int.reduceMul, Int.reduceNeg, Int.reduceGT, *]
  have C := fun k => currents_in_ok k r.z (by decide) hl r.net.ok (by omega) M
  have S := fun k => sum_over_ok k r.d r.dl' M (qs := pws hs ts) (c := c) (fun q hq => by
    obtain ⟨t, ht, rfl⟩ := List.mem_map.mp hq
    exact r.pw t ht) (by
    unfold pws
    rw [List.length_map]
    have := big_mul (n := ts.length) r.cl (by omega)
    have := pow_907
    omega)
  have e1 : (pws hs ts).map fr = ts.map fun t => fr (cur hs t * fall hs t) := by
    unfold pws
    rw [List.map_map]; rfl
  rw [e1] at S
  have zz : zipP (ts.map fun t => fr (cur hs t)) (ts.map fun t => fr (fall hs t)) = ts.map fun t => PV.tup [fr (cur hs t), fr (fall hs t)] := zipP_map _ _ _
  have i1 : ∀ M, idxOp M (netV n ts) (.int 1) = some (.tup (ts.map tieV)) := fun M => idx_tup1 _ _ _ _
  have z1 : (ts.map fun t => fr (fall hs t)).length ≤ 16777216 := by rw [List.length_map]; omega
  have z2 : (ts.map fun t => fr (cur hs t * fall hs t)).length ≤ 16777216 := by rw [List.length_map]; omega
  rw [u_power_in]
  unfold m_power_in
  rw [show (E.call 7 (.cons (.idx (.var 1) (.var 3)) (.cons (.idx (.var 1) (.var 4)) .nil))) = flE from rfl, show (E.call 8 (.cons (.var 6) (.cons (.var 7) .nil))) = prE from rfl]
  clear r hl hz e1
  generalize netV n ts = nv at *
  generalize (ts.map fun t => PV.tup [fr (cur hs t), fr (fall hs t)]) = zs at *
  generalize (ts.map fun t => fr (cur hs t * fall hs t)) = ps at *
  generalize (ts.map fun t => fr (cur hs t)) = cs at *
  generalize (ts.map fun t => fr (fall hs t)) = fs at *
  generalize sumL 0 (pws hs ts) = su at *
  generalize ts.map tieV = tv at *
  generalize hs.map fr = hvs at *
  generalize flE = e1 at *
  generalize prE = e2 at *
  simp -implicitDefEqProofs only [execs, exec, eval, evals, evalI, conds, bnd_some, bnd_none, bifb_t, bifb_f, bifb_d, bifb_b, iff_t, iff_d, nxt_nx, nxt_rt, binop, cmpop, addOp_ii, addOp_tt, addOp_ll, subOp_ii, mulOp_ii, fdivOp_ii, modOp_ii, cmpI_ii, cmpLt_ii, isiM, tru_bl, tru_int, absB_i, intB_i, asM_int, asM_bl, asM_tup, asM_false, isOp_n, isOp_bb, isNon_non, isNon_tup, isNon_int, isNon_bl, isNon_lst, isNon_ref, isNon_rol, isNon_str, isNon_fr, setAll_nil, setAll_cons, bindT_nm, bindT_tp, fin_rt, fin_nx, leave_same, bltOp, idx_tup0, idx_tup1, idx_tup2, idx_tup3, idx_lst0, idx_lst1, idx_lst2, idx_lst3, eqD_ii, eqD_bb, eqD_fr, Option.map_some, Option.map_none, Option.bind_some, List.getElem?_cons_zero, List.getElem?_cons_succ, List.set_cons_zero, List.set_cons_succ, List.length_cons, List.length_nil, if_true, if_false, decide_true, decide_false, Bool.not_true, Bool.not_false, decide_eq_true_eq, sizeL, Nat.reduceAdd, Nat.reduceLeDiff, Nat.zero_add, beq_self_eq_true, seqG_tup, seqG_lst, lenB_tup, lenB_lst, idx_cup0, idx_cup1, setAt0, setAt1, cup, isTy, Bool.false_eq_true, newL_f, newL_t, fin_rtk, List.nil_append, wipeE, Int.reduceNe, Int.reduceEq, Int.reduceLT, Int.reduceLE, Int.reduceAdd, Int.reduceSub, Int.reduceMul, Int.reduceNeg, Int.reduceGT, conds, *]
theorem currents_of_ok (k : Nat) {n D c : Nat} {ts : List Tie} {hs : List Rat} (r : Rd n D c ts hs) (M : Mem) : callN prog W (k + 6) 29 [netV n ts, .tup (hs.map fr)] M = some (.tup (ts.map fun t => fr (cur hs t)), M) := by
  have f1 := fun k => need_net_ok k r.net M
  have f2 := fun k => need_heights_ok (ts := ts) k r.hl r.net.n2 r.hk M
  have f3 := fun k => currents_in_ok k r.z (by decide) r.hl r.net.ok (by have := r.net.l; omega) M
  rw [u_currents_of]
  unfold m_currents_of
  clear r
  generalize netV n ts = nv at *
  walk_at "evf"
theorem outs_of_ok (k : Nat) {n D c : Nat} {ts : List Tie} {hs : List Rat} (r : Rd n D c ts hs) (M : Mem) (hM : M.all (cellUnder M.length) = true) : callN prog W (k + 6) 30 [netV n ts, .tup (hs.map fr)] M = some (.tup ((outs n hs ts).map fr), M) := by
  have f1 := fun k => need_net_ok k r.net M
  have f2 := fun k => need_heights_ok (ts := ts) k r.hl r.net.n2 r.hk M
  have hz := r.net.l
  have hn := r.net.n2
  have f3 := fun k => outs_in_ok k (D := D) (C := c * D) r.z (by decide) r.hl (by omega) r.net.ok (by omega) r.cu (by
    have e : D + c * D * ts.length = (1 + c * ts.length) * D := by rw [Nat.add_mul, Nat.one_mul, Nat.mul_right_comm]
    rw [e]
    refine bo_of r.d r.dl' ?_ (by omega)
    have := big_mul (n := ts.length) r.cl (by omega)
    have := pow_907
    have : 1 ≤ 2 ^ 907 := Nat.one_le_two_pow
    omega) M hM
  rw [u_outs_of]
  unfold m_outs_of
  clear r hz hn hM
  generalize netV n ts = nv at *
  walk_at "evf"
theorem power_of_ok (k : Nat) {n D c : Nat} {ts : List Tie} {hs : List Rat} (r : Rd n D c ts hs) (M : Mem) : callN prog W (k + 6) 31 [netV n ts, .tup (hs.map fr)] M = some (fr (sumL 0 (pws hs ts)), M) := by
  have f1 := fun k => need_net_ok k r.net M
  have f2 := fun k => need_heights_ok (ts := ts) k r.hl r.net.n2 r.hk M
  have f3 := fun k => power_in_ok k r M
  rw [u_power_of]
  unfold m_power_of
  clear r
  generalize netV n ts = nv at *
  walk_at "evf"

/-! ### the plain law of nets -/
theorem mul_den (q : Rat) : q * (q.den : Rat) = (q.num : Rat) := by
  have h := Rat.num_divInt_den q
  rw [Rat.divInt_eq_div] at h
  have h0 : ((q.den : Nat) : Rat) ≠ 0 := by
    intro z
    have : q.den = 0 := by exact_mod_cast z
    exact q.den_nz this
  have e : (((q.den : Nat) : Int) : Rat) = (q.den : Rat) := rfl
  rw [e] at h
  grind
theorem nbs_den (s : Nat) (h1 : 1 ≤ s) : ∀ qs : List Rat, (∀ q ∈ qs, nb s q) → ∃ D, 0 < D ∧ D ≤ s ^ qs.length ∧ ∀ q ∈ qs, cq D s q
  | [], _ => ⟨1, by decide, Nat.one_le_two_pow (n := 0), fun q hq => by cases hq⟩
  | q :: qs, h => by
    obtain ⟨D, d0, d1, d2⟩ := nbs_den s h1 qs fun r hr => h r (List.mem_cons_of_mem _ hr)
    obtain ⟨n1, n2⟩ := h q List.mem_cons_self
    have hq : cq q.den s q := by
      refine ⟨q.num, ?_, ?_⟩
      · exact mul_den q
      · exact Nat.le_trans n1 (Nat.le_mul_of_pos_right _ q.den_pos)
    refine ⟨D * q.den, Nat.mul_pos d0 q.den_pos, ?_, fun r hr => ?_⟩
    · rw [List.length_cons, Nat.pow_succ]
      exact Nat.mul_le_mul d1 n2
    · rcases List.mem_cons.mp hr with rfl | hr
      · have := hq.up D
        rw [Nat.mul_comm] at this
        exact this
      · exact (d2 r hr).up _
theorem rd_of {n S s : Nat} {ts : List Tie} {hs : List Rat} (net : NetK n ts) (hl : hs.length = n) (hS : S ≤ 2 ^ 40) (hs2 : s ≤ 2 ^ 4) (hS1 : 1 ≤ S) (hs1 : 1 ≤ s) (hq : ∀ q ∈ hs, nb S q) (ht : ∀ t ∈ ts, nb s t.2) : ∃ D c Dh, Rd n D c ts hs ∧ 0 < Dh ∧ Dh ≤ 2 ^ 480 ∧ (∀ q ∈ hs, cq Dh S q) ∧ ∃ Dt, D = Dt * Dh * Dh := by
  obtain ⟨Dh, h0, h1, h2⟩ := nbs_den S hS1 hs hq
  obtain ⟨Dt, t0, t1, t2⟩ := nbs_den s hs1 (ts.map (·.2)) fun q hq => by
    obtain ⟨t, h, rfl⟩ := List.mem_map.mp hq
    exact ht t h
  have hh : Dh ≤ 2 ^ 480 := by
    refine Nat.le_trans h1 (Nat.le_trans (Nat.pow_le_pow_left hS _) ?_)
    rw [← Nat.pow_mul]
    exact Nat.pow_le_pow_right (by decide) (by have := net.n2; omega)
  have hh2 : Dt ≤ 2 ^ 264 := by
    refine Nat.le_trans t1 (Nat.le_trans (Nat.pow_le_pow_left hs2 _) ?_)
    rw [← Nat.pow_mul]
    exact Nat.pow_le_pow_right (by decide) (by have := net.l; rw [List.length_map]; omega)
  have F : ∀ t ∈ ts, cq Dh (S + S) (fall hs t) := fun t h => by
    have g := net.ok t h
    have ga := g.a
    have gb := g.b
    have gc := g.c
    exact cq_sub (h2 _ (hv_mem ga (by omega))) (h2 _ (hv_mem (by omega) (by omega)))
  have T : ∀ t ∈ ts, cq Dt s t.2 := fun t h => t2 _ (List.mem_map.mpr ⟨t, h, rfl⟩)
  have e41 : S + S ≤ 2 ^ 41 := by
    have : (2 : Nat) ^ 41 = 2 ^ 40 + 2 ^ 40 := by decide
    omega
  have cs : s * (S + S) ≤ 2 ^ 45 := Nat.le_trans (Nat.mul_le_mul hs2 e41) (by decide)
  have bS : S < 2 ^ 140 := Nat.lt_of_le_of_lt hS (by decide)
  have bs : s < 2 ^ 140 := Nat.lt_of_le_of_lt hs2 (by decide)
  have e10 : (2 : Nat) ^ 40 < 10000000000000000000000000000000000000000 := by decide
  refine ⟨Dt * Dh * Dh, 2 ^ 86, Dh, ⟨net, hl, fun q h => ?_, ⟨fun q h => (hq q h).sm bS, fun t h => (ht t h).sm bs⟩, Nat.mul_pos (Nat.mul_pos t0 h0) h0, ?_, Nat.one_le_two_pow, Nat.pow_le_pow_right (by decide) (by decide), fun t h => ?_, fun t h => ?_⟩, h0, hh, h2, Dt, rfl⟩
  · obtain ⟨n1, n2⟩ := hq q h
    exact ⟨by omega, by omega, by omega⟩
  · have := Nat.mul_le_mul (Nat.mul_le_mul hh2 hh) hh
    rw [← Nat.pow_add, ← Nat.pow_add] at this
    exact Nat.le_trans this (Nat.pow_le_pow_right (by decide) (by decide))
  · exact ((cq_mul (T t h) (F t h)).up Dh).mono (Nat.le_trans cs (Nat.pow_le_pow_right (by decide) (by decide)))
  · refine (cq_mul (cq_mul (T t h) (F t h)) (F t h)).mono ?_
    have := Nat.mul_le_mul cs e41
    rw [← Nat.pow_add] at this
    exact this
/-! what goes out of each node -/
def upN (i : Int) (t : Tie) (a c : Rat) : Rat := if i = t.1.1 then a + c else if i = t.1.2 then a - c else a
def outN (i : Int) (a : Rat) (L : List (Tie × Rat)) : Rat := L.foldl (fun a p => upN i p.1 a p.2) a
theorem hv_self {fs : List Rat} {i : Int} (x : Rat) (hi : 0 ≤ i) (hl : i < fs.length) : hv (fs.set i.toNat x) i = x := by
  unfold hv
  rw [List.getD_eq_getElem?_getD, List.getElem?_set_self (by omega)]
  rfl
theorem hv_upO {fs : List Rat} {n : Nat} {t : Tie} (g : Tk n t) (hl : fs.length = n) (c : Rat) {i : Int} (hi : 0 ≤ i) : hv (upO fs t c) i = upN i t (hv fs i) c := by
  have ga := g.a
  have gb := g.b
  have gc := g.c
  unfold upO upN
  by_cases e1 : i = t.1.1
  · rw [if_pos e1, e1, hv_set _ (by omega) ga (by omega), hv_self _ ga (by omega)]
  · rw [if_neg e1]
    by_cases e2 : i = t.1.2
    · rw [if_pos e2, e2, hv_self _ (by omega) (by rw [List.length_set]; omega)]
    · rw [if_neg e2, hv_set _ (by omega) hi (by omega), hv_set _ ga hi (by omega)]
theorem hv_outF {n : Nat} {i : Int} (hi : 0 ≤ i) : ∀ (L : List (Tie × Rat)) {fs : List Rat}, (∀ p ∈ L, Tk n p.1) → fs.length = n → hv (outF fs L) i = outN i (hv fs i) L
  | [], fs, _, _ => rfl
  | p :: L, fs, h, hl => by
    show hv (outF (upO fs p.1 p.2) L) i = outN i (upN i p.1 (hv fs i) p.2) L
    rw [hv_outF hi L (fun q hq => h q (List.mem_cons_of_mem _ hq)) (by rw [upO_len]; exact hl), hv_upO (h p List.mem_cons_self) hl _ hi]
theorem hv_rep (n : Nat) (q : Rat) {i : Int} (h0 : 0 ≤ i) (h1 : i < n) : hv (List.replicate n q) i = q := by
  unfold hv
  rw [List.getD_eq_getElem?_getD, List.getElem?_replicate, if_pos (by omega)]
  rfl
/-- the law's own outs -/
def outsL (n : Nat) (L : List (Tie × Rat)) : List Rat := (List.range n).map fun i => outN (i : Nat) 0 L
def curP (hs : List Rat) (ts : List Tie) : List (Tie × Rat) := ts.map fun t => (t, cur hs t)
theorem ext_hv {n : Nat} {xs ys : List Rat} (h1 : xs.length = n) (h2 : ys.length = n) (h : ∀ i : Nat, i < n → hv xs (i : Nat) = hv ys (i : Nat)) : xs = ys := by
  apply List.ext_getElem (by rw [h1, h2])
  intro i a b
  have := h i (by omega)
  unfold hv at this
  rw [Int.toNat_natCast, List.getD_eq_getElem?_getD, List.getD_eq_getElem?_getD, List.getElem?_eq_getElem a, List.getElem?_eq_getElem b] at this
  exact this
theorem hv_range (n : Nat) (f : Nat → Rat) {i : Nat} (h : i < n) : hv ((List.range n).map f) (i : Nat) = f i := by
  unfold hv
  rw [Int.toNat_natCast, List.getD_eq_getElem?_getD, List.getElem?_map, List.getElem?_range h]
  rfl
theorem outs_law {n : Nat} {ts : List Tie} {hs : List Rat} (g : ∀ t ∈ ts, Tk n t) : outs n hs ts = outsL n (curP hs ts) := by
  refine ext_hv (n := n) ?_ ?_ fun i hi => ?_
  · unfold outs
    rw [outF_len, List.length_replicate]
  · unfold outsL
    rw [List.length_map, List.length_range]
  · unfold outs outsL
    rw [hv_outF (n := n) (by omega) _ (fun p hp => by
      obtain ⟨t, ht, rfl⟩ := List.mem_map.mp hp
      exact g t ht) (List.length_replicate ..), hv_rep _ _ (by omega) (by omega), hv_range n _ hi]
    rfl
/-! sums over nodes -/
def dot (xs ys : List Rat) : Rat := ((xs.zip ys).map fun p => p.1 * p.2).foldl (· + ·) 0
def dotA (a : Rat) (xs ys : List Rat) : Rat := (xs.zip ys).foldl (fun a p => a + p.1 * p.2) a
theorem dotA_a : ∀ (xs ys : List Rat) (a : Rat), dotA a xs ys = a + dotA 0 xs ys
  | [], ys, a => by show a = a + 0; rw [Rat.add_zero]
  | x :: xs, [], a => by show a = a + 0; rw [Rat.add_zero]
  | x :: xs, y :: ys, a => by
    show dotA (a + x * y) xs ys = a + dotA (0 + x * y) xs ys
    rw [dotA_a xs ys (a + x * y), dotA_a xs ys (0 + x * y), Rat.zero_add, Rat.add_assoc]
theorem dot_set : ∀ (xs ys : List Rat) (i : Nat) (y : Rat), xs.length = ys.length → i < ys.length → dotA 0 xs (ys.set i y) = dotA 0 xs ys + xs.getD i 0 * (y - ys.getD i 0)
  | [], [], i, y, _, h => by cases h
  | x :: xs, z :: ys, 0, y, _, _ => by
    show dotA (0 + x * y) xs ys = dotA (0 + x * z) xs ys + x * (y - z)
    rw [dotA_a, dotA_a xs ys (0 + x * z)]
    grind
  | x :: xs, z :: ys, i + 1, y, hl, h => by
    show dotA (0 + x * z) xs (ys.set i y) = dotA (0 + x * z) xs ys + xs.getD i 0 * (y - ys.getD i 0)
    rw [dotA_a, dotA_a xs ys (0 + x * z), dot_set xs ys i y (by rw [List.length_cons, List.length_cons] at hl; omega) (by rw [List.length_cons] at h; omega), ← Rat.add_assoc]
theorem dot_upO {n : Nat} {xs fs : List Rat} {t : Tie} (g : Tk n t) (hx : xs.length = n) (hl : fs.length = n) (c : Rat) : dotA 0 xs (upO fs t c) = dotA 0 xs fs + (hv xs t.1.1 - hv xs t.1.2) * c := by
  have ga := g.a
  have gb := g.b
  have gc := g.c
  unfold upO
  have e2 := hv_set (fs := fs) (i := t.1.1) (j := t.1.2) (hv fs t.1.1 + c) ga (by omega) (by omega)
  rw [dot_set _ _ _ _ (by rw [List.length_set]; omega) (by rw [List.length_set]; omega), dot_set _ _ _ _ (by omega) (by omega)]
  have e3 : (fs.set t.1.1.toNat (hv fs t.1.1 + c)).getD t.1.2.toNat 0 = hv fs t.1.2 := e2
  rw [e3]
  show _ + hv xs t.1.1 * (hv fs t.1.1 + c - hv fs t.1.1) + hv xs t.1.2 * (hv fs t.1.2 - c - hv fs t.1.2) = _
  grind
theorem dot_outF {n : Nat} {xs : List Rat} (hx : xs.length = n) : ∀ (L : List (Tie × Rat)) {fs : List Rat}, (∀ p ∈ L, Tk n p.1) → fs.length = n → dotA 0 xs (outF fs L) = L.foldl (fun a p => a + (hv xs p.1.1.1 - hv xs p.1.1.2) * p.2) (dotA 0 xs fs)
  | [], fs, _, _ => rfl
  | p :: L, fs, h, hl => by
    show dotA 0 xs (outF (upO fs p.1 p.2) L) = L.foldl _ (dotA 0 xs fs + (hv xs p.1.1.1 - hv xs p.1.1.2) * p.2)
    rw [dot_outF hx L (fun q hq => h q (List.mem_cons_of_mem _ hq)) (by rw [upO_len]; exact hl), dot_upO (h p List.mem_cons_self) hx hl]
theorem dot_zero (xs : List Rat) : ∀ n, dotA 0 xs (List.replicate n 0) = 0 := fun n => by
  induction n generalizing xs with
  | zero => cases xs <;> rfl
  | succ n ih =>
    cases xs with
    | nil => rfl
    | cons x xs =>
      show dotA (0 + x * 0) xs (List.replicate n 0) = 0
      rw [Rat.mul_zero, Rat.add_zero]
      exact ih xs
theorem one_dot : ∀ (ys : List Rat) (n : Nat) (a : Rat), ys.length = n → dotA a (List.replicate n 1) ys = sumL a ys
  | [], 0, a, _ => rfl
  | y :: ys, n + 1, a, h => by
    show dotA (a + 1 * y) (List.replicate n 1) ys = sumL (a + y) ys
    rw [Rat.one_mul]
    exact one_dot ys n (a + y) (by rw [List.length_cons] at h; omega)
theorem fold_zero {L : List (Tie × Rat)} (f : Tie × Rat → Rat) (h : ∀ p ∈ L, f p = 0) (a : Rat) : L.foldl (fun a p => a + f p) a = a := by
  induction L generalizing a with
  | nil => rfl
  | cons p L ih =>
    show L.foldl _ (a + f p) = a
    rw [h p List.mem_cons_self, Rat.add_zero]
    exact ih (fun q hq => h q (List.mem_cons_of_mem _ hq)) a
theorem curP_ok {n : Nat} {ts : List Tie} {hs : List Rat} (g : ∀ t ∈ ts, Tk n t) : ∀ p ∈ curP hs ts, Tk n p.1 := fun p hp => by
  obtain ⟨t, ht, rfl⟩ := List.mem_map.mp hp
  exact g t ht
/-- all that goes out comes in -/
theorem outs_sum {n : Nat} {ts : List Tie} {hs : List Rat} (g : ∀ t ∈ ts, Tk n t) : sumL 0 (outs n hs ts) = 0 := by
  rw [← one_dot (outs n hs ts) n 0 (by unfold outs; rw [outF_len, List.length_replicate])]
  unfold outs
  change dotA 0 _ (outF _ (curP hs ts)) = 0
  rw [dot_outF (List.length_replicate ..) _ (curP_ok g) (List.length_replicate ..), dot_zero, fold_zero]
  intro p hp
  have t := curP_ok g p hp
  have ga := t.a
  have gb := t.b
  have gc := t.c
  rw [hv_rep _ _ (by omega) (by omega), hv_rep _ _ (by omega) (by omega), Rat.sub_self, Rat.zero_mul]
/-- what heights give to what goes out -/
theorem outs_dot {n : Nat} {ts : List Tie} {hs : List Rat} (hl : hs.length = n) (g : ∀ t ∈ ts, Tk n t) : dotA 0 hs (outs n hs ts) = sumL 0 (pws hs ts) := by
  unfold outs
  change dotA 0 _ (outF _ (curP hs ts)) = _
  rw [dot_outF hl _ (curP_ok g) (List.length_replicate ..), dot_zero]
  unfold curP sumL pws
  rw [List.foldl_map, List.foldl_map]
  congr 1
  funext a t
  show a + fall hs t * cur hs t = a + cur hs t * fall hs t
  rw [Rat.mul_comm]
/-! flat heights -/
theorem fall_flat {n : Nat} {t : Tie} (g : Tk n t) (q : Rat) : fall (List.replicate n q) t = 0 := by
  have ga := g.a
  have gb := g.b
  have gc := g.c
  unfold fall
  rw [hv_rep _ _ (by omega) (by omega), hv_rep _ _ (by omega) (by omega), Rat.sub_self]
theorem cur_flat {n : Nat} {t : Tie} (g : Tk n t) (q : Rat) : cur (List.replicate n q) t = 0 := by
  unfold cur
  rw [fall_flat g, Rat.mul_zero]
theorem outN_zero (i : Int) : ∀ (L : List (Tie × Rat)) (a : Rat), (∀ p ∈ L, p.2 = 0) → outN i a L = a
  | [], a, _ => rfl
  | p :: L, a, h => by
    show outN i (upN i p.1 a p.2) L = a
    rw [h p List.mem_cons_self]
    have : upN i p.1 a 0 = a := by
      unfold upN
      split
      · exact Rat.add_zero a
      · split
        · rw [Rat.sub_eq_add_neg, Rat.neg_zero, Rat.add_zero]
        · rfl
    rw [this]
    exact outN_zero i L a fun q hq => h q (List.mem_cons_of_mem _ hq)
theorem outs_flat {n : Nat} {ts : List Tie} (g : ∀ t ∈ ts, Tk n t) (q : Rat) : outs n (List.replicate n q) ts = List.replicate n 0 := by
  rw [outs_law g]
  refine ext_hv (n := n) ?_ (List.length_replicate ..) fun i hi => ?_
  · unfold outsL
    rw [List.length_map, List.length_range]
  · unfold outsL
    rw [hv_range n _ hi, hv_rep _ _ (by omega) (by omega), outN_zero]
    intro p hp
    obtain ⟨t, ht, rfl⟩ := List.mem_map.mp hp
    exact cur_flat (g t ht) q
theorem pws_flat {n : Nat} {ts : List Tie} (g : ∀ t ∈ ts, Tk n t) (q : Rat) : sumL 0 (pws (List.replicate n q) ts) = 0 := by
  unfold pws sumL
  rw [List.foldl_map]
  suffices ∀ (ts : List Tie) (a : Rat), (∀ t ∈ ts, Tk n t) → ts.foldl (fun a t => a + cur (List.replicate n q) t * fall (List.replicate n q) t) a = a from this ts 0 g
  intro ts
  induction ts with
  | nil => intro a _; rfl
  | cons t ts ih =>
    intro a h
    show ts.foldl _ (a + _) = a
    rw [fall_flat (h t List.mem_cons_self), Rat.mul_zero, Rat.add_zero]
    exact ih a fun r hr => h r (List.mem_cons_of_mem _ hr)
theorem curs_flat {n : Nat} {ts : List Tie} (g : ∀ t ∈ ts, Tk n t) (q : Rat) : (ts.map fun t => fr (cur (List.replicate n q) t)) = List.replicate ts.length z0 := by
  induction ts with
  | nil => rfl
  | cons t ts ih =>
    rw [List.map_cons, List.length_cons, List.replicate_succ, ih fun r hr => g r (List.mem_cons_of_mem _ hr), cur_flat (g t List.mem_cons_self)]
    rfl

/-! ### draws of fractions, heights -/
theorem some_ok (k : Nat) (xs : List PV) {x y : Int} (T : Mem) (h : CupB x y) (h1 : 1 ≤ xs.length) (h2 : xs.length ≤ 1000) : ∃ v x' y', v ∈ xs ∧ callN prog W (k + 2) 34 [.ref 0, .lst xs] (cup x y :: T) = some (v, cup x' y' :: T) ∧ CupB x' y' := by
  obtain ⟨r, x1, y1, d1, c1, p1, q1⟩ := roll_ok k (many := (xs.length : Int)) T h (by omega) (lt2.mono (n := 10) (by unfold lt2; omega) (by decide))
  have hr : r.toNat < xs.length := by omega
  have ix : idxOp (cup x1 y1 :: T) (.lst xs) (.int r) = some xs[r.toNat] := by
    show L2.atI xs r = _
    rw [atI_nn _ p1 q1, List.getElem?_eq_getElem hr]
  refine ⟨xs[r.toNat], x1, y1, List.getElem_mem hr, ?_, c1⟩
  have lv := leave_cup (cup x1 y1) xs[r.toNat] T
  rw [u__law_some]
  unfold m__law_some
  generalize xs[r.toNat] = v at *
  clear p1 q1 hr h h1 h2 c1
  simp -implicitDefEqProofs only [execs, exec, eval, evals, evalI, conds, bnd_some, bnd_none, bifb_t, bifb_f, bifb_d, bifb_b, iff_t, iff_d, nxt_nx, nxt_rt, binop, cmpop, addOp_ii, addOp_tt, addOp_ll, subOp_ii, mulOp_ii, fdivOp_ii, modOp_ii, cmpI_ii, cmpLt_ii, isiM, tru_bl, tru_int, absB_i, intB_i, asM_int, asM_bl, asM_tup, asM_false, isOp_n, isOp_bb, isNon_non, isNon_tup, isNon_int, isNon_bl, isNon_lst, isNon_ref, isNon_rol, isNon_str, isNon_fr, setAll_nil, setAll_cons, bindT_nm, bindT_tp, fin_rt, fin_nx, leave_same, bltOp, idx_tup0, idx_tup1, idx_tup2, idx_tup3, idx_lst0, idx_lst1, idx_lst2, idx_lst3, eqD_ii, eqD_bb, eqD_fr, Option.map_some, Option.map_none, Option.bind_some, List.getElem?_cons_zero, List.getElem?_cons_succ, List.set_cons_zero, List.set_cons_succ, List.length_cons, List.length_nil, if_true, if_false, decide_true, decide_false, Bool.not_true, Bool.not_false, decide_eq_true_eq, sizeL, Nat.reduceAdd, Nat.reduceLeDiff, Nat.zero_add, beq_self_eq_true, seqG_tup, seqG_lst, lenB_tup, lenB_lst, idx_cup0, idx_cup1, setAt0, setAt1, cup, isTy, Bool.false_eq_true, newL_f, newL_t, fin_rtk, List.nil_append, wipeE, Int.reduceNe, Int.reduceEq, Int.reduceLT, Int.reduceLE, Int.reduceAdd, Int.reduceSub, Int.reduceMul, Int.reduceNeg, Int.reduceGT, *]
theorem fraction_ok (k : Nat) {most S : Nat} {x y : Int} (T : Mem) (h : CupB x y) (h1 : 1 ≤ most) (h2 : most ≤ S) (h3 : 1000000000 ≤ S) (h4 : S ≤ 2 ^ 64) : ∃ q x' y', callN prog W (k + 3) 43 [.ref 0, .int (most : Nat)] (cup x y :: T) = some (fr q, cup x' y' :: T) ∧ CupB x' y' ∧ nb S q := by
  have e64 : (2 : Nat) ^ 64 = 18446744073709551616 := rfl
  obtain ⟨v, x1, y1, hv, d1, c1⟩ := some_ok k [.int 3, .int 20, .int 1000000000, .int (most : Nat)] T h (by simp) (by simp)
  obtain ⟨s, rfl, s1, s2⟩ : ∃ s : Nat, v = .int (s : Nat) ∧ 1 ≤ s ∧ s ≤ S := by
    rcases List.mem_cons.mp hv with rfl | hv
    · exact ⟨3, rfl, by decide, by omega⟩
    rcases List.mem_cons.mp hv with rfl | hv
    · exact ⟨20, rfl, by decide, by omega⟩
    rcases List.mem_cons.mp hv with rfl | hv
    · exact ⟨1000000000, rfl, by decide, by omega⟩
    · rw [List.mem_singleton.mp hv]
      exact ⟨most, rfl, h1, h2⟩
  obtain ⟨r1, x2, y2, d2, c2, p2, q2⟩ := roll_ok (k + 1) (many := 2 * (s : Int) + 1) T c1 (by omega) (lt2.mono (n := 66) (by unfold lt2; omega) (by decide))
  obtain ⟨r2, x3, y3, d3, c3, p3, q3⟩ := roll_ok (k + 1) (many := (s : Int)) T c2 (by omega) (lt2.mono (n := 66) (by unfold lt2; omega) (by decide))
  have d4 := l_least_ok (k + 1) (r1 - s) (1 + r2) (cup x3 y3 :: T) (n := 65) (by unfold lt2; omega) (by omega) (by decide)
  have m2 : mulOk 2 (s : Int) = true := mulOk_a (by decide)
  have pw : powOp (.int 10) (.int 9) = some (.int 1000000000) := by rfl
  refine ⟨_, x3, y3, ?_, c3, low_nb (a := r1 - s) (b := 1 + r2) (by omega) (by omega) (by omega)⟩
  have lv := leave_cup (cup x3 y3) (fr (Rat.divInt (r1 - s) (1 + r2))) T
  rw [u__law_fraction]
  unfold m__law_fraction
  generalize Rat.divInt (r1 - s) (1 + r2) = q at *
  clear p2 q2 p3 q3 h h1 h2 h3 h4 c1 c2 c3 s1 s2 hv e64
  generalize ((most : Nat) : Int) = mm at *
  generalize ((s : Nat) : Int) = ss at *
  simp -implicitDefEqProofs only [execs, exec, eval, evals, evalI, conds, bnd_some, bnd_none, bifb_t, bifb_f, bifb_d, bifb_b, iff_t, iff_d, nxt_nx, nxt_rt, binop, cmpop, addOp_ii, addOp_tt, addOp_ll, subOp_ii, mulOp_ii, fdivOp_ii, modOp_ii, cmpI_ii, cmpLt_ii, isiM, tru_bl, tru_int, absB_i, intB_i, asM_int, asM_bl, asM_tup, asM_false, isOp_n, isOp_bb, isNon_non, isNon_tup, isNon_int, isNon_bl, isNon_lst, isNon_ref, isNon_rol, isNon_str, isNon_fr, setAll_nil, setAll_cons, bindT_nm, bindT_tp, fin_rt, fin_nx, leave_same, bltOp, idx_tup0, idx_tup1, idx_tup2, idx_tup3, idx_lst0, idx_lst1, idx_lst2, idx_lst3, eqD_ii, eqD_bb, eqD_fr, Option.map_some, Option.map_none, Option.bind_some, List.getElem?_cons_zero, List.getElem?_cons_succ, List.set_cons_zero, List.set_cons_succ, List.length_cons, List.length_nil, if_true, if_false, decide_true, decide_false, Bool.not_true, Bool.not_false, decide_eq_true_eq, sizeL, Nat.reduceAdd, Nat.reduceLeDiff, Nat.zero_add, beq_self_eq_true, seqG_tup, seqG_lst, lenB_tup, lenB_lst, idx_cup0, idx_cup1, setAt0, setAt1, cup, isTy, Bool.false_eq_true, newL_f, newL_t, fin_rtk, List.nil_append, wipeE, Int.reduceNe, Int.reduceEq, Int.reduceLT, Int.reduceLE, Int.reduceAdd, Int.reduceSub, Int.reduceMul, Int.reduceNeg, Int.reduceGT, *]
theorem forL_ng {t : T} {g : Gd} {body : Env → Mem → Option R} {env : Env} {M : Mem} (h : gOk g M = true) : forL t g body [] env M = some (.nx env M) := by unfold forL; rw [h]
theorem forL_cg {t : T} {g : Gd} {body : Env → Mem → Option R} {x : PV} {xs : List PV} {env : Env} {M : Mem} (h : gOk g M = true) : forL t g body (x :: xs) env M = (bindT t x env).bind fun env1 => nxt (body env1 M) fun env2 M2 => forL t g body xs env2 M2 := by
  conv => lhs; unfold forL
  rw [h]
  show (match bindT t x env with | some env1 => _ | none => none) = _
  cases bindT t x env with
  | none => rfl
  | some env1 =>
    show (match body env1 M with | some (.nx env2 M2) => _ | r => r) = nxt (body env1 M) _
    rcases body env1 M with _ | r
    · rfl
    · cases r <;> rfl
def hB : Ss := (Ss.cons (.exp (.app (.var 2) (.call 43 (.cons (.var 0) (.cons (.bin .pow false (.cst (.int (10))) (.cst (.int (12)))) .nil))))) .nil)
theorem hts_loop (k : Nat) (net : PV) (R : List (Option PV)) : ∀ (xs : List PV) (acc : List Rat) (o3 : Option PV) {x y : Int}, CupB x y → acc.length + xs.length ≤ 1000 → (∀ q ∈ acc, nb 1000000000000 q) → ∃ (acc' : List Rat) (x' y' : Int) (o3' : Option PV),
    forL (.nm 3) [] (execs (callN prog W (k + 4)) W hB) xs (some (.ref 0) :: some net :: some (.ref 1) :: o3 :: R) [cup x y, .lst (acc.map fr)] = some (.nx (some (.ref 0) :: some net :: some (.ref 1) :: o3' :: R) [cup x' y', .lst (acc'.map fr)]) ∧ CupB x' y' ∧ acc'.length = acc.length + xs.length ∧ ∀ q ∈ acc', nb 1000000000000 q
  | [], acc, o3, x, y, h, hl, ha => ⟨acc, x, y, o3, forL_n, h, rfl, ha⟩
  | v :: xs, acc, o3, x, y, h, hl, ha => by
    rw [List.length_cons] at hl
    obtain ⟨q, x1, y1, d1, c1, n1⟩ := fraction_ok (k + 1) (most := 1000000000000) (S := 1000000000000) [.lst (acc.map fr)] h (by decide) (by decide) (by decide) (by decide)
    have d1 : callN prog W (k + 4) 43 [.ref 0, .int 1000000000000] (cup x y :: [.lst (acc.map fr)]) = some (fr q, cup x1 y1 :: [.lst (acc.map fr)]) := d1
    obtain ⟨acc', x2, y2, o3', e, c2, l2, a2⟩ := hts_loop k net R xs (acc ++ [q]) (some v) c1 (by rw [List.length_append]; simp only [List.length_cons, List.length_nil]; omega) (fun r hr => by
      rcases List.mem_append.mp hr with hr | hr
      · exact ha r hr
      · rw [List.mem_singleton.mp hr]; exact n1)
    refine ⟨acc', x2, y2, o3', ?_, c2, by rw [l2, List.length_append]; simp only [List.length_cons, List.length_nil]; omega, a2⟩
    have pw : powOp (.int 10) (.int 12) = some (.int 1000000000000) := by rfl
    have hz : (acc.map fr).length < 16777216 := by rw [List.length_map]; omega
    have s1 : execs (callN prog W (k + 4)) W hB (some (.ref 0) :: some net :: some (.ref 1) :: some v :: R) [cup x y, .lst (acc.map fr)] = some (.nx (some (.ref 0) :: some net :: some (.ref 1) :: some v :: R) [cup x1 y1, .lst ((acc ++ [q]).map fr)]) := by
      rw [List.map_append]
      unfold hB
      clear h hl ha c1 c2 n1 l2 a2 e
      simp only [List.map_cons, List.map_nil]
      generalize acc.map fr = av at *
      simp -implicitDefEqProofs only [execs, exec, eval, evals, evalI, conds, bnd_some, bnd_none, bifb_t, bifb_f, bifb_d, bifb_b, iff_t, iff_d, nxt_nx, nxt_rt, binop, cmpop, addOp_ii, addOp_tt, addOp_ll, subOp_ii, mulOp_ii, fdivOp_ii, modOp_ii, cmpI_ii, cmpLt_ii, isiM, tru_bl, tru_int, absB_i, intB_i, asM_int, asM_bl, asM_tup, asM_false, isOp_n, isOp_bb, isNon_non, isNon_tup, isNon_int, isNon_bl, isNon_lst, isNon_ref, isNon_rol, isNon_str, isNon_fr, setAll_nil, setAll_cons, bindT_nm, bindT_tp, fin_rt, fin_nx, leave_same, bltOp, idx_tup0, idx_tup1, idx_tup2, idx_tup3, idx_lst0, idx_lst1, idx_lst2, idx_lst3, eqD_ii, eqD_bb, eqD_fr, Option.map_some, Option.map_none, Option.bind_some, List.getElem?_cons_zero, List.getElem?_cons_succ, List.set_cons_zero, List.set_cons_succ, List.length_cons, List.length_nil, if_true, if_false, decide_true, decide_false, Bool.not_true, Bool.not_false, decide_eq_true_eq, sizeL, Nat.reduceAdd, Nat.reduceLeDiff, Nat.zero_add, beq_self_eq_true, seqG_tup, seqG_lst, lenB_tup, lenB_lst, idx_cup0, idx_cup1, setAt0, setAt1, cup, isTy, Bool.false_eq_true, newL_f, newL_t, fin_rtk, List.nil_append, wipeE, Int.reduceNe, Int.reduceEq, Int.reduceLT, Int.reduceLE, Int.reduceAdd, Int.reduceSub, Int.reduceMul, Int.reduceNeg, Int.reduceGT, set2, *]
    show forL _ _ _ (v :: xs) _ _ = _
    rw [forL_c, bindT_nm, Option.bind_some]
    show nxt (execs (callN prog W (k + 4)) W hB (some (.ref 0) :: some net :: some (.ref 1) :: some v :: R) [cup x y, .lst (acc.map fr)]) _ = _
    rw [s1, nxt_nx]
    exact e

/-! ### the law's own reckoning of a net -/
theorem idx_ref {M : Mem} {n : Nat} {xs : List PV} (h : M[n]? = some (.lst xs)) (i : PV) : idxOp M (.ref n) i = idxOp M (.lst xs) i := by
  unfold idxOp
  have : items M (.ref n) = some xs := by simp only [items, h]
  cases i <;> first | rfl | (unfold itemsT; simp only [this]; rfl)
theorem set41 (a b c d e : Cell) : [a, b, c, d].set 2 e = [a, b, e, d] := rfl
theorem set42 (a b c d e : Cell) : [a, b, c, d].set 3 e = [a, b, c, e] := rfl
def rB1 : Ss := (Ss.cons (.set 10 (.call 39 (.cons (.idx (.var 2) (.var 7)) (.cons (.idx (.var 2) (.var 8)) .nil)))) (.cons (.exp (.app (.var 4) (.call 40 (.cons (.var 9) (.cons (.var 10) .nil))))) (.cons (.set 5 (.call 38 (.cons (.var 5) (.cons (.call 40 (.cons (.var 9) (.cons (.call 40 (.cons (.var 10) (.cons (.var 10) .nil))) .nil))) .nil)))) .nil)))
theorem r_loop1 (k : Nat) {n D c : Nat} {hs : List Rat} (net : PV) (c0 : Cell) (os : List PV) (R : List (Option PV)) (o3 : Option PV) {ts0 : List Tie} (r : Rd n D c ts0 hs) : ∀ (ts : List Tie) (cs : List Rat) (p : Rat) (cp : Nat) (o7 o8 o9 o10 : Option PV), (∀ t ∈ ts, t ∈ ts0) → cs.length + ts.length ≤ 1000 → cq D cp p → cp + c * ts.length ≤ 2 ^ 1000 →
    ∃ o7' o8' o9' o10', forL (.tp [7, 8, 9]) [] (execs (callN prog W (k + 4)) W rB1) (ts.map tieV) (some (.ref 0) :: some net :: some (.ref 1) :: o3 :: some (.ref 2) :: some (fr p) :: some (.ref 3) :: o7 :: o8 :: o9 :: o10 :: R) [c0, .lst (hs.map fr), .lst (cs.map fr), .lst os] =
      some (.nx (some (.ref 0) :: some net :: some (.ref 1) :: o3 :: some (.ref 2) :: some (fr (sumL p (pws hs ts))) :: some (.ref 3) :: o7' :: o8' :: o9' :: o10' :: R) [c0, .lst (hs.map fr), .lst ((cs ++ ts.map (cur hs)).map fr), .lst os])
  | [], cs, p, cp, o7, o8, o9, o10, _, _, _, _ => ⟨o7, o8, o9, o10, by rw [List.map_nil, forL_n]; simp [sumL, pws]⟩
  | t :: ts, cs, p, cp, o7, o8, o9, o10, hm, hl, hp, hc => by
    rw [List.length_cons] at hl hc
    rw [Nat.mul_add] at hc
    have ht := hm t List.mem_cons_self
    have g := r.net.ok t ht
    have ga := g.a
    have gb := g.b
    have gc := g.c
    have hh := r.hl
    have s1 := r.z.h _ (hv_mem (hs := hs) (i := t.1.1) ga (by omega))
    have s2 := r.z.h _ (hv_mem (hs := hs) (i := t.1.2) (by omega) (by omega))
    have s3 : sm 281 (fall hs t) := (sm_sub s1 s2).mono (by omega)
    have s4 := r.z.t t ht
    have s5 : sm 562 (fall hs t * fall hs t) := (sm_mul s3 s3).mono (by omega)
    have q1 := r.pw t ht
    have e1 : t.2 * (fall hs t * fall hs t) = cur hs t * fall hs t := by unfold cur; rw [Rat.mul_assoc]
    have f1 : ∀ k M, callN prog W (k + 2) 39 [fr (hv hs t.1.1), fr (hv hs t.1.2)] M = some (fr (fall hs t), M) := fun k M => l_minus_ok k M s1 s2 (by omega)
    have f2 : ∀ k M, callN prog W (k + 2) 40 [fr t.2, fr (fall hs t)] M = some (fr (cur hs t), M) := fun k M => l_times_ok k M s4 s3 (by omega)
    have f3 : ∀ k M, callN prog W (k + 2) 40 [fr (fall hs t), fr (fall hs t)] M = some (fr (fall hs t * fall hs t), M) := fun k M => l_times_ok k M s3 s3 (by omega)
    have f4 : ∀ k M, callN prog W (k + 2) 40 [fr t.2, fr (fall hs t * fall hs t)] M = some (fr (cur hs t * fall hs t), M) := fun k M => by rw [← e1]; exact l_times_ok k M s4 s5 (by omega)
    have b1 : cp ≤ 2 ^ 1000 := by omega
    have b2 : c ≤ 2 ^ 1000 := by omega
    have f5 : ∀ k M, callN prog W (k + 2) 38 [fr p, fr (cur hs t * fall hs t)] M = some (fr (p + cur hs t * fall hs t), M) := fun k M => l_plus_ok k M (hp.sm r.d r.dl' b1) (q1.sm r.d r.dl' b2) (by decide)
    obtain ⟨o7', o8', o9', o10', e⟩ := r_loop1 k net c0 os R o3 r ts (cs ++ [cur hs t]) (p + cur hs t * fall hs t) (cp + c) (some (.int t.1.1)) (some (.int t.1.2)) (some (fr t.2)) (some (fr (fall hs t))) (fun s hs => hm s (List.mem_cons_of_mem _ hs)) (by rw [List.length_append]; simp only [List.length_cons, List.length_nil]; omega) (cq_add hp q1) (by omega)
    refine ⟨o7', o8', o9', o10', ?_⟩
    have x1 : ∀ c0 c2 c3, idxOp [c0, .lst (hs.map fr), c2, c3] (.ref 1) (.int t.1.1) = some (fr (hv hs t.1.1)) := fun c0 c2 c3 => by
      rw [idx_ref (xs := hs.map fr) rfl]; exact at_hs hs ga (by omega)
    have x2 : ∀ c0 c2 c3, idxOp [c0, .lst (hs.map fr), c2, c3] (.ref 1) (.int t.1.2) = some (fr (hv hs t.1.2)) := fun c0 c2 c3 => by
      rw [idx_ref (xs := hs.map fr) rfl]; exact at_hs hs (by omega) (by omega)
    have hz : (cs.map fr).length < 16777216 := by rw [List.length_map]; omega
    have st : execs (callN prog W (k + 4)) W rB1 (some (.ref 0) :: some net :: some (.ref 1) :: o3 :: some (.ref 2) :: some (fr p) :: some (.ref 3) :: some (.int t.1.1) :: some (.int t.1.2) :: some (fr t.2) :: o10 :: R) [c0, .lst (hs.map fr), .lst (cs.map fr), .lst os] =
        some (.nx (some (.ref 0) :: some net :: some (.ref 1) :: o3 :: some (.ref 2) :: some (fr (p + cur hs t * fall hs t)) :: some (.ref 3) :: some (.int t.1.1) :: some (.int t.1.2) :: some (fr t.2) :: some (fr (fall hs t)) :: R) [c0, .lst (hs.map fr), .lst ((cs ++ [cur hs t]).map fr), .lst os]) := by
      rw [List.map_append]
      unfold rB1
      clear hm hl hp hc ht g ga gb gc hh s1 s2 s3 s4 s5 q1 e1 b1 b2 e r
      simp only [List.map_cons, List.map_nil]
      generalize p + cur hs t * fall hs t = p2 at *
      generalize cur hs t * fall hs t = cf at *
      generalize fall hs t * fall hs t = ff at *
      generalize cur hs t = cu at *
      generalize fall hs t = fl at *
      generalize hv hs t.1.1 = h1 at *
      generalize hv hs t.1.2 = h2 at *
      generalize hs.map fr = hv at *
      generalize cs.map fr = cv at *
      simp -implicitDefEqProofs only [execs, exec, eval, evals, evalI, conds, bnd_some, bnd_none, bifb_t, bifb_f, bifb_d, bifb_b, iff_t, iff_d, nxt_nx, nxt_rt, binop, cmpop, addOp_ii, addOp_tt, addOp_ll, subOp_ii, mulOp_ii, fdivOp_ii, modOp_ii, cmpI_ii, cmpLt_ii, isiM, tru_bl, tru_int, absB_i, intB_i, asM_int, asM_bl, asM_tup, asM_false, isOp_n, isOp_bb, isNon_non, isNon_tup, isNon_int, isNon_bl, isNon_lst, isNon_ref, isNon_rol, isNon_str, isNon_fr, setAll_nil, setAll_cons, bindT_nm, bindT_tp, fin_rt, fin_nx, leave_same, bltOp, idx_tup0, idx_tup1, idx_tup2, idx_tup3, idx_lst0, idx_lst1, idx_lst2, idx_lst3, eqD_ii, eqD_bb, eqD_fr, Option.map_some, Option.map_none, Option.bind_some, List.getElem?_cons_zero, List.getElem?_cons_succ, List.set_cons_zero, List.set_cons_succ, List.length_cons, List.length_nil, if_true, if_false, decide_true, decide_false, Bool.not_true, Bool.not_false, decide_eq_true_eq, sizeL, Nat.reduceAdd, Nat.reduceLeDiff, Nat.zero_add, beq_self_eq_true, seqG_tup, seqG_lst, lenB_tup, lenB_lst, idx_cup0, idx_cup1, setAt0, setAt1, cup, isTy, Bool.false_eq_true, newL_f, newL_t, fin_rtk, List.nil_append, wipeE, Int.reduceNe, Int.reduceEq, Int.reduceLT, Int.reduceLE, Int.reduceAdd, Int.reduceSub, Int.reduceMul, Int.reduceNeg, Int.reduceGT, set41, *]
    show forL _ _ _ (tieV t :: ts.map tieV) _ _ = _
    have bd : bindT (.tp [7, 8, 9]) (tieV t) (some (.ref 0) :: some net :: some (.ref 1) :: o3 :: some (.ref 2) :: some (fr p) :: some (.ref 3) :: o7 :: o8 :: o9 :: o10 :: R) = some (some (.ref 0) :: some net :: some (.ref 1) :: o3 :: some (.ref 2) :: some (fr p) :: some (.ref 3) :: some (.int t.1.1) :: some (.int t.1.2) :: some (fr t.2) :: o10 :: R) := rfl
    rw [forL_c, bd, Option.bind_some, st, nxt_nx, e, List.append_assoc]
    rfl
/-! what goes out of a node -/
def rB2 : Ss := (Ss.cons (.for_ (.t2 [.t [7, 8, 9], .n 11]) (.zip (.idx (.var 1) (.cst (.int (1)))) (.var 4)) (.cons (.seti (.var 6) (.var 3) (.ite (.cmp .eq (.var 3) (.var 7)) (.call 38 (.cons (.idx (.var 6) (.var 3)) (.cons (.var 11) .nil))) (.ite (.cmp .eq (.var 3) (.var 8)) (.call 39 (.cons (.idx (.var 6) (.var 3)) (.cons (.var 11) .nil))) (.idx (.var 6) (.var 3))))) .nil)) .nil)
def rB3 : Ss := (Ss.cons (.seti (.var 6) (.var 3) (.ite (.cmp .eq (.var 3) (.var 7)) (.call 38 (.cons (.idx (.var 6) (.var 3)) (.cons (.var 11) .nil))) (.ite (.cmp .eq (.var 3) (.var 8)) (.call 39 (.cons (.idx (.var 6) (.var 3)) (.cons (.var 11) .nil))) (.idx (.var 6) (.var 3))))) .nil)
theorem upN_cq {D c c' : Nat} {i : Int} {t : Tie} {a x : Rat} (h : cq D c a) (h' : cq D c' x) : cq D (c + c') (upN i t a x) := by
  unfold upN
  split
  · exact cq_add h h'
  · split
    · exact cq_sub h h'
    · exact h.mono (Nat.le_add_right _ _)
theorem r_loop3 (k : Nat) {n D c : Nat} (d : 0 < D) (hd : D ≤ 2 ^ 2600) (net pw : PV) (c0 c1 : Cell) (cs : List PV) (R : List (Option PV)) (o10 : Option PV) {os : List Rat} (hl : os.length = n) {i : Nat} (hi : i < n) : ∀ (L : List (Tie × Rat)) (a : Rat) (ca : Nat) (o7 o8 o9 o11 : Option PV), (∀ p ∈ L, cq D c p.2) → cq D ca a → ca + c * L.length ≤ 2 ^ 1000 →
    ∃ o7' o8' o9' o11', forL (.t2 [.t [7, 8, 9], .n 11]) [(2, cs)] (execs (callN prog W (k + 4)) W rB3) (L.map zpV) (some (.ref 0) :: some net :: some (.ref 1) :: some (.int (i : Nat)) :: some (.ref 2) :: some pw :: some (.ref 3) :: o7 :: o8 :: o9 :: o10 :: o11 :: R) [c0, c1, .lst cs, .lst ((os.set i a).map fr)] =
      some (.nx (some (.ref 0) :: some net :: some (.ref 1) :: some (.int (i : Nat)) :: some (.ref 2) :: some pw :: some (.ref 3) :: o7' :: o8' :: o9' :: o10 :: o11' :: R) [c0, c1, .lst cs, .lst ((os.set i (outN (i : Nat) a L)).map fr)])
  | [], a, ca, o7, o8, o9, o11, _, _, _ => ⟨o7, o8, o9, o11, forL_ng (by
      show (pbeqs cs cs && true) = true
      rw [pbeqs_self]; rfl)⟩
  | p :: L, a, ca, o7, o8, o9, o11, hp, ha, hc => by
    rw [List.length_cons, Nat.mul_add] at hc
    have hg : gOk [(2, cs)] [c0, c1, .lst cs, .lst ((os.set i a).map fr)] = true := by
      show (pbeqs cs cs && true) = true
      rw [pbeqs_self]; rfl
    have q1 := hp p List.mem_cons_self
    have b1 : ca ≤ 2 ^ 1000 := by omega
    have b2 : c ≤ 2 ^ 1000 := by omega
    have s1 := ha.sm d hd b1
    have s2 := q1.sm d hd b2
    have f1 := fun k M => l_plus_ok k M s1 s2 (by decide)
    have f2 := fun k M => l_minus_ok k M s1 s2 (by decide)
    obtain ⟨o7', o8', o9', o11', e⟩ := r_loop3 k d hd net pw c0 c1 cs R o10 hl hi L (upN (i : Nat) p.1 a p.2) (ca + c) (some (.int p.1.1.1)) (some (.int p.1.1.2)) (some (fr p.1.2)) (some (fr p.2)) (fun q hq => hp q (List.mem_cons_of_mem _ hq)) (upN_cq ha q1) (by omega)
    refine ⟨o7', o8', o9', o11', ?_⟩
    have hl2 : (os.set i a).length = n := by rw [List.length_set, hl]
    have x1 : idxOp [c0, c1, .lst cs, .lst ((os.set i a).map fr)] (.ref 3) (.int (i : Nat)) = some (fr a) := by
      rw [idx_ref (xs := (os.set i a).map fr) rfl]
      have e1 := at_hs (os.set i a) (i := (i : Nat)) (by omega) (by omega)
      have e2 := hv_self (fs := os) (i := (i : Nat)) a (by omega) (by omega)
      rw [Int.toNat_natCast] at e2
      rw [e2] at e1
      exact e1
    have x2 : ∀ z, setAt ((os.set i a).map fr) (i : Nat) (fr z) = some ((os.set i z).map fr) := fun z => by
      rw [setAt_map (i := (i : Nat)) z (by omega) (by omega), Int.toNat_natCast, List.set_set]
    have st : execs (callN prog W (k + 4)) W rB3 (some (.ref 0) :: some net :: some (.ref 1) :: some (.int (i : Nat)) :: some (.ref 2) :: some pw :: some (.ref 3) :: some (.int p.1.1.1) :: some (.int p.1.1.2) :: some (fr p.1.2) :: o10 :: some (fr p.2) :: R) [c0, c1, .lst cs, .lst ((os.set i a).map fr)] =
        some (.nx (some (.ref 0) :: some net :: some (.ref 1) :: some (.int (i : Nat)) :: some (.ref 2) :: some pw :: some (.ref 3) :: some (.int p.1.1.1) :: some (.int p.1.1.2) :: some (fr p.1.2) :: o10 :: some (fr p.2) :: R) [c0, c1, .lst cs, .lst ((os.set i (upN (i : Nat) p.1 a p.2)).map fr)]) := by
      unfold rB3
      clear hp ha hc hg q1 b1 b2 s1 s2 e hl hi hl2
      generalize (os.set i a).map fr = ov at *
      rw [show upN (i : Nat) p.1 a p.2 = if (i : Int) = p.1.1.1 then a + p.2 else if (i : Int) = p.1.1.2 then a - p.2 else a from rfl]
      generalize ((i : Nat) : Int) = ii at *
      generalize p.1.1.1 = pa at *
      generalize p.1.1.2 = pb at *
      by_cases e1 : ii = pa
      · subst e1
        rw [if_pos rfl]
        simp -implicitDefEqProofs only [execs, exec, eval, evals, evalI, conds, bnd_some, bnd_none, bifb_t, bifb_f, bifb_d, bifb_b, iff_t, iff_d, nxt_nx, nxt_rt, binop, cmpop, addOp_ii, addOp_tt, addOp_ll, subOp_ii, mulOp_ii, fdivOp_ii, modOp_ii, cmpI_ii, cmpLt_ii, isiM, tru_bl, tru_int, absB_i, intB_i, asM_int, asM_bl, asM_tup, asM_false, isOp_n, isOp_bb, isNon_non, isNon_tup, isNon_int, isNon_bl, isNon_lst, isNon_ref, isNon_rol, isNon_str, isNon_fr, setAll_nil, setAll_cons, bindT_nm, bindT_tp, fin_rt, fin_nx, leave_same, bltOp, idx_tup0, idx_tup1, idx_tup2, idx_tup3, idx_lst0, idx_lst1, idx_lst2, idx_lst3, eqD_ii, eqD_bb, eqD_fr, Option.map_some, Option.map_none, Option.bind_some, List.getElem?_cons_zero, List.getElem?_cons_succ, List.set_cons_zero, List.set_cons_succ, List.length_cons, List.length_nil, if_true, if_false, decide_true, decide_false, Bool.not_true, Bool.not_false, decide_eq_true_eq, sizeL, Nat.reduceAdd, Nat.reduceLeDiff, Nat.zero_add, beq_self_eq_true, seqG_tup, seqG_lst, lenB_tup, lenB_lst, idx_cup0, idx_cup1, setAt0, setAt1, cup, isTy, Bool.false_eq_true, newL_f, newL_t, fin_rtk, List.nil_append, wipeE, Int.reduceNe, Int.reduceEq, Int.reduceLT, Int.reduceLE, Int.reduceAdd, Int.reduceSub, Int.reduceMul, Int.reduceNeg, Int.reduceGT, cmpop, set42, eq_self, *]
      · rw [if_neg e1]
        by_cases e2 : ii = pb
        · subst e2
          rw [if_pos rfl]
          simp -implicitDefEqProofs only [execs, exec, eval, evals, evalI, conds, bnd_some, bnd_none, bifb_t, bifb_f, bifb_d, bifb_b, iff_t, iff_d, nxt_nx, nxt_rt, binop, cmpop, addOp_ii, addOp_tt, addOp_ll, subOp_ii, mulOp_ii, fdivOp_ii, modOp_ii, cmpI_ii, cmpLt_ii, isiM, tru_bl, tru_int, absB_i, intB_i, asM_int, asM_bl, asM_tup, asM_false, isOp_n, isOp_bb, isNon_non, isNon_tup, isNon_int, isNon_bl, isNon_lst, isNon_ref, isNon_rol, isNon_str, isNon_fr, setAll_nil, setAll_cons, bindT_nm, bindT_tp, fin_rt, fin_nx, leave_same, bltOp, idx_tup0, idx_tup1, idx_tup2, idx_tup3, idx_lst0, idx_lst1, idx_lst2, idx_lst3, eqD_ii, eqD_bb, eqD_fr, Option.map_some, Option.map_none, Option.bind_some, List.getElem?_cons_zero, List.getElem?_cons_succ, List.set_cons_zero, List.set_cons_succ, List.length_cons, List.length_nil, if_true, if_false, decide_true, decide_false, Bool.not_true, Bool.not_false, decide_eq_true_eq, sizeL, Nat.reduceAdd, Nat.reduceLeDiff, Nat.zero_add, beq_self_eq_true, seqG_tup, seqG_lst, lenB_tup, lenB_lst, idx_cup0, idx_cup1, setAt0, setAt1, cup, isTy, Bool.false_eq_true, newL_f, newL_t, fin_rtk, List.nil_append, wipeE, Int.reduceNe, Int.reduceEq, Int.reduceLT, Int.reduceLE, Int.reduceAdd, Int.reduceSub, Int.reduceMul, Int.reduceNeg, Int.reduceGT, cmpop, set42, eq_self, *]
        · rw [if_neg e2]
          simp -implicitDefEqProofs only [execs, exec, eval, evals, evalI, conds, bnd_some, bnd_none, bifb_t, bifb_f, bifb_d, bifb_b, iff_t, iff_d, nxt_nx, nxt_rt, binop, cmpop, addOp_ii, addOp_tt, addOp_ll, subOp_ii, mulOp_ii, fdivOp_ii, modOp_ii, cmpI_ii, cmpLt_ii, isiM, tru_bl, tru_int, absB_i, intB_i, asM_int, asM_bl, asM_tup, asM_false, isOp_n, isOp_bb, isNon_non, isNon_tup, isNon_int, isNon_bl, isNon_lst, isNon_ref, isNon_rol, isNon_str, isNon_fr, setAll_nil, setAll_cons, bindT_nm, bindT_tp, fin_rt, fin_nx, leave_same, bltOp, idx_tup0, idx_tup1, idx_tup2, idx_tup3, idx_lst0, idx_lst1, idx_lst2, idx_lst3, eqD_ii, eqD_bb, eqD_fr, Option.map_some, Option.map_none, Option.bind_some, List.getElem?_cons_zero, List.getElem?_cons_succ, List.set_cons_zero, List.set_cons_succ, List.length_cons, List.length_nil, if_true, if_false, decide_true, decide_false, Bool.not_true, Bool.not_false, decide_eq_true_eq, sizeL, Nat.reduceAdd, Nat.reduceLeDiff, Nat.zero_add, beq_self_eq_true, seqG_tup, seqG_lst, lenB_tup, lenB_lst, idx_cup0, idx_cup1, setAt0, setAt1, cup, isTy, Bool.false_eq_true, newL_f, newL_t, fin_rtk, List.nil_append, wipeE, Int.reduceNe, Int.reduceEq, Int.reduceLT, Int.reduceLE, Int.reduceAdd, Int.reduceSub, Int.reduceMul, Int.reduceNeg, Int.reduceGT, cmpop, set42, eq_self, *]
    have bd : bindT (.t2 [.t [7, 8, 9], .n 11]) (zpV p) (some (.ref 0) :: some net :: some (.ref 1) :: some (.int (i : Nat)) :: some (.ref 2) :: some pw :: some (.ref 3) :: o7 :: o8 :: o9 :: o10 :: o11 :: R) =
      some (some (.ref 0) :: some net :: some (.ref 1) :: some (.int (i : Nat)) :: some (.ref 2) :: some pw :: some (.ref 3) :: some (.int p.1.1.1) :: some (.int p.1.1.2) :: some (fr p.1.2) :: o10 :: some (fr p.2) :: R) := rfl
    show forL _ _ _ (zpV p :: L.map zpV) _ _ = _
    rw [forL_cg hg, bd, Option.bind_some, st, nxt_nx, e]
    rfl

/-! ### the law's own reckoning: all nodes, and sums -/
theorem ext_set0 {n : Nat} {os : List Rat} (hl : os.length = n) {i : Nat} (hi : i < n) (h : hv os (i : Nat) = 0) : os.set i 0 = os := by
  refine ext_hv (n := n) (by rw [List.length_set, hl]) hl fun a ha => ?_
  by_cases e : a = i
  · subst e
    have := hv_self (fs := os) (i := (a : Nat)) 0 (by omega) (by omega)
    rw [Int.toNat_natCast] at this
    rw [this, h]
  · have := hv_set (fs := os) (i := (i : Nat)) (j := (a : Nat)) 0 (by omega) (by omega) (by omega)
    rw [Int.toNat_natCast] at this
    exact this
theorem r_loop2 (k : Nat) {n D c : Nat} (d : 0 < D) (hd : D ≤ 2 ^ 2600) {ts : List Tie} {hs : List Rat} (hq : ∀ t ∈ ts, cq D c (cur hs t)) (hc : c * ts.length ≤ 2 ^ 1000) (pw : PV) (c0 c1 : Cell) (R : List (Option PV)) (o10 : Option PV) : ∀ (j i : Nat) (os : List Rat) (o3 o7 o8 o9 o11 : Option PV), i + j = n → os.length = n → (∀ a : Nat, a < n → hv os (a : Nat) = if a < i then outN (a : Nat) 0 (curP hs ts) else 0) →
    ∃ o3' o7' o8' o9' o11', forL (.nm 3) [] (execs (callN prog W (k + 4)) W rB2) (rngI (i : Nat) j) (some (.ref 0) :: some (netV n ts) :: some (.ref 1) :: o3 :: some (.ref 2) :: some pw :: some (.ref 3) :: o7 :: o8 :: o9 :: o10 :: o11 :: R) [c0, c1, .lst ((ts.map (cur hs)).map fr), .lst (os.map fr)] =
      some (.nx (some (.ref 0) :: some (netV n ts) :: some (.ref 1) :: o3' :: some (.ref 2) :: some pw :: some (.ref 3) :: o7' :: o8' :: o9' :: o10 :: o11' :: R) [c0, c1, .lst ((ts.map (cur hs)).map fr), .lst ((outsL n (curP hs ts)).map fr)])
  | 0, i, os, o3, o7, o8, o9, o11, hj, hl, h => by
    have e : os = outsL n (curP hs ts) := ext_hv hl (by unfold outsL; rw [List.length_map, List.length_range]) fun a ha => by
      unfold outsL
      rw [h a ha, if_pos (by omega), hv_range n _ ha]
    rw [e]
    exact ⟨o3, o7, o8, o9, o11, forL_n⟩
  | j + 1, i, os, o3, o7, o8, o9, o11, hj, hl, h => by
    have hi : i < n := by omega
    have h0 : hv os (i : Nat) = 0 := by rw [h i hi, if_neg (by omega)]
    have es := ext_set0 hl hi h0
    obtain ⟨p7, p8, p9, p11, e1⟩ := r_loop3 k d hd (netV n ts) pw c0 c1 ((ts.map (cur hs)).map fr) R o10 hl hi (curP hs ts) 0 0 o7 o8 o9 o11 (fun p hp => by
      obtain ⟨t, ht, rfl⟩ := List.mem_map.mp hp
      exact hq t ht) (cq_0 _ _) (by unfold curP; rw [List.length_map]; omega)
    rw [es] at e1
    obtain ⟨o3', o7', o8', o9', o11', e2⟩ := r_loop2 (n := n) k d hd hq hc pw c0 c1 R o10 j (i + 1) (os.set i (outN (i : Nat) 0 (curP hs ts))) (some (.int (i : Nat))) p7 p8 p9 p11 (by omega) (by rw [List.length_set, hl]) (fun a ha => by
      by_cases e : a = i
      · subst e
        have := hv_self (fs := os) (i := (a : Nat)) (outN (a : Nat) 0 (curP hs ts)) (by omega) (by omega)
        rw [Int.toNat_natCast] at this
        rw [this, if_pos (by omega)]
      · have := hv_set (fs := os) (i := (i : Nat)) (j := (a : Nat)) (outN (i : Nat) 0 (curP hs ts)) (by omega) (by omega) (by omega)
        rw [Int.toNat_natCast] at this
        rw [this, h a ha]
        by_cases e4 : a < i
        · rw [if_pos e4, if_pos (by omega)]
        · rw [if_neg e4, if_neg (by omega)])
    refine ⟨o3', o7', o8', o9', o11', ?_⟩
    have zz : zipP (ts.map tieV) ((ts.map (cur hs)).map fr) = (curP hs ts).map zpV := by
      rw [List.map_map]
      unfold curP
      rw [List.map_map]
      exact zipP_map _ _ _
    have i1 : ∀ M, idxOp M (netV n ts) (.int 1) = some (.tup (ts.map tieV)) := fun M => idx_tup1 _ _ _ _
    have sq : ∀ (c3 : Cell) (cs : List PV), seqG [c0, c1, .lst cs, c3] (.ref 2) = some (false, cs, [(2, cs)]) := fun _ _ => rfl
    rw [← zz] at e1
    have st : execs (callN prog W (k + 4)) W rB2 (some (.ref 0) :: some (netV n ts) :: some (.ref 1) :: some (.int (i : Nat)) :: some (.ref 2) :: some pw :: some (.ref 3) :: o7 :: o8 :: o9 :: o10 :: o11 :: R) [c0, c1, .lst ((ts.map (cur hs)).map fr), .lst (os.map fr)] =
        some (.nx (some (.ref 0) :: some (netV n ts) :: some (.ref 1) :: some (.int (i : Nat)) :: some (.ref 2) :: some pw :: some (.ref 3) :: p7 :: p8 :: p9 :: o10 :: p11 :: R) [c0, c1, .lst ((ts.map (cur hs)).map fr), .lst ((os.set i (outN (i : Nat) 0 (curP hs ts))).map fr)]) := by
      unfold rB2
      rw [show (Ss.cons (.seti (.var 6) (.var 3) (.ite (.cmp .eq (.var 3) (.var 7)) (.call 38 (.cons (.idx (.var 6) (.var 3)) (.cons (.var 11) .nil))) (.ite (.cmp .eq (.var 3) (.var 8)) (.call 39 (.cons (.idx (.var 6) (.var 3)) (.cons (.var 11) .nil))) (.idx (.var 6) (.var 3))))) .nil) = rB3 from rfl]
      clear e2 zz h h0 es hj hl hi hq hc hd d
      generalize rB3 = bb at *
      generalize netV n ts = nv at *
      generalize (os.set i (outN (i : Nat) 0 (curP hs ts))).map fr = ov2 at *
      generalize os.map fr = ov at *
      generalize (ts.map (cur hs)).map fr = cv at *
      generalize ts.map tieV = tv at *
      simp -implicitDefEqProofs only [execs, exec, eval, evals, evalI, conds, bnd_some, bnd_none, bifb_t, bifb_f, bifb_d, bifb_b, iff_t, iff_d, nxt_nx, nxt_rt, binop, cmpop, addOp_ii, addOp_tt, addOp_ll, subOp_ii, mulOp_ii, fdivOp_ii, modOp_ii, cmpI_ii, cmpLt_ii, isiM, tru_bl, tru_int, absB_i, intB_i, asM_int, asM_bl, asM_tup, asM_false, isOp_n, isOp_bb, isNon_non, isNon_tup, isNon_int, isNon_bl, isNon_lst, isNon_ref, isNon_rol, isNon_str, isNon_fr, setAll_nil, setAll_cons, bindT_nm, bindT_tp, fin_rt, fin_nx, leave_same, bltOp, idx_tup0, idx_tup1, idx_tup2, idx_tup3, idx_lst0, idx_lst1, idx_lst2, idx_lst3, eqD_ii, eqD_bb, eqD_fr, Option.map_some, Option.map_none, Option.bind_some, List.getElem?_cons_zero, List.getElem?_cons_succ, List.set_cons_zero, List.set_cons_succ, List.length_cons, List.length_nil, if_true, if_false, decide_true, decide_false, Bool.not_true, Bool.not_false, decide_eq_true_eq, sizeL, Nat.reduceAdd, Nat.reduceLeDiff, Nat.zero_add, beq_self_eq_true, seqG_tup, seqG_lst, lenB_tup, lenB_lst, idx_cup0, idx_cup1, setAt0, setAt1, cup, isTy, Bool.false_eq_true, newL_f, newL_t, fin_rtk, List.nil_append, wipeE, Int.reduceNe, Int.reduceEq, Int.reduceLT, Int.reduceLE, Int.reduceAdd, Int.reduceSub, Int.reduceMul, Int.reduceNeg, Int.reduceGT, *]
    have er : rngI ((i : Nat) : Int) (j + 1) = .int (i : Nat) :: rngI ((i + 1 : Nat) : Int) j := rfl
    rw [er, forL_c, bindT_nm, Option.bind_some]
    show nxt (execs (callN prog W (k + 4)) W rB2 (some (.ref 0) :: some (netV n ts) :: some (.ref 1) :: some (.int (i : Nat)) :: some (.ref 2) :: some pw :: some (.ref 3) :: o7 :: o8 :: o9 :: o10 :: o11 :: R) [c0, c1, .lst ((ts.map (cur hs)).map fr), .lst (os.map fr)]) _ = _
    rw [st, nxt_nx, e2]
def rB4 : Ss := (Ss.cons (.par 13 14 (.call 38 (.cons (.var 13) (.cons (.var 16) .nil))) (.call 38 (.cons (.var 14) (.cons (.call 40 (.cons (.var 15) (.cons (.var 16) .nil))) .nil)))) .nil)
def prV (p : Rat × Rat) : PV := .tup [fr p.1, fr p.2]
theorem r_loop4 (k : Nat) {D c : Nat} (d : 0 < D) (hd : D ≤ 2 ^ 2600) (c0 c2 : Cell) (hvs ovs : List PV) (o0 o1 o2 o3 o4 o5 o6 o7 o8 o9 o10 o11 o12 : Option PV) (R : List (Option PV)) : ∀ (L : List (Rat × Rat)) (w g : Rat) (cw : Nat) (o15 o16 : Option PV), (∀ p ∈ L, sm 3900 p.1 ∧ cq D c p.2 ∧ cq D c (p.1 * p.2)) → cq D cw w → cq D cw g → cw + c * L.length ≤ 2 ^ 1000 →
    ∃ o15' o16', forL (.tp [15, 16]) [(1, hvs), (3, ovs)] (execs (callN prog W (k + 4)) W rB4) (L.map prV) (o0 :: o1 :: o2 :: o3 :: o4 :: o5 :: o6 :: o7 :: o8 :: o9 :: o10 :: o11 :: o12 :: some (fr w) :: some (fr g) :: o15 :: o16 :: R) [c0, .lst hvs, c2, .lst ovs] =
      some (.nx (o0 :: o1 :: o2 :: o3 :: o4 :: o5 :: o6 :: o7 :: o8 :: o9 :: o10 :: o11 :: o12 :: some (fr (sumL w (L.map (·.2)))) :: some (fr (L.foldl (fun a p => a + p.1 * p.2) g)) :: o15' :: o16' :: R) [c0, .lst hvs, c2, .lst ovs])
  | [], w, g, cw, o15, o16, _, _, _, _ => ⟨o15, o16, forL_ng (by
      show (pbeqs hvs hvs && (pbeqs ovs ovs && true)) = true
      rw [pbeqs_self, pbeqs_self]; rfl)⟩
  | p :: L, w, g, cw, o15, o16, hp, hw, hg, hc => by
    rw [List.length_cons, Nat.mul_add] at hc
    have hgd : gOk [(1, hvs), (3, ovs)] [c0, .lst hvs, c2, .lst ovs] = true := by
      show (pbeqs hvs hvs && (pbeqs ovs ovs && true)) = true
      rw [pbeqs_self, pbeqs_self]; rfl
    obtain ⟨q0, q1, q2⟩ := hp p List.mem_cons_self
    have b1 : cw ≤ 2 ^ 1000 := by omega
    have b2 : c ≤ 2 ^ 1000 := by omega
    have f1 := fun k M => l_plus_ok k M (hw.sm d hd b1) (q1.sm d hd b2) (by decide)
    have f2 := fun k M => l_times_ok k M q0 (q1.sm d hd b2) (by decide)
    have f3 := fun k M => l_plus_ok k M (hg.sm d hd b1) (q2.sm d hd b2) (by decide)
    obtain ⟨o15', o16', e⟩ := r_loop4 k d hd c0 c2 hvs ovs o0 o1 o2 o3 o4 o5 o6 o7 o8 o9 o10 o11 o12 R L (w + p.2) (g + p.1 * p.2) (cw + c) (some (fr p.1)) (some (fr p.2)) (fun q hq => hp q (List.mem_cons_of_mem _ hq)) (cq_add hw q1) (cq_add hg q2) (by omega)
    refine ⟨o15', o16', ?_⟩
    have st : execs (callN prog W (k + 4)) W rB4 (o0 :: o1 :: o2 :: o3 :: o4 :: o5 :: o6 :: o7 :: o8 :: o9 :: o10 :: o11 :: o12 :: some (fr w) :: some (fr g) :: some (fr p.1) :: some (fr p.2) :: R) [c0, .lst hvs, c2, .lst ovs] =
        some (.nx (o0 :: o1 :: o2 :: o3 :: o4 :: o5 :: o6 :: o7 :: o8 :: o9 :: o10 :: o11 :: o12 :: some (fr (w + p.2)) :: some (fr (g + p.1 * p.2)) :: some (fr p.1) :: some (fr p.2) :: R) [c0, .lst hvs, c2, .lst ovs]) := by
      unfold rB4
      clear hp hw hg hc hgd q0 q1 q2 b1 b2 e
      generalize g + p.1 * p.2 = g2 at *
      generalize p.1 * p.2 = pp at *
      generalize w + p.2 = w2 at *
      simp -implicitDefEqProofs only [execs, exec, eval, evals, evalI, conds, bnd_some, bnd_none, bifb_t, bifb_f, bifb_d, bifb_b, iff_t, iff_d, nxt_nx, nxt_rt, binop, cmpop, addOp_ii, addOp_tt, addOp_ll, subOp_ii, mulOp_ii, fdivOp_ii, modOp_ii, cmpI_ii, cmpLt_ii, isiM, tru_bl, tru_int, absB_i, intB_i, asM_int, asM_bl, asM_tup, asM_false, isOp_n, isOp_bb, isNon_non, isNon_tup, isNon_int, isNon_bl, isNon_lst, isNon_ref, isNon_rol, isNon_str, isNon_fr, setAll_nil, setAll_cons, bindT_nm, bindT_tp, fin_rt, fin_nx, leave_same, bltOp, idx_tup0, idx_tup1, idx_tup2, idx_tup3, idx_lst0, idx_lst1, idx_lst2, idx_lst3, eqD_ii, eqD_bb, eqD_fr, Option.map_some, Option.map_none, Option.bind_some, List.getElem?_cons_zero, List.getElem?_cons_succ, List.set_cons_zero, List.set_cons_succ, List.length_cons, List.length_nil, if_true, if_false, decide_true, decide_false, Bool.not_true, Bool.not_false, decide_eq_true_eq, sizeL, Nat.reduceAdd, Nat.reduceLeDiff, Nat.zero_add, beq_self_eq_true, seqG_tup, seqG_lst, lenB_tup, lenB_lst, idx_cup0, idx_cup1, setAt0, setAt1, cup, isTy, Bool.false_eq_true, newL_f, newL_t, fin_rtk, List.nil_append, wipeE, Int.reduceNe, Int.reduceEq, Int.reduceLT, Int.reduceLE, Int.reduceAdd, Int.reduceSub, Int.reduceMul, Int.reduceNeg, Int.reduceGT, *]
    have bd : bindT (.tp [15, 16]) (prV p) (o0 :: o1 :: o2 :: o3 :: o4 :: o5 :: o6 :: o7 :: o8 :: o9 :: o10 :: o11 :: o12 :: some (fr w) :: some (fr g) :: o15 :: o16 :: R) = some (o0 :: o1 :: o2 :: o3 :: o4 :: o5 :: o6 :: o7 :: o8 :: o9 :: o10 :: o11 :: o12 :: some (fr w) :: some (fr g) :: some (fr p.1) :: some (fr p.2) :: R) := rfl
    show forL _ _ _ (prV p :: L.map prV) _ _ = _
    rw [forL_cg hgd, bd, Option.bind_some, st, nxt_nx, e]
    rfl

/-! ### a drawn net is right -/
theorem netK_of {n s : Nat} {ts : List Tie} (h : Net n s ts) (h1 : 1 ≤ n) (h2 : n ≤ 12) (h3 : ts.length ≤ 66) (hs : s ≤ 1000) : NetK n ts := by
  refine ⟨h1, h2, h3, h.lt, fun t ht => ?_⟩
  have g := h.ok t ht
  obtain ⟨q1, q2⟩ := g.q
  have p : 0 < t.2.num := by
    have := (Rat.lt_iff 0 t.2).mp g.p
    have e : (0 : Rat).num = 0 := rfl
    have e2 : (0 : Rat).den = 1 := rfl
    rw [e, e2] at this
    omega
  exact ⟨g.a, g.b, g.c, p, by omega, by omega⟩
theorem outN_cq {D c : Nat} {i : Int} : ∀ (L : List (Tie × Rat)) {a : Rat} {ca : Nat}, cq D ca a → (∀ p ∈ L, cq D c p.2) → cq D (ca + c * L.length) (outN i a L)
  | [], a, ca, h, _ => h.mono (Nat.le_add_right _ _)
  | p :: L, a, ca, h, hp => by
    have := outN_cq (i := i) L (a := upN i p.1 a p.2) (ca := ca + c) (upN_cq h (hp p List.mem_cons_self)) fun q hq => hp q (List.mem_cons_of_mem _ hq)
    exact this.mono (by rw [List.length_cons, Nat.mul_add]; omega)
theorem dotA_fold (xs ys : List Rat) (a : Rat) : (xs.zip ys).foldl (fun a p => a + p.1 * p.2) a = dotA a xs ys := rfl
theorem zip_snd : ∀ (xs ys : List Rat), xs.length = ys.length → (xs.zip ys).map (·.2) = ys
  | [], [], _ => rfl
  | x :: xs, y :: ys, h => by
    show y :: (xs.zip ys).map (·.2) = y :: ys
    rw [zip_snd xs ys (by rw [List.length_cons, List.length_cons] at h; omega)]
theorem zipP_fr : ∀ (xs ys : List Rat), zipP (xs.map fr) (ys.map fr) = (xs.zip ys).map prV
  | [], _ => rfl
  | _ :: _, [] => rfl
  | x :: xs, y :: ys => by
    show PV.tup [fr x, fr y] :: zipP (xs.map fr) (ys.map fr) = _
    rw [zipP_fr xs ys]; rfl
theorem pls_frs : ∀ qs : List Rat, pls (qs.map fr) = true
  | [] => rfl
  | q :: qs => by
    show (pl (fr q) && pls (qs.map fr)) = true
    rw [pls_frs qs]; rfl
theorem dpts_frs : ∀ qs : List Rat, dpts (qs.map fr) ≤ 1
  | [] => Nat.zero_le _
  | q :: qs => by
    show max (dpt (fr q)) (dpts (qs.map fr)) ≤ 1
    have := dpts_frs qs
    rw [dpt_fr]; omega
theorem pl_told (as bs : List Rat) (q : Rat) : pl (.lst [.tup (as.map fr), .tup (bs.map fr), fr q]) = true := by
  show (pls (as.map fr) && (pls (bs.map fr) && (pl (fr q) && true))) = true
  rw [pls_frs, pls_frs, pl_fr]; rfl
theorem dpt_told (as bs : List Rat) (q : Rat) : dpt (.lst [.tup (as.map fr), .tup (bs.map fr), fr q]) ≤ 3 := by
  show max (dpts (as.map fr) + 1) (max (dpts (bs.map fr) + 1) (max (dpt (fr q)) 0)) + 1 ≤ 3
  have := dpts_frs as
  have := dpts_frs bs
  rw [dpt_fr]; omega
theorem under_cup (m : Nat) (x y : Int) : cellUnder m (cup x y) = true := rfl
theorem under_lst (m : Nat) (qs : List Rat) : cellUnder m (.lst (qs.map fr)) = true := by
  show unders m (qs.map fr) = true
  exact unders_fr m qs
theorem all_4 (x y : Int) (as bs cs : List Rat) : ([cup x y, .lst (as.map fr), .lst (bs.map fr), .lst (cs.map fr)] : Mem).all (cellUnder ([cup x y, .lst (as.map fr), .lst (bs.map fr), .lst (cs.map fr)] : Mem).length) = true := by
  simp only [List.all_cons, List.all_nil, under_cup, under_lst, Bool.and_true]
theorem leave_1 (x y : Int) (a b c : Cell) : leave 1 (.bl true) [cup x y, a, b, c] = some (.bl true, [cup x y]) := by
  unfold leave
  rw [if_neg (show ¬ [cup x y, a, b, c].length = 1 from fun z => by cases z)]
  have e : (List.take 1 [cup x y, a, b, c]).all (cellUnder 1) = true := rfl
  rw [if_pos e]
  rfl
theorem eqd_fr (M : Mem) (q : Rat) : eqD M (fr q) (fr q) = some true := by rw [eqD_fr, decide_eq_true rfl]
/-- the end of the law on a net: sums, and flat heights -/
theorem sums_fact {n D c Dh S : Nat} {ts : List Tie} {hs : List Rat} (r : Rd n D c ts hs) (hS : S ≤ 2 ^ 40) (h0 : 0 < Dh) (hh : Dh ≤ 2 ^ 480) (hq : ∀ q ∈ hs, cq Dh S q) (k : Nat) (c0 c2 : Cell) (o0 o1 o2 o3 o4 o5 o6 o7 o8 o9 o10 o11 o12 : Option PV) (R : List (Option PV)) (o15 o16 : Option PV) :
    ∃ o15' o16', forL (.tp [15, 16]) [(1, hs.map fr), (3, (outs n hs ts).map fr)] (execs (callN prog W (k + 4)) W rB4) (zipP (hs.map fr) ((outs n hs ts).map fr)) (o0 :: o1 :: o2 :: o3 :: o4 :: o5 :: o6 :: o7 :: o8 :: o9 :: o10 :: o11 :: o12 :: some (fr 0) :: some (fr 0) :: o15 :: o16 :: R) [c0, .lst (hs.map fr), c2, .lst ((outs n hs ts).map fr)] =
      some (.nx (o0 :: o1 :: o2 :: o3 :: o4 :: o5 :: o6 :: o7 :: o8 :: o9 :: o10 :: o11 :: o12 :: some (fr 0) :: some (fr (sumL 0 (pws hs ts))) :: o15' :: o16' :: R) [c0, .lst (hs.map fr), c2, .lst ((outs n hs ts).map fr)]) := by
  have lo : (outs n hs ts).length = n := by unfold outs; rw [outF_len, List.length_replicate]
  have hl := r.hl
  have n2 := r.net.n2
  have bc := big_mul (n := ts.length) r.cl (by have := r.net.l; omega)
  have ho : ∀ q ∈ outs n hs ts, cq D (c * ts.length) q := fun q hq => by
    rw [outs_law r.net.ok] at hq
    obtain ⟨i, -, rfl⟩ := List.mem_map.mp hq
    refine (outN_cq (D := D) (c := c) (curP hs ts) (cq_0 D 0) fun p hp => ?_).mono (by unfold curP; rw [List.length_map]; omega)
    obtain ⟨t, ht, rfl⟩ := List.mem_map.mp hp
    exact r.cu t ht
  obtain ⟨a, b, e⟩ := r_loop4 k (D := D * Dh) (c := 2 ^ 947) (Nat.mul_pos r.d h0) (by
    have := Nat.mul_le_mul r.dl hh
    rw [← Nat.pow_add] at this
    exact Nat.le_trans this (Nat.pow_le_pow_right (by decide) (by decide))) c0 c2 (hs.map fr) ((outs n hs ts).map fr) o0 o1 o2 o3 o4 o5 o6 o7 o8 o9 o10 o11 o12 R (hs.zip (outs n hs ts)) 0 0 0 o15 o16 (fun p hp => by
      obtain ⟨m1, m2⟩ := List.of_mem_zip hp
      have q1 := hq _ m1
      have q2 := ho _ m2
      have e947 : (2 : Nat) ^ 907 ≤ 2 ^ 947 := Nat.pow_le_pow_right (by decide) (by decide)
      refine ⟨(r.z.h _ m1).mono (by decide), (q2.up Dh).mono (by omega), ?_⟩
      have := cq_mul q1 q2
      rw [Nat.mul_comm Dh D] at this
      refine this.mono ?_
      have := Nat.mul_le_mul hS bc
      rw [← Nat.pow_add] at this
      exact this) (cq_0 _ _) (cq_0 _ _) (by
      have : (hs.zip (outs n hs ts)).length ≤ 2 ^ 4 := by rw [List.length_zip]; omega
      have := Nat.mul_le_mul_left (2 ^ 947) this
      rw [← Nat.pow_add] at this
      have e1 : (2 : Nat) ^ (947 + 4) ≤ 2 ^ 1000 := Nat.pow_le_pow_right (by decide) (by decide)
      omega)
  refine ⟨a, b, ?_⟩
  rw [zipP_fr, e, zip_snd _ _ (by omega), dotA_fold, outs_dot hl r.net.ok, outs_sum r.net.ok]

theorem right_ok (k : Nat) {x y : Int} (h : CupB x y) : ∃ x' y', callN prog W (k + 12) 45 [.ref 0] [cup x y] = some (.bl true, [cup x' y']) ∧ CupB x' y' := by
  obtain ⟨v1, x1, y1, hv1, d1, c1⟩ := some_ok (k + 9) [.int 2, .int 5, .int 12] [] h (by decide) (by decide)
  obtain ⟨v2, x2, y2, hv2, d2, c2⟩ := some_ok (k + 9) [.int 3, .int 12] [] c1 (by decide) (by decide)
  obtain ⟨most, rfl, m1, m2⟩ : ∃ s : Nat, v1 = .int (s : Nat) ∧ 1 ≤ s ∧ s ≤ 12 := by
    rcases List.mem_cons.mp hv1 with rfl | hv
    · exact ⟨2, rfl, by decide, by decide⟩
    rcases List.mem_cons.mp hv with rfl | hv
    · exact ⟨5, rfl, by decide, by decide⟩
    · rw [List.mem_singleton.mp hv]
      exact ⟨12, rfl, by decide, by decide⟩
  obtain ⟨s, rfl, s1, s2⟩ : ∃ s : Nat, v2 = .int (s : Nat) ∧ 1 ≤ s ∧ s ≤ 12 := by
    rcases List.mem_cons.mp hv2 with rfl | hv
    · exact ⟨3, rfl, by decide, by decide⟩
    · rw [List.mem_singleton.mp hv]
      exact ⟨12, rfl, by decide, by decide⟩
  obtain ⟨n, ts, x3, y3, d3, c3, n1, n2, N, lt⟩ := net_ok (k + 5) s c2 s1 (Nat.lt_of_le_of_lt s2 (by decide)) m1 m2
  obtain ⟨hs, x4, y4, p3, e1, c4, hl, hq⟩ := hts_loop (k + 7) (netV n ts) [none, none, none, none, none, none, none, none, none, none, none, none, none, none, none] (rngI 0 n) [] none c3 (by rw [rngI_len]; simp only [List.length_nil]; omega) (fun q hq => by cases hq)
  rw [rngI_len] at hl
  replace hl : hs.length = n := by rw [hl]; simp
  have nk := netK_of N n1 (by omega) (by omega) (by omega)
  obtain ⟨D, c, Dh, r, dh0, dh1, dh2, -⟩ := rd_of (S := 1000000000000) (s := s) nk hl (by decide) (by omega) (by decide) s1 hq (fun t ht => (N.ok t ht).q)
  obtain ⟨q0, hq0⟩ : ∃ q, hs = hv hs 0 :: q := by
    cases hs with
    | nil => exfalso; simp at hl; omega
    | cons a b => exact ⟨b, rfl⟩
  have m0 : hv hs 0 ∈ hs := by rw [hq0]; exact List.mem_cons_self
  obtain ⟨D2, c2', Dh2, r2, -, -, -, -⟩ := rd_of (S := 1000000000000) (s := s) (hs := List.replicate n (hv hs 0)) nk (List.length_replicate ..) (by decide) (by omega) (by decide) s1 (fun q h => by rw [(List.mem_replicate.mp h).2]; exact hq _ m0) (fun t ht => (N.ok t ht).q)
  obtain ⟨p7, p8, p9, p10, e2⟩ := r_loop1 (k + 7) (netV n ts) (cup x4 y4) ((List.replicate n (0 : Rat)).map fr) [none, none, none, none, none, none, none, none] p3 r ts [] 0 0 none none none none (fun t h => h) (by simp only [List.length_nil]; omega) (cq_0 _ _) (by
    have := big_mul (n := ts.length) r.cl (by omega)
    have := pow_907
    omega)
  rw [List.nil_append] at e2
  obtain ⟨r3, r7, r8, r9, r11, e3⟩ := r_loop2 (k + 7) (n := n) r.d r.dl' r.cu (by
    have := big_mul (n := ts.length) r.cl (by omega)
    have := pow_907
    omega) (fr (sumL 0 (pws hs ts))) (cup x4 y4) (.lst (hs.map fr)) [none, none, none, none, none, none, none] p10 n 0 (List.replicate n 0) p3 p7 p8 p9 none (by omega) (List.length_replicate ..) (fun a ha => by rw [if_neg (by omega), hv_rep _ _ (by omega) (by omega)])
  rw [← outs_law nk.ok] at e3
  obtain ⟨w15, w16, e4⟩ := sums_fact r (by decide) dh0 dh1 dh2 (k + 7) (cup x4 y4) (.lst ((ts.map (cur hs)).map fr)) (some (.ref 0)) (some (netV n ts)) (some (.ref 1)) r3 (some (.ref 2)) (some (fr (sumL 0 (pws hs ts)))) (some (.ref 3)) r7 r8 r9 p10 r11 (some (.tup (hs.map fr))) [none, none] none none
  refine ⟨x4, y4, ?_, c4⟩
  have M4 := all_4 x4 y4 hs (ts.map (cur hs)) (outs n hs ts)
  have f1 := fun M => currents_of_ok (k + 5) r M
  have f2 := outs_of_ok (k + 5) r _ M4
  have f3 := fun M => power_of_ok (k + 5) r M
  have f4 := fun M => currents_of_ok (k + 5) r2 M
  have f5 := outs_of_ok (k + 5) r2 _ M4
  have f6 := fun M => power_of_ok (k + 5) r2 M
  rw [curs_flat nk.ok] at f4
  rw [outs_flat nk.ok] at f5
  rw [pws_flat nk.ok] at f6
  have em : (ts.map fun t => fr (cur hs t)) = (ts.map (cur hs)).map fr := by rw [List.map_map]; rfl
  simp only [em] at f1
  simp only [List.map_replicate, z0_fr] at f4 f5 f6
  change forL _ _ _ (rngI 0 n) _ _ = _ at e3
  have g1 := fun M => like_ok (k + 9) _ M (pl_told (ts.map (cur hs)) (outs n hs ts) (sumL 0 (pws hs ts))) (Nat.le_trans (dpt_told _ _ _) (by omega))
  have e0 : ∀ m, List.replicate m z0 = (List.replicate m (0 : Rat)).map fr := fun m => by rw [List.map_replicate, z0_fr]
  have g2 := fun M => like_ok (k + 9) _ M (pl_told (List.replicate ts.length 0) (List.replicate n 0) 0) (Nat.le_trans (dpt_told _ _ _) (by omega))
  rw [← e0, ← e0, z0_fr] at g2
  have i0 : ∀ M, idxOp M (netV n ts) (.int 0) = some (.int (n : Nat)) := fun M => idx_tup0 _ _ _
  have i1 : ∀ M, idxOp M (netV n ts) (.int 1) = some (.tup (ts.map tieV)) := fun M => idx_tup1 _ _ _ _
  have rg := rng_gd (a := 0) (b := (n : Int)) (by decide) (by decide) (by omega) (by omega)
  have rt : ((n : Int) - 0).toNat = n := by omega
  have mu := fun M => mulOp_n M n (by omega)
  have mf := fun M => mulOp_t1 M (fr (hv hs 0)) n (by omega)
  have mz1 := fun M => mulOp_t1 M z0 ts.length (by omega)
  have mz2 := fun M => mulOp_t1 M z0 n (by omega)
  have as3 : ∀ (a b c : Cell) xs, asM true (.lst xs) [a, b, c] = (.ref 3, [a, b, c, .lst xs]) := fun _ _ _ _ => rfl
  have nl1 : ∀ (a : Cell) xs, newL true xs [a] = (.ref 1, [a, .lst xs]) := fun _ _ => rfl
  have nl2 : ∀ (a b : Cell) xs, newL true xs [a, b] = (.ref 2, [a, b, .lst xs]) := fun _ _ _ => rfl
  have ap1 : ∀ (a b : Cell), [a] ++ [b] = [a, b] := fun _ _ => rfl
  have ap2 : ∀ (a b c : Cell), [a, b] ++ [c] = [a, b, c] := fun _ _ _ => rfl
  have ag : ∀ (a b : Nat × List PV), ([a] ++ [b] : Gd) = [a, b] := fun _ _ => rfl
  have tb1 : ∀ (a c d : Cell) xs, tupleB [a, .lst xs, c, d] [.ref 1] = some (.tup xs) := fun _ _ _ _ => rfl
  have tb2 : ∀ (a b d : Cell) xs, tupleB [a, b, .lst xs, d] [.ref 2] = some (.tup xs) := fun _ _ _ _ => rfl
  have tb3 : ∀ (a b c : Cell) xs, tupleB [a, b, c, .lst xs] [.ref 3] = some (.tup xs) := fun _ _ _ _ => rfl
  have ih0 : ∀ (a c d : Cell), idxOp [a, .lst (hs.map fr), c, d] (.ref 1) (.int 0) = some (fr (hv hs 0)) := fun a c d => by
    rw [idx_ref (xs := hs.map fr) rfl]; exact at_hs hs (by decide) (by omega)
  have sq1 : ∀ (a c d : Cell) xs, seqG [a, .lst xs, c, d] (.ref 1) = some (false, xs, [(1, xs)]) := fun _ _ _ _ => rfl
  have sq3 : ∀ (a b c : Cell) xs, seqG [a, b, c, .lst xs] (.ref 3) = some (false, xs, [(3, xs)]) := fun _ _ _ _ => rfl
  have q1 := fun M => eqd_fr M 0
  have q2 := fun M => eqd_fr M (sumL 0 (pws hs ts))
  have lv := leave_1 x4 y4 (.lst (hs.map fr)) (.lst ((ts.map (cur hs)).map fr)) (.lst ((outs n hs ts).map fr))
  have ll : (ts.map tieV).length = ts.length := List.length_map ..
  rw [show (([] : List Rat).map fr) = [] from rfl] at e1 e2
  rw [z0_fr] at e2 e4 q1
  unfold z0 at e2 e4 f6 q1 mz1 mz2 f4 f5 g2
  rw [u__law_right]
  unfold m__law_right
  rw [show (Ss.cons (.exp (.app (.var 2) (.call 43 (.cons (.var 0) (.cons (.bin .pow false (.cst (.int (10))) (.cst (.int (12)))) .nil))))) .nil) = hB from rfl, show (Ss.cons (.set 10 (.call 39 (.cons (.idx (.var 2) (.var 7)) (.cons (.idx (.var 2) (.var 8)) .nil)))) (.cons (.exp (.app (.var 4) (.call 40 (.cons (.var 9) (.cons (.var 10) .nil))))) (.cons (.set 5 (.call 38 (.cons (.var 5) (.cons (.call 40 (.cons (.var 9) (.cons (.call 40 (.cons (.var 10) (.cons (.var 10) .nil))) .nil))) .nil)))) .nil))) = rB1 from rfl, show (Ss.cons (.for_ (.t2 [.t [7, 8, 9], .n 11]) (.zip (.idx (.var 1) (.cst (.int (1)))) (.var 4)) (.cons (.seti (.var 6) (.var 3) (.ite (.cmp .eq (.var 3) (.var 7)) (.call 38 (.cons (.idx (.var 6) (.var 3)) (.cons (.var 11) .nil))) (.ite (.cmp .eq (.var 3) (.var 8)) (.call 39 (.cons (.idx (.var 6) (.var 3)) (.cons (.var 11) .nil))) (.idx (.var 6) (.var 3))))) .nil)) .nil) = rB2 from rfl, show (Ss.cons (.par 13 14 (.call 38 (.cons (.var 13) (.cons (.var 16) .nil))) (.call 38 (.cons (.var 14) (.cons (.call 40 (.cons (.var 15) (.cons (.var 16) .nil))) .nil)))) .nil) = rB4 from rfl]
  clear h hv1 hv2 c1 c2 c3 c4 s1 s2 m1 m2 n1 n2 N lt hl hq nk r dh0 dh1 dh2 hq0 m0 r2 M4 em e0
  generalize netV n ts = nv at *
  generalize (List.replicate n (0 : Rat)).map fr = zs at *
  generalize sumL 0 (pws hs ts) = pw at *
  generalize (outs n hs ts).map fr = ov at *
  generalize (ts.map (cur hs)).map fr = cv at *
  generalize fr (hv hs 0) = h0 at *
  generalize hs.map fr = hv at *
  generalize ts.map tieV = tv at *
  generalize hB = b0 at *
  generalize rB1 = b1 at *
  generalize rB2 = b2 at *
  generalize rB4 = b4 at *
  simp -implicitDefEqProofs only [execs, exec, eval, evals, evalI, conds, bnd_some, bnd_none, bifb_t, bifb_f, bifb_d, bifb_b, iff_t, iff_d, nxt_nx, nxt_rt, binop, cmpop, addOp_ii, addOp_tt, addOp_ll, subOp_ii, mulOp_ii, fdivOp_ii, modOp_ii, cmpI_ii, cmpLt_ii, isiM, tru_bl, tru_int, absB_i, intB_i, asM_int, asM_bl, asM_tup, asM_false, isOp_n, isOp_bb, isNon_non, isNon_tup, isNon_int, isNon_bl, isNon_lst, isNon_ref, isNon_rol, isNon_str, isNon_fr, setAll_nil, setAll_cons, bindT_nm, bindT_tp, fin_rt, fin_nx, leave_same, bltOp, idx_tup0, idx_tup1, idx_tup2, idx_tup3, idx_lst0, idx_lst1, idx_lst2, idx_lst3, eqD_ii, eqD_bb, eqD_fr, Option.map_some, Option.map_none, Option.bind_some, List.getElem?_cons_zero, List.getElem?_cons_succ, List.set_cons_zero, List.set_cons_succ, List.length_cons, List.length_nil, if_true, if_false, decide_true, decide_false, Bool.not_true, Bool.not_false, decide_eq_true_eq, sizeL, Nat.reduceAdd, Nat.reduceLeDiff, Nat.zero_add, beq_self_eq_true, seqG_tup, seqG_lst, lenB_tup, lenB_lst, idx_cup0, idx_cup1, setAt0, setAt1, cup, isTy, Bool.false_eq_true, newL_f, newL_t, fin_rtk, List.nil_append, wipeE, Int.reduceNe, Int.reduceEq, Int.reduceLT, Int.reduceLE, Int.reduceAdd, Int.reduceSub, Int.reduceMul, Int.reduceNeg, Int.reduceGT, conds, set2, set41, set42, cmpop, *]

/-! ### sums right -/
theorem Hk.sm {q : Rat} (h : Hk q) : sm 133 q := by
  have e : (10000000000000000000000000000000000000000 : Nat) < 2 ^ 133 := by decide +kernel
  have h1 := h.a
  have h2 := h.b
  have h3 := h.d
  exact ⟨by unfold lt2; omega, by omega⟩
theorem need_both_ok (k : Nat) {p q : Rat} (hp : Hk p) (hq : Hk q) (M : Mem) : callN prog W (k + 4) 22 [fr p, fr q] M = some (.non, M) := by
  have f1 := fun k => need_frac_lt k M hp.a hp.b hp.d
  have f2 := fun k => need_frac_lt k M hq.a hq.b hq.d
  rw [u_need_both]
  unfold m_need_both
  clear hp hq
  generalize fr p = a at *
  generalize fr q = b at *
  simp -implicitDefEqProofs only [execs, exec, eval, evals, evalI, conds, bnd_some, bnd_none, bifb_t, bifb_f, bifb_d, bifb_b, iff_t, iff_d, nxt_nx, nxt_rt, binop, cmpop, addOp_ii, addOp_tt, addOp_ll, subOp_ii, mulOp_ii, fdivOp_ii, modOp_ii, cmpI_ii, cmpLt_ii, isiM, tru_bl, tru_int, absB_i, intB_i, asM_int, asM_bl, asM_tup, asM_false, isOp_n, isOp_bb, isNon_non, isNon_tup, isNon_int, isNon_bl, isNon_lst, isNon_ref, isNon_rol, isNon_str, isNon_fr, setAll_nil, setAll_cons, bindT_nm, bindT_tp, fin_rt, fin_nx, leave_same, bltOp, idx_tup0, idx_tup1, idx_tup2, idx_tup3, idx_lst0, idx_lst1, idx_lst2, idx_lst3, eqD_ii, eqD_bb, eqD_fr, Option.map_some, Option.map_none, Option.bind_some, List.getElem?_cons_zero, List.getElem?_cons_succ, List.set_cons_zero, List.set_cons_succ, List.length_cons, List.length_nil, if_true, if_false, decide_true, decide_false, Bool.not_true, Bool.not_false, decide_eq_true_eq, sizeL, Nat.reduceAdd, Nat.reduceLeDiff, Nat.zero_add, beq_self_eq_true, seqG_tup, seqG_lst, lenB_tup, lenB_lst, idx_cup0, idx_cup1, setAt0, setAt1, cup, isTy, Bool.false_eq_true, newL_f, newL_t, fin_rtk, List.nil_append, wipeE, Int.reduceNe, Int.reduceEq, Int.reduceLT, Int.reduceLE, Int.reduceAdd, Int.reduceSub, Int.reduceMul, Int.reduceNeg, Int.reduceGT, *]
theorem plus_ok (k : Nat) {p q : Rat} (hp : Hk p) (hq : Hk q) (M : Mem) : callN prog W (k + 5) 24 [fr p, fr q] M = some (fr (p + q), M) := by
  have f1 := fun k => need_both_ok k hp hq M
  have f2 := fun k => sum_of_ok k M hp.sm hq.sm (by decide)
  rw [u_plus]
  unfold m_plus
  clear hp hq
  generalize fr (p + q) = c at *
  generalize fr p = a at *
  generalize fr q = b at *
  simp -implicitDefEqProofs only [execs, exec, eval, evals, evalI, conds, bnd_some, bnd_none, bifb_t, bifb_f, bifb_d, bifb_b, iff_t, iff_d, nxt_nx, nxt_rt, binop, cmpop, addOp_ii, addOp_tt, addOp_ll, subOp_ii, mulOp_ii, fdivOp_ii, modOp_ii, cmpI_ii, cmpLt_ii, isiM, tru_bl, tru_int, absB_i, intB_i, asM_int, asM_bl, asM_tup, asM_false, isOp_n, isOp_bb, isNon_non, isNon_tup, isNon_int, isNon_bl, isNon_lst, isNon_ref, isNon_rol, isNon_str, isNon_fr, setAll_nil, setAll_cons, bindT_nm, bindT_tp, fin_rt, fin_nx, leave_same, bltOp, idx_tup0, idx_tup1, idx_tup2, idx_tup3, idx_lst0, idx_lst1, idx_lst2, idx_lst3, eqD_ii, eqD_bb, eqD_fr, Option.map_some, Option.map_none, Option.bind_some, List.getElem?_cons_zero, List.getElem?_cons_succ, List.set_cons_zero, List.set_cons_succ, List.length_cons, List.length_nil, if_true, if_false, decide_true, decide_false, Bool.not_true, Bool.not_false, decide_eq_true_eq, sizeL, Nat.reduceAdd, Nat.reduceLeDiff, Nat.zero_add, beq_self_eq_true, seqG_tup, seqG_lst, lenB_tup, lenB_lst, idx_cup0, idx_cup1, setAt0, setAt1, cup, isTy, Bool.false_eq_true, newL_f, newL_t, fin_rtk, List.nil_append, wipeE, Int.reduceNe, Int.reduceEq, Int.reduceLT, Int.reduceLE, Int.reduceAdd, Int.reduceSub, Int.reduceMul, Int.reduceNeg, Int.reduceGT, *]
theorem minus_ok (k : Nat) {p q : Rat} (hp : Hk p) (hq : Hk q) (M : Mem) : callN prog W (k + 5) 25 [fr p, fr q] M = some (fr (p - q), M) := by
  have f1 := fun k => need_both_ok k hp hq M
  have f2 := fun k => less_by_ok k M hp.sm hq.sm (by decide)
  rw [u_minus]
  unfold m_minus
  clear hp hq
  generalize fr (p - q) = c at *
  generalize fr p = a at *
  generalize fr q = b at *
  simp -implicitDefEqProofs only [execs, exec, eval, evals, evalI, conds, bnd_some, bnd_none, bifb_t, bifb_f, bifb_d, bifb_b, iff_t, iff_d, nxt_nx, nxt_rt, binop, cmpop, addOp_ii, addOp_tt, addOp_ll, subOp_ii, mulOp_ii, fdivOp_ii, modOp_ii, cmpI_ii, cmpLt_ii, isiM, tru_bl, tru_int, absB_i, intB_i, asM_int, asM_bl, asM_tup, asM_false, isOp_n, isOp_bb, isNon_non, isNon_tup, isNon_int, isNon_bl, isNon_lst, isNon_ref, isNon_rol, isNon_str, isNon_fr, setAll_nil, setAll_cons, bindT_nm, bindT_tp, fin_rt, fin_nx, leave_same, bltOp, idx_tup0, idx_tup1, idx_tup2, idx_tup3, idx_lst0, idx_lst1, idx_lst2, idx_lst3, eqD_ii, eqD_bb, eqD_fr, Option.map_some, Option.map_none, Option.bind_some, List.getElem?_cons_zero, List.getElem?_cons_succ, List.set_cons_zero, List.set_cons_succ, List.length_cons, List.length_nil, if_true, if_false, decide_true, decide_false, Bool.not_true, Bool.not_false, decide_eq_true_eq, sizeL, Nat.reduceAdd, Nat.reduceLeDiff, Nat.zero_add, beq_self_eq_true, seqG_tup, seqG_lst, lenB_tup, lenB_lst, idx_cup0, idx_cup1, setAt0, setAt1, cup, isTy, Bool.false_eq_true, newL_f, newL_t, fin_rtk, List.nil_append, wipeE, Int.reduceNe, Int.reduceEq, Int.reduceLT, Int.reduceLE, Int.reduceAdd, Int.reduceSub, Int.reduceMul, Int.reduceNeg, Int.reduceGT, *]
theorem times_ok (k : Nat) {p q : Rat} (hp : Hk p) (hq : Hk q) (M : Mem) : callN prog W (k + 5) 26 [fr p, fr q] M = some (fr (p * q), M) := by
  have f1 := fun k => need_both_ok k hp hq M
  have f2 := fun k => product_of_ok k M hp.sm hq.sm (by decide)
  rw [u_times]
  unfold m_times
  clear hp hq
  generalize fr (p * q) = c at *
  generalize fr p = a at *
  generalize fr q = b at *
  simp -implicitDefEqProofs only [execs, exec, eval, evals, evalI, conds, bnd_some, bnd_none, bifb_t, bifb_f, bifb_d, bifb_b, iff_t, iff_d, nxt_nx, nxt_rt, binop, cmpop, addOp_ii, addOp_tt, addOp_ll, subOp_ii, mulOp_ii, fdivOp_ii, modOp_ii, cmpI_ii, cmpLt_ii, isiM, tru_bl, tru_int, absB_i, intB_i, asM_int, asM_bl, asM_tup, asM_false, isOp_n, isOp_bb, isNon_non, isNon_tup, isNon_int, isNon_bl, isNon_lst, isNon_ref, isNon_rol, isNon_str, isNon_fr, setAll_nil, setAll_cons, bindT_nm, bindT_tp, fin_rt, fin_nx, leave_same, bltOp, idx_tup0, idx_tup1, idx_tup2, idx_tup3, idx_lst0, idx_lst1, idx_lst2, idx_lst3, eqD_ii, eqD_bb, eqD_fr, Option.map_some, Option.map_none, Option.bind_some, List.getElem?_cons_zero, List.getElem?_cons_succ, List.set_cons_zero, List.set_cons_succ, List.length_cons, List.length_nil, if_true, if_false, decide_true, decide_false, Bool.not_true, Bool.not_false, decide_eq_true_eq, sizeL, Nat.reduceAdd, Nat.reduceLeDiff, Nat.zero_add, beq_self_eq_true, seqG_tup, seqG_lst, lenB_tup, lenB_lst, idx_cup0, idx_cup1, setAt0, setAt1, cup, isTy, Bool.false_eq_true, newL_f, newL_t, fin_rtk, List.nil_append, wipeE, Int.reduceNe, Int.reduceEq, Int.reduceLT, Int.reduceLE, Int.reduceAdd, Int.reduceSub, Int.reduceMul, Int.reduceNeg, Int.reduceGT, *]
theorem over_ok (k : Nat) {p q : Rat} (hp : Hk p) (hq : Hk q) (h0 : q ≠ 0) (M : Mem) : callN prog W (k + 5) 27 [fr p, fr q] M = some (fr (p / q), M) := by
  have f1 := fun k => need_both_ok k hp hq M
  have f2 := fun k => part_of_ok k M hp.sm hq.sm (by decide) h0
  have f3 : ∀ M, eqD M (fr q) (.tup [.int 0, .int 1]) = some false := fun M => by
    show eqD M (fr q) (fr 0) = _
    rw [eqD_fr, decide_eq_false h0]
  rw [u_over]
  unfold m_over
  clear hp hq h0
  generalize fr (p / q) = c at *
  generalize fr p = a at *
  generalize fr q = b at *
  simp -implicitDefEqProofs only [execs, exec, eval, evals, evalI, conds, bnd_some, bnd_none, bifb_t, bifb_f, bifb_d, bifb_b, iff_t, iff_d, nxt_nx, nxt_rt, binop, cmpop, addOp_ii, addOp_tt, addOp_ll, subOp_ii, mulOp_ii, fdivOp_ii, modOp_ii, cmpI_ii, cmpLt_ii, isiM, tru_bl, tru_int, absB_i, intB_i, asM_int, asM_bl, asM_tup, asM_false, isOp_n, isOp_bb, isNon_non, isNon_tup, isNon_int, isNon_bl, isNon_lst, isNon_ref, isNon_rol, isNon_str, isNon_fr, setAll_nil, setAll_cons, bindT_nm, bindT_tp, fin_rt, fin_nx, leave_same, bltOp, idx_tup0, idx_tup1, idx_tup2, idx_tup3, idx_lst0, idx_lst1, idx_lst2, idx_lst3, eqD_ii, eqD_bb, eqD_fr, Option.map_some, Option.map_none, Option.bind_some, List.getElem?_cons_zero, List.getElem?_cons_succ, List.set_cons_zero, List.set_cons_succ, List.length_cons, List.length_nil, if_true, if_false, decide_true, decide_false, Bool.not_true, Bool.not_false, decide_eq_true_eq, sizeL, Nat.reduceAdd, Nat.reduceLeDiff, Nat.zero_add, beq_self_eq_true, seqG_tup, seqG_lst, lenB_tup, lenB_lst, idx_cup0, idx_cup1, setAt0, setAt1, cup, isTy, Bool.false_eq_true, newL_f, newL_t, fin_rtk, List.nil_append, wipeE, Int.reduceNe, Int.reduceEq, Int.reduceLT, Int.reduceLE, Int.reduceAdd, Int.reduceSub, Int.reduceMul, Int.reduceNeg, Int.reduceGT, k_NONE, cmpop, *]
theorem is_less_ok (k : Nat) {p q : Rat} (hp : Hk p) (hq : Hk q) (M : Mem) : callN prog W (k + 5) 28 [fr p, fr q] M = some (.bl (decide (p < q)), M) := by
  have f1 := fun k => need_both_ok k hp hq M
  have f2 := fun k => is_under_ok k M hp.sm hq.sm (by decide)
  rw [u_is_less]
  unfold m_is_less
  clear hp hq
  generalize decide (p < q) = c at *
  generalize fr p = a at *
  generalize fr q = b at *
  simp -implicitDefEqProofs only [execs, exec, eval, evals, evalI, conds, bnd_some, bnd_none, bifb_t, bifb_f, bifb_d, bifb_b, iff_t, iff_d, nxt_nx, nxt_rt, binop, cmpop, addOp_ii, addOp_tt, addOp_ll, subOp_ii, mulOp_ii, fdivOp_ii, modOp_ii, cmpI_ii, cmpLt_ii, isiM, tru_bl, tru_int, absB_i, intB_i, asM_int, asM_bl, asM_tup, asM_false, isOp_n, isOp_bb, isNon_non, isNon_tup, isNon_int, isNon_bl, isNon_lst, isNon_ref, isNon_rol, isNon_str, isNon_fr, setAll_nil, setAll_cons, bindT_nm, bindT_tp, fin_rt, fin_nx, leave_same, bltOp, idx_tup0, idx_tup1, idx_tup2, idx_tup3, idx_lst0, idx_lst1, idx_lst2, idx_lst3, eqD_ii, eqD_bb, eqD_fr, Option.map_some, Option.map_none, Option.bind_some, List.getElem?_cons_zero, List.getElem?_cons_succ, List.set_cons_zero, List.set_cons_succ, List.length_cons, List.length_nil, if_true, if_false, decide_true, decide_false, Bool.not_true, Bool.not_false, decide_eq_true_eq, sizeL, Nat.reduceAdd, Nat.reduceLeDiff, Nat.zero_add, beq_self_eq_true, seqG_tup, seqG_lst, lenB_tup, lenB_lst, idx_cup0, idx_cup1, setAt0, setAt1, cup, isTy, Bool.false_eq_true, newL_f, newL_t, fin_rtk, List.nil_append, wipeE, Int.reduceNe, Int.reduceEq, Int.reduceLT, Int.reduceLE, Int.reduceAdd, Int.reduceSub, Int.reduceMul, Int.reduceNeg, Int.reduceGT, *]
theorem is_fraction_ok (k : Nat) {p : Rat} (hp : Hk p) (M : Mem) : callN prog W (k + 3) 23 [fr p] M = some (.bl true, M) := by
  have f1 := fun k => fits_lt k M hp.a hp.b hp.d
  rw [u_is_fraction]
  unfold m_is_fraction
  clear hp
  generalize fr p = a at *
  simp -implicitDefEqProofs only [execs, exec, eval, evals, evalI, conds, bnd_some, bnd_none, bifb_t, bifb_f, bifb_d, bifb_b, iff_t, iff_d, nxt_nx, nxt_rt, binop, cmpop, addOp_ii, addOp_tt, addOp_ll, subOp_ii, mulOp_ii, fdivOp_ii, modOp_ii, cmpI_ii, cmpLt_ii, isiM, tru_bl, tru_int, absB_i, intB_i, asM_int, asM_bl, asM_tup, asM_false, isOp_n, isOp_bb, isNon_non, isNon_tup, isNon_int, isNon_bl, isNon_lst, isNon_ref, isNon_rol, isNon_str, isNon_fr, setAll_nil, setAll_cons, bindT_nm, bindT_tp, fin_rt, fin_nx, leave_same, bltOp, idx_tup0, idx_tup1, idx_tup2, idx_tup3, idx_lst0, idx_lst1, idx_lst2, idx_lst3, eqD_ii, eqD_bb, eqD_fr, Option.map_some, Option.map_none, Option.bind_some, List.getElem?_cons_zero, List.getElem?_cons_succ, List.set_cons_zero, List.set_cons_succ, List.length_cons, List.length_nil, if_true, if_false, decide_true, decide_false, Bool.not_true, Bool.not_false, decide_eq_true_eq, sizeL, Nat.reduceAdd, Nat.reduceLeDiff, Nat.zero_add, beq_self_eq_true, seqG_tup, seqG_lst, lenB_tup, lenB_lst, idx_cup0, idx_cup1, setAt0, setAt1, cup, isTy, Bool.false_eq_true, newL_f, newL_t, fin_rtk, List.nil_append, wipeE, Int.reduceNe, Int.reduceEq, Int.reduceLT, Int.reduceLE, Int.reduceAdd, Int.reduceSub, Int.reduceMul, Int.reduceNeg, Int.reduceGT, *]
structure Row where
  v : Rat
  A : Int
  B : Int
def rowV (r : Row) : PV := .tup [fr r.v, .int r.A, .int r.B]
structure RowK (r : Row) : Prop where
  e : r.v = Rat.divInt r.A r.B
  n : r.B ≠ 0
  a : lt2 1000 r.A
  b : lt2 1000 r.B
def suB : Ss := (Ss.cons (.ite (.or (.not (.call 36 (.cons (.var 8) (.cons (.call 37 (.cons (.var 9) (.cons (.var 10) .nil))) .nil)))) (.cmp .ne (.bin .mul false (.idx (.var 8) (.cst (.int (0)))) (.var 10)) (.bin .mul false (.var 9) (.idx (.var 8) (.cst (.int (1))))))) (.cons (.ret (.cst (.bl false))) .nil) .nil) .nil)
theorem row_eq {r : Row} (h : RowK r) : r.v.num * r.B = r.A * r.v.den := by
  have e1 := Rat.num_divInt_den r.v
  have e2 : Rat.divInt r.v.num r.v.den = Rat.divInt r.A r.B := e1.trans h.e
  exact (Rat.divInt_eq_divInt_iff (Int.ne_of_gt (den_pos r.v)) h.n).mp e2
theorem rows_loop (k : Nat) (c0 : Cell) (rv : List PV) (o0 o1 o2 o3 o4 o5 o6 o7 o11 : Option PV) : ∀ (rs : List Row) (o8 o9 o10 : Option PV), (∀ r ∈ rs, RowK r) → ∃ o8' o9' o10',
    forL (.tp [8, 9, 10]) [(1, rv)] (execs (callN prog W (k + 5)) W suB) (rs.map rowV) [o0, o1, o2, o3, o4, o5, o6, o7, o8, o9, o10, o11] [c0, .lst rv] = some (.nx [o0, o1, o2, o3, o4, o5, o6, o7, o8', o9', o10', o11] [c0, .lst rv])
  | [], o8, o9, o10, _ => ⟨o8, o9, o10, forL_ng (by
      show (pbeqs rv rv && true) = true
      rw [pbeqs_self]; rfl)⟩
  | r :: rs, o8, o9, o10, h => by
    have hg : gOk [(1, rv)] [c0, .lst rv] = true := by
      show (pbeqs rv rv && true) = true
      rw [pbeqs_self]; rfl
    have hr := h r List.mem_cons_self
    obtain ⟨o8', o9', o10', e⟩ := rows_loop k c0 rv o0 o1 o2 o3 o4 o5 o6 o7 o11 rs (some (fr r.v)) (some (.int r.A)) (some (.int r.B)) fun s hs => h s (List.mem_cons_of_mem _ hs)
    refine ⟨o8', o9', o10', ?_⟩
    have f1 : ∀ k M, callN prog W (k + 1) 37 [.int r.A, .int r.B] M = some (fr r.v, M) := fun k M => by
      rw [hr.e]
      exact l_least_ok k _ _ M hr.b hr.n (by decide)
    have f2 := fun M => like_ok (k + 3) (fr r.v) M rfl (by rw [dpt_fr]; omega)
    have sv : sm 1000 r.v := by
      rw [hr.e]
      exact sm_low hr.a hr.b hr.n
    have q1 : mulOk r.v.num r.B = true := mulOk_of sv.1 hr.b (by decide)
    have q2 : mulOk r.A r.v.den = true := mulOk_of hr.a sv.den (by decide)
    have q3 := row_eq hr
    have i0 := fun M => idx_fr0 M r.v
    have i1 := fun M => idx_fr1 M r.v
    have st : execs (callN prog W (k + 5)) W suB [o0, o1, o2, o3, o4, o5, o6, o7, some (fr r.v), some (.int r.A), some (.int r.B), o11] [c0, .lst rv] = some (.nx [o0, o1, o2, o3, o4, o5, o6, o7, some (fr r.v), some (.int r.A), some (.int r.B), o11] [c0, .lst rv]) := by
      unfold suB
      clear h hg hr e sv
      generalize fr r.v = fv at *
      generalize r.v.num = vn at *
      generalize (r.v.den : Int) = vd at *
      generalize r.A = A at *
      generalize r.B = B at *
      simp -implicitDefEqProofs only [execs, exec, eval, evals, evalI, conds, bnd_some, bnd_none, bifb_t, bifb_f, bifb_d, bifb_b, iff_t, iff_d, nxt_nx, nxt_rt, binop, cmpop, addOp_ii, addOp_tt, addOp_ll, subOp_ii, mulOp_ii, fdivOp_ii, modOp_ii, cmpI_ii, cmpLt_ii, isiM, tru_bl, tru_int, absB_i, intB_i, asM_int, asM_bl, asM_tup, asM_false, isOp_n, isOp_bb, isNon_non, isNon_tup, isNon_int, isNon_bl, isNon_lst, isNon_ref, isNon_rol, isNon_str, isNon_fr, setAll_nil, setAll_cons, bindT_nm, bindT_tp, fin_rt, fin_nx, leave_same, bltOp, idx_tup0, idx_tup1, idx_tup2, idx_tup3, idx_lst0, idx_lst1, idx_lst2, idx_lst3, eqD_ii, eqD_bb, eqD_fr, Option.map_some, Option.map_none, Option.bind_some, List.getElem?_cons_zero, List.getElem?_cons_succ, List.set_cons_zero, List.set_cons_succ, List.length_cons, List.length_nil, if_true, if_false, decide_true, decide_false, Bool.not_true, Bool.not_false, decide_eq_true_eq, sizeL, Nat.reduceAdd, Nat.reduceLeDiff, Nat.zero_add, beq_self_eq_true, seqG_tup, seqG_lst, lenB_tup, lenB_lst, idx_cup0, idx_cup1, setAt0, setAt1, cup, isTy, Bool.false_eq_true, newL_f, newL_t, fin_rtk, List.nil_append, wipeE, Int.reduceNe, Int.reduceEq, Int.reduceLT, Int.reduceLE, Int.reduceAdd, Int.reduceSub, Int.reduceMul, Int.reduceNeg, Int.reduceGT, cmpop, eq_self, *]
    have bd : bindT (.tp [8, 9, 10]) (rowV r) [o0, o1, o2, o3, o4, o5, o6, o7, o8, o9, o10, o11] = some [o0, o1, o2, o3, o4, o5, o6, o7, some (fr r.v), some (.int r.A), some (.int r.B), o11] := rfl
    show forL _ _ _ (rowV r :: rs.map rowV) _ _ = _
    rw [forL_cg hg, bd, Option.bind_some, st, nxt_nx, e]

theorem nb_hk {s : Nat} {q : Rat} (h : nb s q) (hs : s < 10000000000000000000000000000000000000000) : Hk q := by
  obtain ⟨h1, h2⟩ := h
  exact ⟨by omega, by omega, by omega⟩
theorem leave_1a (x y : Int) (a : Cell) : leave 1 (.bl true) [cup x y, a] = some (.bl true, [cup x y]) := by
  unfold leave
  rw [if_neg (show ¬ [cup x y, a].length = 1 from fun z => by cases z)]
  have e : (List.take 1 [cup x y, a]).all (cellUnder 1) = true := rfl
  rw [if_pos e]
  rfl
theorem sums_ok (k : Nat) {x y : Int} (h : CupB x y) : ∃ x' y', callN prog W (k + 8) 44 [.ref 0] [cup x y] = some (.bl true, [cup x' y']) ∧ CupB x' y' := by
  obtain ⟨p, x1, y1, d1, c1, np⟩ := fraction_ok (k + 4) (most := 9999999999999999999) (S := 9999999999999999999) [] h (by decide) (by decide) (by decide) (by decide)
  obtain ⟨q, x2, y2, d2, c2, nq⟩ := fraction_ok (k + 4) (most := 9999999999999999999) (S := 9999999999999999999) [] c1 (by decide) (by decide) (by decide) (by decide)
  have d1 : callN prog W (k + 7) 43 [.ref 0, .int 9999999999999999999] [cup x y] = some (fr p, [cup x1 y1]) := d1
  have d2 : callN prog W (k + 7) 43 [.ref 0, .int 9999999999999999999] [cup x1 y1] = some (fr q, [cup x2 y2]) := d2
  refine ⟨x2, y2, ?_, c2⟩
  have e64 : (9999999999999999999 : Nat) < 2 ^ 64 := by decide
  have kp := nb_hk np (by decide)
  have kq := nb_hk nq (by decide)
  have sp := np.sm e64
  have sq := nq.sm e64
  have k0 : Hk 0 := ⟨by decide, by decide, by decide⟩
  have k1 : Hk 1 := ⟨by decide, by decide, by decide⟩
  have k2 : Hk 2 := ⟨by decide, by decide, by decide⟩
  have f1 := fun M => plus_ok (k + 2) kp kq M
  have f2 := fun M => minus_ok (k + 2) kp kq M
  have f3 := fun M => times_ok (k + 2) kp kq M
  have f5 := fun M => is_less_ok (k + 2) kp kq M
  have f6 := fun M => is_less_ok (k + 2) kq kp M
  have f7 : ∀ M, callN prog W (k + 7) 28 [fr p, fr p] M = some (.bl false, M) := fun M => by
    have := is_less_ok (k + 2) kp kp M
    rw [decide_eq_false (Rat.lt_irrefl)] at this
    exact this
  have t1 : ∀ M, callN prog W (k + 7) 24 [fr p, .tup [.int 0, .int 1]] M = some (fr p, M) := fun M => by
    have := plus_ok (k + 2) kp k0 M
    rw [Rat.add_zero] at this
    exact this
  have t2 : ∀ M, callN prog W (k + 7) 26 [fr p, .tup [.int 1, .int 1]] M = some (fr p, M) := fun M => by
    have := times_ok (k + 2) kp k1 M
    rw [Rat.mul_one] at this
    exact this
  have t3 : ∀ M, callN prog W (k + 7) 25 [fr p, fr p] M = some (.tup [.int 0, .int 1], M) := fun M => by
    have := minus_ok (k + 2) kp kp M
    rw [Rat.sub_self] at this
    exact this
  have t4 : ∀ M, callN prog W (k + 7) 26 [fr p, .tup [.int 0, .int 1]] M = some (.tup [.int 0, .int 1], M) := fun M => by
    have := times_ok (k + 2) kp k0 M
    rw [Rat.mul_zero] at this
    exact this
  have t5 : ∀ M, callN prog W (k + 7) 25 [.tup [.int 0, .int 1], fr p] M = some (.tup [.int (0 - p.num), .int p.den], M) := fun M => by
    have := minus_ok (k + 2) k0 kp M
    have e1 : (0 : Rat) - p = -p := by rw [Rat.sub_eq_add_neg, Rat.zero_add]
    have e2 : fr (-p) = .tup [.int (0 - p.num), .int p.den] := by
      unfold fr
      rw [Rat.neg_num, Rat.neg_den, Int.zero_sub]
    rw [e1, e2] at this
    exact this
  have t6 := fun M => plus_ok (k + 2) kp kp M
  have t7 : ∀ M, callN prog W (k + 7) 26 [.tup [.int 2, .int 1], fr p] M = some (fr (p + p), M) := fun M => by
    have := times_ok (k + 2) k2 kp M
    have e : (2 : Rat) * p = p + p := by grind
    rw [e] at this
    exact this
  have kpq : Hk (p + q) := by
    obtain ⟨a1, a2⟩ := np
    obtain ⟨b1, b2⟩ := nq
    have e : (9999999999999999999 : Nat) * 9999999999999999999 + 9999999999999999999 * 9999999999999999999 < 10000000000000000000000000000000000000000 := by decide
    have m1 := Nat.mul_le_mul a1 b2
    have m2 := Nat.mul_le_mul b1 a2
    have m3 := Nat.mul_le_mul a2 b2
    refine nb_hk (s := 9999999999999999999 * 9999999999999999999 + 9999999999999999999 * 9999999999999999999) ?_ e
    rw [← add_low]
    refine low_nb ?_ ?_ (Int.ne_of_gt (Int.mul_pos (den_pos p) (den_pos q)))
    · have := Int.natAbs_add_le (p.num * q.den) (q.num * p.den)
      rw [Int.natAbs_mul, Int.natAbs_mul, Int.natAbs_natCast, Int.natAbs_natCast] at this
      omega
    · rw [Int.natAbs_mul, Int.natAbs_natCast, Int.natAbs_natCast]
      omega
  have t8 : ∀ M, callN prog W (k + 7) 23 [fr (p + q)] M = some (.bl true, M) := fun M => is_fraction_ok (k + 4) kpq M
  have g1 := fun M => like_ok (k + 5) (.lst [.bl (decide (p < q)), .bl (decide (q < p)), .bl false]) M rfl (by show 1 ≤ k + 5; omega)
  have g2 := fun M => like_ok (k + 5) (.lst [fr p, fr p, .tup [.int 0, .int 1], .tup [.int 0, .int 1], .tup [.int (0 - p.num), .int p.den], fr (p + p), .bl true]) M rfl (by show 2 ≤ k + 5; omega)
  have w1 : decide (p.num * q.den < q.num * p.den) = decide (p < q) := (decide_eq_decide.mpr (Rat.lt_iff p q)).symm
  have w2 : decide (q.num * p.den < p.num * q.den) = decide (q < p) := (decide_eq_decide.mpr (Rat.lt_iff q p)).symm
  have m1 : mulOk p.num q.den = true := mulOk_of sp.1 sq.den (by decide)
  have m2 : mulOk q.num p.den = true := mulOk_of sq.1 sp.den (by decide)
  have m3 : mulOk p.den q.den = true := mulOk_of sp.den sq.den (by decide)
  have m4 : mulOk p.num q.num = true := mulOk_of sp.1 sq.1 (by decide)
  have m5 : mulOk p.den q.num = true := mulOk_of sp.den sq.1 (by decide)
  have pw : powOp (.int 10) (.int 19) = some (.int 10000000000000000000) := by rfl
  have hd := Int.ne_of_gt (Int.mul_pos (den_pos p) (den_pos q))
  have r1 : RowK ⟨p + q, p.num * q.den + q.num * p.den, p.den * q.den⟩ := ⟨(add_low p q).symm, hd, (((sp.1.mul sq.den).add (sq.1.mul sp.den))).mono (by decide), (sp.den.mul sq.den).mono (by decide)⟩
  have r2 : RowK ⟨p - q, p.num * q.den - q.num * p.den, p.den * q.den⟩ := ⟨(sub_low p q).symm, hd, (((sp.1.mul sq.den).sub (sq.1.mul sp.den))).mono (by decide), (sp.den.mul sq.den).mono (by decide)⟩
  have r3 : RowK ⟨p * q, p.num * q.num, p.den * q.den⟩ := ⟨(mul_low p q).symm, hd, (sp.1.mul sq.1).mono (by decide), (sp.den.mul sq.den).mono (by decide)⟩
  have i0 := fun M => idx_fr0 M p
  have bd : bindT (.t2 [.t [3, 4], .t [5, 6]]) (.tup [fr p, fr q]) [some (.ref 0), some (fr p), some (fr q), none, none, none, none, none, none, none, none, none] = some [some (.ref 0), some (fr p), some (fr q), some (.int p.num), some (.int p.den), some (.int q.num), some (.int q.den), none, none, none, none, none] := rfl
  have nl1 : ∀ (a : Cell) xs, newL true xs [a] = (.ref 1, [a, .lst xs]) := fun _ _ => rfl
  have ap1 : ∀ (a b : Cell), [a] ++ [b] = [a, b] := fun _ _ => rfl
  have sq1 : ∀ (a : Cell) xs, seqG [a, .lst xs] (.ref 1) = some (false, xs, [(1, xs)]) := fun _ _ => rfl
  have lv := fun a => leave_1a x2 y2 a
  by_cases h0 : q = 0
  · have n0 : q.num = 0 := by rw [h0]; rfl
    obtain ⟨o8, o9, o10, e⟩ := rows_loop (k + 2) (cup x2 y2) ([(⟨p + q, p.num * q.den + q.num * p.den, p.den * q.den⟩ : Row), ⟨p - q, p.num * q.den - q.num * p.den, p.den * q.den⟩, ⟨p * q, p.num * q.num, p.den * q.den⟩].map rowV) (some (.ref 0)) (some (fr p)) (some (fr q)) (some (.int p.num)) (some (.int p.den)) (some (.int q.num)) (some (.int q.den)) (some (.ref 1)) none [⟨p + q, p.num * q.den + q.num * p.den, p.den * q.den⟩, ⟨p - q, p.num * q.den - q.num * p.den, p.den * q.den⟩, ⟨p * q, p.num * q.num, p.den * q.den⟩] none none none (fun r hr => by
      rcases List.mem_cons.mp hr with rfl | hr
      · exact r1
      rcases List.mem_cons.mp hr with rfl | hr
      · exact r2
      · rw [List.mem_singleton.mp hr]; exact r3)
    simp only [List.map_cons, List.map_nil, rowV] at e
    have z0 : ∀ M, eqD M (.int q.num) (.int 0) = some true := fun M => by rw [eqD_ii, n0]; rfl
    rw [u__law_sums_right]
    unfold m__law_sums_right
    rw [show (Ss.cons (.ite (.or (.not (.call 36 (.cons (.var 8) (.cons (.call 37 (.cons (.var 9) (.cons (.var 10) .nil))) .nil)))) (.cmp .ne (.bin .mul false (.idx (.var 8) (.cst (.int (0)))) (.var 10)) (.bin .mul false (.var 9) (.idx (.var 8) (.cst (.int (1))))))) (.cons (.ret (.cst (.bl false))) .nil) .nil) .nil) = suB from rfl]
    clear h c1 c2 np nq kp kq sp sq k0 k1 k2 kpq hd r1 r2 r3 h0 n0 e64 i0
    generalize suB = bb at *
    generalize decide (p < q) = lt1 at *
    generalize decide (q < p) = lt2 at *
    generalize fr (p + q) = pq at *
    generalize fr (p - q) = pmq at *
    generalize fr (p * q) = ptq at *
    generalize fr (p + p) = pp at *
    generalize fr p = fp at *
    generalize fr q = fq at *
    simp -implicitDefEqProofs only [execs, exec, eval, evals, evalI, conds, bnd_some, bnd_none, bifb_t, bifb_f, bifb_d, bifb_b, iff_t, iff_d, nxt_nx, nxt_rt, binop, cmpop, addOp_ii, addOp_tt, addOp_ll, subOp_ii, mulOp_ii, fdivOp_ii, modOp_ii, cmpI_ii, cmpLt_ii, isiM, tru_bl, tru_int, absB_i, intB_i, asM_int, asM_bl, asM_tup, asM_false, isOp_n, isOp_bb, isNon_non, isNon_tup, isNon_int, isNon_bl, isNon_lst, isNon_ref, isNon_rol, isNon_str, isNon_fr, setAll_nil, setAll_cons, bindT_nm, bindT_tp, fin_rt, fin_nx, leave_same, bltOp, idx_tup0, idx_tup1, idx_tup2, idx_tup3, idx_lst0, idx_lst1, idx_lst2, idx_lst3, eqD_ii, eqD_bb, eqD_fr, Option.map_some, Option.map_none, Option.bind_some, List.getElem?_cons_zero, List.getElem?_cons_succ, List.set_cons_zero, List.set_cons_succ, List.length_cons, List.length_nil, if_true, if_false, decide_true, decide_false, Bool.not_true, Bool.not_false, decide_eq_true_eq, sizeL, Nat.reduceAdd, Nat.reduceLeDiff, Nat.zero_add, beq_self_eq_true, seqG_tup, seqG_lst, lenB_tup, lenB_lst, idx_cup0, idx_cup1, setAt0, setAt1, cup, isTy, Bool.false_eq_true, newL_f, newL_t, fin_rtk, List.nil_append, wipeE, Int.reduceNe, Int.reduceEq, Int.reduceLT, Int.reduceLE, Int.reduceAdd, Int.reduceSub, Int.reduceMul, Int.reduceNeg, Int.reduceGT, conds, set2, cmpop, *]
  · have r4 : RowK ⟨p / q, p.num * q.den, p.den * q.num⟩ := ⟨(div_low p q h0).symm, fun z => (Int.mul_eq_zero.mp z).elim (Int.ne_of_gt (den_pos p)) (num_ne h0), (sp.1.mul sq.den).mono (by decide), (sp.den.mul sq.1).mono (by decide)⟩
    have lt3 : ((3 : Nat) < 16777216) = True := eq_true (by decide)
    have f4 := fun M => over_ok (k + 2) kp kq h0 M
    obtain ⟨o8, o9, o10, e⟩ := rows_loop (k + 2) (cup x2 y2) ([(⟨p + q, p.num * q.den + q.num * p.den, p.den * q.den⟩ : Row), ⟨p - q, p.num * q.den - q.num * p.den, p.den * q.den⟩, ⟨p * q, p.num * q.num, p.den * q.den⟩, ⟨p / q, p.num * q.den, p.den * q.num⟩].map rowV) (some (.ref 0)) (some (fr p)) (some (fr q)) (some (.int p.num)) (some (.int p.den)) (some (.int q.num)) (some (.int q.den)) (some (.ref 1)) none [⟨p + q, p.num * q.den + q.num * p.den, p.den * q.den⟩, ⟨p - q, p.num * q.den - q.num * p.den, p.den * q.den⟩, ⟨p * q, p.num * q.num, p.den * q.den⟩, ⟨p / q, p.num * q.den, p.den * q.num⟩] none none none (fun r hr => by
      rcases List.mem_cons.mp hr with rfl | hr
      · exact r1
      rcases List.mem_cons.mp hr with rfl | hr
      · exact r2
      rcases List.mem_cons.mp hr with rfl | hr
      · exact r3
      · rw [List.mem_singleton.mp hr]; exact r4)
    simp only [List.map_cons, List.map_nil, rowV] at e
    have z0 : ∀ M, eqD M (.int q.num) (.int 0) = some false := fun M => by rw [eqD_ii, decide_eq_false (num_ne h0)]
    rw [u__law_sums_right]
    unfold m__law_sums_right
    rw [show (Ss.cons (.ite (.or (.not (.call 36 (.cons (.var 8) (.cons (.call 37 (.cons (.var 9) (.cons (.var 10) .nil))) .nil)))) (.cmp .ne (.bin .mul false (.idx (.var 8) (.cst (.int (0)))) (.var 10)) (.bin .mul false (.var 9) (.idx (.var 8) (.cst (.int (1))))))) (.cons (.ret (.cst (.bl false))) .nil) .nil) .nil) = suB from rfl]
    clear h c1 c2 np nq kp kq sp sq k0 k1 k2 kpq hd r1 r2 r3 r4 h0 e64 i0
    generalize suB = bb at *
    generalize decide (p < q) = lt1 at *
    generalize decide (q < p) = lt2 at *
    generalize fr (p + q) = pq at *
    generalize fr (p - q) = pmq at *
    generalize fr (p * q) = ptq at *
    generalize fr (p / q) = pdq at *
    generalize fr (p + p) = pp at *
    generalize fr p = fp at *
    generalize fr q = fq at *
    simp -implicitDefEqProofs only [execs, exec, eval, evals, evalI, conds, bnd_some, bnd_none, bifb_t, bifb_f, bifb_d, bifb_b, iff_t, iff_d, nxt_nx, nxt_rt, binop, cmpop, addOp_ii, addOp_tt, addOp_ll, subOp_ii, mulOp_ii, fdivOp_ii, modOp_ii, cmpI_ii, cmpLt_ii, isiM, tru_bl, tru_int, absB_i, intB_i, asM_int, asM_bl, asM_tup, asM_false, isOp_n, isOp_bb, isNon_non, isNon_tup, isNon_int, isNon_bl, isNon_lst, isNon_ref, isNon_rol, isNon_str, isNon_fr, setAll_nil, setAll_cons, bindT_nm, bindT_tp, fin_rt, fin_nx, leave_same, bltOp, idx_tup0, idx_tup1, idx_tup2, idx_tup3, idx_lst0, idx_lst1, idx_lst2, idx_lst3, eqD_ii, eqD_bb, eqD_fr, Option.map_some, Option.map_none, Option.bind_some, List.getElem?_cons_zero, List.getElem?_cons_succ, List.set_cons_zero, List.set_cons_succ, List.length_cons, List.length_nil, if_true, if_false, decide_true, decide_false, Bool.not_true, Bool.not_false, decide_eq_true_eq, sizeL, Nat.reduceAdd, Nat.reduceLeDiff, Nat.zero_add, beq_self_eq_true, seqG_tup, seqG_lst, lenB_tup, lenB_lst, idx_cup0, idx_cup1, setAt0, setAt1, cup, isTy, Bool.false_eq_true, newL_f, newL_t, fin_rtk, List.nil_append, wipeE, Int.reduceNe, Int.reduceEq, Int.reduceLT, Int.reduceLE, Int.reduceAdd, Int.reduceSub, Int.reduceMul, Int.reduceNeg, Int.reduceGT, conds, set2, cmpop, List.cons_append, lt3, *]

/-! ### rows, stars, full nets -/
def tsQ (es : List (Int × Int)) (q : Rat) : List Tie := es.map fun e => (e, q)
def rowE (n : Nat) : List (Int × Int) := (List.range (n - 1)).map fun a => (((a : Nat) : Int), ((a : Nat) : Int) + 1)
def rowH (n : Nat) : List Rat := (List.range n).map fun a => (((n : Int) - 1 - ((a : Nat) : Int) : Int) : Rat)
def starE (n : Nat) : List (Int × Int) := (List.range (n - 1)).map fun a => ((0 : Int), 1 + ((a : Nat) : Int))
def starH (n : Nat) : List Rat := 0 :: List.replicate (n - 1) (5 / 3)
def fullE1 (n a : Nat) : List (Int × Int) := (List.range (n - 1 - a)).map fun b => (((a : Nat) : Int), ((a : Nat) : Int) + 1 + ((b : Nat) : Int))
def fullE (n m : Nat) : List (Int × Int) := (List.range m).flatMap (fullE1 n)
def fullH (n : Nat) (v : Nat) : List Rat := (List.range n).map fun a => if a = v then 1 else 0
theorem cur_q (hs : List Rat) (e : Int × Int) (q : Rat) : cur hs (e, q) = q * cur hs (e, 1) := by
  unfold cur fall
  rw [Rat.one_mul]
theorem curs_q (hs : List Rat) (es : List (Int × Int)) (q : Rat) : (tsQ es q).map (cur hs) = ((tsQ es 1).map (cur hs)).map (q * ·) := by
  unfold tsQ
  rw [List.map_map, List.map_map, List.map_map]
  apply List.map_congr_left
  intro e _
  exact cur_q hs e q
theorem outN_q (q : Rat) (i : Int) (hs : List Rat) : ∀ (es : List (Int × Int)) (a : Rat), outN i (q * a) (curP hs (tsQ es q)) = q * outN i a (curP hs (tsQ es 1))
  | [], a => rfl
  | e :: es, a => by
    show outN i (upN i (e, q) (q * a) (cur hs (e, q))) (curP hs (tsQ es q)) = q * outN i (upN i (e, 1) a (cur hs (e, 1))) (curP hs (tsQ es 1))
    rw [← outN_q q i hs es]
    congr 1
    rw [cur_q]
    unfold upN
    show (if i = e.1 then _ else if i = e.2 then _ else _) = q * (if i = e.1 then _ else if i = e.2 then _ else _)
    split
    · rw [Rat.mul_add]
    · split
      · rw [Rat.sub_eq_add_neg, Rat.sub_eq_add_neg, Rat.mul_add, Rat.mul_neg]
      · rfl
theorem outs_q (n : Nat) (q : Rat) (hs : List Rat) (es : List (Int × Int)) : outsL n (curP hs (tsQ es q)) = (outsL n (curP hs (tsQ es 1))).map (q * ·) := by
  unfold outsL
  rw [List.map_map]
  apply List.map_congr_left
  intro i _
  have := outN_q q (i : Nat) hs es 0
  rw [Rat.mul_zero] at this
  exact this
theorem pws_q (q : Rat) (hs : List Rat) : ∀ (es : List (Int × Int)) (a : Rat), sumL (q * a) (pws hs (tsQ es q)) = q * sumL a (pws hs (tsQ es 1))
  | [], a => rfl
  | e :: es, a => by
    show sumL (q * a + cur hs (e, q) * fall hs (e, q)) (pws hs (tsQ es q)) = q * sumL (a + cur hs (e, 1) * fall hs (e, 1)) (pws hs (tsQ es 1))
    rw [← pws_q q hs es]
    congr 1
    rw [cur_q, Rat.mul_add, Rat.mul_assoc]
    rfl
theorem row_fact : ∀ n : Nat, n < 13 → 2 ≤ n → (tsQ (rowE n) 1).map (cur (rowH n)) = List.replicate (n - 1) 1 ∧ outsL n (curP (rowH n) (tsQ (rowE n) 1)) = 1 :: (List.replicate (n - 2) 0 ++ [-1]) ∧ sumL 0 (pws (rowH n) (tsQ (rowE n) 1)) = (((n : Int) - 1 : Int) : Rat) := by decide +kernel
theorem star_fact : ∀ n : Nat, n < 13 → 2 ≤ n → (tsQ (starE n) 1).map (cur (starH n)) = List.replicate (n - 1) (-(5 / 3)) ∧ outsL n (curP (starH n) (tsQ (starE n) 1)) = ((1 - (n : Int) : Int) : Rat) * (5 / 3) :: List.replicate (n - 1) (5 / 3) ∧ sumL 0 (pws (starH n) (tsQ (starE n) 1)) = (((n : Int) - 1 : Int) : Rat) * ((5 / 3) * (5 / 3)) := by decide +kernel
theorem full_fact : ∀ n : Nat, n < 13 → 2 ≤ n → ∀ v : Nat, v < n → outsL n (curP (fullH n v) (tsQ (fullE n n) 1)) = (List.range n).map (fun a => if a = v then (((n : Int) - 1 : Int) : Rat) else -1) ∧ sumL 0 (pws (fullH n v) (tsQ (fullE n n) 1)) = (((n : Int) - 1 : Int) : Rat) := by decide +kernel
def okE (n : Nat) (es : List (Int × Int)) : Bool := decide (es.length ≤ 66) && decide (Rise es) && es.all fun e => decide (0 ≤ e.1) && decide (e.1 < e.2) && decide (e.2 < (n : Int))
theorem okE_net {n : Nat} {es : List (Int × Int)} (h : okE n es = true) (h1 : 1 ≤ n) (h2 : n ≤ 12) {q : Rat} (hq : nb 12 q) (hp : 0 < q) : NetK n (tsQ es q) := by
  unfold okE at h
  rw [Bool.and_eq_true, Bool.and_eq_true] at h
  obtain ⟨⟨h3, h4⟩, h5⟩ := h
  have em : (tsQ es q).map (·.1) = es := by
    unfold tsQ
    rw [List.map_map]
    exact List.map_id _
  refine ⟨h1, h2, by unfold tsQ; rw [List.length_map]; exact of_decide_eq_true h3, by rw [em]; exact of_decide_eq_true h4, fun t ht => ?_⟩
  obtain ⟨e, he, rfl⟩ := List.mem_map.mp ht
  have := List.all_eq_true.mp h5 e he
  rw [Bool.and_eq_true, Bool.and_eq_true, decide_eq_true_eq, decide_eq_true_eq, decide_eq_true_eq] at this
  obtain ⟨⟨a, b⟩, c⟩ := this
  obtain ⟨q1, q2⟩ := hq
  have p : 0 < q.num := by
    have := (Rat.lt_iff 0 q).mp hp
    have e : (0 : Rat).num = 0 := rfl
    have e2 : (0 : Rat).den = 1 := rfl
    rw [e, e2] at this
    omega
  exact ⟨a, b, c, p, by show q.num < _; omega, by show (q.den : Int) < _; omega⟩
theorem row_okE : ∀ n : Nat, n < 13 → 2 ≤ n → okE n (rowE n) = true ∧ okE n (starE n) = true ∧ okE n (fullE n n) = true := by decide +kernel
theorem rowH_nb : ∀ n : Nat, n < 13 → ∀ q ∈ rowH n, nb 12 q := fun n hn q hq => by
  obtain ⟨a, ha, rfl⟩ := List.mem_map.mp hq
  rw [List.mem_range] at ha
  refine ⟨?_, by show (1 : Nat) ≤ 12; decide⟩
  show ((n : Int) - 1 - a).natAbs ≤ 12
  omega
theorem starH_nb (n : Nat) : ∀ q ∈ starH n, nb 12 q := fun q hq => by
  rcases List.mem_cons.mp hq with rfl | hq
  · exact ⟨by decide, by decide⟩
  · rw [(List.mem_replicate.mp hq).2]
    exact ⟨by decide +kernel, by decide +kernel⟩
theorem fullH_nb (n v : Nat) : ∀ q ∈ fullH n v, nb 12 q := fun q hq => by
  obtain ⟨a, ha, rfl⟩ := List.mem_map.mp hq
  split
  · exact ⟨by decide, by decide⟩
  · exact ⟨by decide, by decide⟩

/-! ### formulas: the walk -/
theorem rngI_map : ∀ (n : Nat) (a : Int), rngI a n = (List.range n).map fun i => .int (a + ((i : Nat) : Int))
  | 0, _ => rfl
  | n + 1, a => by
    rw [List.range_succ_eq_map, List.map_cons, List.map_map]
    show PV.int a :: rngI (a + 1) n = _
    rw [rngI_map n (a + 1)]
    congr 1
    · congr 1; simp
    · apply List.map_congr_left
      intro i _
      show PV.int (a + 1 + (i : Int)) = PV.int (a + ((i + 1 : Nat) : Int))
      congr 1
      omega
def rE0 : E := (E.tup (.cons (.var 15) (.cons (.bin .add false (.var 15) (.cst (.int (1)))) (.cons (.var 2) .nil))))
def rE1 : E := (E.tup (.cons (.bin .sub false (.bin .sub false (.var 1) (.cst (.int (1)))) (.var 15)) (.cons (.cst (.int (1))) .nil)))
def rE2 : E := (E.tup (.cons (.cst (.int (0))) (.cons (.var 15) (.cons (.var 2) .nil))))
def rE3 : E := (E.tup (.cons (.var 12) (.cons (.var 16) (.cons (.tup (.cons (.cst (.int (1))) (.cons (.cst (.int (1))) .nil))) .nil))))
def rE4 : E := (E.ite (.cmp .eq (.var 15) (.var 13)) (.tup (.cons (.cst (.int (1))) (.cons (.cst (.int (1))) .nil))) (.tup (.cons (.cst (.int (0))) (.cons (.cst (.int (1))) .nil))))
def rE5 : E := (E.ite (.cmp .eq (.var 15) (.var 13)) (.tup (.cons (.bin .sub false (.var 1) (.cst (.int (1)))) (.cons (.cst (.int (1))) .nil))) (.tup (.cons (.neg (.cst (.int (1)))) (.cons (.cst (.int (1))) .nil))))
def fuB : Ss := (Ss.cons (.set 11 (.bin .add false (.var 11) (.lc false [16] (.nm 16) (.rng (.bin .add false (.var 12) (.cst (.int (1)))) (.var 1)) .nil (.tup (.cons (.var 12) (.cons (.var 16) (.cons (.tup (.cons (.cst (.int (1))) (.cons (.cst (.int (1))) .nil))) .nil))))))) .nil)
theorem lc_row (call : Nat → List PV → Mem → Option (PV × Mem)) (n : Nat) (q : Rat) (M : Mem) (o0 o3 o4 o5 o6 o7 o8 o9 o10 o11 o12 o13 o14 o15 o16 : Option PV) :
    lcL (.nm 15) [] (fun _ M => some (true, M)) (eval call rE0) [o0, some (.int (n : Nat)), some (fr q), o3, o4, o5, o6, o7, o8, o9, o10, o11, o12, o13, o14, o15, o16] (rngI 0 (n - 1)) [] M = some ((tsQ (rowE n) q).map tieV, M) := by
  rw [rngI_map, lcL_of (fun i : Nat => PV.int (0 + (i : Int))) (fun i : Nat => tieV ((((i : Nat) : Int), ((i : Nat) : Int) + 1), q))]
  · rw [List.nil_append]
    unfold tsQ rowE
    rw [List.map_map, List.map_map]; rfl
  · intro i _
    refine ⟨_, bindT_nm _ _, ?_⟩
    unfold rE0 tieV
    simp -implicitDefEqProofs only [execs, exec, eval, evals, evalI, conds, bnd_some, bnd_none, bifb_t, bifb_f, bifb_d, bifb_b, iff_t, iff_d, nxt_nx, nxt_rt, binop, cmpop, addOp_ii, addOp_tt, addOp_ll, subOp_ii, mulOp_ii, fdivOp_ii, modOp_ii, cmpI_ii, cmpLt_ii, isiM, tru_bl, tru_int, absB_i, intB_i, asM_int, asM_bl, asM_tup, asM_false, isOp_n, isOp_bb, isNon_non, isNon_tup, isNon_int, isNon_bl, isNon_lst, isNon_ref, isNon_rol, isNon_str, isNon_fr, setAll_nil, setAll_cons, bindT_nm, bindT_tp, fin_rt, fin_nx, leave_same, bltOp, idx_tup0, idx_tup1, idx_tup2, idx_tup3, idx_lst0, idx_lst1, idx_lst2, idx_lst3, eqD_ii, eqD_bb, eqD_fr, Option.map_some, Option.map_none, Option.bind_some, List.getElem?_cons_zero, List.getElem?_cons_succ, List.set_cons_zero, List.set_cons_succ, List.length_cons, List.length_nil, if_true, if_false, decide_true, decide_false, Bool.not_true, Bool.not_false, decide_eq_true_eq, sizeL, Nat.reduceAdd, Nat.reduceLeDiff, Nat.zero_add, beq_self_eq_true, seqG_tup, seqG_lst, lenB_tup, lenB_lst, idx_cup0, idx_cup1, setAt0, setAt1, cup, isTy, Bool.false_eq_true, newL_f, newL_t, fin_rtk, List.nil_append, wipeE, Int.reduceNe, Int.reduceEq, Int.reduceLT, Int.reduceLE, Int.reduceAdd, Int.reduceSub, Int.reduceMul, Int.reduceNeg, Int.reduceGT, Int.zero_add]
theorem lc_rowH (call : Nat → List PV → Mem → Option (PV × Mem)) (n : Nat) (M : Mem) (o0 o2 o3 o4 o5 o6 o7 o8 o9 o10 o11 o12 o13 o14 o15 o16 : Option PV) :
    lcL (.nm 15) [] (fun _ M => some (true, M)) (eval call rE1) [o0, some (.int (n : Nat)), o2, o3, o4, o5, o6, o7, o8, o9, o10, o11, o12, o13, o14, o15, o16] (rngI 0 n) [] M = some ((rowH n).map fr, M) := by
  rw [rngI_map, lcL_of (fun i : Nat => PV.int (0 + (i : Int))) (fun i : Nat => .tup [.int ((n : Int) - 1 - (i : Int)), .int 1])]
  · rw [List.nil_append]
    unfold rowH
    rw [List.map_map]; rfl
  · intro i _
    refine ⟨_, bindT_nm _ _, ?_⟩
    unfold rE1
    simp -implicitDefEqProofs only [execs, exec, eval, evals, evalI, conds, bnd_some, bnd_none, bifb_t, bifb_f, bifb_d, bifb_b, iff_t, iff_d, nxt_nx, nxt_rt, binop, cmpop, addOp_ii, addOp_tt, addOp_ll, subOp_ii, mulOp_ii, fdivOp_ii, modOp_ii, cmpI_ii, cmpLt_ii, isiM, tru_bl, tru_int, absB_i, intB_i, asM_int, asM_bl, asM_tup, asM_false, isOp_n, isOp_bb, isNon_non, isNon_tup, isNon_int, isNon_bl, isNon_lst, isNon_ref, isNon_rol, isNon_str, isNon_fr, setAll_nil, setAll_cons, bindT_nm, bindT_tp, fin_rt, fin_nx, leave_same, bltOp, idx_tup0, idx_tup1, idx_tup2, idx_tup3, idx_lst0, idx_lst1, idx_lst2, idx_lst3, eqD_ii, eqD_bb, eqD_fr, Option.map_some, Option.map_none, Option.bind_some, List.getElem?_cons_zero, List.getElem?_cons_succ, List.set_cons_zero, List.set_cons_succ, List.length_cons, List.length_nil, if_true, if_false, decide_true, decide_false, Bool.not_true, Bool.not_false, decide_eq_true_eq, sizeL, Nat.reduceAdd, Nat.reduceLeDiff, Nat.zero_add, beq_self_eq_true, seqG_tup, seqG_lst, lenB_tup, lenB_lst, idx_cup0, idx_cup1, setAt0, setAt1, cup, isTy, Bool.false_eq_true, newL_f, newL_t, fin_rtk, List.nil_append, wipeE, Int.reduceNe, Int.reduceEq, Int.reduceLT, Int.reduceLE, Int.reduceAdd, Int.reduceSub, Int.reduceMul, Int.reduceNeg, Int.reduceGT, Int.zero_add]
theorem lc_star (call : Nat → List PV → Mem → Option (PV × Mem)) (n : Nat) (q : Rat) (M : Mem) (o0 o3 o4 o5 o6 o7 o8 o9 o10 o11 o12 o13 o14 o15 o16 : Option PV) :
    lcL (.nm 15) [] (fun _ M => some (true, M)) (eval call rE2) [o0, some (.int (n : Nat)), some (fr q), o3, o4, o5, o6, o7, o8, o9, o10, o11, o12, o13, o14, o15, o16] (rngI 1 (n - 1)) [] M = some ((tsQ (starE n) q).map tieV, M) := by
  rw [rngI_map, lcL_of (fun i : Nat => PV.int (1 + (i : Int))) (fun i : Nat => tieV (((0 : Int), 1 + ((i : Nat) : Int)), q))]
  · rw [List.nil_append]
    unfold tsQ starE
    rw [List.map_map, List.map_map]; rfl
  · intro i _
    refine ⟨_, bindT_nm _ _, ?_⟩
    unfold rE2 tieV
    simp -implicitDefEqProofs only [execs, exec, eval, evals, evalI, conds, bnd_some, bnd_none, bifb_t, bifb_f, bifb_d, bifb_b, iff_t, iff_d, nxt_nx, nxt_rt, binop, cmpop, addOp_ii, addOp_tt, addOp_ll, subOp_ii, mulOp_ii, fdivOp_ii, modOp_ii, cmpI_ii, cmpLt_ii, isiM, tru_bl, tru_int, absB_i, intB_i, asM_int, asM_bl, asM_tup, asM_false, isOp_n, isOp_bb, isNon_non, isNon_tup, isNon_int, isNon_bl, isNon_lst, isNon_ref, isNon_rol, isNon_str, isNon_fr, setAll_nil, setAll_cons, bindT_nm, bindT_tp, fin_rt, fin_nx, leave_same, bltOp, idx_tup0, idx_tup1, idx_tup2, idx_tup3, idx_lst0, idx_lst1, idx_lst2, idx_lst3, eqD_ii, eqD_bb, eqD_fr, Option.map_some, Option.map_none, Option.bind_some, List.getElem?_cons_zero, List.getElem?_cons_succ, List.set_cons_zero, List.set_cons_succ, List.length_cons, List.length_nil, if_true, if_false, decide_true, decide_false, Bool.not_true, Bool.not_false, decide_eq_true_eq, sizeL, Nat.reduceAdd, Nat.reduceLeDiff, Nat.zero_add, beq_self_eq_true, seqG_tup, seqG_lst, lenB_tup, lenB_lst, idx_cup0, idx_cup1, setAt0, setAt1, cup, isTy, Bool.false_eq_true, newL_f, newL_t, fin_rtk, List.nil_append, wipeE, Int.reduceNe, Int.reduceEq, Int.reduceLT, Int.reduceLE, Int.reduceAdd, Int.reduceSub, Int.reduceMul, Int.reduceNeg, Int.reduceGT]
theorem lc_full (call : Nat → List PV → Mem → Option (PV × Mem)) (n a : Nat) (M : Mem) (o0 o2 o3 o4 o5 o6 o7 o8 o9 o10 o11 o13 o14 o15 o16 : Option PV) :
    lcL (.nm 16) [] (fun _ M => some (true, M)) (eval call rE3) [o0, some (.int (n : Nat)), o2, o3, o4, o5, o6, o7, o8, o9, o10, o11, some (.int (a : Nat)), o13, o14, o15, o16] (rngI ((a : Int) + 1) (n - 1 - a)) [] M = some ((tsQ (fullE1 n a) 1).map tieV, M) := by
  rw [rngI_map, lcL_of (fun i : Nat => PV.int ((a : Int) + 1 + (i : Int))) (fun i : Nat => tieV ((((a : Nat) : Int), ((a : Nat) : Int) + 1 + ((i : Nat) : Int)), 1))]
  · rw [List.nil_append]
    unfold tsQ fullE1
    rw [List.map_map, List.map_map]; rfl
  · intro i _
    refine ⟨_, bindT_nm _ _, ?_⟩
    have e : fr 1 = .tup [.int 1, .int 1] := rfl
    unfold rE3 tieV
    rw [e]
    simp -implicitDefEqProofs only [execs, exec, eval, evals, evalI, conds, bnd_some, bnd_none, bifb_t, bifb_f, bifb_d, bifb_b, iff_t, iff_d, nxt_nx, nxt_rt, binop, cmpop, addOp_ii, addOp_tt, addOp_ll, subOp_ii, mulOp_ii, fdivOp_ii, modOp_ii, cmpI_ii, cmpLt_ii, isiM, tru_bl, tru_int, absB_i, intB_i, asM_int, asM_bl, asM_tup, asM_false, isOp_n, isOp_bb, isNon_non, isNon_tup, isNon_int, isNon_bl, isNon_lst, isNon_ref, isNon_rol, isNon_str, isNon_fr, setAll_nil, setAll_cons, bindT_nm, bindT_tp, fin_rt, fin_nx, leave_same, bltOp, idx_tup0, idx_tup1, idx_tup2, idx_tup3, idx_lst0, idx_lst1, idx_lst2, idx_lst3, eqD_ii, eqD_bb, eqD_fr, Option.map_some, Option.map_none, Option.bind_some, List.getElem?_cons_zero, List.getElem?_cons_succ, List.set_cons_zero, List.set_cons_succ, List.length_cons, List.length_nil, if_true, if_false, decide_true, decide_false, Bool.not_true, Bool.not_false, decide_eq_true_eq, sizeL, Nat.reduceAdd, Nat.reduceLeDiff, Nat.zero_add, beq_self_eq_true, seqG_tup, seqG_lst, lenB_tup, lenB_lst, idx_cup0, idx_cup1, setAt0, setAt1, cup, isTy, Bool.false_eq_true, newL_f, newL_t, fin_rtk, List.nil_append, wipeE, Int.reduceNe, Int.reduceEq, Int.reduceLT, Int.reduceLE, Int.reduceAdd, Int.reduceSub, Int.reduceMul, Int.reduceNeg, Int.reduceGT]
theorem lc_fullH (call : Nat → List PV → Mem → Option (PV × Mem)) (n v : Nat) (M : Mem) (o0 o1 o2 o3 o4 o5 o6 o7 o8 o9 o10 o11 o12 o14 o15 o16 : Option PV) :
    lcL (.nm 15) [] (fun _ M => some (true, M)) (eval call rE4) [o0, o1, o2, o3, o4, o5, o6, o7, o8, o9, o10, o11, o12, some (.int (v : Nat)), o14, o15, o16] (rngI 0 n) [] M = some ((fullH n v).map fr, M) := by
  rw [rngI_map, lcL_of (fun i : Nat => PV.int (0 + (i : Int))) (fun i : Nat => fr (if i = v then 1 else 0))]
  · rw [List.nil_append]
    unfold fullH
    rw [List.map_map]; rfl
  · intro i _
    refine ⟨_, bindT_nm _ _, ?_⟩
    unfold rE4
    by_cases e : i = v
    · have e1 : fr 1 = .tup [.int 1, .int 1] := rfl
      subst e
      rw [if_pos rfl, e1]
      simp -implicitDefEqProofs only [execs, exec, eval, evals, evalI, conds, bnd_some, bnd_none, bifb_t, bifb_f, bifb_d, bifb_b, iff_t, iff_d, nxt_nx, nxt_rt, binop, cmpop, addOp_ii, addOp_tt, addOp_ll, subOp_ii, mulOp_ii, fdivOp_ii, modOp_ii, cmpI_ii, cmpLt_ii, isiM, tru_bl, tru_int, absB_i, intB_i, asM_int, asM_bl, asM_tup, asM_false, isOp_n, isOp_bb, isNon_non, isNon_tup, isNon_int, isNon_bl, isNon_lst, isNon_ref, isNon_rol, isNon_str, isNon_fr, setAll_nil, setAll_cons, bindT_nm, bindT_tp, fin_rt, fin_nx, leave_same, bltOp, idx_tup0, idx_tup1, idx_tup2, idx_tup3, idx_lst0, idx_lst1, idx_lst2, idx_lst3, eqD_ii, eqD_bb, eqD_fr, Option.map_some, Option.map_none, Option.bind_some, List.getElem?_cons_zero, List.getElem?_cons_succ, List.set_cons_zero, List.set_cons_succ, List.length_cons, List.length_nil, if_true, if_false, decide_true, decide_false, Bool.not_true, Bool.not_false, decide_eq_true_eq, sizeL, Nat.reduceAdd, Nat.reduceLeDiff, Nat.zero_add, beq_self_eq_true, seqG_tup, seqG_lst, lenB_tup, lenB_lst, idx_cup0, idx_cup1, setAt0, setAt1, cup, isTy, Bool.false_eq_true, newL_f, newL_t, fin_rtk, List.nil_append, wipeE, Int.reduceNe, Int.reduceEq, Int.reduceLT, Int.reduceLE, Int.reduceAdd, Int.reduceSub, Int.reduceMul, Int.reduceNeg, Int.reduceGT, cmpop, Int.zero_add, eq_self]
    · have e1 : fr 0 = .tup [.int 0, .int 1] := rfl
      have e2 : ((i : Int) = (v : Int)) = False := eq_false (by omega)
      rw [if_neg e, e1]
      simp -implicitDefEqProofs only [execs, exec, eval, evals, evalI, conds, bnd_some, bnd_none, bifb_t, bifb_f, bifb_d, bifb_b, iff_t, iff_d, nxt_nx, nxt_rt, binop, cmpop, addOp_ii, addOp_tt, addOp_ll, subOp_ii, mulOp_ii, fdivOp_ii, modOp_ii, cmpI_ii, cmpLt_ii, isiM, tru_bl, tru_int, absB_i, intB_i, asM_int, asM_bl, asM_tup, asM_false, isOp_n, isOp_bb, isNon_non, isNon_tup, isNon_int, isNon_bl, isNon_lst, isNon_ref, isNon_rol, isNon_str, isNon_fr, setAll_nil, setAll_cons, bindT_nm, bindT_tp, fin_rt, fin_nx, leave_same, bltOp, idx_tup0, idx_tup1, idx_tup2, idx_tup3, idx_lst0, idx_lst1, idx_lst2, idx_lst3, eqD_ii, eqD_bb, eqD_fr, Option.map_some, Option.map_none, Option.bind_some, List.getElem?_cons_zero, List.getElem?_cons_succ, List.set_cons_zero, List.set_cons_succ, List.length_cons, List.length_nil, if_true, if_false, decide_true, decide_false, Bool.not_true, Bool.not_false, decide_eq_true_eq, sizeL, Nat.reduceAdd, Nat.reduceLeDiff, Nat.zero_add, beq_self_eq_true, seqG_tup, seqG_lst, lenB_tup, lenB_lst, idx_cup0, idx_cup1, setAt0, setAt1, cup, isTy, Bool.false_eq_true, newL_f, newL_t, fin_rtk, List.nil_append, wipeE, Int.reduceNe, Int.reduceEq, Int.reduceLT, Int.reduceLE, Int.reduceAdd, Int.reduceSub, Int.reduceMul, Int.reduceNeg, Int.reduceGT, cmpop, Int.zero_add, e2]
theorem lc_due (call : Nat → List PV → Mem → Option (PV × Mem)) (n v : Nat) (M : Mem) (o0 o2 o3 o4 o5 o6 o7 o8 o9 o10 o11 o12 o14 o15 o16 : Option PV) :
    lcL (.nm 15) [] (fun _ M => some (true, M)) (eval call rE5) [o0, some (.int (n : Nat)), o2, o3, o4, o5, o6, o7, o8, o9, o10, o11, o12, some (.int (v : Nat)), o14, o15, o16] (rngI 0 n) [] M = some (((List.range n).map (fun a => if a = v then (((n : Int) - 1 : Int) : Rat) else -1)).map fr, M) := by
  rw [rngI_map, lcL_of (fun i : Nat => PV.int (0 + (i : Int))) (fun i : Nat => fr (if i = v then (((n : Int) - 1 : Int) : Rat) else -1))]
  · rw [List.nil_append]
    rw [List.map_map]; rfl
  · intro i _
    refine ⟨_, bindT_nm _ _, ?_⟩
    unfold rE5
    by_cases e : i = v
    · have e1 : fr (((n : Int) - 1 : Int) : Rat) = .tup [.int ((n : Int) - 1), .int 1] := rfl
      subst e
      rw [if_pos rfl, e1]
      simp -implicitDefEqProofs only [execs, exec, eval, evals, evalI, conds, bnd_some, bnd_none, bifb_t, bifb_f, bifb_d, bifb_b, iff_t, iff_d, nxt_nx, nxt_rt, binop, cmpop, addOp_ii, addOp_tt, addOp_ll, subOp_ii, mulOp_ii, fdivOp_ii, modOp_ii, cmpI_ii, cmpLt_ii, isiM, tru_bl, tru_int, absB_i, intB_i, asM_int, asM_bl, asM_tup, asM_false, isOp_n, isOp_bb, isNon_non, isNon_tup, isNon_int, isNon_bl, isNon_lst, isNon_ref, isNon_rol, isNon_str, isNon_fr, setAll_nil, setAll_cons, bindT_nm, bindT_tp, fin_rt, fin_nx, leave_same, bltOp, idx_tup0, idx_tup1, idx_tup2, idx_tup3, idx_lst0, idx_lst1, idx_lst2, idx_lst3, eqD_ii, eqD_bb, eqD_fr, Option.map_some, Option.map_none, Option.bind_some, List.getElem?_cons_zero, List.getElem?_cons_succ, List.set_cons_zero, List.set_cons_succ, List.length_cons, List.length_nil, if_true, if_false, decide_true, decide_false, Bool.not_true, Bool.not_false, decide_eq_true_eq, sizeL, Nat.reduceAdd, Nat.reduceLeDiff, Nat.zero_add, beq_self_eq_true, seqG_tup, seqG_lst, lenB_tup, lenB_lst, idx_cup0, idx_cup1, setAt0, setAt1, cup, isTy, Bool.false_eq_true, newL_f, newL_t, fin_rtk, List.nil_append, wipeE, Int.reduceNe, Int.reduceEq, Int.reduceLT, Int.reduceLE, Int.reduceAdd, Int.reduceSub, Int.reduceMul, Int.reduceNeg, Int.reduceGT, cmpop, Int.zero_add, eq_self]
    · have e1 : fr (-1) = .tup [.int (-1), .int 1] := rfl
      have e2 : ((i : Int) = (v : Int)) = False := eq_false (by omega)
      rw [if_neg e, e1]
      simp -implicitDefEqProofs only [execs, exec, eval, evals, evalI, conds, bnd_some, bnd_none, bifb_t, bifb_f, bifb_d, bifb_b, iff_t, iff_d, nxt_nx, nxt_rt, binop, cmpop, addOp_ii, addOp_tt, addOp_ll, subOp_ii, mulOp_ii, fdivOp_ii, modOp_ii, cmpI_ii, cmpLt_ii, isiM, tru_bl, tru_int, absB_i, intB_i, asM_int, asM_bl, asM_tup, asM_false, isOp_n, isOp_bb, isNon_non, isNon_tup, isNon_int, isNon_bl, isNon_lst, isNon_ref, isNon_rol, isNon_str, isNon_fr, setAll_nil, setAll_cons, bindT_nm, bindT_tp, fin_rt, fin_nx, leave_same, bltOp, idx_tup0, idx_tup1, idx_tup2, idx_tup3, idx_lst0, idx_lst1, idx_lst2, idx_lst3, eqD_ii, eqD_bb, eqD_fr, Option.map_some, Option.map_none, Option.bind_some, List.getElem?_cons_zero, List.getElem?_cons_succ, List.set_cons_zero, List.set_cons_succ, List.length_cons, List.length_nil, if_true, if_false, decide_true, decide_false, Bool.not_true, Bool.not_false, decide_eq_true_eq, sizeL, Nat.reduceAdd, Nat.reduceLeDiff, Nat.zero_add, beq_self_eq_true, seqG_tup, seqG_lst, lenB_tup, lenB_lst, idx_cup0, idx_cup1, setAt0, setAt1, cup, isTy, Bool.false_eq_true, newL_f, newL_t, fin_rtk, List.nil_append, wipeE, Int.reduceNe, Int.reduceEq, Int.reduceLT, Int.reduceLE, Int.reduceAdd, Int.reduceSub, Int.reduceMul, Int.reduceNeg, Int.reduceGT, cmpop, Int.zero_add, e2]
theorem full_loop (call : Nat → List PV → Mem → Option (PV × Mem)) {n : Nat} (hn : n ≤ 12) (M : Mem) (o0 o2 o3 o4 o5 o6 o7 o8 o9 o10 o13 o14 o15 o16 : Option PV) : ∀ (j i : Nat) (o12 : Option PV), i + j = n →
    forL (.nm 12) [] (execs call W fuB) (rngI (i : Nat) j) [o0, some (.int (n : Nat)), o2, o3, o4, o5, o6, o7, o8, o9, o10, some (.lst ((tsQ (fullE n i) 1).map tieV)), o12, o13, o14, o15, o16] M =
      some (.nx [o0, some (.int (n : Nat)), o2, o3, o4, o5, o6, o7, o8, o9, o10, some (.lst ((tsQ (fullE n n) 1).map tieV)), (if j = 0 then o12 else some (.int ((n : Int) - 1))), o13, o14, o15, o16] M)
  | 0, i, o12, h => by
    have : i = n := by omega
    subst this
    rw [if_pos rfl]
    exact forL_n
  | j + 1, i, o12, h => by
    have e := full_loop call hn M o0 o2 o3 o4 o5 o6 o7 o8 o9 o10 o13 o14 o15 o16 j (i + 1) (some (.int (i : Nat))) (by omega)
    have ei : (if j = 0 then some (PV.int (i : Nat)) else some (PV.int ((n : Int) - 1))) = (if j + 1 = 0 then o12 else some (PV.int ((n : Int) - 1))) := by
      rw [if_neg (Nat.succ_ne_zero j)]
      split
      · rw [show (n : Int) - 1 = (i : Nat) by omega]
      · rfl
    rw [ei] at e
    have ea : (tsQ (fullE n (i + 1)) 1).map tieV = (tsQ (fullE n i) 1).map tieV ++ (tsQ (fullE1 n i) 1).map tieV := by
      have : fullE n (i + 1) = fullE n i ++ fullE1 n i := by
        unfold fullE
        rw [List.range_succ, List.flatMap_append]
        simp
      rw [this]
      unfold tsQ
      rw [List.map_append, List.map_append]
    have L := fun o11 => lc_full call n i M o0 o2 o3 o4 o5 o6 o7 o8 o9 o10 o11 o13 o14 o15 none
    have l1 : ((tsQ (fullE n i) 1).map tieV).length ≤ 144 := by
      unfold tsQ
      rw [List.length_map, List.length_map]
      unfold fullE
      rw [List.length_flatMap]
      have : ∀ m, ((List.range m).map fun a => (fullE1 n a).length).sum ≤ m * 12 := fun m => by
        induction m with
        | zero => exact Nat.zero_le _
        | succ m ih =>
          rw [List.range_succ, List.map_append, List.sum_append]
          have : (fullE1 n m).length ≤ 12 := by unfold fullE1; rw [List.length_map, List.length_range]; omega
          simp only [List.map_cons, List.map_nil, List.sum_cons, List.sum_nil]
          omega
      have := this i
      omega
    have l2 : ((tsQ (fullE1 n i) 1).map tieV).length ≤ 12 := by
      unfold tsQ fullE1
      rw [List.length_map, List.length_map, List.length_map, List.length_range]; omega
    have st : execs call W fuB [o0, some (.int (n : Nat)), o2, o3, o4, o5, o6, o7, o8, o9, o10, some (.lst ((tsQ (fullE n i) 1).map tieV)), some (.int (i : Nat)), o13, o14, o15, o16] M =
        some (.nx [o0, some (.int (n : Nat)), o2, o3, o4, o5, o6, o7, o8, o9, o10, some (.lst ((tsQ (fullE n (i + 1)) 1).map tieV)), some (.int (i : Nat)), o13, o14, o15, o16] M) := by
      rw [ea]
      have rg := rng_gd (a := (i : Int) + 1) (b := (n : Int)) (by omega) (by omega) (by omega) (by omega)
      have rt : ((n : Int) - ((i : Int) + 1)).toNat = n - 1 - i := by omega
      have hz : ((tsQ (fullE n i) 1).map tieV).length + ((tsQ (fullE1 n i) 1).map tieV).length ≤ 16777216 := by omega
      have hz2 : ((tsQ (fullE1 n i) 1).map tieV).length ≤ 16777216 := by omega
      unfold fuB
      rw [show (E.tup (.cons (.var 12) (.cons (.var 16) (.cons (.tup (.cons (.cst (.int (1))) (.cons (.cst (.int (1))) .nil))) .nil)))) = rE3 from rfl]
      clear e ei ea l1 l2 h hn
      generalize (tsQ (fullE n i) 1).map tieV = v1 at *
      generalize (tsQ (fullE1 n i) 1).map tieV = v2 at *
      generalize rE3 = e3 at *
      simp -implicitDefEqProofs only [execs, exec, eval, evals, evalI, conds, bnd_some, bnd_none, bifb_t, bifb_f, bifb_d, bifb_b, iff_t, iff_d, nxt_nx, nxt_rt, binop, cmpop, addOp_ii, addOp_tt, addOp_ll, subOp_ii, mulOp_ii, fdivOp_ii, modOp_ii, cmpI_ii, cmpLt_ii, isiM, tru_bl, tru_int, absB_i, intB_i, asM_int, asM_bl, asM_tup, asM_false, isOp_n, isOp_bb, isNon_non, isNon_tup, isNon_int, isNon_bl, isNon_lst, isNon_ref, isNon_rol, isNon_str, isNon_fr, setAll_nil, setAll_cons, bindT_nm, bindT_tp, fin_rt, fin_nx, leave_same, bltOp, idx_tup0, idx_tup1, idx_tup2, idx_tup3, idx_lst0, idx_lst1, idx_lst2, idx_lst3, eqD_ii, eqD_bb, eqD_fr, Option.map_some, Option.map_none, Option.bind_some, List.getElem?_cons_zero, List.getElem?_cons_succ, List.set_cons_zero, List.set_cons_succ, List.length_cons, List.length_nil, if_true, if_false, decide_true, decide_false, Bool.not_true, Bool.not_false, decide_eq_true_eq, sizeL, Nat.reduceAdd, Nat.reduceLeDiff, Nat.zero_add, beq_self_eq_true, seqG_tup, seqG_lst, lenB_tup, lenB_lst, idx_cup0, idx_cup1, setAt0, setAt1, cup, isTy, Bool.false_eq_true, newL_f, newL_t, fin_rtk, List.nil_append, wipeE, Int.reduceNe, Int.reduceEq, Int.reduceLT, Int.reduceLE, Int.reduceAdd, Int.reduceSub, Int.reduceMul, Int.reduceNeg, Int.reduceGT, conds, *]
    have er : rngI ((i : Nat) : Int) (j + 1) = .int (i : Nat) :: rngI ((i + 1 : Nat) : Int) j := rfl
    rw [er, forL_c, bindT_nm, Option.bind_some]
    show nxt (execs call W fuB [o0, some (.int (n : Nat)), o2, o3, o4, o5, o6, o7, o8, o9, o10, some (.lst ((tsQ (fullE n i) 1).map tieV)), some (.int (i : Nat)), o13, o14, o15, o16] M) _ = _
    rw [st, nxt_nx, e]

/-! ### formulas hold -/
theorem pl_told2 (as bs : List Rat) : pl (.lst [.tup (as.map fr), .tup (bs.map fr)]) = true := by
  show (pls (as.map fr) && (pls (bs.map fr) && true)) = true
  rw [pls_frs, pls_frs]; rfl
theorem dpt_told2 (as bs : List Rat) : dpt (.lst [.tup (as.map fr), .tup (bs.map fr)]) ≤ 3 := by
  show max (dpts (as.map fr) + 1) (max (dpts (bs.map fr) + 1) 0) + 1 ≤ 3
  have := dpts_frs as
  have := dpts_frs bs
  omega
theorem pl_told3 (as : List Rat) (q : Rat) : pl (.lst [.tup (as.map fr), fr q]) = true := by
  show (pls (as.map fr) && (pl (fr q) && true)) = true
  rw [pls_frs, pl_fr]; rfl
theorem dpt_told3 (as : List Rat) (q : Rat) : dpt (.lst [.tup (as.map fr), fr q]) ≤ 3 := by
  show max (dpts (as.map fr) + 1) (max (dpt (fr q)) 0) + 1 ≤ 3
  have := dpts_frs as
  rw [dpt_fr]; omega
theorem fr_neg (q : Rat) : fr (-q) = .tup [.int (0 - q.num), .int q.den] := by
  unfold fr
  rw [Rat.neg_num, Rat.neg_den, Int.zero_sub]
theorem map_rep (q a : Rat) (n : Nat) : (List.replicate n a).map (q * ·) = List.replicate n (q * a) := List.map_replicate
theorem formulas_ok (k : Nat) {x y : Int} (T : Mem) (hT : ∀ x y, (cup x y :: T : Mem).all (cellUnder (T.length + 1)) = true) (h : CupB x y) : ∃ x' y', callN prog W (k + 8) 46 [.ref 0] (cup x y :: T) = some (.bl true, cup x' y' :: T) ∧ CupB x' y' := by
  obtain ⟨r, x1, y1, d1, c1, p1, q1⟩ := roll_ok (k + 6) (many := 11) T h (by decide) (by unfold lt2; decide)
  obtain ⟨n, hn⟩ : ∃ n : Nat, 2 + r = (n : Int) := ⟨(2 + r).toNat, by omega⟩
  have n1 : 2 ≤ n := by omega
  have n2 : n < 13 := by omega
  obtain ⟨q, x2, y2, d2, c2, nq, pq⟩ := lead_ok (k + 5) 12 T c1 (by decide) (by decide)
  have d2 : callN prog W (k + 7) 41 [.ref 0, .int 12] (cup x1 y1 :: T) = some (fr q, cup x2 y2 :: T) := d2
  obtain ⟨v', x3, y3, d3, c3, p3, q3⟩ := roll_ok (k + 6) (many := (n : Int)) T c2 (by omega) (lt2.mono (n := 60) (by unfold lt2; omega) (by decide))
  obtain ⟨v, rfl⟩ : ∃ v : Nat, v' = (v : Int) := ⟨v'.toNat, by omega⟩
  have hv : v < n := by omega
  refine ⟨x3, y3, ?_, c3⟩
  obtain ⟨ok1, ok2, ok3⟩ := row_okE n n2 n1
  obtain ⟨ra, rb, rc⟩ := row_fact n n2 n1
  obtain ⟨sa, sb, sc⟩ := star_fact n n2 n1
  obtain ⟨fb, fc⟩ := full_fact n n2 n1 v hv
  have nb1 : nb 12 (1 : Rat) := ⟨by decide, by decide⟩
  have k1 := okE_net ok1 (by omega) (by omega) nq pq
  have k2 := okE_net ok2 (by omega) (by omega) nq pq
  have k3 := okE_net ok3 (by omega) (by omega) nb1 (by decide)
  have lq : ∀ es : List (Int × Int), ∀ t ∈ tsQ es q, nb 12 t.2 := fun es t ht => by
    obtain ⟨e, -, rfl⟩ := List.mem_map.mp ht
    exact nq
  have l1 : ∀ es : List (Int × Int), ∀ t ∈ tsQ es 1, nb 12 t.2 := fun es t ht => by
    obtain ⟨e, -, rfl⟩ := List.mem_map.mp ht
    exact nb1
  have hl1 : (rowH n).length = n := by unfold rowH; rw [List.length_map, List.length_range]
  have hl2 : (starH n).length = n := by unfold starH; rw [List.length_cons, List.length_replicate]; omega
  have hl3 : (fullH n v).length = n := by unfold fullH; rw [List.length_map, List.length_range]
  obtain ⟨D1, e1, -, R1, -⟩ := rd_of (S := 12) (s := 12) k1 hl1 (by decide) (by decide) (by decide) (by decide) (rowH_nb n n2) (lq _)
  obtain ⟨D2, e2, -, R2, -⟩ := rd_of (S := 12) (s := 12) k2 hl2 (by decide) (by decide) (by decide) (by decide) (starH_nb n) (lq _)
  obtain ⟨D3, e3, -, R3, -⟩ := rd_of (S := 12) (s := 12) k3 hl3 (by decide) (by decide) (by decide) (by decide) (fullH_nb n v) (l1 _)
  have hM2 := hT x2 y2
  have hM3 := hT x3 y3
  have fm : ∀ (hs : List Rat) (ts : List Tie), (ts.map fun t => fr (cur hs t)) = (ts.map (cur hs)).map fr := fun hs ts => by rw [List.map_map]; rfl
  -- rows
  have f1 := fun M => currents_of_ok (k + 1) R1 M
  have f2 := outs_of_ok (k + 1) R1 _ hM2
  have f3 := fun M => power_of_ok (k + 1) R1 M
  have z1 := pws_q q (rowH n) (rowE n) 0
  rw [Rat.mul_zero, rc] at z1
  rw [fm, curs_q, ra, map_rep, Rat.mul_one] at f1
  have O1 : outs n (rowH n) (tsQ (rowE n) q) = q :: (List.replicate (n - 2) 0 ++ [-q]) := by
    rw [outs_law k1.ok, outs_q, rb]
    simp only [List.map_cons, List.map_append, List.map_replicate, List.map_nil, Rat.mul_one, Rat.mul_zero, Rat.mul_neg]
  rw [O1] at f2
  rw [z1] at f3
  -- stars
  have g1 := fun M => currents_of_ok (k + 1) R2 M
  have g2 := outs_of_ok (k + 1) R2 _ hM2
  have g3 := fun M => power_of_ok (k + 1) R2 M
  have z2 := pws_q q (starH n) (starE n) 0
  rw [Rat.mul_zero, sc] at z2
  rw [fm, curs_q, sa, map_rep, Rat.mul_neg] at g1
  have O2 : outs n (starH n) (tsQ (starE n) q) = q * (((1 - (n : Int) : Int) : Rat) * (5 / 3)) :: List.replicate (n - 1) (q * (5 / 3)) := by
    rw [outs_law k2.ok, outs_q, sb]
    simp only [List.map_cons, List.map_replicate]
  rw [O2] at g2
  rw [z2] at g3
  -- full nets
  have h2 := outs_of_ok (k + 1) R3 _ hM3
  have h3 := fun M => power_of_ok (k + 1) R3 M
  rw [outs_law k3.ok, fb] at h2
  rw [fc] at h3
  -- the law's own numbers
  have snq : sm 4 q := nq.sm (by decide)
  have s53 : sm 4 (5 / 3 : Rat) := ⟨by unfold lt2; decide +kernel, by decide +kernel⟩
  have sN : ∀ i : Int, i.natAbs < 16 → sm 4 (i : Rat) := fun i hi => ⟨by show i.natAbs < 2 ^ 4; omega, by show (1 : Nat) < 2 ^ 4; decide⟩
  have sn1 := sN ((n : Int) - 1) (by omega)
  have sn2 := sN (1 - (n : Int)) (by omega)
  have s1 : sm 9 (q * (5 / 3)) := (sm_mul snq s53).mono (by omega)
  have s2 : sm 14 (q * (5 / 3) * (5 / 3)) := (sm_mul s1 s53).mono (by omega)
  have fnI : ∀ i : Int, fr (i : Rat) = .tup [.int i, .int 1] := fun _ => rfl
  have t1 : ∀ M, callN prog W (k + 7) 40 [.tup [.int ((n : Int) - 1), .int 1], fr q] M = some (fr (q * (((n : Int) - 1 : Int) : Rat)), M) := fun M => by
    rw [← fnI, Rat.mul_comm q]
    exact l_times_ok (k + 5) M sn1 snq (by decide)
  have f53 : fr (5 / 3) = .tup [.int 5, .int 3] := by
    unfold fr
    rw [show (5 / 3 : Rat).num = 5 by decide +kernel, show (5 / 3 : Rat).den = 3 by decide +kernel]
    rfl
  have t2 : ∀ M, callN prog W (k + 7) 40 [fr q, .tup [.int 5, .int 3]] M = some (fr (q * (5 / 3)), M) := fun M => by
    rw [← f53]
    exact l_times_ok (k + 5) M snq s53 (by decide)
  have t3 : ∀ M, callN prog W (k + 7) 40 [.tup [.int (1 - (n : Int)), .int 1], fr (q * (5 / 3))] M = some (fr (q * (((1 - (n : Int) : Int) : Rat) * (5 / 3))), M) := fun M => by
    have e : q * (((1 - (n : Int) : Int) : Rat) * (5 / 3)) = ((1 - (n : Int) : Int) : Rat) * (q * (5 / 3)) := by grind
    rw [e, ← fnI]
    exact l_times_ok (k + 5) M sn2 s1 (by decide)
  have t4 : ∀ M, callN prog W (k + 7) 40 [fr (q * (5 / 3)), .tup [.int 5, .int 3]] M = some (fr (q * (5 / 3) * (5 / 3)), M) := fun M => by
    rw [← f53]
    exact l_times_ok (k + 5) M s1 s53 (by decide)
  have t5 : ∀ M, callN prog W (k + 7) 40 [.tup [.int ((n : Int) - 1), .int 1], fr (q * (5 / 3) * (5 / 3))] M = some (fr (q * ((((n : Int) - 1 : Int) : Rat) * (5 / 3 * (5 / 3)))), M) := fun M => by
    have e : q * ((((n : Int) - 1 : Int) : Rat) * (5 / 3 * (5 / 3))) = (((n : Int) - 1 : Int) : Rat) * (q * (5 / 3) * (5 / 3)) := by grind
    rw [e, ← fnI]
    exact l_times_ok (k + 5) M sn1 s2 (by decide)
  have L0 := fun M o3 o4 o5 o6 o7 o8 o9 o10 o11 o12 o13 o14 o15 o16 => lc_row (callN prog W (k + 7)) n q M (some (.ref 0)) o3 o4 o5 o6 o7 o8 o9 o10 o11 o12 o13 o14 o15 o16
  have L1 := fun M o3 o4 o5 o6 o7 o8 o9 o10 o11 o12 o13 o14 o15 o16 => lc_rowH (callN prog W (k + 7)) n M (some (.ref 0)) (some (fr q)) o3 o4 o5 o6 o7 o8 o9 o10 o11 o12 o13 o14 o15 o16
  have L2 := fun M o3 o4 o5 o6 o7 o8 o9 o10 o11 o12 o13 o14 o15 o16 => lc_star (callN prog W (k + 7)) n q M (some (.ref 0)) o3 o4 o5 o6 o7 o8 o9 o10 o11 o12 o13 o14 o15 o16
  have L4 := fun M o3 o4 o5 o6 o7 o8 o9 o10 o11 o12 o14 o15 o16 => lc_fullH (callN prog W (k + 7)) n v M (some (.ref 0)) (some (.int (n : Nat))) (some (fr q)) o3 o4 o5 o6 o7 o8 o9 o10 o11 o12 o14 o15 o16
  have L5 := fun M o3 o4 o5 o6 o7 o8 o9 o10 o11 o12 o14 o15 o16 => lc_due (callN prog W (k + 7)) n v M (some (.ref 0)) (some (fr q)) o3 o4 o5 o6 o7 o8 o9 o10 o11 o12 o14 o15 o16
  have FL := fun M o3 o4 o5 o6 o7 o8 o9 o10 => full_loop (callN prog W (k + 7)) (n := n) (by omega) M (some (.ref 0)) (some (fr q)) o3 o4 o5 o6 o7 o8 o9 o10 none none none none n 0 none (by omega)
  have e0 : (tsQ (fullE n 0) 1).map tieV = [] := rfl
  rw [e0] at FL
  have in1 : ((n : Int) - 1) = ((n - 1 : Nat) : Int) := by omega
  have in2 : ((n : Int) - 2) = ((n - 2 : Nat) : Int) := by omega
  have mu1 : ∀ M, mulOp M (.tup [fr q]) (.int ((n : Int) - 1)) = some (.tup (List.replicate (n - 1) (fr q))) := fun M => by rw [in1]; exact mulOp_t1 M _ _ (by omega)
  have mu2 : ∀ M, mulOp M (.tup [.tup [.int 0, .int 1]]) (.int ((n : Int) - 2)) = some (.tup (List.replicate (n - 2) (.tup [.int 0, .int 1]))) := fun M => by rw [in2]; exact mulOp_t1 M _ _ (by omega)
  have mu3 : ∀ M, mulOp M (.tup [.tup [.int 5, .int 3]]) (.int ((n : Int) - 1)) = some (.tup (List.replicate (n - 1) (.tup [.int 5, .int 3]))) := fun M => by rw [in1]; exact mulOp_t1 M _ _ (by omega)
  have mu4 : ∀ M, mulOp M (.tup [fr (q * (5 / 3))]) (.int ((n : Int) - 1)) = some (.tup (List.replicate (n - 1) (fr (q * (5 / 3))))) := fun M => by rw [in1]; exact mulOp_t1 M _ _ (by omega)
  have mu5 : ∀ M, mulOp M (.tup [fr (-(q * (5 / 3)))]) (.int ((n : Int) - 1)) = some (.tup (List.replicate (n - 1) (fr (-(q * (5 / 3)))))) := fun M => by rw [in1]; exact mulOp_t1 M _ _ (by omega)
  have G1 := fun M => like_ok (k + 5) _ M (pl_told (List.replicate (n - 1) q) (q :: (List.replicate (n - 2) 0 ++ [-q])) (q * (((n : Int) - 1 : Int) : Rat))) (Nat.le_trans (dpt_told _ _ _) (by omega))
  have G2 := fun M => like_ok (k + 5) _ M (pl_told2 (List.replicate (n - 1) (-(q * (5 / 3)))) (q * (((1 - (n : Int) : Int) : Rat) * (5 / 3)) :: List.replicate (n - 1) (q * (5 / 3)))) (Nat.le_trans (dpt_told2 _ _) (by omega))
  have G3 := fun M => like_ok (k + 5) _ M (pl_told3 ((List.range n).map (fun a => if a = v then (((n : Int) - 1 : Int) : Rat) else -1)) (((n : Int) - 1 : Int) : Rat)) (Nat.le_trans (dpt_told3 _ _) (by omega))
  have fn1 : fr (((n : Int) - 1 : Int) : Rat) = .tup [.int ((n : Int) - 1), .int 1] := rfl
  have hst : (starH n).map fr = .tup [.int 0, .int 1] :: List.replicate (n - 1) (.tup [.int 5, .int 3]) := by
    unfold starH
    rw [List.map_cons, List.map_replicate, f53]; rfl
  rw [hst] at g1 g2 g3
  simp only [List.map_cons, List.map_nil, List.map_append, List.map_replicate, z0_fr] at f1 f2 g1 g2 G1 G2
  rw [fn1] at h3 G3
  unfold z0 at f2 G1
  have rg1 := rng_gd (a := 0) (b := (n : Int) - 1) (by decide) (by decide) (by omega) (by omega)
  have rg2 := rng_gd (a := 0) (b := (n : Int)) (by decide) (by decide) (by omega) (by omega)
  have rg3 := rng_gd (a := 1) (b := (n : Int)) (by decide) (by decide) (by omega) (by omega)
  have rt1 : ((n : Int) - 1 - 0).toNat = n - 1 := by omega
  have rt2 : ((n : Int) - 0).toNat = n := by omega
  have rt3 : ((n : Int) - 1).toNat = n - 1 := by omega
  have lv := leave_cup (cup x3 y3) (.bl true) T
  have zn : ∀ es (p : Rat), es.length ≤ 66 → ((tsQ es p).map tieV).length ≤ 16777216 := fun es p h => by unfold tsQ; rw [List.length_map, List.length_map]; omega
  have z3 : ((tsQ (rowE n) q).map tieV).length ≤ 16777216 := zn _ _ (by unfold rowE; rw [List.length_map, List.length_range]; omega)
  have z4 : ((tsQ (starE n) q).map tieV).length ≤ 16777216 := zn _ _ (by unfold starE; rw [List.length_map, List.length_range]; omega)
  have z5 : ((rowH n).map fr).length ≤ 16777216 := by rw [List.length_map, hl1]; omega
  have z6 : ((fullH n v).map fr).length ≤ 16777216 := by rw [List.length_map, hl3]; omega
  have z7 : (((List.range n).map (fun a => if a = v then (((n : Int) - 1 : Int) : Rat) else -1)).map fr).length ≤ 16777216 := by rw [List.length_map, List.length_map, List.length_range]; omega
  have y1' : (List.replicate (n - 2) (PV.tup [.int 0, .int 1])).length + 1 ≤ 16777216 := by rw [List.length_replicate]; omega
  have y2' : 1 + (List.replicate (n - 2) (PV.tup [.int 0, .int 1])).length ≤ 16777216 := by rw [List.length_replicate]; omega
  have y3' : (List.replicate (n - 2) (PV.tup [.int 0, .int 1])).length + 1 + 1 ≤ 16777216 := by rw [List.length_replicate]; omega
  have y4' : 1 + (List.replicate (n - 1) (PV.tup [.int 5, .int 3])).length ≤ 16777216 := by rw [List.length_replicate]; omega
  have y5' : 1 + (List.replicate (n - 1) (fr (q * (5 / 3)))).length ≤ 16777216 := by rw [List.length_replicate]; omega
  have ng1 := fr_neg q
  have ng2 := fr_neg (q * (5 / 3))
  have i0 := fun M => idx_fr0 M q
  have i1 := fun M => idx_fr1 M q
  have i2 := fun M => idx_fr0 M (q * (5 / 3))
  have i3 := fun M => idx_fr1 M (q * (5 / 3))
  have qp := fun M => eqd_fr M (q * ((((n : Int) - 1 : Int) : Rat) * (5 / 3 * (5 / 3))))
  unfold netV at f1 f2 f3 g1 g2 g3 h2 h3
  simp only [if_neg (show ¬ n = 0 by omega), show ((0 : Nat) : Int) = 0 from rfl] at FL
  rw [u__law_formulas_right]
  unfold m__law_formulas_right
  rw [show (Ss.cons (.set 11 (.bin .add false (.var 11) (.lc false [16] (.nm 16) (.rng (.bin .add false (.var 12) (.cst (.int (1)))) (.var 1)) .nil (.tup (.cons (.var 12) (.cons (.var 16) (.cons (.tup (.cons (.cst (.int (1))) (.cons (.cst (.int (1))) .nil))) .nil))))))) .nil) = fuB from rfl, show (E.tup (.cons (.var 15) (.cons (.bin .add false (.var 15) (.cst (.int (1)))) (.cons (.var 2) .nil)))) = rE0 from rfl, show (E.tup (.cons (.bin .sub false (.bin .sub false (.var 1) (.cst (.int (1)))) (.var 15)) (.cons (.cst (.int (1))) .nil))) = rE1 from rfl, show (E.tup (.cons (.cst (.int (0))) (.cons (.var 15) (.cons (.var 2) .nil)))) = rE2 from rfl, show (E.ite (.cmp .eq (.var 15) (.var 13)) (.tup (.cons (.cst (.int (1))) (.cons (.cst (.int (1))) .nil))) (.tup (.cons (.cst (.int (0))) (.cons (.cst (.int (1))) .nil)))) = rE4 from rfl, show (E.ite (.cmp .eq (.var 15) (.var 13)) (.tup (.cons (.bin .sub false (.var 1) (.cst (.int (1)))) (.cons (.cst (.int (1))) .nil))) (.tup (.cons (.neg (.cst (.int (1)))) (.cons (.cst (.int (1))) .nil)))) = rE5 from rfl]
  rw [ng1] at f2 G1
  rw [ng2] at mu5 G2 g1
  clear h hT c1 c2 c3 p1 q1 n1 n2 nq pq p3 q3 hv ok1 ok2 ok3 ra rb rc sa sb sc fb fc nb1 k1 k2 k3 lq l1 hl1 hl2 hl3 R1 R2 R3 hM2 hM3 fm z1 z2 O1 O2 snq s53 sN sn1 sn2 s1 s2 fnI f53 e0 in1 in2 fn1 hst zn ng1 ng2
  generalize (tsQ (rowE n) q).map tieV = V0 at *
  generalize (tsQ (starE n) q).map tieV = V1 at *
  generalize (tsQ (fullE n n) 1).map tieV = V2 at *
  generalize (rowH n).map fr = H0 at *
  generalize (fullH n v).map fr = H2 at *
  generalize ((List.range n).map (fun a => if a = v then (((n : Int) - 1 : Int) : Rat) else -1)).map fr = DU at *
  generalize List.replicate (n - 2) (PV.tup [.int 0, .int 1]) = Z2 at *
  generalize List.replicate (n - 1) (PV.tup [.int 5, .int 3]) = R53 at *
  generalize List.replicate (n - 1) (fr (q * (5 / 3))) = RE at *
  generalize List.replicate (n - 1) (PV.tup [.int (0 - (q * (5 / 3)).num), .int (q * (5 / 3)).den]) = RB at *
  generalize List.replicate (n - 1) (fr q) = RQ at *
  generalize fr (q * (((n : Int) - 1 : Int) : Rat)) = P0 at *
  generalize fr (q * (((1 - (n : Int) : Int) : Rat) * (5 / 3))) = WH at *
  generalize fr (q * ((((n : Int) - 1 : Int) : Rat) * (5 / 3 * (5 / 3)))) = P1 at *
  generalize fr (q * (5 / 3) * (5 / 3)) = EE at *
  generalize fr (q * (5 / 3)) = EA at *
  generalize (q * (5 / 3)).num = en at *
  generalize (((q * (5 / 3)).den : Nat) : Int) = ed at *
  generalize q.num = qn at *
  generalize ((q.den : Nat) : Int) = qd at *
  generalize fr q = fq at *
  generalize rE0 = E0 at *
  generalize rE1 = E1 at *
  generalize rE2 = E2 at *
  generalize rE4 = E4 at *
  generalize rE5 = E5 at *
  generalize fuB = FB at *
  simp -implicitDefEqProofs only [execs, exec, eval, evals, evalI, conds, bnd_some, bnd_none, bifb_t, bifb_f, bifb_d, bifb_b, iff_t, iff_d, nxt_nx, nxt_rt, binop, cmpop, addOp_ii, addOp_tt, addOp_ll, subOp_ii, mulOp_ii, fdivOp_ii, modOp_ii, cmpI_ii, cmpLt_ii, isiM, tru_bl, tru_int, absB_i, intB_i, asM_int, asM_bl, asM_tup, asM_false, isOp_n, isOp_bb, isNon_non, isNon_tup, isNon_int, isNon_bl, isNon_lst, isNon_ref, isNon_rol, isNon_str, isNon_fr, setAll_nil, setAll_cons, bindT_nm, bindT_tp, fin_rt, fin_nx, leave_same, bltOp, idx_tup0, idx_tup1, idx_tup2, idx_tup3, idx_lst0, idx_lst1, idx_lst2, idx_lst3, eqD_ii, eqD_bb, eqD_fr, Option.map_some, Option.map_none, Option.bind_some, List.getElem?_cons_zero, List.getElem?_cons_succ, List.set_cons_zero, List.set_cons_succ, List.length_cons, List.length_nil, if_true, if_false, decide_true, decide_false, Bool.not_true, Bool.not_false, decide_eq_true_eq, sizeL, Nat.reduceAdd, Nat.reduceLeDiff, Nat.zero_add, beq_self_eq_true, seqG_tup, seqG_lst, lenB_tup, lenB_lst, idx_cup0, idx_cup1, setAt0, setAt1, cup, isTy, Bool.false_eq_true, newL_f, newL_t, fin_rtk, List.nil_append, wipeE, Int.reduceNe, Int.reduceEq, Int.reduceLT, Int.reduceLE, Int.reduceAdd, Int.reduceSub, Int.reduceMul, Int.reduceNeg, Int.reduceGT, conds, cmpop, List.cons_append, tupleB_lst, *]

/-! ### the law -/
def tB : Ss := (Ss.cons (.ite (.or (.not (.call 44 (.cons (.var 1) .nil))) (.not (.call 45 (.cons (.var 1) .nil)))) (.cons (.ret (.cst (.bl false))) .nil) .nil) .nil)
theorem turns_ok (k : Nat) (o0 : Option PV) (R : List (Option PV)) : ∀ (xs : List PV) (o2 : Option PV) {x y : Int}, CupB x y → ∃ (o2' : Option PV) (x' y' : Int), forL (.nm 2) [] (execs (callN prog W (k + 12)) W tB) xs (o0 :: some (.ref 0) :: o2 :: R) [cup x y] = some (.nx (o0 :: some (.ref 0) :: o2' :: R) [cup x' y']) ∧ CupB x' y'
  | [], o2, x, y, h => ⟨o2, x, y, forL_n, h⟩
  | v :: xs, o2, x, y, h => by
    obtain ⟨x1, y1, d1, c1⟩ := sums_ok (k + 4) h
    obtain ⟨x2, y2, d2, c2⟩ := right_ok k c1
    obtain ⟨o2', x3, y3, e, c3⟩ := turns_ok k o0 R xs (some v) c2
    refine ⟨o2', x3, y3, ?_, c3⟩
    have d1 : callN prog W (k + 12) 44 [.ref 0] [cup x y] = some (.bl true, [cup x1 y1]) := d1
    have st : execs (callN prog W (k + 12)) W tB (o0 :: some (.ref 0) :: some v :: R) [cup x y] = some (.nx (o0 :: some (.ref 0) :: some v :: R) [cup x2 y2]) := by
      unfold tB
      clear h c1 c2 c3 e
      simp -implicitDefEqProofs only [execs, exec, eval, evals, evalI, conds, bnd_some, bnd_none, bifb_t, bifb_f, bifb_d, bifb_b, iff_t, iff_d, nxt_nx, nxt_rt, binop, cmpop, addOp_ii, addOp_tt, addOp_ll, subOp_ii, mulOp_ii, fdivOp_ii, modOp_ii, cmpI_ii, cmpLt_ii, isiM, tru_bl, tru_int, absB_i, intB_i, asM_int, asM_bl, asM_tup, asM_false, isOp_n, isOp_bb, isNon_non, isNon_tup, isNon_int, isNon_bl, isNon_lst, isNon_ref, isNon_rol, isNon_str, isNon_fr, setAll_nil, setAll_cons, bindT_nm, bindT_tp, fin_rt, fin_nx, leave_same, bltOp, idx_tup0, idx_tup1, idx_tup2, idx_tup3, idx_lst0, idx_lst1, idx_lst2, idx_lst3, eqD_ii, eqD_bb, eqD_fr, Option.map_some, Option.map_none, Option.bind_some, List.getElem?_cons_zero, List.getElem?_cons_succ, List.set_cons_zero, List.set_cons_succ, List.length_cons, List.length_nil, if_true, if_false, decide_true, decide_false, Bool.not_true, Bool.not_false, decide_eq_true_eq, sizeL, Nat.reduceAdd, Nat.reduceLeDiff, Nat.zero_add, beq_self_eq_true, seqG_tup, seqG_lst, lenB_tup, lenB_lst, idx_cup0, idx_cup1, setAt0, setAt1, cup, isTy, Bool.false_eq_true, newL_f, newL_t, fin_rtk, List.nil_append, wipeE, Int.reduceNe, Int.reduceEq, Int.reduceLT, Int.reduceLE, Int.reduceAdd, Int.reduceSub, Int.reduceMul, Int.reduceNeg, Int.reduceGT, *]
    rw [forL_c, bindT_nm, Option.bind_some]
    show nxt (execs (callN prog W (k + 12)) W tB (o0 :: some (.ref 0) :: some v :: R) [cup x y]) _ = _
    rw [st, nxt_nx, e]
theorem fr_of {q : Rat} {a : Int} {b : Nat} (h1 : q.num = a) (h2 : q.den = b) : fr q = .tup [.int a, .int (b : Nat)] := by
  unfold fr
  rw [h1, h2]
theorem fr_12 : fr (1 / 2) = .tup [.int 1, .int 2] := fr_of (b := 2) (by decide +kernel) (by decide +kernel)
theorem fr_13 : fr (1 / 3) = .tup [.int 1, .int 3] := fr_of (b := 3) (by decide +kernel) (by decide +kernel)
theorem fr_56 : fr (1 / 2 + 1 / 3) = .tup [.int 5, .int 6] := fr_of (b := 6) (by decide +kernel) (by decide +kernel)
theorem fr_m12 : fr (-1 / 2) = .tup [.int (-1), .int 2] := fr_of (b := 2) (by decide +kernel) (by decide +kernel)
theorem fr_m34 : fr (-3 / 4) = .tup [.int (-3), .int 4] := fr_of (b := 4) (by decide +kernel) (by decide +kernel)
theorem fr_m13 : fr (-1 / 3) = .tup [.int (-1), .int 3] := fr_of (b := 3) (by decide +kernel) (by decide +kernel)
theorem fr_23 : fr (-1 / 2 / (-3 / 4)) = .tup [.int 2, .int 3] := fr_of (b := 3) (by decide +kernel) (by decide +kernel)
theorem fr_m32 : fr (1 / 2 / (-1 / 3)) = .tup [.int (-3), .int 2] := fr_of (b := 2) (by decide +kernel) (by decide +kernel)
def tpQ : Rat := 9999999999999999999999999999999999999999
theorem fr_t : fr tpQ = .tup [.int 9999999999999999999999999999999999999999, .int 1] := fr_of (b := 1) (by decide +kernel) (by decide +kernel)
theorem fr_1t : fr (1 / tpQ) = .tup [.int 1, .int 9999999999999999999999999999999999999999] := fr_of (b := 9999999999999999999999999999999999999999) (by decide +kernel) (by decide +kernel)
theorem fr_2t : fr (tpQ + tpQ) = .tup [.int 19999999999999999999999999999999999999998, .int 1] := fr_of (b := 1) (by decide +kernel) (by decide +kernel)
theorem fr_mt : fr (0 - tpQ) = .tup [.int (-9999999999999999999999999999999999999999), .int 1] := fr_of (b := 1) (by decide +kernel) (by decide +kernel)
theorem fr_tt : fr (tpQ * (1 / tpQ)) = .tup [.int 1, .int 1] := fr_of (b := 1) (by decide +kernel) (by decide +kernel)
theorem fr_t1 : fr (tpQ + 1) = .tup [.int 10000000000000000000000000000000000000000, .int 1] := fr_of (b := 1) (by decide +kernel) (by decide +kernel)
theorem hk_12 : Hk (1 / 2) := ⟨by decide +kernel, by decide +kernel, by decide +kernel⟩
theorem hk_13 : Hk (1 / 3) := ⟨by decide +kernel, by decide +kernel, by decide +kernel⟩
theorem hk_m12 : Hk (-1 / 2) := ⟨by decide +kernel, by decide +kernel, by decide +kernel⟩
theorem hk_m34 : Hk (-3 / 4) := ⟨by decide +kernel, by decide +kernel, by decide +kernel⟩
theorem hk_m13 : Hk (-1 / 3) := ⟨by decide +kernel, by decide +kernel, by decide +kernel⟩
theorem hk_t : Hk tpQ := ⟨by decide +kernel, by decide +kernel, by decide +kernel⟩
theorem hk_1t : Hk (1 / tpQ) := ⟨by decide +kernel, by decide +kernel, by decide +kernel⟩
theorem hk_mt : Hk (0 - tpQ) := ⟨by decide +kernel, by decide +kernel, by decide +kernel⟩
theorem hk_0 : Hk 0 := ⟨by decide, by decide, by decide⟩
theorem hk_1 : Hk 1 := ⟨by decide, by decide, by decide⟩
theorem not_frac (k : Nat) (M : Mem) : callN prog W (k + 3) 23 [.tup [.int 10000000000000000000000000000000000000000, .int 1]] M = some (.bl false, M) := by
  have f : ∀ k, callN prog W (k + 2) 12 [.tup [.int 10000000000000000000000000000000000000000, .int 1]] M = some (.bl false, M) := fun k => by
    have f1 : ∀ k, callN prog W (k + 1) 2 [.tup [.int 10000000000000000000000000000000000000000, .int 1], .int 2, .int 2] M = some (.bl true, M) := fun k => is_tuple_of_ok k _ _ _ M (by simp) (by simp)
    have f2 := fun k i => is_integer_ok k i M
    have ab : ∀ M, allB M [.lst [.bl false, .bl true]] = some (.bl false) := fun _ => rfl
    rw [u_fits_fraction]
    unfold m_fits_fraction
    simp -implicitDefEqProofs only [execs, exec, eval, evals, evalI, conds, bnd_some, bnd_none, bifb_t, bifb_f, bifb_d, bifb_b, iff_t, iff_d, nxt_nx, nxt_rt, binop, cmpop, addOp_ii, addOp_tt, addOp_ll, subOp_ii, mulOp_ii, fdivOp_ii, modOp_ii, cmpI_ii, cmpLt_ii, isiM, tru_bl, tru_int, absB_i, intB_i, asM_int, asM_bl, asM_tup, asM_false, isOp_n, isOp_bb, isNon_non, isNon_tup, isNon_int, isNon_bl, isNon_lst, isNon_ref, isNon_rol, isNon_str, isNon_fr, setAll_nil, setAll_cons, bindT_nm, bindT_tp, fin_rt, fin_nx, leave_same, bltOp, idx_tup0, idx_tup1, idx_tup2, idx_tup3, idx_lst0, idx_lst1, idx_lst2, idx_lst3, eqD_ii, eqD_bb, eqD_fr, Option.map_some, Option.map_none, Option.bind_some, List.getElem?_cons_zero, List.getElem?_cons_succ, List.set_cons_zero, List.set_cons_succ, List.length_cons, List.length_nil, if_true, if_false, decide_true, decide_false, Bool.not_true, Bool.not_false, decide_eq_true_eq, sizeL, Nat.reduceAdd, Nat.reduceLeDiff, Nat.zero_add, beq_self_eq_true, seqG_tup, seqG_lst, lenB_tup, lenB_lst, idx_cup0, idx_cup1, setAt0, setAt1, cup, isTy, Bool.false_eq_true, newL_f, newL_t, fin_rtk, List.nil_append, wipeE, Int.reduceNe, Int.reduceEq, Int.reduceLT, Int.reduceLE, Int.reduceAdd, Int.reduceSub, Int.reduceMul, Int.reduceNeg, Int.reduceGT, lcL_n, lcL_c, ab, List.cons_append, cmpop, k_DIGITS, *]
  rw [u_is_fraction]
  unfold m_is_fraction
  simp -implicitDefEqProofs only [execs, exec, eval, evals, evalI, conds, bnd_some, bnd_none, bifb_t, bifb_f, bifb_d, bifb_b, iff_t, iff_d, nxt_nx, nxt_rt, binop, cmpop, addOp_ii, addOp_tt, addOp_ll, subOp_ii, mulOp_ii, fdivOp_ii, modOp_ii, cmpI_ii, cmpLt_ii, isiM, tru_bl, tru_int, absB_i, intB_i, asM_int, asM_bl, asM_tup, asM_false, isOp_n, isOp_bb, isNon_non, isNon_tup, isNon_int, isNon_bl, isNon_lst, isNon_ref, isNon_rol, isNon_str, isNon_fr, setAll_nil, setAll_cons, bindT_nm, bindT_tp, fin_rt, fin_nx, leave_same, bltOp, idx_tup0, idx_tup1, idx_tup2, idx_tup3, idx_lst0, idx_lst1, idx_lst2, idx_lst3, eqD_ii, eqD_bb, eqD_fr, Option.map_some, Option.map_none, Option.bind_some, List.getElem?_cons_zero, List.getElem?_cons_succ, List.set_cons_zero, List.set_cons_succ, List.length_cons, List.length_nil, if_true, if_false, decide_true, decide_false, Bool.not_true, Bool.not_false, decide_eq_true_eq, sizeL, Nat.reduceAdd, Nat.reduceLeDiff, Nat.zero_add, beq_self_eq_true, seqG_tup, seqG_lst, lenB_tup, lenB_lst, idx_cup0, idx_cup1, setAt0, setAt1, cup, isTy, Bool.false_eq_true, newL_f, newL_t, fin_rtk, List.nil_append, wipeE, Int.reduceNe, Int.reduceEq, Int.reduceLT, Int.reduceLE, Int.reduceAdd, Int.reduceSub, Int.reduceMul, Int.reduceNeg, Int.reduceGT, *]

/-! ### the law's fixed nets -/
def ts3 : List Tie := [((0, 1), 1), ((1, 2), 1 / 2)]
def hs3 : List Rat := [3, 2, 0]
theorem rd_3 : ∃ D c, Rd 3 D c ts3 hs3 := by
  have n : NetK 3 ts3 := ⟨by decide, by decide, by decide, by decide, fun t ht => by
    rcases List.mem_cons.mp ht with rfl | ht
    · exact ⟨by decide, by decide, by decide, by decide, by decide, by decide⟩
    · rw [List.mem_singleton.mp ht]
      exact ⟨by decide, by decide, by decide, by decide +kernel, by decide +kernel, by decide +kernel⟩⟩
  obtain ⟨D, c, -, r, -⟩ := rd_of (S := 12) (s := 12) (hs := hs3) n rfl (by decide) (by decide) (by decide) (by decide) (by unfold nb; decide) (fun t ht => by
    rcases List.mem_cons.mp ht with rfl | ht
    · exact ⟨by decide, by decide⟩
    · rw [List.mem_singleton.mp ht]
      exact ⟨by decide +kernel, by decide +kernel⟩)
  exact ⟨D, c, r⟩
theorem rd_1 : Rd 1 1 1 [] [tpQ] := ⟨⟨by decide, by decide, by decide, List.Pairwise.nil, fun t ht => by cases ht⟩, rfl, fun q hq => by rw [List.mem_singleton.mp hq]; exact hk_t, ⟨fun q hq => by rw [List.mem_singleton.mp hq]; exact hk_t.sm.mono (by decide), fun t ht => by cases ht⟩, by decide, Nat.one_le_two_pow, by decide, Nat.one_le_two_pow, (fun t ht => by cases ht), (fun t ht => by cases ht)⟩
theorem hk_2 : Hk 2 := ⟨by decide, by decide, by decide⟩
theorem hk_12' : ∀ q ∈ ([1, 2] : List Rat), Hk q := fun q hq => by
  rcases List.mem_cons.mp hq with rfl | hq
  · exact hk_1
  · rw [List.mem_singleton.mp hq]; exact hk_2
theorem rd_2 : Rd 2 1 1 [] [1, 2] := ⟨⟨by decide, by decide, by decide, List.Pairwise.nil, fun t ht => by cases ht⟩, rfl, hk_12', ⟨fun q hq => (hk_12' q hq).sm.mono (by decide), fun t ht => by cases ht⟩, by decide, Nat.one_le_two_pow, by decide, Nat.one_le_two_pow, (fun t ht => by cases ht), (fun t ht => by cases ht)⟩
theorem cq_int {q : Rat} {c : Nat} (h : q.den = 1) (h2 : q.num.natAbs ≤ c) : cq 1 c q := by
  refine ⟨q.num, ?_, by rw [Nat.mul_one]; exact h2⟩
  have := mul_den q
  rw [h] at this
  exact this
def tsT : List Tie := [((0, 1), tpQ)]
def hsT : List Rat := [tpQ, 0 - tpQ]
theorem hk_T : ∀ q ∈ hsT, Hk q := fun q hq => by
  rcases List.mem_cons.mp hq with rfl | hq
  · exact hk_t
  · rw [List.mem_singleton.mp hq]; exact hk_mt
theorem rd_T : Rd 2 1 (10 ^ 130) tsT hsT := ⟨⟨by decide, by decide, by decide, List.pairwise_singleton _ _, fun t ht => by
    rw [List.mem_singleton.mp ht]
    exact ⟨by decide, by decide, by decide, by decide +kernel, by decide +kernel, by decide +kernel⟩⟩, rfl, hk_T, ⟨fun q hq => (hk_T q hq).sm.mono (by decide), fun t ht => by rw [List.mem_singleton.mp ht]; exact hk_t.sm.mono (by decide)⟩, by decide, Nat.one_le_two_pow, by decide +kernel, Nat.le_trans (show (10 : Nat) ^ 130 ≤ 2 ^ 440 by decide +kernel) (Nat.pow_le_pow_right (by decide) (by decide)), fun t ht => by
    rw [List.mem_singleton.mp ht]
    exact cq_int (by decide +kernel) (by decide +kernel), fun t ht => by
    rw [List.mem_singleton.mp ht]
    exact cq_int (by decide +kernel) (by decide +kernel)⟩
theorem val_3 : (ts3.map (cur hs3)) = [1, 1] ∧ outs 3 hs3 ts3 = [1, 0, -1] ∧ sumL 0 (pws hs3 ts3) = 3 := by decide +kernel
theorem val_1 : outs 1 [tpQ] [] = [0] := rfl
theorem fr_T : fr (cur hsT ((0, 1), tpQ)) = .tup [.int 199999999999999999999999999999999999999960000000000000000000000000000000000000002, .int 1] := fr_of (b := 1) (by decide +kernel) (by decide +kernel)
def N3 : PV := .tup [.int 3, .tup [.tup [.int 0, .int 1, .tup [.int 1, .int 1]], .tup [.int 1, .int 2, .tup [.int 1, .int 2]]]]
def H3 : PV := .tup [.tup [.int 3, .int 1], .tup [.int 2, .int 1], .tup [.int 0, .int 1]]
theorem net_3 : netV 3 ts3 = N3 := by
  show PV.tup [.int 3, .tup [.tup [.int 0, .int 1, fr 1], .tup [.int 1, .int 2, fr (1 / 2)]]] = _
  rw [fr_12]; rfl
theorem net_T : netV 2 tsT = .tup [.int 2, .tup [.tup [.int 0, .int 1, .tup [.int 9999999999999999999999999999999999999999, .int 1]]]] := by
  show PV.tup [.int 2, .tup [.tup [.int 0, .int 1, fr tpQ]]] = _
  rw [fr_t]
theorem fixed_ok (k : Nat) : (∀ M, callN prog W (k + 6) 29 [N3, H3] M = some (.tup [.tup [.int 1, .int 1], .tup [.int 1, .int 1]], M)) ∧
    (∀ M : Mem, M.all (cellUnder M.length) = true → callN prog W (k + 6) 30 [N3, H3] M = some (.tup [.tup [.int 1, .int 1], .tup [.int 0, .int 1], .tup [.int (-1), .int 1]], M)) ∧
    (∀ M, callN prog W (k + 6) 31 [N3, H3] M = some (.tup [.int 3, .int 1], M)) ∧
    (∀ M, callN prog W (k + 6) 29 [.tup [.int 1, .tup []], .tup [.tup [.int 9999999999999999999999999999999999999999, .int 1]]] M = some (.tup [], M)) ∧
    (∀ M : Mem, M.all (cellUnder M.length) = true → callN prog W (k + 6) 30 [.tup [.int 1, .tup []], .tup [.tup [.int 9999999999999999999999999999999999999999, .int 1]]] M = some (.tup [.tup [.int 0, .int 1]], M)) ∧
    (∀ M, callN prog W (k + 6) 31 [.tup [.int 2, .tup []], .tup [.tup [.int 1, .int 1], .tup [.int 2, .int 1]]] M = some (.tup [.int 0, .int 1], M)) ∧
    (∀ M, callN prog W (k + 6) 29 [.tup [.int 2, .tup [.tup [.int 0, .int 1, .tup [.int 9999999999999999999999999999999999999999, .int 1]]]], .tup [.tup [.int 9999999999999999999999999999999999999999, .int 1], .tup [.int (-9999999999999999999999999999999999999999), .int 1]]] M = some (.tup [.tup [.int 199999999999999999999999999999999999999960000000000000000000000000000000000000002, .int 1]], M)) := by
  obtain ⟨D, c, r⟩ := rd_3
  obtain ⟨v1, v2, v3⟩ := val_3
  have eh : PV.tup (hs3.map fr) = H3 := rfl
  have e1 : PV.tup ([tpQ].map fr) = .tup [.tup [.int 9999999999999999999999999999999999999999, .int 1]] := by
    show PV.tup [fr tpQ] = _
    rw [fr_t]
  have eT : PV.tup (hsT.map fr) = .tup [.tup [.int 9999999999999999999999999999999999999999, .int 1], .tup [.int (-9999999999999999999999999999999999999999), .int 1]] := by
    show PV.tup [fr tpQ, fr (0 - tpQ)] = _
    rw [fr_t, fr_mt]
  refine ⟨fun M => ?_, fun M hM => ?_, fun M => ?_, fun M => ?_, fun M hM => ?_, fun M => ?_, fun M => ?_⟩
  · have := currents_of_ok k r M
    have e : (ts3.map fun t => fr (cur hs3 t)) = (ts3.map (cur hs3)).map fr := by rw [List.map_map]; rfl
    rw [net_3, eh, e, v1] at this
    exact this
  · have := outs_of_ok k r M hM
    rw [net_3, eh, v2] at this
    exact this
  · have := power_of_ok k r M
    rw [net_3, eh, v3] at this
    exact this
  · have := currents_of_ok k rd_1 M
    rw [e1] at this
    exact this
  · have := outs_of_ok k rd_1 M hM
    rw [e1, val_1] at this
    exact this
  · exact power_of_ok k rd_2 M
  · have := currents_of_ok k rd_T M
    have e : (tsT.map fun t => fr (cur hsT t)) = [.tup [.int 199999999999999999999999999999999999999960000000000000000000000000000000000000002, .int 1]] := by
      show [fr (cur hsT ((0, 1), tpQ))] = _
      rw [fr_T]
    rw [net_T, eT, e] at this
    exact this

/-! ### the law holds -/
def tl1 : List PV := [.tup [.int 5, .int 6], .bl true, .tup [.tup [.int 1, .int 1], .tup [.int 1, .int 1]], .tup [.tup [.int 1, .int 1], .tup [.int 0, .int 1], .tup [.int (-1), .int 1]], .tup [.int 3, .int 1], .tup [.int 2, .int 3], .tup [.int (-3), .int 2]]
def tl2 : List PV := tl1 ++ [.tup [.int 19999999999999999999999999999999999999998, .int 1], .tup [.int 1, .int 1], .tup [.int (-9999999999999999999999999999999999999999), .int 1], .bl false, .tup []]
def tl3 : List PV := tl2 ++ [.tup [.tup [.int 0, .int 1]], .tup [.int 0, .int 1]]
def tl4 : List PV := tl3 ++ [.tup [.tup [.int 199999999999999999999999999999999999999960000000000000000000000000000000000000002, .int 1]]]
theorem leave_0 (M : Mem) : leave 0 (.bl true) M = some (.bl true, []) := by
  unfold leave
  cases M with
  | nil => rfl
  | cons c M =>
    rw [if_neg (by simp)]
    rfl
theorem law_ok (k : Nat) (ns : List Int) (hl : ns.length ≤ 63) : ∃ M', callN prog W (k + 13) 47 [.rol (ns.map PV.int)] [] = some (.bl true, M') := by
  obtain ⟨x, y, e1, c0⟩ := cup_ok (k + 11) ns hl
  obtain ⟨o2, x1, y1, e2, c1⟩ := turns_ok k (some (.rol (ns.map PV.int))) [none, none, none, none, none] (rngI 0 4) none c0
  obtain ⟨x2, y2, e3, c2⟩ := formulas_ok (k + 4) [.lst tl1, .lst tl2, .lst tl4] (fun _ _ => rfl) c1
  refine ⟨[], ?_⟩
  obtain ⟨f1, f2, f3, f4, f5, f6, f7⟩ := fixed_ok (k + 6)
  have f2 := f2 [cup x1 y1] rfl
  have f5 := f5 [cup x1 y1, .lst tl1, .lst tl2] rfl
  have a1 : ∀ M, callN prog W (k + 12) 24 [.tup [.int 1, .int 2], .tup [.int 1, .int 3]] M = some (.tup [.int 5, .int 6], M) := fun M => by
    have := plus_ok (k + 7) hk_12 hk_13 M
    rw [fr_56, fr_12, fr_13] at this
    exact this
  have a2 : ∀ M, callN prog W (k + 12) 28 [.tup [.int 1, .int 3], .tup [.int 1, .int 2]] M = some (.bl true, M) := fun M => by
    have := is_less_ok (k + 7) hk_13 hk_12 M
    rw [fr_12, fr_13, decide_eq_true (by decide +kernel)] at this
    exact this
  have a3 : ∀ M, callN prog W (k + 12) 27 [.tup [.int (-1), .int 2], .tup [.int (-3), .int 4]] M = some (.tup [.int 2, .int 3], M) := fun M => by
    have := over_ok (k + 7) hk_m12 hk_m34 (by decide +kernel) M
    rw [fr_23, fr_m12, fr_m34] at this
    exact this
  have a4 : ∀ M, callN prog W (k + 12) 27 [.tup [.int 1, .int 2], .tup [.int (-1), .int 3]] M = some (.tup [.int (-3), .int 2], M) := fun M => by
    have := over_ok (k + 7) hk_12 hk_m13 (by decide +kernel) M
    rw [fr_m32, fr_12, fr_m13] at this
    exact this
  have b1 : ∀ M, callN prog W (k + 12) 24 [.tup [.int 9999999999999999999999999999999999999999, .int 1], .tup [.int 9999999999999999999999999999999999999999, .int 1]] M = some (.tup [.int 19999999999999999999999999999999999999998, .int 1], M) := fun M => by
    have := plus_ok (k + 7) hk_t hk_t M
    rw [fr_2t, fr_t] at this
    exact this
  have b2 : ∀ M, callN prog W (k + 12) 26 [.tup [.int 9999999999999999999999999999999999999999, .int 1], .tup [.int 1, .int 9999999999999999999999999999999999999999]] M = some (.tup [.int 1, .int 1], M) := fun M => by
    have := times_ok (k + 7) hk_t hk_1t M
    rw [fr_tt, fr_t, fr_1t] at this
    exact this
  have b3 : ∀ M, callN prog W (k + 12) 25 [.tup [.int 0, .int 1], .tup [.int 9999999999999999999999999999999999999999, .int 1]] M = some (.tup [.int (-9999999999999999999999999999999999999999), .int 1], M) := fun M => by
    have := minus_ok (k + 7) hk_0 hk_t M
    rw [fr_mt, fr_t] at this
    exact this
  have b4 : ∀ M, callN prog W (k + 12) 24 [.tup [.int 9999999999999999999999999999999999999999, .int 1], .tup [.int 1, .int 1]] M = some (.tup [.int 10000000000000000000000000000000000000000, .int 1], M) := fun M => by
    have := plus_ok (k + 7) hk_t hk_1 M
    rw [fr_t1, fr_t] at this
    exact this
  have b5 := fun M => not_frac (k + 9) M
  have L := fun M h => like_ref (k + 9) 3 tl4 M h rfl (by show 2 ≤ k + 9; omega)
  have L := L [cup x1 y1, .lst tl1, .lst tl2, .lst tl4] rfl
  have pw : powOp (.int 10) (.int 40) = some (.int 10000000000000000000000000000000000000000) := by rfl
  have m1 : mulOk 2 9999999999999999999999999999999999999999 = true := mulOk_a (by decide)
  have m2 : mulOk 19999999999999999999999999999999999999998 9999999999999999999999999999999999999999 = true := mulOk_of (a := 140) (b := 140) (x := 19999999999999999999999999999999999999998) (y := 9999999999999999999999999999999999999999) (by unfold lt2; decide) (by unfold lt2; decide) (by decide)
  have nl1 : ∀ (a : Cell) xs, newL true xs [a] = (.ref 1, [a, .lst xs]) := fun _ _ => rfl
  have ap1 : ∀ (a b : Cell), [a] ++ [b] = [a, b] := fun _ _ => rfl
  have ad1 : ∀ (a : Cell) xs ys, addOp [a, .lst xs] (.ref 1) (.lst ys) = if decide (xs.length + ys.length ≤ PySem.sizeLine) then some (.lst (xs ++ ys)) else none := fun _ _ _ => rfl
  have ad2 : ∀ (a b : Cell) xs ys, addOp [a, b, .lst xs] (.ref 2) (.lst ys) = if decide (xs.length + ys.length ≤ PySem.sizeLine) then some (.lst (xs ++ ys)) else none := fun _ _ _ _ => rfl
  have as2 : ∀ (a b : Cell) xs, asM true (.lst xs) [a, b] = (.ref 2, [a, b, .lst xs]) := fun _ _ _ => rfl
  have as3 : ∀ (a b c : Cell) xs, asM true (.lst xs) [a, b, c] = (.ref 3, [a, b, c, .lst xs]) := fun _ _ _ _ => rfl
  have lv := leave_0
  have lt14 : ((14 : Nat) < 16777216) = True := eq_true (by decide)
  unfold N3 H3 at f1 f2 f3
  simp only [tl4, tl3, tl2, tl1, List.cons_append, List.nil_append] at e3 f5 L
  change forL _ _ _ (rngI 0 4) _ _ = _ at e2
  have rg : (decide (-2 ^ 62 ≤ (0 : Int)) && decide ((0 : Int) < 2 ^ 62) && decide (-2 ^ 62 ≤ (4 : Int)) && decide ((4 : Int) < 2 ^ 62)) = true := by decide
  have rt : Int.toNat 4 = 4 := rfl
  rw [u_law]
  unfold m_law
  rw [show (Ss.cons (.ite (.or (.not (.call 44 (.cons (.var 1) .nil))) (.not (.call 45 (.cons (.var 1) .nil)))) (.cons (.ret (.cst (.bl false))) .nil) .nil) .nil) = tB from rfl]
  clear c0 c1 c2 hl
  generalize tB = bb at *
  simp -implicitDefEqProofs only [execs, exec, eval, evals, evalI, conds, bnd_some, bnd_none, bifb_t, bifb_f, bifb_d, bifb_b, iff_t, iff_d, nxt_nx, nxt_rt, binop, cmpop, addOp_ii, addOp_tt, addOp_ll, subOp_ii, mulOp_ii, fdivOp_ii, modOp_ii, cmpI_ii, cmpLt_ii, isiM, tru_bl, tru_int, absB_i, intB_i, asM_int, asM_bl, asM_tup, asM_false, isOp_n, isOp_bb, isNon_non, isNon_tup, isNon_int, isNon_bl, isNon_lst, isNon_ref, isNon_rol, isNon_str, isNon_fr, setAll_nil, setAll_cons, bindT_nm, bindT_tp, fin_rt, fin_nx, leave_same, bltOp, idx_tup0, idx_tup1, idx_tup2, idx_tup3, idx_lst0, idx_lst1, idx_lst2, idx_lst3, eqD_ii, eqD_bb, eqD_fr, Option.map_some, Option.map_none, Option.bind_some, List.getElem?_cons_zero, List.getElem?_cons_succ, List.set_cons_zero, List.set_cons_succ, List.length_cons, List.length_nil, if_true, if_false, decide_true, decide_false, Bool.not_true, Bool.not_false, decide_eq_true_eq, sizeL, Nat.reduceAdd, Nat.reduceLeDiff, Nat.zero_add, beq_self_eq_true, seqG_tup, seqG_lst, lenB_tup, lenB_lst, idx_cup0, idx_cup1, setAt0, setAt1, cup, isTy, Bool.false_eq_true, newL_f, newL_t, fin_rtk, List.nil_append, wipeE, Int.reduceNe, Int.reduceEq, Int.reduceLT, Int.reduceLE, Int.reduceAdd, Int.reduceSub, Int.reduceMul, Int.reduceNeg, Int.reduceGT, conds, set42, cmpop, List.cons_append, lt14, *]

end Lw

namespace Lw
open Ev
theorem pure {P : Prop} (ns : List Int) (hl : ns.length ≤ 63) (_ : P) : ∃ M', callN prog W 13 47 [.rol (ns.map PV.int)] [] = some (.bl true, M') := law_ok 0 ns hl
end Lw
namespace Lw
open PySem PySem.Spec PyProof.Rows L2 Ev
theorem law_end {P : Program} {w : World} {K : PySem.W.Frag} {mg : Str → Option Value} {fa : Addr} {W : Nat} (hfa : mg "law" = some (.ref fa)) (d_is_integer : DefOf K mg "is_integer" s_is_integer) (d_is_whole : DefOf K mg "is_whole" s_is_whole) (d_is_tuple_of : DefOf K mg "is_tuple_of" s_is_tuple_of) (d_is_rising : DefOf K mg "is_rising" s_is_rising) (d_divisor_of : DefOf K mg "divisor_of" s_divisor_of) (d_lowest : DefOf K mg "lowest" s_lowest) (d_sum_of : DefOf K mg "sum_of" s_sum_of) (d_less_by : DefOf K mg "less_by" s_less_by) (d_product_of : DefOf K mg "product_of" s_product_of) (d_part_of : DefOf K mg "part_of" s_part_of) (d_is_under : DefOf K mg "is_under" s_is_under) (d_sum_over : DefOf K mg "sum_over" s_sum_over) (d_fits_fraction : DefOf K mg "fits_fraction" s_fits_fraction) (d_need_fraction : DefOf K mg "need_fraction" s_need_fraction) (d_fits_tie : DefOf K mg "fits_tie" s_fits_tie) (d_fits_net : DefOf K mg "fits_net" s_fits_net) (d_need_net : DefOf K mg "need_net" s_need_net) (d_fits_heights : DefOf K mg "fits_heights" s_fits_heights) (d_need_heights : DefOf K mg "need_heights" s_need_heights) (d_currents_in : DefOf K mg "currents_in" s_currents_in) (d_outs_in : DefOf K mg "outs_in" s_outs_in) (d_power_in : DefOf K mg "power_in" s_power_in) (d_need_both : DefOf K mg "need_both" s_need_both) (d_is_fraction : DefOf K mg "is_fraction" s_is_fraction) (d_plus : DefOf K mg "plus" s_plus) (d_minus : DefOf K mg "minus" s_minus) (d_times : DefOf K mg "times" s_times) (d_over : DefOf K mg "over" s_over) (d_is_less : DefOf K mg "is_less" s_is_less) (d_currents_of : DefOf K mg "currents_of" s_currents_of) (d_outs_of : DefOf K mg "outs_of" s_outs_of) (d_power_of : DefOf K mg "power_of" s_power_of) (d__law_cup : DefOf K mg "_law_cup" s__law_cup) (d__law_roll : DefOf K mg "_law_roll" s__law_roll) (d__law_some : DefOf K mg "_law_some" s__law_some) (d__law_sort : DefOf K mg "_law_sort" s__law_sort) (d__law_like : DefOf K mg "_law_like" s__law_like) (d__law_least : DefOf K mg "_law_least" s__law_least) (d__law_plus : DefOf K mg "_law_plus" s__law_plus) (d__law_minus : DefOf K mg "_law_minus" s__law_minus) (d__law_times : DefOf K mg "_law_times" s__law_times) (d__law_lead : DefOf K mg "_law_lead" s__law_lead) (d__law_net : DefOf K mg "_law_net" s__law_net) (d__law_fraction : DefOf K mg "_law_fraction" s__law_fraction) (d__law_sums_right : DefOf K mg "_law_sums_right" s__law_sums_right) (d__law_right : DefOf K mg "_law_right" s__law_right) (d__law_formulas_right : DefOf K mg "_law_formulas_right" s__law_formulas_right) (d_law : DefOf K mg "law" s_law) (c_NONE : ∃ z u, mg "NONE" = some u ∧ RelV z u ∧ Con K k_NONE z) (c_DIGITS : ∃ z u, mg "DIGITS" = some u ∧ RelV z u ∧ Con K k_DIGITS z) (c_MOST_TIES : ∃ z u, mg "MOST_TIES" = some u ∧ RelV z u ∧ Con K k_MOST_TIES z) (c_MOST_NODES : ∃ z u, mg "MOST_NODES" = some u ∧ RelV z u ∧ Con K k_MOST_NODES z) (z_isinstance : mg "isinstance" = none) (z_bool : mg "bool" = none) (z_int : mg "int" = none) (z_len : mg "len" = none) (z_tuple : mg "tuple" = none) (z_zip : mg "zip" = none) (z_all : mg "all" = none) (z_abs : mg "abs" = none) (z_list : mg "list" = none) (z_str : mg "str" = none) (z_sorted : mg "sorted" = none) (z_range : mg "range" = none)  :
    ∃ fd : FuncData, (∀ (s : Shared) (v : Value), BindsTo s fd ⟨[v], []⟩ [("script", v)]) ∧ ∀ base : Heap, K.In base → base.Ns mainGlobals mg → FnOk P w K mg base CX0 13 fa fd ["script"] (spC K (callN prog W 13) 47) := by
  obtain ⟨f, fd, e1, F⟩ := id d_law
  obtain rfl : fa = f := by rw [hfa] at e1; cases e1; rfl
  refine ⟨fd, fun s v => ?_, fun base _ _ => fn_ok F sc_law rfl rfl rfl (b_law (tops (P := P) (w := w) (base := base) (W := W) d_is_integer d_is_whole d_is_tuple_of d_is_rising d_divisor_of d_lowest d_sum_of d_less_by d_product_of d_part_of d_is_under d_sum_over d_fits_fraction d_need_fraction d_fits_tie d_fits_net d_need_net d_fits_heights d_need_heights d_currents_in d_outs_in d_power_in d_need_both d_is_fraction d_plus d_minus d_times d_over d_is_less d_currents_of d_outs_of d_power_of d__law_cup d__law_roll d__law_some d__law_sort d__law_like d__law_least d__law_plus d__law_minus d__law_times d__law_lead d__law_net d__law_fraction d__law_sums_right d__law_right d__law_formulas_right d_law c_NONE c_DIGITS c_MOST_TIES c_MOST_NODES z_isinstance z_bool z_int z_len z_tuple z_zip z_all z_abs z_list z_str z_sorted z_range 12) fa)⟩
  obtain ⟨oc, od, kV, doc, pm, an, cdv, ct, osl, rfl, lk, hcd⟩ := F.ex
  exact .of_eq (bi_law _ _ _ _ _ _ [v] rfl)
end Lw
open PySem PySem.W PyProof.Rows L2 Ev
set_option maxHeartbeats 0 in
theorem PySem.Challenge.cw_endsmeasured_k01_whole_currents_and_powe_holds : PySem.Challenge.rw_endsmeasured_k01_whole_currents_and_powe.Holds := by
  w_on; o_law; k_head; (case hw => w_witness2)
  k_fill
  refine L2.walk_ofB (l := PySem.Challenge.rw_endsmeasured_k01_whole_currents_and_powe) (n := 63) (k := 13) (x := "script") (CX := fun _ => L2.CX0) (sp := fun w => spC _ (callN Lw.prog Lw.W 13) 47) rfl (by decide) rfl ⟨rfl, by decide, by decide⟩ (fun w h Y => PySem.W.kIn_of Y) ?F (fun _ _ a ns hl hb _ hS => let ⟨_, h⟩ := Lw.pure ns hl hb; law_sp hS h) (fun _ _ _ _ _ h => h)
  case F =>
    intro w mg fa h KX G hmg
    refine' Lw.law_end hmg (def_mk (x := "is_integer") (st := Lw.s_is_integer) KX G ?a0 ?l1 ?c2 ?k3)
      (def_mk (x := "is_whole") (st := Lw.s_is_whole) KX G ?a4 ?l5 ?c6 ?k7)
      (def_mk (x := "is_tuple_of") (st := Lw.s_is_tuple_of) KX G ?a8 ?l9 ?c10 ?k11)
      (def_mk (x := "is_rising") (st := Lw.s_is_rising) KX G ?a12 ?l13 ?c14 ?k15)
      (def_mk (x := "divisor_of") (st := Lw.s_divisor_of) KX G ?a16 ?l17 ?c18 ?k19)
      (def_mk (x := "lowest") (st := Lw.s_lowest) KX G ?a20 ?l21 ?c22 ?k23)
      (def_mk (x := "sum_of") (st := Lw.s_sum_of) KX G ?a24 ?l25 ?c26 ?k27)
      (def_mk (x := "less_by") (st := Lw.s_less_by) KX G ?a28 ?l29 ?c30 ?k31)
      (def_mk (x := "product_of") (st := Lw.s_product_of) KX G ?a32 ?l33 ?c34 ?k35)
      (def_mk (x := "part_of") (st := Lw.s_part_of) KX G ?a36 ?l37 ?c38 ?k39)
      (def_mk (x := "is_under") (st := Lw.s_is_under) KX G ?a40 ?l41 ?c42 ?k43)
      (def_mk (x := "sum_over") (st := Lw.s_sum_over) KX G ?a44 ?l45 ?c46 ?k47)
      (def_mk (x := "fits_fraction") (st := Lw.s_fits_fraction) KX G ?a48 ?l49 ?c50 ?k51)
      (def_mk (x := "need_fraction") (st := Lw.s_need_fraction) KX G ?a52 ?l53 ?c54 ?k55)
      (def_mk (x := "fits_tie") (st := Lw.s_fits_tie) KX G ?a56 ?l57 ?c58 ?k59)
      (def_mk (x := "fits_net") (st := Lw.s_fits_net) KX G ?a60 ?l61 ?c62 ?k63)
      (def_mk (x := "need_net") (st := Lw.s_need_net) KX G ?a64 ?l65 ?c66 ?k67)
      (def_mk (x := "fits_heights") (st := Lw.s_fits_heights) KX G ?a68 ?l69 ?c70 ?k71)
      (def_mk (x := "need_heights") (st := Lw.s_need_heights) KX G ?a72 ?l73 ?c74 ?k75)
      (def_mk (x := "currents_in") (st := Lw.s_currents_in) KX G ?a76 ?l77 ?c78 ?k79)
      (def_mk (x := "outs_in") (st := Lw.s_outs_in) KX G ?a80 ?l81 ?c82 ?k83)
      (def_mk (x := "power_in") (st := Lw.s_power_in) KX G ?a84 ?l85 ?c86 ?k87)
      (def_mk (x := "need_both") (st := Lw.s_need_both) KX G ?a88 ?l89 ?c90 ?k91)
      (def_mk (x := "is_fraction") (st := Lw.s_is_fraction) KX G ?a92 ?l93 ?c94 ?k95)
      (def_mk (x := "plus") (st := Lw.s_plus) KX G ?a96 ?l97 ?c98 ?k99)
      (def_mk (x := "minus") (st := Lw.s_minus) KX G ?a100 ?l101 ?c102 ?k103)
      (def_mk (x := "times") (st := Lw.s_times) KX G ?a104 ?l105 ?c106 ?k107)
      (def_mk (x := "over") (st := Lw.s_over) KX G ?a108 ?l109 ?c110 ?k111)
      (def_mk (x := "is_less") (st := Lw.s_is_less) KX G ?a112 ?l113 ?c114 ?k115)
      (def_mk (x := "currents_of") (st := Lw.s_currents_of) KX G ?a116 ?l117 ?c118 ?k119)
      (def_mk (x := "outs_of") (st := Lw.s_outs_of) KX G ?a120 ?l121 ?c122 ?k123)
      (def_mk (x := "power_of") (st := Lw.s_power_of) KX G ?a124 ?l125 ?c126 ?k127)
      (def_mk (x := "_law_cup") (st := Lw.s__law_cup) KX G ?a128 ?l129 ?c130 ?k131)
      (def_mk (x := "_law_roll") (st := Lw.s__law_roll) KX G ?a132 ?l133 ?c134 ?k135)
      (def_mk (x := "_law_some") (st := Lw.s__law_some) KX G ?a136 ?l137 ?c138 ?k139)
      (def_mk (x := "_law_sort") (st := Lw.s__law_sort) KX G ?a140 ?l141 ?c142 ?k143)
      (def_mk (x := "_law_like") (st := Lw.s__law_like) KX G ?a144 ?l145 ?c146 ?k147)
      (def_mk (x := "_law_least") (st := Lw.s__law_least) KX G ?a148 ?l149 ?c150 ?k151)
      (def_mk (x := "_law_plus") (st := Lw.s__law_plus) KX G ?a152 ?l153 ?c154 ?k155)
      (def_mk (x := "_law_minus") (st := Lw.s__law_minus) KX G ?a156 ?l157 ?c158 ?k159)
      (def_mk (x := "_law_times") (st := Lw.s__law_times) KX G ?a160 ?l161 ?c162 ?k163)
      (def_mk (x := "_law_lead") (st := Lw.s__law_lead) KX G ?a164 ?l165 ?c166 ?k167)
      (def_mk (x := "_law_net") (st := Lw.s__law_net) KX G ?a168 ?l169 ?c170 ?k171)
      (def_mk (x := "_law_fraction") (st := Lw.s__law_fraction) KX G ?a172 ?l173 ?c174 ?k175)
      (def_mk (x := "_law_sums_right") (st := Lw.s__law_sums_right) KX G ?a176 ?l177 ?c178 ?k179)
      (def_mk (x := "_law_right") (st := Lw.s__law_right) KX G ?a180 ?l181 ?c182 ?k183)
      (def_mk (x := "_law_formulas_right") (st := Lw.s__law_formulas_right) KX G ?a184 ?l185 ?c186 ?k187)
      (def_mk (x := "law") (st := Lw.s_law) KX G ?a188 ?l189 ?c190 ?k191)
      (con_of (z := .ref _) KX G ?v192 rfl (con_tupA ?l193 ?e194 ?y195))
      (con_ofI KX G ?v196)
      (con_ofI KX G ?v197)
      (con_ofI KX G ?v198)
      (PySem.W.mg_none_of KX G ?z199)
      (PySem.W.mg_none_of KX G ?z200)
      (PySem.W.mg_none_of KX G ?z201)
      (PySem.W.mg_none_of KX G ?z202)
      (PySem.W.mg_none_of KX G ?z203)
      (PySem.W.mg_none_of KX G ?z204)
      (PySem.W.mg_none_of KX G ?z205)
      (PySem.W.mg_none_of KX G ?z206)
      (PySem.W.mg_none_of KX G ?z207)
      (PySem.W.mg_none_of KX G ?z208)
      (PySem.W.mg_none_of KX G ?z209)
      (PySem.W.mg_none_of KX G ?z210)
    (case a0 => k_is)
    (case l1 => k_is)
    (case c2 => k_is)
    (case k3 => k_is)
    (case a4 => k_is)
    (case l5 => k_is)
    (case c6 => k_is)
    (case k7 => k_is)
    (case a8 => k_is)
    (case l9 => k_is)
    (case c10 => k_is)
    (case k11 => k_is)
    (case a12 => k_is)
    (case l13 => k_is)
    (case c14 => k_is)
    (case k15 => k_is)
    (case a16 => k_is)
    (case l17 => k_is)
    (case c18 => k_is)
    (case k19 => k_is)
    (case a20 => k_is)
    (case l21 => k_is)
    (case c22 => k_is)
    (case k23 => k_is)
    (case a24 => k_is)
    (case l25 => k_is)
    (case c26 => k_is)
    (case k27 => k_is)
    (case a28 => k_is)
    (case l29 => k_is)
    (case c30 => k_is)
    (case k31 => k_is)
    (case a32 => k_is)
    (case l33 => k_is)
    (case c34 => k_is)
    (case k35 => k_is)
    (case a36 => k_is)
    (case l37 => k_is)
    (case c38 => k_is)
    (case k39 => k_is)
    (case a40 => k_is)
    (case l41 => k_is)
    (case c42 => k_is)
    (case k43 => k_is)
    (case a44 => k_is)
    (case l45 => k_is)
    (case c46 => k_is)
    (case k47 => k_is)
    (case a48 => k_is)
    (case l49 => k_is)
    (case c50 => k_is)
    (case k51 => k_is)
    (case a52 => k_is)
    (case l53 => k_is)
    (case c54 => k_is)
    (case k55 => k_is)
    (case a56 => k_is)
    (case l57 => k_is)
    (case c58 => k_is)
    (case k59 => k_is)
    (case a60 => k_is)
    (case l61 => k_is)
    (case c62 => k_is)
    (case k63 => k_is)
    (case a64 => k_is)
    (case l65 => k_is)
    (case c66 => k_is)
    (case k67 => k_is)
    (case a68 => k_is)
    (case l69 => k_is)
    (case c70 => k_is)
    (case k71 => k_is)
    (case a72 => k_is)
    (case l73 => k_is)
    (case c74 => k_is)
    (case k75 => k_is)
    (case a76 => k_is)
    (case l77 => k_is)
    (case c78 => k_is)
    (case k79 => k_is)
    (case a80 => k_is)
    (case l81 => k_is)
    (case c82 => k_is)
    (case k83 => k_is)
    (case a84 => k_is)
    (case l85 => k_is)
    (case c86 => k_is)
    (case k87 => k_is)
    (case a88 => k_is)
    (case l89 => k_is)
    (case c90 => k_is)
    (case k91 => k_is)
    (case a92 => k_is)
    (case l93 => k_is)
    (case c94 => k_is)
    (case k95 => k_is)
    (case a96 => k_is)
    (case l97 => k_is)
    (case c98 => k_is)
    (case k99 => k_is)
    (case a100 => k_is)
    (case l101 => k_is)
    (case c102 => k_is)
    (case k103 => k_is)
    (case a104 => k_is)
    (case l105 => k_is)
    (case c106 => k_is)
    (case k107 => k_is)
    (case a108 => k_is)
    (case l109 => k_is)
    (case c110 => k_is)
    (case k111 => k_is)
    (case a112 => k_is)
    (case l113 => k_is)
    (case c114 => k_is)
    (case k115 => k_is)
    (case a116 => k_is)
    (case l117 => k_is)
    (case c118 => k_is)
    (case k119 => k_is)
    (case a120 => k_is)
    (case l121 => k_is)
    (case c122 => k_is)
    (case k123 => k_is)
    (case a124 => k_is)
    (case l125 => k_is)
    (case c126 => k_is)
    (case k127 => k_is)
    (case a128 => k_is)
    (case l129 => k_is)
    (case c130 => k_is)
    (case k131 => k_is)
    (case a132 => k_is)
    (case l133 => k_is)
    (case c134 => k_is)
    (case k135 => k_is)
    (case a136 => k_is)
    (case l137 => k_is)
    (case c138 => k_is)
    (case k139 => k_is)
    (case a140 => k_is)
    (case l141 => k_is)
    (case c142 => k_is)
    (case k143 => k_is)
    (case a144 => k_is)
    (case l145 => k_is)
    (case c146 => k_is)
    (case k147 => k_is)
    (case a148 => k_is)
    (case l149 => k_is)
    (case c150 => k_is)
    (case k151 => k_is)
    (case a152 => k_is)
    (case l153 => k_is)
    (case c154 => k_is)
    (case k155 => k_is)
    (case a156 => k_is)
    (case l157 => k_is)
    (case c158 => k_is)
    (case k159 => k_is)
    (case a160 => k_is)
    (case l161 => k_is)
    (case c162 => k_is)
    (case k163 => k_is)
    (case a164 => k_is)
    (case l165 => k_is)
    (case c166 => k_is)
    (case k167 => k_is)
    (case a168 => k_is)
    (case l169 => k_is)
    (case c170 => k_is)
    (case k171 => k_is)
    (case a172 => k_is)
    (case l173 => k_is)
    (case c174 => k_is)
    (case k175 => k_is)
    (case a176 => k_is)
    (case l177 => k_is)
    (case c178 => k_is)
    (case k179 => k_is)
    (case a180 => k_is)
    (case l181 => k_is)
    (case c182 => k_is)
    (case k183 => k_is)
    (case a184 => k_is)
    (case l185 => k_is)
    (case c186 => k_is)
    (case k187 => k_is)
    (case a188 => k_is)
    (case l189 => k_is)
    (case c190 => k_is)
    (case k191 => k_is)
    (case v192 => k_is)
    (case l193 => k_is)
    (case e194 => rfl)
    (case y195 => decide)
    (case v196 => k_is)
    (case v197 => k_is)
    (case v198 => k_is)
    (case z199 => k_is)
    (case z200 => k_is)
    (case z201 => k_is)
    (case z202 => k_is)
    (case z203 => k_is)
    (case z204 => k_is)
    (case z205 => k_is)
    (case z206 => k_is)
    (case z207 => k_is)
    (case z208 => k_is)
    (case z209 => k_is)
    (case z210 => k_is)
